/- The plain law of FnShares; the conditions are what is known of the input. -/
import Derived.Test.YtjnckjfohpbdeaaQ
import Derived.Test.YtjnckjfohpbdeaaVmD
import Derived.RowKit
namespace Go.Vm.Pu
open Go Go.RowKit Go.Vm
set_option linter.unusedVariables false
set_option linter.unusedSimpArgs false
/-- A value handed on; told so that simp rewrites by it instead of computing (the kernel else unfolds what follows). -/
theorem bs {α β : Type} (x : α) (f : α → Option β) : (some x).bind f = f x := (Option.bind_some x f).trans (Eq.refl _)
theorem wrap_id {x : Int} (h1 : -9223372036854775808 ≤ x) (h2 : x ≤ 9223372036854775807) : wrap64 x = x := by
  unfold wrap64
  rw [IntKind.wrap_i64]; omega
theorem rd_at (l : List Int) (i : Nat) (h : i < l.length) : rdI l (i : Int) = l[i] := by
  simp [rdI, List.getD, h]
theorem rd_mem (l : List Int) (i : Int) (h0 : 0 ≤ i) (h : i < l.length) : rdI l i ∈ l := by
  obtain ⟨n, rfl⟩ := Int.eq_ofNat_of_zero_le h0
  have hn : n < l.length := by omega
  rw [rd_at l n hn]
  exact List.getElem_mem hn
theorem set_take {α : Type} (l : List α) (i : Nat) (a : α) (h : i < l.length) : (l.set i a).take (i + 1) = l.take i ++ [a] := by
  rw [List.take_succ_eq_append_getElem (by simpa using h), List.take_set_of_le (by omega)]
  simp
theorem drop_cons {α : Type} (l : List α) (i : Nat) (h : i < l.length) : l.drop i = l[i] :: l.drop (i + 1) := List.drop_eq_getElem_cons h
theorem cast_succ (i : Nat) : (i : Int) + 1 = ((i + 1 : Nat) : Int) := rfl
theorem wf_bounds {x : Int} (h : (Lit.int .i64 x).wf = true) : -9223372036854775808 ≤ x ∧ x ≤ 9223372036854775807 := by
  simp only [Lit.wf, Bool.and_eq_true, decide_eq_true_eq] at h
  exact h
theorem wf_byte {x : Int} (h : (Lit.int .u8 x).wf = true) : 0 ≤ x ∧ x ≤ 255 := by
  simp only [Lit.wf, Bool.and_eq_true, decide_eq_true_eq] at h
  exact h

/-- A loop over a list by its index: each round goes on, or ends with what the rest of the list is worth. -/
theorem loop_list {α σ R : Type} (F : Nat → σ → Int → Option R) (l : List α) (K : Nat) (Inv : Nat → σ → Prop) (G : List α → σ → R)
    (hnil : ∀ k s, K ≤ k → Inv l.length s → F (k + 1) s (l.length : Int) = some (G [] s))
    (hcons : ∀ k i s (h : i < l.length), K ≤ k → Inv i s → (∃ s', F (k + 1) s (i : Int) = F k s' ((i + 1 : Nat) : Int) ∧ Inv (i + 1) s' ∧ G (l[i] :: l.drop (i + 1)) s = G (l.drop (i + 1)) s') ∨ F (k + 1) s (i : Int) = some (G (l[i] :: l.drop (i + 1)) s))
    (k : Nat) (s : σ) (hk : l.length + K < k) (h0 : Inv 0 s) : F k s 0 = some (G l s) := by
  have key : ∀ (d k i : Nat) (s : σ), i + d = l.length → d + K < k → Inv i s → F k s (i : Int) = some (G (l.drop i) s) := by
    intro d
    induction d with
    | zero =>
      intro k i s hi hk h
      obtain ⟨k, rfl⟩ : ∃ m, k = m + 1 := ⟨k - 1, by omega⟩
      obtain rfl : i = l.length := by omega
      rw [hnil k s (by omega) h, List.drop_length]
    | succ d ih =>
      intro k i s hi hk h
      obtain ⟨k, rfl⟩ : ∃ m, k = m + 1 := ⟨k - 1, by omega⟩
      rw [drop_cons l i (by omega)]
      rcases hcons k i s (by omega) (by omega) h with ⟨s', e, h', g⟩ | e
      · rw [e, g]
        exact ih k (i + 1) s' (by omega) (by omega) h'
      · exact e
  have := key l.length k 0 s (by omega) (by omega) h0
  simpa using this
/-- A loop that sets element after element. -/
theorem set_loop {α β : Type} (F : Nat → List β → Int → Option (List β)) (l : List α) (f : α → β) (K : Nat)
    (hnil : ∀ k s, K ≤ k → F (k + 1) s (l.length : Int) = some s)
    (hcons : ∀ k i s (h : i < l.length), K ≤ k → s.length = l.length → F (k + 1) s (i : Int) = F k (s.set i (f l[i])) ((i + 1 : Nat) : Int))
    (k : Nat) (s : List β) (hk : l.length + K < k) (hs : s.length = l.length) : F k s 0 = some (l.map f) := by
  have key : ∀ (d k i : Nat) (s : List β), i + d = l.length → d + K < k → s.length = l.length → F k s (i : Int) = some (s.take i ++ (l.drop i).map f) := by
    intro d
    induction d with
    | zero =>
      intro k i s hi hk hs
      obtain ⟨k, rfl⟩ : ∃ m, k = m + 1 := ⟨k - 1, by omega⟩
      obtain rfl : i = l.length := by omega
      rw [hnil k s (by omega), List.drop_length, List.take_of_length_le (by omega)]
      simp
    | succ d ih =>
      intro k i s hi hk hs
      obtain ⟨k, rfl⟩ : ∃ m, k = m + 1 := ⟨k - 1, by omega⟩
      rw [hcons k i s (by omega) (by omega) hs, ih k (i + 1) _ (by omega) (by omega) (by simpa using hs), set_take _ _ _ (by omega), drop_cons l i (by omega), List.map_cons, List.append_assoc]
      rfl
  have := key l.length k 0 s (by omega) (by omega) hs
  simpa using this
/-- A loop that appends an element a round. -/
theorem append_loop {α β : Type} (F : Nat → List β → Int → Option (List β)) (l : List α) (f : α → β) (K : Nat) (s0 : List β)
    (hnil : ∀ k s, K ≤ k → F (k + 1) s (l.length : Int) = some s)
    (hcons : ∀ k i s (h : i < l.length), K ≤ k → s.length = s0.length + i → F (k + 1) s (i : Int) = F k (s ++ [f l[i]]) ((i + 1 : Nat) : Int))
    (k : Nat) (hk : l.length + K < k) : F k s0 0 = some (s0 ++ l.map f) := by
  have key : ∀ (d k i : Nat) (s : List β), i + d = l.length → d + K < k → s.length = s0.length + i → F k s (i : Int) = some (s ++ (l.drop i).map f) := by
    intro d
    induction d with
    | zero =>
      intro k i s hi hk hs
      obtain ⟨k, rfl⟩ : ∃ m, k = m + 1 := ⟨k - 1, by omega⟩
      obtain rfl : i = l.length := by omega
      rw [hnil k s (by omega), List.drop_length]
      simp
    | succ d ih =>
      intro k i s hi hk hs
      obtain ⟨k, rfl⟩ : ∃ m, k = m + 1 := ⟨k - 1, by omega⟩
      rw [hcons k i s (by omega) (by omega) hs, ih k (i + 1) _ (by omega) (by omega) (by simp [hs]; omega), drop_cons l i (by omega), List.map_cons, List.append_assoc]
      rfl
  have := key l.length k 0 s0 (by omega) (by omega) (by simp)
  simpa using this
/-- A loop that goes on for n rounds, and then ends. -/
theorem count_loop {R : Type} (F : Nat → Int → Option R) (n K : Nat) (r : R) (hend : ∀ k, K ≤ k → F (k + 1) (n : Int) = some r)
    (hgo : ∀ k i, i < n → K ≤ k → F (k + 1) (i : Int) = F k ((i + 1 : Nat) : Int)) (k : Nat) (hk : n + K < k) : F k 0 = some r := by
  have key : ∀ (d k i : Nat), i + d = n → d + K < k → F k (i : Int) = some r := by
    intro d
    induction d with
    | zero =>
      intro k i hi hk
      obtain ⟨k, rfl⟩ : ∃ m, k = m + 1 := ⟨k - 1, by omega⟩
      obtain rfl : i = n := by omega
      exact hend k (by omega)
    | succ d ih =>
      intro k i hi hk
      obtain ⟨k, rfl⟩ : ∃ m, k = m + 1 := ⟨k - 1, by omega⟩
      rw [hgo k i (by omega) (by omega)]
      exact ih k (i + 1) (by omega) (by omega)
  exact key n k 0 (by omega) (by omega)
theorem wrap_next {i n : Nat} (h : i < n) (hn : n ≤ 281474976710656) : wrap64 ((i : Int) + 1) = ((i + 1 : Nat) : Int) := by
  rw [wrap_id (by omega) (by omega)]; rfl
/-- The modulus of a field, 0 for none; its generator; how often 2 divides the modulus less 1. -/
def md (f : Int) : Int := if f = 0 then 17 else (if f = 1 then 97 else (if f = 2 then 193 else (if f = 3 then 257 else (if f = 4 then 7681 else (if f = 5 then 12289 else (if f = 6 then 998244353 else (if f = 7 then 469762049 else (if f = 8 then 1004535809 else 0))))))))
def gn (f : Int) : Int := if f = 0 then 3 else (if f = 1 then 5 else (if f = 2 then 5 else (if f = 3 then 3 else (if f = 4 then 17 else (if f = 5 then 11 else (if f = 6 then 3 else (if f = 7 then 3 else (if f = 8 then 3 else 0))))))))
def tw (f : Int) : Int := if f = 0 then 4 else (if f = 1 then 5 else (if f = 2 then 6 else (if f = 3 then 8 else (if f = 4 then 9 else (if f = 5 then 12 else (if f = 6 then 23 else (if f = 7 then 26 else (if f = 8 then 21 else 0))))))))
theorem nine {f : Int} (h0 : 0 ≤ f) (h8 : f ≤ 8) : f = 0 ∨ f = 1 ∨ f = 2 ∨ f = 3 ∨ f = 4 ∨ f = 5 ∨ f = 6 ∨ f = 7 ∨ f = 8 := by omega
theorem md_out {f : Int} (h : ¬ (0 ≤ f ∧ f ≤ 8)) : md f = 0 ∧ gn f = 0 ∧ tw f = 0 := by
  unfold md gn tw
  rw [if_neg (by omega), if_neg (by omega), if_neg (by omega), if_neg (by omega), if_neg (by omega), if_neg (by omega), if_neg (by omega), if_neg (by omega), if_neg (by omega)]
  rw [if_neg (by omega), if_neg (by omega), if_neg (by omega), if_neg (by omega), if_neg (by omega), if_neg (by omega), if_neg (by omega), if_neg (by omega), if_neg (by omega)]
  rw [if_neg (by omega), if_neg (by omega), if_neg (by omega), if_neg (by omega), if_neg (by omega), if_neg (by omega), if_neg (by omega), if_neg (by omega), if_neg (by omega)]
  exact ⟨rfl, rfl, rfl⟩
theorem md_in {f : Int} (h : md f ≠ 0) : 0 ≤ f ∧ f ≤ 8 := by
  by_cases c : 0 ≤ f ∧ f ≤ 8
  · exact c
  · exact absurd (md_out c).1 h
theorem md_pos {f : Int} (h : md f ≠ 0) : 17 ≤ md f ∧ md f ≤ 1004535809 := by
  obtain ⟨h0, h8⟩ := md_in h
  rcases nine h0 h8 with rfl | rfl | rfl | rfl | rfl | rfl | rfl | rfl | rfl <;> decide
theorem md_nonneg (f : Int) : 0 ≤ md f := by
  by_cases h : md f = 0
  · omega
  · have := md_pos h; omega
/-- All numbers are elements. -/
def El (p : Int) (l : List Int) : Prop := ∀ x ∈ l, 0 ≤ x ∧ x < p
instance (p : Int) (l : List Int) : Decidable (El p l) := inferInstanceAs (Decidable (∀ x ∈ l, 0 ≤ x ∧ x < p))
theorem El.nil (p : Int) : El p [] := fun x hx => by cases hx
theorem El.at {p : Int} {l : List Int} (h : El p l) (i : Nat) (hi : i < l.length) : 0 ≤ l[i] ∧ l[i] < p := h _ (List.getElem_mem hi)
/-- A list's element, 0 beyond its end. -/
def L (l : List Int) (i : Nat) : Int := l.getD i 0
theorem L_at (l : List Int) (i : Nat) (h : i < l.length) : L l i = l[i] := by simp [L, List.getD, h]
theorem L_out (l : List Int) (i : Nat) (h : l.length ≤ i) : L l i = 0 := by simp [L, List.getD, h]
theorem rd_L (l : List Int) (i : Nat) : rdI l (i : Int) = L l i := by simp [rdI, L]
theorem L_el {p : Int} (hp : 0 < p) {l : List Int} (h : El p l) (i : Nat) : 0 ≤ L l i ∧ L l i < p := by
  by_cases c : i < l.length
  · rw [L_at l i c]; exact h.at i c
  · rw [L_out l i (by omega)]; omega
/-- The list of a function's values. -/
def fl (n : Nat) (g : Nat → Int) : List Int := (List.range n).map g
theorem fl_length (n : Nat) (g : Nat → Int) : (fl n g).length = n := by simp [fl]
theorem L_fl (n : Nat) (g : Nat → Int) (i : Nat) (h : i < n) : L (fl n g) i = g i := by
  rw [L_at _ _ (by rw [fl_length]; exact h)]; simp [fl]
theorem fl_L (l : List Int) : fl l.length (L l) = l := by
  apply List.ext_getElem
  · exact fl_length _ _
  · intro i h1 h2
    simp [fl, L_at l i h2]
theorem fl_congr {n : Nat} {g h : Nat → Int} (e : ∀ i, i < n → g i = h i) : fl n g = fl n h := by
  unfold fl
  exact List.map_congr_left (fun i hi => e i (List.mem_range.1 hi))
theorem fl_inj {n : Nat} {g h : Nat → Int} (e : fl n g = fl n h) (i : Nat) (hi : i < n) : g i = h i := by
  rw [← L_fl n g i hi, e, L_fl n h i hi]
theorem fl_set (n : Nat) (g : Nat → Int) (t : Nat) (v : Int) : (fl n g).set t v = fl n (fun m => if m = t then v else g m) := by
  apply List.ext_getElem
  · simp [fl_length]
  · intro i h1 h2
    simp only [fl, List.getElem_set, List.getElem_map, List.getElem_range]
    by_cases c : t = i
    · rw [if_pos c, if_pos c.symm]
    · rw [if_neg c, if_neg (Ne.symm c)]
theorem fl_snoc (n : Nat) (g : Nat → Int) : fl n g ++ [g n] = fl (n + 1) g := by simp [fl, List.range_succ]
theorem fl_zero (n : Nat) : List.replicate n (0 : Int) = fl n (fun _ => 0) := by
  apply List.ext_getElem
  · simp [fl]
  · intro i h1 h2; simp [fl]
theorem fl_el {p : Int} {n : Nat} {g : Nat → Int} (h : ∀ i, i < n → 0 ≤ g i ∧ g i < p) : El p (fl n g) := by
  intro x hx
  obtain ⟨i, hi, rfl⟩ := List.mem_map.1 hx
  exact h i (List.mem_range.1 hi)
theorem list_ext {a b : List Int} (hl : a.length = b.length) (h : ∀ i, i < a.length → L a i = L b i) : a = b := by
  rw [← fl_L a, ← fl_L b, ← hl]
  exact fl_congr h
/-- Sums. -/
def sumN (n : Nat) (g : Nat → Int) : Int := match n with
  | 0 => 0
  | n + 1 => sumN n g + g n
theorem sumN_congr {n : Nat} {g h : Nat → Int} (e : ∀ i, i < n → g i = h i) : sumN n g = sumN n h := by
  induction n with
  | zero => rfl
  | succ n ih => simp only [sumN]; rw [ih (fun i hi => e i (by omega)), e n (by omega)]
theorem sumN_zero {n : Nat} {g : Nat → Int} (e : ∀ i, i < n → g i = 0) : sumN n g = 0 := by
  induction n with
  | zero => rfl
  | succ n ih => simp only [sumN]; rw [ih (fun i hi => e i (by omega)), e n (by omega)]; rfl
theorem emod_range (x : Int) {p : Int} (hp : 0 < p) : 0 ≤ x % p ∧ x % p < p := ⟨Int.emod_nonneg x (by omega), Int.emod_lt_of_pos x hp⟩
theorem tmod_nonneg' {x : Int} (p : Int) (h : 0 ≤ x) : Int.tmod x p = x % p := Int.tmod_eq_emod_of_nonneg h
theorem reduce_int (x p : Int) (hp : 0 < p) : (if Int.tmod x p < 0 then Int.tmod x p + p else Int.tmod x p) = x % p := by
  have h := Int.tmod_add_mul_tdiv x p
  have h1 : x % p = (Int.tmod x p) % p := by
    conv => lhs; rw [← h]
    rw [Int.add_mul_emod_self_left]
  have h2 : Int.tmod x p < p := Int.tmod_lt_of_pos x hp
  have h3 : -p < Int.tmod x p := by
    have := Int.lt_tmod_of_pos x hp
    omega
  rw [h1]
  by_cases c : Int.tmod x p < 0
  · rw [if_pos c, ← Int.add_emod_right, Int.emod_eq_of_lt (by omega) (by omega)]
  · rw [if_neg c, Int.emod_eq_of_lt (by omega) h2]
theorem prod_range {x y p : Int} (hp : p ≤ 1004535809) (hx : 0 ≤ x ∧ x < p) (hy : 0 ≤ y ∧ y < p) : 0 ≤ x * y ∧ x * y ≤ 1009092191563284481 := by
  refine ⟨Int.mul_nonneg hx.1 hy.1, ?_⟩
  have := Int.mul_le_mul (show x ≤ 1004535809 by omega) (show y ≤ 1004535809 by omega) hy.1 (by omega)
  omega
/-- A test turned round. -/
theorem not_ite {α : Type} (b : Bool) (x y : α) : (if (!b) = true then x else y) = if b = true then y else x := by cases b <;> rfl
end Go.Vm.Pu
namespace Go.Vm.Pu
open Go Go.RowKit Go.Vm
set_option linter.unusedVariables false
set_option linter.unusedSimpArgs false
theorem rdP (pre : List Int) (x : Int) (post : List Int) {i : Int} (h : i = (pre.length : Int)) : rdI (pre ++ x :: post) i = x := by
  subst h; simp [rdI, List.getD]
theorem setP (pre : List Int) (x : Int) (post : List Int) (y : Int) {i : Int} (h : i = (pre.length : Int)) : (pre ++ x :: post).set i.toNat y = pre ++ y :: post := by
  subst h; simp [List.set_append]
structure Sw (D : List Int) (i j u v : Int) (D' : Int → Int → List Int) : Prop where
  ri : rdI D i = u
  rj : rdI D j = v
  s1 : ∀ x y, (D.set i.toNat x).set j.toNat y = D' x y
  s2 : ∀ x y, (D.set j.toNat y).set i.toNat x = D' x y
theorem sw (pre : List Int) (u : Int) (M : List Int) (v : Int) (post : List Int) {i j : Int} (hi : i = (pre.length : Int)) (hj : j = (pre.length : Int) + 1 + (M.length : Int)) :
    Sw (pre ++ u :: (M ++ v :: post)) i j u v (fun x y => pre ++ x :: (M ++ y :: post)) := by
  have e : ∀ x : Int, ∀ z : Int, pre ++ x :: (M ++ z :: post) = (pre ++ x :: M) ++ z :: post := fun x z => by simp
  have hj' : ∀ x : Int, j = ((pre ++ x :: M).length : Int) := fun x => by simp; omega
  refine ⟨rdP _ _ _ hi, by rw [e]; exact rdP _ _ _ (hj' u), fun x y => ?_, fun x y => ?_⟩
  · rw [setP _ _ _ _ hi, e, setP _ _ _ _ (hj' x), ← e]
  · rw [e, setP _ _ _ _ (hj' u), ← e, setP _ _ _ _ hi]
def BIG : Int := 1099511627776
section
variable (c s : Int) (w : List Int)
/-- The key: what is left when the share is cut. -/
def key (i : Int) : Int := Int.tmod (c * rdI w i) s
structure CK : Prop where
  c0 : 0 ≤ c
  c1 : c ≤ 1000000000000
  s0 : 1 ≤ s
  s1 : s ≤ 1000000000
  len : w.length ≤ 40
  el : ∀ x ∈ w, 0 ≤ x ∧ x ≤ 1000000
/-- x comes ahead of y: a greater key, or the same key and a smaller place. -/
def Bef (x y : Int) : Prop := key c s w x > key c s w y ∨ (key c s w x = key c s w y ∧ x < y)
/-- Places of weights. -/
def Pl (l : List Int) : Prop := ∀ x ∈ l, 0 ≤ x ∧ x < (w.length : Int)
variable {c s : Int} {w : List Int}
theorem key_bd (h : CK c s w) (i : Int) (h0 : 0 ≤ i) (h1 : i < (w.length : Int)) : 0 ≤ key c s w i ∧ key c s w i < s ∧ 0 ≤ c * rdI w i ∧ c * rdI w i ≤ 1000000000000000000 := by
  obtain ⟨e0, e1⟩ := h.el _ (rd_mem w i h0 h1)
  have p0 : 0 ≤ c * rdI w i := Int.mul_nonneg h.c0 e0
  have p1 : c * rdI w i ≤ 1000000000000 * 1000000 := Int.mul_le_mul h.c1 e1 e0 (by omega)
  have hs := h.s0
  unfold key
  exact ⟨Int.tmod_nonneg _ p0, Int.tmod_lt_of_pos _ (by omega), p0, by omega⟩
theorem cmp_eq (h : CK c s w) (k : Nat) (i j : Int) (hi : 0 ≤ i ∧ i < (w.length : Int)) (hj : 0 ≤ j ∧ j < (w.length : Int)) :
    impl_SplitCents_1.f (k + 1) i j c w s = some (key c s w j - key c s w i, c, w, s) := by
  obtain ⟨a0, a1, a2, a3⟩ := key_bd h i hi.1 hi.2
  obtain ⟨b0, b1, b2, b3⟩ := key_bd h j hj.1 hj.2
  have hs := h.s0
  have hs1 := h.s1
  rw [impl_SplitCents_1.f_eq, if_pos hj.1, if_pos hj.2, if_pos (by omega), if_pos hi.1, if_pos hi.2, if_pos (by omega), wrap_id (x := c * rdI w j) (by omega) (by omega), wrap_id (x := c * rdI w i) (by omega) (by omega)]
  show some (wrap64 (key c s w j - key c s w i), c, w, s) = _
  rw [wrap_id (by omega) (by omega)]
/-- The test of the program, for y behind x in places. -/
theorem bef_iff {x y : Int} (hxy : x < y) : key c s w x - key c s w y < 0 ↔ Bef c s w y x := by
  unfold Bef; omega
theorem bef_not {x y : Int} (hxy : x < y) (h : ¬ (key c s w x - key c s w y < 0)) : Bef c s w x y := by
  unfold Bef; omega
theorem bef_trans {x y z : Int} (h1 : Bef c s w x y) (h2 : Bef c s w y z) : Bef c s w x z := by
  unfold Bef at *; omega
theorem bef_irr {x y : Int} (h1 : Bef c s w x y) (h2 : Bef c s w y x) : False := by
  unfold Bef at *; omega
/-! ### swapping ranges, rotating -/
theorem swap_l0 (k : Nat) : ∀ (U V pre W post : List Int) (fu : Nat) (a b n i : Int), U.length = V.length → a + i = (pre.length : Int) → b + i = (pre.length : Int) + (U.length : Int) + (W.length : Int) → n = i + (U.length : Int) → 0 ≤ i → 0 ≤ a → 0 ≤ b → ((pre ++ U ++ W ++ V ++ post).length : Int) < BIG → U.length < fu →
    slices_swapRangeCmpFunc.l0 k fu a b n i c w s (pre ++ U ++ W ++ V ++ post) = some (c, w, s, pre ++ V ++ W ++ U ++ post) := by
  intro U
  induction U with
  | nil =>
    intro V pre W post fu a b n i hl ha hb hn h0 ha0 hb0 hB hf
    obtain ⟨fu, rfl⟩ : ∃ m, fu = m + 1 := ⟨fu - 1, by omega⟩
    have hV : V = [] := List.length_eq_zero_iff.1 (by simpa using hl.symm)
    subst hV
    simp at hn
    rw [slices_swapRangeCmpFunc.l0_eq, if_neg (by omega)]
  | cons u U ih =>
    intro V pre W post fu a b n i hl ha hb hn h0 ha0 hb0 hB hf
    cases V with
    | nil => simp at hl
    | cons v V =>
    obtain ⟨fu, rfl⟩ : ∃ m, fu = m + 1 := ⟨fu - 1, by omega⟩
    have e : pre ++ u :: U ++ W ++ v :: V ++ post = pre ++ u :: ((U ++ W) ++ v :: (V ++ post)) := by simp
    have S := sw pre u (U ++ W) v (V ++ post) (i := a + i) (j := b + i) ha (by simp at hb ⊢; omega)
    have hlen : ((pre ++ u :: ((U ++ W) ++ v :: (V ++ post))).length : Int) = pre.length + (1 + (U.length + (W.length + (1 + (V.length + post.length))))) := by simp; omega
    rw [e] at hB ⊢
    simp only [List.length_cons] at hb hn hf hl
    unfold BIG at hB
    rw [slices_swapRangeCmpFunc.l0_eq, if_pos (by omega), wrap_id (x := b + i) (by omega) (by omega), wrap_id (x := a + i) (by omega) (by omega), if_pos (by omega), if_pos (by omega), if_pos (by omega), if_pos (by omega), if_pos (by omega), if_pos (by omega), if_pos (by omega),
      if_pos (by rw [List.length_set]; omega), wrap_id (x := i + 1) (by omega) (by omega), S.ri, S.rj, S.s1]
    have e2 : pre ++ v :: ((U ++ W) ++ u :: (V ++ post)) = (pre ++ [v]) ++ U ++ (W ++ [u]) ++ V ++ post := by simp
    simp only [e2]
    have hl2 : (((pre ++ [v]) ++ U ++ (W ++ [u]) ++ V ++ post).length : Int) = pre.length + (1 + (U.length + (W.length + (1 + (V.length + post.length))))) := by simp; omega
    rw [ih V (pre ++ [v]) (W ++ [u]) post fu a b n (i + 1) (by omega) (by simp; omega) (by simp; omega) (by omega) (by omega) ha0 hb0 (by unfold BIG; omega) (by omega)]
    simp
theorem swap_f (k : Nat) (U V pre W post : List Int) (a b n : Int) (hl : U.length = V.length) (ha : a = (pre.length : Int)) (hb : b = (pre.length : Int) + (U.length : Int) + (W.length : Int)) (hn : n = (U.length : Int)) (hB : ((pre ++ U ++ W ++ V ++ post).length : Int) < BIG) (hk : U.length < k) :
    slices_swapRangeCmpFunc.f (k + 1) a b n c w s (pre ++ U ++ W ++ V ++ post) = some (c, w, s, pre ++ V ++ W ++ U ++ post) := by
  rw [slices_swapRangeCmpFunc.f_eq]
  exact swap_l0 k U V pre W post k a b n 0 hl (by omega) (by omega) (by omega) (by omega) (by omega) (by omega) hB hk
theorem split_at (l : List Int) (n : Nat) (h : n ≤ l.length) : ∃ a b, l = a ++ b ∧ a.length = n := ⟨l.take n, l.drop n, by simp, by simp; omega⟩
theorem rot_l0 (k : Nat) : ∀ (d : Nat) (U V pre post : List Int) (fu : Nat) (m i j : Int), U.length + V.length ≤ d → 0 < U.length → 0 < V.length → m = (pre.length : Int) + (U.length : Int) → i = (U.length : Int) → j = (V.length : Int) → ((pre ++ U ++ V ++ post).length : Int) < BIG → d < fu → d + 1 < k →
    slices_rotateCmpFunc.l0 k fu m i j c w s (pre ++ U ++ V ++ post) = some (c, w, s, pre ++ V ++ U ++ post) := by
  intro d
  induction d with
  | zero => intro U V pre post fu m i j hd hU; omega
  | succ d ih =>
    intro U V pre post fu m i j hd hU hV hm hi hj hB hf hk
    obtain ⟨fu, rfl⟩ : ∃ x, fu = x + 1 := ⟨fu - 1, by omega⟩
    obtain ⟨k, rfl⟩ : ∃ x, k = x + 1 := ⟨k - 1, by omega⟩
    have hlen : ((pre ++ U ++ V ++ post).length : Int) = pre.length + U.length + V.length + post.length := by simp; omega
    rw [hlen] at hB
    unfold BIG at hB
    rw [slices_rotateCmpFunc.l0_eq, wrap_id (x := m - i) (by omega) (by omega)]
    by_cases h1 : i ≠ j
    · rw [if_pos h1]
      by_cases h2 : i > j
      · obtain ⟨U1, U2, hUe, hU1⟩ := split_at U V.length (by omega)
        have hl := congrArg List.length hUe
        simp only [List.length_append] at hl
        rw [if_pos h2, wrap_id (x := i - j) (by omega) (by omega)]
        have e : pre ++ U ++ V ++ post = pre ++ U1 ++ U2 ++ V ++ post := by rw [hUe]; simp
        rw [e, swap_f k U1 V pre U2 post (m - i) m j hU1 (by omega) (by omega) (by omega) (by simp; unfold BIG; omega) (by omega)]
        rw [bs]
        have e2 : pre ++ V ++ U2 ++ U1 ++ post = (pre ++ V) ++ U2 ++ U1 ++ post := rfl
        rw [e2, ih U2 U1 (pre ++ V) post fu m (i - j) j (by omega) (by omega) (by omega) (by simp; omega) (by omega) (by omega) (by simp; unfold BIG; omega) (by omega) (by omega)]
        rw [hUe]; simp
      · obtain ⟨V1, V2, hVe, hV1⟩ := split_at V (V.length - U.length) (by omega)
        have hl := congrArg List.length hVe
        simp only [List.length_append] at hl
        rw [if_neg h2, wrap_id (x := j - i) (by omega) (by omega), wrap_id (x := m + j) (by omega) (by omega), wrap_id (x := m + j - i) (by omega) (by omega)]
        have e : pre ++ U ++ V ++ post = pre ++ U ++ V1 ++ V2 ++ post := by rw [hVe]; simp
        rw [e, swap_f k U V2 pre V1 post (m - i) (m + j - i) i (by omega) (by omega) (by omega) (by omega) (by simp; unfold BIG; omega) (by omega)]
        rw [bs]
        have e2 : pre ++ V2 ++ V1 ++ U ++ post = pre ++ V2 ++ V1 ++ (U ++ post) := by simp
        rw [e2, ih V2 V1 pre (U ++ post) fu m i (j - i) (by omega) (by omega) (by omega) (by omega) (by omega) (by omega) (by simp; unfold BIG; omega) (by omega) (by omega)]
        rw [hVe]; simp
    · rw [if_neg h1]
      have e : pre ++ U ++ V ++ post = pre ++ U ++ [] ++ V ++ post := by simp
      rw [e, swap_f k U V pre [] post (m - i) m i (by omega) (by omega) (by simp; omega) (by omega) (by simp; unfold BIG; omega) (by omega), bs]
      simp
theorem rot_f (k : Nat) (U V pre post : List Int) (a m b : Int) (hU : 0 < U.length) (hV : 0 < V.length) (ha : a = (pre.length : Int)) (hm : m = a + (U.length : Int)) (hb : b = m + (V.length : Int)) (hB : ((pre ++ U ++ V ++ post).length : Int) < BIG) (hk : U.length + V.length + 1 < k) :
    slices_rotateCmpFunc.f (k + 1) a m b c w s (pre ++ U ++ V ++ post) = some (c, w, s, pre ++ V ++ U ++ post) := by
  have hlen : ((pre ++ U ++ V ++ post).length : Int) = pre.length + U.length + V.length + post.length := by simp; omega
  have hB' := hB
  rw [hlen] at hB'
  unfold BIG at hB'
  rw [slices_rotateCmpFunc.f_eq, wrap_id (x := m - a) (by omega) (by omega), wrap_id (x := b - m) (by omega) (by omega)]
  exact rot_l0 k (U.length + V.length) U V pre post k m (m - a) (b - m) (by omega) hU hV (by omega) (by omega) (by omega) hB (by omega) (by omega)
end
end Go.Vm.Pu
namespace Go.Vm.Pu
open Go Go.RowKit Go.Vm
set_option linter.unusedVariables false
set_option linter.unusedSimpArgs false
theorem snoc (l : List Int) : l = [] ∨ ∃ a b, l = a ++ [b] := by
  rcases List.eq_nil_or_concat l with h | ⟨a, b, h⟩
  · exact .inl h
  · exact .inr ⟨a, b, by rw [h, List.concat_eq_append]⟩
theorem mid_eq {i j : Int} (hi : 0 ≤ i) (hj : 0 ≤ j) (hi' : i < BIG) (hj' : j < BIG) : wrap64 (Int.fdiv (IntKind.u64.wrap (wrap64 (i + j))) (2 ^ (Int.toNat 1))) = (i + j) / 2 := by
  unfold BIG at *
  have h7 : IntKind.u64.wrap (wrap64 (i + j)) = i + j := by
    rw [wrap_id (by omega) (by omega)]
    show (i + j) % 2 ^ 64 = _
    exact Int.emod_eq_of_lt (by omega) (by omega)
  rw [h7, Int.fdiv_eq_ediv_of_nonneg _ (by decide)]
  show wrap64 ((i + j) / 2) = _
  rw [wrap_id (by omega) (by omega)]
/-- A search that halves. -/
theorem bin_search {R : Type} (F : Nat → Int → Int → Option R) (G : Int → Option R) (P : Int → Prop) (lo hi : Int)
    (hstep : ∀ fu i j, lo ≤ i → i < j → j ≤ hi → (P ((i + j) / 2) ∧ F (fu + 1) i j = F fu ((i + j) / 2 + 1) j) ∨ (¬ P ((i + j) / 2) ∧ F (fu + 1) i j = F fu i ((i + j) / 2)))
    (hend : ∀ fu i, lo ≤ i → i ≤ hi → F (fu + 1) i i = G i) :
    ∀ (d fu : Nat) (i j : Int), (j - i).toNat ≤ d → d < fu → lo ≤ i → i ≤ j → j ≤ hi → (i = lo ∨ P (i - 1)) → (j = hi ∨ ¬ P j) →
      ∃ e, lo ≤ e ∧ e ≤ hi ∧ (e = lo ∨ P (e - 1)) ∧ (e = hi ∨ ¬ P e) ∧ F fu i j = G e := by
  intro d
  induction d with
  | zero =>
    intro fu i j hd hf h1 h2 h3 h4 h5
    obtain ⟨fu, rfl⟩ : ∃ x, fu = x + 1 := ⟨fu - 1, by omega⟩
    have e : j = i := by omega
    subst e
    exact ⟨j, h1, h3, h4, h5, hend fu j h1 h3⟩
  | succ d ih =>
    intro fu i j hd hf h1 h2 h3 h4 h5
    obtain ⟨fu, rfl⟩ : ∃ x, fu = x + 1 := ⟨fu - 1, by omega⟩
    by_cases hij : i < j
    · rcases hstep fu i j h1 hij h3 with ⟨hp, he⟩ | ⟨hp, he⟩
      · rw [he]
        exact ih fu _ j (by omega) (by omega) (by omega) (by omega) h3 (.inr (by rw [show (i + j) / 2 + 1 - 1 = (i + j) / 2 by omega]; exact hp)) h5
      · rw [he]
        exact ih fu i _ (by omega) (by omega) h1 (by omega) (by omega) h4 (.inr hp)
    · have e : j = i := by omega
      subst e
      exact ⟨j, h1, h3, h4, h5, hend fu j h1 h3⟩
theorem last_rd (P A Q : List Int) (h : A ≠ []) {i : Int} (hi : i = (P.length : Int) + (A.length : Int) - 1) : rdI (P ++ A ++ Q) i = A.getLastD 0 := by
  rcases snoc A with rfl | ⟨B, b, rfl⟩
  · exact absurd rfl h
  · rw [show P ++ (B ++ [b]) ++ Q = (P ++ B) ++ b :: Q by simp, rdP _ _ _ (by simp at hi ⊢; omega)]
    simp
theorem head_rd (P B Q : List Int) (h : B ≠ []) {i : Int} (hi : i = (P.length : Int)) : rdI (P ++ B ++ Q) i = B.headD 0 := by
  cases B with
  | nil => exact absurd rfl h
  | cons b B => rw [show P ++ b :: B ++ Q = P ++ b :: (B ++ Q) by simp, rdP _ _ _ hi]; rfl
section
variable {c s : Int} {w : List Int}
variable (c s w) in
def Srt (l : List Int) : Prop := l.Pairwise (Bef c s w)
theorem srt_last {A : List Int} (h : Srt c s w A) : ∀ p ∈ A, p = A.getLastD 0 ∨ Bef c s w p (A.getLastD 0) := by
  rcases snoc A with rfl | ⟨B, b, rfl⟩
  · intro p hp; cases hp
  · intro p hp
    unfold Srt at h
    rw [List.pairwise_append] at h
    simp only [List.getLastD_concat]
    rcases List.mem_append.1 hp with h1 | h1
    · exact .inr (h.2.2 p h1 b (by simp))
    · exact .inl (by simpa using h1)
theorem srt_head {B : List Int} (h : Srt c s w B) : ∀ q ∈ B, q = B.headD 0 ∨ Bef c s w (B.headD 0) q := by
  cases B with
  | nil => intro q hq; cases hq
  | cons b B =>
    intro q hq
    unfold Srt at h
    rw [List.pairwise_cons] at h
    rcases List.mem_cons.1 hq with h1 | h1
    · exact .inl h1
    · exact .inr (h.1 q h1)
theorem cross {A B : List Int} (hA : Srt c s w A) (hB : Srt c s w B) (h : A ≠ [] → B ≠ [] → Bef c s w (A.getLastD 0) (B.headD 0)) : ∀ p ∈ A, ∀ q ∈ B, Bef c s w p q := by
  intro p hp q hq
  have h0 := h (List.ne_nil_of_mem hp) (List.ne_nil_of_mem hq)
  rcases srt_last hA p hp with h1 | h1 <;> rcases srt_head hB q hq with h2 | h2
  · rw [h1, h2]; exact h0
  · rw [h1]; exact bef_trans h0 h2
  · rw [h2]; exact bef_trans h1 h0
  · exact bef_trans h1 (bef_trans h0 h2)
theorem srt_cat {A B : List Int} (hA : Srt c s w A) (hB : Srt c s w B) (h : A ≠ [] → B ≠ [] → Bef c s w (A.getLastD 0) (B.headD 0)) : Srt c s w (A ++ B) :=
  List.pairwise_append.2 ⟨hA, hB, cross hA hB h⟩
theorem Srt.left {A B : List Int} (h : Srt c s w (A ++ B)) : Srt c s w A := (List.pairwise_append.1 h).1
theorem Srt.right {A B : List Int} (h : Srt c s w (A ++ B)) : Srt c s w B := (List.pairwise_append.1 h).2.1
/-! ### insertion sort -/
theorem ins_l1 (hC : CK c s w) (k fu0 : Nat) (rest pre : List Int) (x : Int) (a b i8 : Int) (hx : 0 ≤ x ∧ x < (w.length : Int)) (ha : a = (pre.length : Int)) (hi8 : 0 ≤ i8 ∧ i8 < BIG) :
    ∀ (n : Nat) (S1 S2 : List Int) (fu : Nat) (j : Int), S1.length = n → n < fu → j = (pre.length : Int) + (S1.length : Int) → Srt c s w (S1 ++ S2) → (∀ y ∈ S2, Bef c s w x y) → (∀ y ∈ S1, y < x) → Pl w S1 →
      ((pre ++ S1 ++ x :: (S2 ++ rest)).length : Int) < BIG →
      ∃ Z, Z.Perm (S1 ++ x :: S2) ∧ Srt c s w Z ∧ slices_insertionSortCmpFunc.l1 (k + 1) fu0 fu a b i8 j c w s (pre ++ S1 ++ x :: (S2 ++ rest)) = slices_insertionSortCmpFunc.l0 (k + 1) fu0 a b (i8 + 1) c w s (pre ++ Z ++ rest) := by
  intro n
  unfold BIG at *
  induction n with
  | zero =>
    intro S1 S2 fu j hn hf hj hS hx2 hx1 hP hB
    obtain ⟨fu, rfl⟩ : ∃ m, fu = m + 1 := ⟨fu - 1, by omega⟩
    have e : S1 = [] := List.length_eq_zero_iff.1 hn
    subst e
    refine ⟨x :: S2, .refl _, List.pairwise_cons.2 ⟨hx2, hS⟩, ?_⟩
    simp at hj
    rw [slices_insertionSortCmpFunc.l1_eq, if_neg (by omega), wrap_id (x := i8 + 1) (by omega) (by omega)]
    simp
  | succ n ih =>
    intro S1 S2 fu j hn hf hj hS hx2 hx1 hP hB
    obtain ⟨fu, rfl⟩ : ∃ m, fu = m + 1 := ⟨fu - 1, by omega⟩
    rcases snoc S1 with e | ⟨S1, y, rfl⟩
    · subst e; simp at hn
    · simp only [List.length_append, List.length_cons, List.length_nil] at hn hj
      have hyx : y < x := hx1 y (by simp)
      have hy := hP y (by simp)
      have S := sw (pre ++ S1) y [] x (S2 ++ rest) (i := j - 1) (j := j) (by simp; omega) (by simp; omega)
      have e : pre ++ (S1 ++ [y]) ++ x :: (S2 ++ rest) = (pre ++ S1) ++ y :: ([] ++ x :: (S2 ++ rest)) := by simp
      have hlen : (((pre ++ S1) ++ y :: ([] ++ x :: (S2 ++ rest))).length : Int) = pre.length + S1.length + (1 + (1 + (S2.length + rest.length))) := by simp; omega
      have hlen2 : ((pre ++ S1 ++ x :: ((y :: S2) ++ rest)).length : Int) = pre.length + S1.length + (1 + (1 + (S2.length + rest.length))) := by simp; omega
      rw [e] at hB ⊢
      rw [hlen] at hB
      rw [slices_insertionSortCmpFunc.l1_eq, if_pos (by omega), wrap_id (x := j - 1) (by omega) (by omega), if_pos (by omega), if_pos (by omega), if_pos (by omega), if_pos (by omega), S.ri, S.rj, cmp_eq hC k x y hx hy, bs]
      by_cases hc : key c s w y - key c s w x < 0
      · rw [if_pos hc, if_pos (by omega), if_pos (by omega), if_pos (by omega), if_pos (by omega), if_pos (by omega), if_pos (by omega), if_pos (by omega), if_pos (by rw [List.length_set]; omega), S.s2]
        have hb := (bef_iff hyx).1 hc
        have e2 : pre ++ S1 ++ x :: ([] ++ y :: (S2 ++ rest)) = pre ++ S1 ++ x :: ((y :: S2) ++ rest) := by simp
        rw [e2]
        have hS' : Srt c s w (S1 ++ y :: S2) := by have := hS; simpa using this
        obtain ⟨Z, z1, z2, z3⟩ := ih S1 (y :: S2) fu (j - 1) (by omega) (by omega) (by omega) hS' (by
          intro z hz
          rcases List.mem_cons.1 hz with h | h
          · rw [h]; exact hb
          · exact hx2 z h) (fun z hz => hx1 z (by simp [hz])) (fun z hz => hP z (by simp [hz])) (by omega)
        refine ⟨Z, ?_, z2, z3⟩
        refine z1.trans ?_
        rw [show S1 ++ [y] ++ x :: S2 = S1 ++ (y :: x :: S2) by simp]
        exact (List.Perm.swap y x S2).append_left S1
      · rw [if_neg hc, wrap_id (x := i8 + 1) (by omega) (by omega)]
        have hb := bef_not hyx hc
        refine ⟨(S1 ++ [y]) ++ x :: S2, .refl _, ?_, by simp⟩
        exact srt_cat hS.left (List.pairwise_cons.2 ⟨hx2, hS.right⟩) fun _ _ => by simpa using hb
theorem ins_l0 (hC : CK c s w) (k : Nat) (post pre : List Int) (a b : Int) (ha : a = (pre.length : Int)) :
    ∀ (T S : List Int) (fu : Nat) (i : Int), T.length < fu → i = a + (S.length : Int) → b = i + (T.length : Int) → Srt c s w S → (∀ x ∈ S, ∀ y ∈ T, x < y) → T.Pairwise (· < ·) → Pl w S → Pl w T → ((pre ++ S ++ (T ++ post)).length : Int) < BIG → S.length + T.length < k →
      ∃ Z, Z.Perm (S ++ T) ∧ Srt c s w Z ∧ slices_insertionSortCmpFunc.l0 (k + 1) fu a b i c w s (pre ++ S ++ (T ++ post)) = some (c, w, s, pre ++ Z ++ post) := by
  intro T
  induction T with
  | nil =>
    intro S fu i hf hi hb hS h1 h2 h3 h4 hB hk
    obtain ⟨fu, rfl⟩ : ∃ m, fu = m + 1 := ⟨fu - 1, by omega⟩
    simp at hb
    refine ⟨S, by simp, hS, ?_⟩
    rw [slices_insertionSortCmpFunc.l0_eq, if_neg (by omega)]
    simp
  | cons t T ih =>
    intro S fu i hf hi hb hS h1 h2 h3 h4 hB hk
    obtain ⟨fu, rfl⟩ : ∃ m, fu = m + 1 := ⟨fu - 1, by omega⟩
    have hB' : (pre.length : Int) + S.length + (1 + (T.length + post.length)) < BIG := by simp at hB; omega
    have hBu := hB'
    unfold BIG at hBu
    simp only [List.length_cons] at hf hb hk
    rw [List.pairwise_cons] at h2
    rw [slices_insertionSortCmpFunc.l0_eq, if_pos (by omega)]
    obtain ⟨Z, z1, z2, z3⟩ := ins_l1 hC k fu (T ++ post) pre t a b i (h4 t (by simp)) ha ⟨by omega, by unfold BIG; omega⟩ S.length S [] (k + 1) i rfl (by omega) (by omega) (by simpa using hS) (by intro y hy; cases hy) (fun y hy => h1 y hy t (by simp)) h3 (by simp; omega)
    have e : pre ++ S ++ (t :: T ++ post) = pre ++ S ++ t :: ([] ++ (T ++ post)) := by simp
    rw [e, z3]
    have hl := z1.length_eq
    simp at hl
    obtain ⟨Z', y1, y2, y3⟩ := ih Z fu (i + 1) (by omega) (by omega) (by omega) z2 (by
        intro x hx y hy
        have hx' := z1.mem_iff.1 hx
        rcases List.mem_append.1 hx' with h | h
        · exact h1 x h y (by simp [hy])
        · simp at h; subst h; exact h2.1 y hy) h2.2 (by
        intro x hx
        have hx' := z1.mem_iff.1 hx
        rcases List.mem_append.1 hx' with h | h
        · exact h3 x h
        · simp at h; subst h; exact h4 x (by simp)) (fun y hy => h4 y (by simp [hy])) (by simp; omega) (by omega)
    refine ⟨Z', ?_, y2, y3⟩
    refine y1.trans ((z1.append_right T).trans ?_)
    simp
theorem ins_f (hC : CK c s w) (k : Nat) (X post pre : List Int) (a b : Int) (ha : a = (pre.length : Int)) (hb : b = a + (X.length : Int)) (h2 : X.Pairwise (· < ·)) (h4 : Pl w X) (hB : ((pre ++ X ++ post).length : Int) < BIG) (hk : X.length < k) :
    ∃ Z, Z.Perm X ∧ Srt c s w Z ∧ slices_insertionSortCmpFunc.f (k + 2) a b c w s (pre ++ X ++ post) = some (c, w, s, pre ++ Z ++ post) := by
  have hB' : (pre.length : Int) + X.length + post.length < BIG := by simp at hB; omega
  have hBu := hB'
  unfold BIG at hBu
  rw [slices_insertionSortCmpFunc.f_eq, wrap_id (x := a + 1) (by omega) (by omega)]
  cases X with
  | nil =>
    refine ⟨[], .refl _, List.Pairwise.nil, ?_⟩
    simp at hb
    rw [slices_insertionSortCmpFunc.l0_eq, if_neg (by omega)]
  | cons x X =>
    rw [List.pairwise_cons] at h2
    simp only [List.length_cons] at hb hk
    obtain ⟨Z, z1, z2, z3⟩ := ins_l0 hC k post pre a b ha X [x] (k + 1) (a + 1) (by omega) (by simp) (by omega) (List.pairwise_singleton _ _) (by intro y hy z hz; simp at hy; subst hy; exact h2.1 z hz) h2.2 (by intro y hy; simp at hy; subst hy; exact h4 y (by simp)) (fun y hy => h4 y (by simp [hy])) (by simpa using hB) (by simp; omega)
    refine ⟨Z, z1, z2, ?_⟩
    have e : pre ++ x :: X ++ post = pre ++ [x] ++ (X ++ post) := by simp
    rw [e, z3]
end
end Go.Vm.Pu
namespace Go.Vm.Pu
open Go Go.RowKit Go.Vm
set_option linter.unusedVariables false
set_option linter.unusedSimpArgs false
theorem rd_mid (P A Q : List Int) {i : Int} (h0 : (P.length : Int) ≤ i) (h1 : i < (P.length : Int) + (A.length : Int)) : rdI (P ++ A ++ Q) i ∈ A := by
  obtain ⟨n, rfl⟩ := Int.eq_ofNat_of_zero_le (show 0 ≤ i by omega)
  have e : rdI (P ++ A ++ Q) (n : Int) = A[n - P.length]'(by omega) := by
    rw [rd_at _ n (by simp; omega), List.getElem_append_left (by simp; omega), List.getElem_append_right (by omega)]
  rw [e]
  exact List.getElem_mem _
section
variable {c s : Int} {w : List Int}
theorem bef_or {x y : Int} (hxy : x < y) (h : ¬ Bef c s w y x) : Bef c s w x y := by
  unfold Bef at *; omega
/-! ### a lone element is moved to its place -/
theorem sh_l1 (k : Nat) (x : Int) (rest : List Int) (e : Int) : ∀ (Y pre : List Int) (fu : Nat) (kk : Int), Y.length < fu → kk = (pre.length : Int) → e = kk + 1 + (Y.length : Int) → ((pre ++ x :: (Y ++ rest)).length : Int) < BIG →
    slices_symMergeCmpFunc.l1 k fu e kk c w s (pre ++ x :: (Y ++ rest)) = some (c, w, s, pre ++ Y ++ x :: rest) := by
  intro Y
  induction Y with
  | nil =>
    intro pre fu kk hf hk he hB
    obtain ⟨fu, rfl⟩ : ∃ m, fu = m + 1 := ⟨fu - 1, by omega⟩
    have hB' : (pre.length : Int) + (1 + rest.length) < BIG := by simp at hB; omega
    unfold BIG at hB'
    simp at he
    rw [slices_symMergeCmpFunc.l1_eq, wrap_id (x := e - 1) (by omega) (by omega), if_neg (by omega)]
    simp
  | cons y Y ih =>
    intro pre fu kk hf hk he hB
    obtain ⟨fu, rfl⟩ : ∃ m, fu = m + 1 := ⟨fu - 1, by omega⟩
    have hB' : (pre.length : Int) + (1 + (1 + (Y.length + rest.length))) < BIG := by simp at hB; omega
    unfold BIG at hB'
    simp only [List.length_cons] at hf he
    have S := sw pre x [] y (Y ++ rest) (i := kk) (j := kk + 1) hk (by simp; omega)
    have e1 : pre ++ x :: (y :: Y ++ rest) = pre ++ x :: ([] ++ y :: (Y ++ rest)) := by simp
    have hlen : ((pre ++ x :: ([] ++ y :: (Y ++ rest))).length : Int) = pre.length + (1 + (1 + (Y.length + rest.length))) := by simp; omega
    rw [e1, slices_symMergeCmpFunc.l1_eq, wrap_id (x := e - 1) (by omega) (by omega), if_pos (by omega), wrap_id (x := kk + 1) (by omega) (by omega), if_pos (by omega), if_pos (by omega), if_pos (by omega), if_pos (by omega), if_pos (by omega), if_pos (by omega), if_pos (by omega),
      if_pos (by rw [List.length_set]; omega), S.ri, S.rj, S.s1]
    have e2 : pre ++ y :: ([] ++ x :: (Y ++ rest)) = (pre ++ [y]) ++ x :: (Y ++ rest) := by simp
    rw [e2, ih (pre ++ [y]) fu (kk + 1) (by omega) (by simp; omega) (by omega) (by simp; unfold BIG; omega)]
    simp
theorem sh_l3 (k : Nat) (y : Int) (pre : List Int) (e : Int) (he : e = (pre.length : Int)) : ∀ (n : Nat) (X rest : List Int) (fu : Nat) (kk : Int), X.length = n → n < fu → kk = e + (X.length : Int) → ((pre ++ X ++ y :: rest).length : Int) < BIG →
    slices_symMergeCmpFunc.l3 k fu e kk c w s (pre ++ X ++ y :: rest) = some (c, w, s, pre ++ y :: (X ++ rest)) := by
  intro n
  induction n with
  | zero =>
    intro X rest fu kk hn hf hk hB
    obtain ⟨fu, rfl⟩ : ∃ m, fu = m + 1 := ⟨fu - 1, by omega⟩
    have e1 : X = [] := List.length_eq_zero_iff.1 hn
    subst e1
    simp at hk
    rw [slices_symMergeCmpFunc.l3_eq, if_neg (by omega)]
    simp
  | succ n ih =>
    intro X rest fu kk hn hf hk hB
    obtain ⟨fu, rfl⟩ : ∃ m, fu = m + 1 := ⟨fu - 1, by omega⟩
    rcases snoc X with e1 | ⟨X, z, rfl⟩
    · subst e1; simp at hn
    · simp only [List.length_append, List.length_cons, List.length_nil] at hn hk
      have hB' : (pre.length : Int) + (X.length + (1 + (1 + rest.length))) < BIG := by simp at hB; omega
      unfold BIG at hB'
      have S := sw (pre ++ X) z [] y rest (i := kk - 1) (j := kk) (by simp; omega) (by simp; omega)
      have e1 : pre ++ (X ++ [z]) ++ y :: rest = (pre ++ X) ++ z :: ([] ++ y :: rest) := by simp
      have hlen : (((pre ++ X) ++ z :: ([] ++ y :: rest)).length : Int) = pre.length + (X.length + (1 + (1 + rest.length))) := by simp; omega
      rw [e1, slices_symMergeCmpFunc.l3_eq, if_pos (by omega), wrap_id (x := kk - 1) (by omega) (by omega), if_pos (by omega), if_pos (by omega), if_pos (by omega), if_pos (by omega), if_pos (by omega), if_pos (by omega), if_pos (by omega),
        if_pos (by rw [List.length_set]; omega), S.ri, S.rj, S.s2]
      have e2 : pre ++ X ++ y :: ([] ++ z :: rest) = pre ++ X ++ y :: (z :: rest) := by simp
      rw [e2, ih X (z :: rest) fu (kk - 1) (by omega) (by omega) (by omega) (by simp; unfold BIG; omega)]
      simp
theorem one_left (hC : CK c s w) (k : Nat) (x : Int) (Y pre post : List Int) (a m b : Int) (ha : a = (pre.length : Int)) (hm : m = a + 1) (hb : b = m + (Y.length : Int)) (hY : Srt c s w Y) (hlt : ∀ y ∈ Y, x < y) (hx : 0 ≤ x ∧ x < (w.length : Int)) (hP : Pl w Y)
    (hB : ((pre ++ [x] ++ Y ++ post).length : Int) < BIG) (hk : Y.length < k) :
    ∃ Z, Z.Perm ([x] ++ Y) ∧ Srt c s w Z ∧ slices_symMergeCmpFunc.l0 (k + 1) (k + 1) a m b c w s (pre ++ [x] ++ Y ++ post) = some (c, w, s, pre ++ Z ++ post) := by
  have hlen : ((pre ++ [x] ++ Y ++ post).length : Int) = pre.length + (1 + (Y.length + post.length)) := by simp; omega
  have hB' : (pre.length : Int) + (1 + (Y.length + post.length)) < BIG := by omega
  have hBu := hB'
  unfold BIG at hBu
  have hDa : rdI (pre ++ [x] ++ Y ++ post) a = x := by
    rw [show pre ++ [x] ++ Y ++ post = pre ++ x :: (Y ++ post) by simp]; exact rdP _ _ _ ha
  have hmem : ∀ h, m ≤ h → h < b → rdI (pre ++ [x] ++ Y ++ post) h ∈ Y := fun h h0 h1 => rd_mid (pre ++ [x]) Y post (by simp; omega) (by simp; omega)
  obtain ⟨e, e0, e1, e2, e3, e4⟩ := bin_search (fun fu i j => slices_symMergeCmpFunc.l0 (k + 1) fu a i j c w s (pre ++ [x] ++ Y ++ post)) (fun e => slices_symMergeCmpFunc.l1 (k + 1) (k + 1) e a c w s (pre ++ [x] ++ Y ++ post))
    (fun h => Bef c s w (rdI (pre ++ [x] ++ Y ++ post) h) x) m b (by
      intro fu i j h0 h1 h2
      have hh := hmem ((i + j) / 2) (by omega) (by omega)
      have hp := hP _ hh
      have hl := hlt _ hh
      simp only [slices_symMergeCmpFunc.l0_eq]
      rw [if_pos h1, mid_eq (by omega) (by omega) (by unfold BIG; omega) (by unfold BIG; omega), if_pos (by omega), if_pos (by omega), if_pos (by omega), if_pos (by omega), hDa, cmp_eq hC k _ _ hp hx, bs, wrap_id (x := (i + j) / 2 + 1) (by omega) (by omega)]
      by_cases hc : key c s w x - key c s w (rdI (pre ++ [x] ++ Y ++ post) ((i + j) / 2)) < 0
      · rw [if_pos hc]
        exact .inl ⟨(bef_iff hl).1 hc, rfl⟩
      · rw [if_neg hc]
        exact .inr ⟨fun h => hc ((bef_iff hl).2 h), rfl⟩) (by
      intro fu i h0 h1
      simp only [slices_symMergeCmpFunc.l0_eq]
      rw [if_neg (by omega)]) Y.length (k + 1) m b (by omega) (by omega) (by omega) (by omega) (by omega) (.inl rfl) (.inl rfl)
  try simp only at e4
  rw [e4]
  obtain ⟨Y1, Y2, rfl, hY1⟩ := split_at Y (e - m).toNat (by omega)
  simp only [List.length_append] at hB' hb hBu
  refine ⟨Y1 ++ x :: Y2, ?_, ?_, ?_⟩
  · exact List.perm_middle
  · refine srt_cat hY.left (List.pairwise_cons.2 ⟨?_, hY.right⟩) ?_
    · intro y hy
      have h2 : Y2 ≠ [] := List.ne_nil_of_mem hy
      have hpos : 0 < Y2.length := List.length_pos_iff.2 h2
      have hd : rdI (pre ++ [x] ++ (Y1 ++ Y2) ++ post) e = Y2.headD 0 := by
        rw [show pre ++ [x] ++ (Y1 ++ Y2) ++ post = (pre ++ [x] ++ Y1) ++ Y2 ++ post by simp]
        exact head_rd _ _ _ h2 (by simp; omega)
      rcases e3 with h3 | h3
      · omega
      · rw [hd] at h3
        have hmem2 : Y2.headD 0 ∈ Y2 := by cases Y2 with | nil => exact absurd rfl h2 | cons q r => simp
        have h4 := bef_or (hlt _ (List.mem_append_right _ hmem2)) h3
        rcases srt_head hY.right y hy with h5 | h5
        · rw [h5]; exact h4
        · exact bef_trans h4 h5
    · intro h1 _
      have hpos : 0 < Y1.length := List.length_pos_iff.2 h1
      have hd : rdI (pre ++ [x] ++ (Y1 ++ Y2) ++ post) (e - 1) = Y1.getLastD 0 := by
        rw [show pre ++ [x] ++ (Y1 ++ Y2) ++ post = (pre ++ [x]) ++ Y1 ++ (Y2 ++ post) by simp]
        exact last_rd _ _ _ h1 (by simp; omega)
      rcases e2 with h3 | h3
      · omega
      · rw [hd] at h3; exact h3
  · have e5 : pre ++ [x] ++ (Y1 ++ Y2) ++ post = pre ++ x :: (Y1 ++ (Y2 ++ post)) := by simp
    rw [e5, sh_l1 (k + 1) x (Y2 ++ post) e Y1 pre (k + 1) a (by simp at hk; omega) ha (by omega) (by simp; unfold BIG; omega)]
    simp
theorem one_right (hC : CK c s w) (k : Nat) (y : Int) (X pre post : List Int) (a m : Int) (ha : a = (pre.length : Int)) (hm : m = a + (X.length : Int)) (hX : Srt c s w X) (hlt : ∀ x ∈ X, x < y) (hy : 0 ≤ y ∧ y < (w.length : Int)) (hP : Pl w X)
    (hB : ((pre ++ X ++ [y] ++ post).length : Int) < BIG) (hk : X.length < k) :
    ∃ Z, Z.Perm (X ++ [y]) ∧ Srt c s w Z ∧ slices_symMergeCmpFunc.l2 (k + 1) (k + 1) m a m c w s (pre ++ X ++ [y] ++ post) = some (c, w, s, pre ++ Z ++ post) := by
  have hlen : ((pre ++ X ++ [y] ++ post).length : Int) = pre.length + (X.length + (1 + post.length)) := by simp; omega
  have hB' : (pre.length : Int) + (X.length + (1 + post.length)) < BIG := by omega
  have hBu := hB'
  unfold BIG at hBu
  have hDm : rdI (pre ++ X ++ [y] ++ post) m = y := by
    rw [show pre ++ X ++ [y] ++ post = (pre ++ X) ++ y :: post by simp]; exact rdP _ _ _ (by simp; omega)
  have hmem : ∀ h, a ≤ h → h < m → rdI (pre ++ X ++ [y] ++ post) h ∈ X := fun h h0 h1 => by
    rw [show pre ++ X ++ [y] ++ post = pre ++ X ++ ([y] ++ post) by simp]
    exact rd_mid pre X ([y] ++ post) (by omega) (by omega)
  obtain ⟨e, e0, e1, e2, e3, e4⟩ := bin_search (fun fu i j => slices_symMergeCmpFunc.l2 (k + 1) fu m i j c w s (pre ++ X ++ [y] ++ post)) (fun e => slices_symMergeCmpFunc.l3 (k + 1) (k + 1) e m c w s (pre ++ X ++ [y] ++ post))
    (fun h => ¬ Bef c s w y (rdI (pre ++ X ++ [y] ++ post) h)) a m (by
      intro fu i j h0 h1 h2
      have hh := hmem ((i + j) / 2) (by omega) (by omega)
      have hp := hP _ hh
      have hl := hlt _ hh
      simp only [slices_symMergeCmpFunc.l2_eq]
      rw [if_pos h1, if_pos (by omega), if_pos (by omega), mid_eq (by omega) (by omega) (by unfold BIG; omega) (by unfold BIG; omega), if_pos (by omega), if_pos (by omega), hDm, cmp_eq hC k _ _ hy hp, bs, wrap_id (x := (i + j) / 2 + 1) (by omega) (by omega)]
      by_cases hc : key c s w (rdI (pre ++ X ++ [y] ++ post) ((i + j) / 2)) - key c s w y < 0
      · rw [if_neg (fun h => h hc)]
        exact .inr ⟨fun h => h ((bef_iff hl).1 hc), rfl⟩
      · rw [if_pos hc]
        exact .inl ⟨fun h => hc ((bef_iff hl).2 h), rfl⟩) (by
      intro fu i h0 h1
      simp only [slices_symMergeCmpFunc.l2_eq]
      rw [if_neg (by omega)]) X.length (k + 1) a m (by omega) (by omega) (by omega) (by omega) (by omega) (.inl rfl) (.inl rfl)
  try simp only at e4
  rw [e4]
  obtain ⟨X1, X2, rfl, hX1⟩ := split_at X (e - a).toNat (by omega)
  simp only [List.length_append] at hB' hm hBu hk
  refine ⟨X1 ++ y :: X2, ?_, ?_, ?_⟩
  · rw [List.append_assoc]
    exact (List.perm_append_comm (l₁ := [y]) (l₂ := X2)).append_left X1
  · refine srt_cat hX.left (List.pairwise_cons.2 ⟨?_, hX.right⟩) ?_
    · intro z hz
      have h2 : X2 ≠ [] := List.ne_nil_of_mem hz
      have hpos : 0 < X2.length := List.length_pos_iff.2 h2
      have hd : rdI (pre ++ (X1 ++ X2) ++ [y] ++ post) e = X2.headD 0 := by
        rw [show pre ++ (X1 ++ X2) ++ [y] ++ post = (pre ++ X1) ++ X2 ++ ([y] ++ post) by simp]
        exact head_rd _ _ _ h2 (by simp; omega)
      rcases e3 with h3 | h3
      · omega
      · rw [hd] at h3
        have h4 : Bef c s w y (X2.headD 0) := Classical.byContradiction h3
        rcases srt_head hX.right z hz with h5 | h5
        · rw [h5]; exact h4
        · exact bef_trans h4 h5
    · intro h1 _
      have hpos : 0 < X1.length := List.length_pos_iff.2 h1
      have hd : rdI (pre ++ (X1 ++ X2) ++ [y] ++ post) (e - 1) = X1.getLastD 0 := by
        rw [show pre ++ (X1 ++ X2) ++ [y] ++ post = pre ++ X1 ++ (X2 ++ [y] ++ post) by simp]
        exact last_rd _ _ _ h1 (by omega)
      rcases e2 with h3 | h3
      · omega
      · rw [hd] at h3
        refine bef_or (hlt _ (List.mem_append_left _ ?_)) h3
        rcases snoc X1 with h | ⟨B, q, rfl⟩
        · exact absurd h h1
        · simp
  · have e5 : pre ++ (X1 ++ X2) ++ [y] ++ post = (pre ++ X1) ++ X2 ++ y :: post := by simp
    rw [e5, sh_l3 (k + 1) y (pre ++ X1) e (by simp; omega) X2.length X2 post (k + 1) m rfl (by omega) (by omega) (by simp; unfold BIG; omega)]
    simp
end
end Go.Vm.Pu
namespace Go.Vm.Pu
open Go Go.RowKit Go.Vm
set_option linter.unusedVariables false
set_option linter.unusedSimpArgs false
section
variable {c s : Int} {w : List Int}
theorem last_mem {A : List Int} (h : A ≠ []) : A.getLastD 0 ∈ A := by
  rcases snoc A with e | ⟨B, q, rfl⟩
  · exact absurd e h
  · simp
theorem head_mem {B : List Int} (h : B ≠ []) : B.headD 0 ∈ B := by
  cases B with
  | nil => exact absurd rfl h
  | cons q r => simp
theorem sym_f (hC : CK c s w) : ∀ (d : Nat) (X Y pre post : List Int) (k : Nat) (a m b : Int), X.length + Y.length ≤ d → 0 < X.length → 0 < Y.length → a = (pre.length : Int) → m = a + (X.length : Int) → b = m + (Y.length : Int) →
    Srt c s w X → Srt c s w Y → (∀ x ∈ X, ∀ y ∈ Y, x < y) → Pl w X → Pl w Y → ((pre ++ X ++ Y ++ post).length : Int) < BIG → 2 * d + 10 < k →
    ∃ Z, Z.Perm (X ++ Y) ∧ Srt c s w Z ∧ slices_symMergeCmpFunc.f k a m b c w s (pre ++ X ++ Y ++ post) = some (c, w, s, pre ++ Z ++ post) := by
  intro d
  induction d with
  | zero => intro X Y pre post k a m b hd hX0; omega
  | succ d ih =>
    intro X Y pre post k a m b hd hX0 hY0 ha hm hb hX hY hlt hPX hPY hB hk
    obtain ⟨k, rfl⟩ : ∃ q, k = q + 3 := ⟨k - 3, by omega⟩
    have hlen : ((pre ++ X ++ Y ++ post).length : Int) = pre.length + (X.length + (Y.length + post.length)) := by simp
    have hB' : (pre.length : Int) + (X.length + (Y.length + post.length)) < BIG := by omega
    have hBu := hB'
    unfold BIG at hBu
    rw [slices_symMergeCmpFunc.f_eq, wrap_id (x := m - a) (by omega) (by omega), wrap_id (x := b - m) (by omega) (by omega), mid_eq (by omega) (by omega) (by unfold BIG; omega) (by unfold BIG; omega)]
    by_cases hone : m - a = 1
    · rw [if_pos hone]
      obtain ⟨x, rfl⟩ : ∃ x, X = [x] := List.length_eq_one_iff.1 (by omega)
      exact one_left hC (k + 1) x Y pre post a m b ha (by omega) hb hY (fun y hy => hlt x (by simp) y hy) (hPX x (by simp)) hPY hB (by omega)
    rw [if_neg hone]
    by_cases hone2 : b - m = 1
    · rw [if_pos hone2]
      obtain ⟨y, rfl⟩ : ∃ y, Y = [y] := List.length_eq_one_iff.1 (by omega)
      exact one_right hC (k + 1) y X pre post a m ha hm hX (fun x hx => hlt x hx y (by simp)) (hPY y (by simp)) hPX hB (by omega)
    rw [if_neg hone2]
    obtain ⟨mid, hmid⟩ : ∃ mid, mid = (a + b) / 2 := ⟨_, rfl⟩
    rw [← hmid, wrap_id (x := mid + m) (by omega) (by omega), wrap_id (x := mid + m - b) (by omega) (by omega)]
    -- the two roads are one: from lo to hi
    obtain ⟨lo, hi, hlohi, hcase, heq⟩ : ∃ lo hi, (lo ≤ hi ∧ a ≤ lo ∧ hi ≤ m ∧ hi ≤ mid ∧ mid + m - b ≤ lo) ∧ ((lo = a ∨ lo = mid + m - b) ∧ (hi = m ∨ hi = mid)) ∧
        (if m > mid then slices_symMergeCmpFunc.j0 (k + 2) a m b mid (mid + m) (mid + m - b) mid c w s (pre ++ X ++ Y ++ post) else slices_symMergeCmpFunc.j0 (k + 2) a m b mid (mid + m) a m c w s (pre ++ X ++ Y ++ post)) = slices_symMergeCmpFunc.l4 (k + 2) (k + 2) a m b mid (mid + m) lo hi (mid + m - 1) c w s (pre ++ X ++ Y ++ post) := by
      by_cases hc : m > mid
      · refine ⟨mid + m - b, mid, by omega, ⟨.inr rfl, .inr rfl⟩, ?_⟩
        rw [if_pos hc, slices_symMergeCmpFunc.j0_eq, wrap_id (x := mid + m - 1) (by omega) (by omega)]
      · refine ⟨a, m, by omega, ⟨.inl rfl, .inl rfl⟩, ?_⟩
        rw [if_neg hc, slices_symMergeCmpFunc.j0_eq, wrap_id (x := mid + m - 1) (by omega) (by omega)]
    rw [heq]
    have hmX : ∀ h, a ≤ h → h < m → rdI (pre ++ X ++ Y ++ post) h ∈ X := fun h h0 h1 => by
      rw [show pre ++ X ++ Y ++ post = pre ++ X ++ (Y ++ post) by simp]
      exact rd_mid pre X (Y ++ post) (by omega) (by omega)
    have hmY : ∀ h, m ≤ h → h < b → rdI (pre ++ X ++ Y ++ post) h ∈ Y := fun h h0 h1 => rd_mid (pre ++ X) Y post (by simp; omega) (by simp; omega)
    obtain ⟨e, e0, e1, e2, e3, e4⟩ := bin_search (fun fu i j => slices_symMergeCmpFunc.l4 (k + 2) fu a m b mid (mid + m) i j (mid + m - 1) c w s (pre ++ X ++ Y ++ post))
      (fun e => if e < m then (if m < mid + m - e then (slices_rotateCmpFunc.f (k + 2) e m (mid + m - e) c w s (pre ++ X ++ Y ++ post)).bind (fun r2 => slices_symMergeCmpFunc.j1 (k + 2) a b mid e (mid + m - e) r2.1 r2.2.1 r2.2.2.1 r2.2.2.2) else slices_symMergeCmpFunc.j1 (k + 2) a b mid e (mid + m - e) c w s (pre ++ X ++ Y ++ post)) else slices_symMergeCmpFunc.j1 (k + 2) a b mid e (mid + m - e) c w s (pre ++ X ++ Y ++ post))
      (fun h => ¬ Bef c s w (rdI (pre ++ X ++ Y ++ post) (mid + m - 1 - h)) (rdI (pre ++ X ++ Y ++ post) h)) lo hi (by
        intro fu i j h0 h1 h2
        have hx := hmX ((i + j) / 2) (by omega) (by omega)
        have hy := hmY (mid + m - 1 - (i + j) / 2) (by omega) (by omega)
        have hp := hPX _ hx
        have hq := hPY _ hy
        have hl := hlt _ hx _ hy
        simp only [slices_symMergeCmpFunc.l4_eq]
        rw [if_pos h1, mid_eq (by omega) (by omega) (by unfold BIG; omega) (by unfold BIG; omega), wrap_id (x := mid + m - 1 - (i + j) / 2) (by omega) (by omega), if_pos (by omega), if_pos (by omega), if_pos (by omega), if_pos (by omega), cmp_eq hC (k + 1) _ _ hq hp, bs, wrap_id (x := (i + j) / 2 + 1) (by omega) (by omega)]
        by_cases hc : key c s w (rdI (pre ++ X ++ Y ++ post) ((i + j) / 2)) - key c s w (rdI (pre ++ X ++ Y ++ post) (mid + m - 1 - (i + j) / 2)) < 0
        · rw [if_neg (fun h => h hc)]
          exact .inr ⟨fun h => h ((bef_iff hl).1 hc), rfl⟩
        · rw [if_pos hc]
          exact .inl ⟨fun h => hc ((bef_iff hl).2 h), rfl⟩) (by
        intro fu i h0 h1
        simp only [slices_symMergeCmpFunc.l4_eq]
        rw [if_neg (by omega), wrap_id (x := mid + m - i) (by omega) (by omega)]) X.length (k + 2) lo hi (by omega) (by omega) (by omega) (by omega) (by omega) (.inl rfl) (.inl rfl)
    try simp only at e4
    rw [e4]
    clear e4 heq
    obtain ⟨X1, X2, rfl, hX1⟩ := split_at X (e - a).toNat (by omega)
    obtain ⟨Y1, Y2, rfl, hY1⟩ := split_at Y (mid - e).toNat (by omega)
    simp only [List.length_append] at hB' hm hb hBu hd hX0 hY0 hlen
    -- the neighbours at the cut
    have c1 : X1 ≠ [] → Y2 ≠ [] → Bef c s w (X1.getLastD 0) (Y2.headD 0) := by
      intro h1 h2
      have p1 : 0 < X1.length := List.length_pos_iff.2 h1
      have p2 : 0 < Y2.length := List.length_pos_iff.2 h2
      rcases e2 with h3 | h3
      · omega
      · have d1 : rdI (pre ++ (X1 ++ X2) ++ (Y1 ++ Y2) ++ post) (e - 1) = X1.getLastD 0 := by
          rw [show pre ++ (X1 ++ X2) ++ (Y1 ++ Y2) ++ post = pre ++ X1 ++ (X2 ++ Y1 ++ Y2 ++ post) by simp]
          exact last_rd _ _ _ h1 (by omega)
        have d2 : rdI (pre ++ (X1 ++ X2) ++ (Y1 ++ Y2) ++ post) (mid + m - 1 - (e - 1)) = Y2.headD 0 := by
          rw [show pre ++ (X1 ++ X2) ++ (Y1 ++ Y2) ++ post = (pre ++ X1 ++ X2 ++ Y1) ++ Y2 ++ post by simp]
          exact head_rd _ _ _ h2 (by simp; omega)
        rw [d1, d2] at h3
        exact bef_or (hlt _ (List.mem_append_left _ (last_mem h1)) _ (List.mem_append_right _ (head_mem h2))) h3
    have c2 : Y1 ≠ [] → X2 ≠ [] → Bef c s w (Y1.getLastD 0) (X2.headD 0) := by
      intro h1 h2
      have p1 : 0 < Y1.length := List.length_pos_iff.2 h1
      have p2 : 0 < X2.length := List.length_pos_iff.2 h2
      rcases e3 with h3 | h3
      · omega
      · have d1 : rdI (pre ++ (X1 ++ X2) ++ (Y1 ++ Y2) ++ post) (mid + m - 1 - e) = Y1.getLastD 0 := by
          rw [show pre ++ (X1 ++ X2) ++ (Y1 ++ Y2) ++ post = (pre ++ X1 ++ X2) ++ Y1 ++ (Y2 ++ post) by simp]
          exact last_rd _ _ _ h1 (by simp; omega)
        have d2 : rdI (pre ++ (X1 ++ X2) ++ (Y1 ++ Y2) ++ post) e = X2.headD 0 := by
          rw [show pre ++ (X1 ++ X2) ++ (Y1 ++ Y2) ++ post = (pre ++ X1) ++ X2 ++ (Y1 ++ Y2 ++ post) by simp]
          exact head_rd _ _ _ h2 (by simp; omega)
        rw [d1, d2] at h3
        exact Classical.byContradiction h3
    -- the rotation
    have hrot : (if e < m then (if m < mid + m - e then (slices_rotateCmpFunc.f (k + 2) e m (mid + m - e) c w s (pre ++ (X1 ++ X2) ++ (Y1 ++ Y2) ++ post)).bind (fun r2 => slices_symMergeCmpFunc.j1 (k + 2) a b mid e (mid + m - e) r2.1 r2.2.1 r2.2.2.1 r2.2.2.2) else slices_symMergeCmpFunc.j1 (k + 2) a b mid e (mid + m - e) c w s (pre ++ (X1 ++ X2) ++ (Y1 ++ Y2) ++ post)) else slices_symMergeCmpFunc.j1 (k + 2) a b mid e (mid + m - e) c w s (pre ++ (X1 ++ X2) ++ (Y1 ++ Y2) ++ post))
        = slices_symMergeCmpFunc.j1 (k + 2) a b mid e (mid + m - e) c w s (pre ++ X1 ++ Y1 ++ (X2 ++ Y2 ++ post)) := by
      by_cases h1 : e < m
      · rw [if_pos h1]
        by_cases h2 : m < mid + m - e
        · rw [if_pos h2]
          have e5 : pre ++ (X1 ++ X2) ++ (Y1 ++ Y2) ++ post = (pre ++ X1) ++ X2 ++ Y1 ++ (Y2 ++ post) := by simp
          rw [e5, rot_f (k + 1) X2 Y1 (pre ++ X1) (Y2 ++ post) e m (mid + m - e) (by omega) (by omega) (by simp; omega) (by omega) (by omega) (by simp; unfold BIG; omega) (by omega), bs]
          simp
        · rw [if_neg h2]
          have e6 : Y1 = [] := List.length_eq_zero_iff.1 (by omega)
          subst e6
          simp
      · rw [if_neg h1]
        have e6 : X2 = [] := List.length_eq_zero_iff.1 (by omega)
        subst e6
        simp
    rw [hrot]
    clear hrot
    -- the first half
    have hj1 : ∃ Z1, Z1.Perm (X1 ++ Y1) ∧ Srt c s w Z1 ∧ slices_symMergeCmpFunc.j1 (k + 2) a b mid e (mid + m - e) c w s (pre ++ X1 ++ Y1 ++ (X2 ++ Y2 ++ post)) = slices_symMergeCmpFunc.j2 (k + 2) b mid (mid + m - e) c w s (pre ++ Z1 ++ (X2 ++ Y2 ++ post)) := by
      rw [slices_symMergeCmpFunc.j1_eq]
      by_cases h1 : a < e
      · rw [if_pos h1]
        by_cases h2 : e < mid
        · rw [if_pos h2]
          obtain ⟨Z1, z1, z2, z3⟩ := ih X1 Y1 pre (X2 ++ Y2 ++ post) (k + 2) a e mid (by omega) (by omega) (by omega) ha (by omega) (by omega) hX.left hY.left (fun x hx y hy => hlt x (List.mem_append_left _ hx) y (List.mem_append_left _ hy)) (fun x hx => hPX x (List.mem_append_left _ hx)) (fun y hy => hPY y (List.mem_append_left _ hy)) (by simp; unfold BIG; omega) (by omega)
          exact ⟨Z1, z1, z2, by rw [z3, bs]⟩
        · rw [if_neg h2]
          have e6 : Y1 = [] := List.length_eq_zero_iff.1 (by omega)
          subst e6
          exact ⟨X1, by simp, hX.left, by simp⟩
      · rw [if_neg h1]
        have e6 : X1 = [] := List.length_eq_zero_iff.1 (by omega)
        subst e6
        exact ⟨Y1, by simp, hY.left, by simp⟩
    obtain ⟨Z1, z1, z2, z3⟩ := hj1
    rw [z3]
    have hz1 : Z1.length = X1.length + Y1.length := by have := z1.length_eq; simpa using this
    have hj2 : ∃ Z2, Z2.Perm (X2 ++ Y2) ∧ Srt c s w Z2 ∧ slices_symMergeCmpFunc.j2 (k + 2) b mid (mid + m - e) c w s (pre ++ Z1 ++ (X2 ++ Y2 ++ post)) = some (c, w, s, pre ++ (Z1 ++ Z2) ++ post) := by
      rw [slices_symMergeCmpFunc.j2_eq]
      by_cases h1 : mid < mid + m - e
      · rw [if_pos h1]
        by_cases h2 : mid + m - e < b
        · rw [if_pos h2]
          obtain ⟨Z2, y1, y2, y3⟩ := ih X2 Y2 (pre ++ Z1) post (k + 2) mid (mid + m - e) b (by omega) (by omega) (by omega) (by simp; omega) (by omega) (by omega) hX.right hY.right (fun x hx y hy => hlt x (List.mem_append_right _ hx) y (List.mem_append_right _ hy)) (fun x hx => hPX x (List.mem_append_right _ hx)) (fun y hy => hPY y (List.mem_append_right _ hy)) (by simp; unfold BIG; omega) (by omega)
          have e5 : pre ++ Z1 ++ (X2 ++ Y2 ++ post) = pre ++ Z1 ++ X2 ++ Y2 ++ post := by simp
          exact ⟨Z2, y1, y2, by rw [e5, y3, bs]; simp⟩
        · rw [if_neg h2]
          have e6 : Y2 = [] := List.length_eq_zero_iff.1 (by omega)
          subst e6
          exact ⟨X2, by simp, hX.right, by simp⟩
      · rw [if_neg h1]
        have e6 : X2 = [] := List.length_eq_zero_iff.1 (by omega)
        subst e6
        exact ⟨Y2, by simp, hY.right, by simp⟩
    obtain ⟨Z2, y1, y2, y3⟩ := hj2
    refine ⟨Z1 ++ Z2, ?_, ?_, y3⟩
    · refine (z1.append y1).trans ?_
      have q : (X1 ++ Y1 ++ (X2 ++ Y2)).Perm (X1 ++ (X2 ++ Y1 ++ Y2)) := by
        rw [List.append_assoc]
        refine List.Perm.append_left X1 ?_
        rw [← List.append_assoc]
        exact (List.perm_append_comm).append_right Y2
      refine q.trans ?_
      simp
    · refine List.pairwise_append.2 ⟨z2, y2, ?_⟩
      intro p hp q hq
      have hX12 := (List.pairwise_append.1 hX).2.2
      have hY12 := (List.pairwise_append.1 hY).2.2
      rcases List.mem_append.1 (z1.mem_iff.1 hp) with h1 | h1 <;> rcases List.mem_append.1 (y1.mem_iff.1 hq) with h2 | h2
      · exact hX12 p h1 q h2
      · exact cross hX.left hY.right c1 p h1 q h2
      · exact cross hY.left hX.right c2 p h1 q h2
      · exact hY12 p h1 q h2
/-- The whole: the places below n, n at most forty. -/
theorem stable_f (hC : CK c s w) (X : List Int) (k : Nat) (hn : X.length ≤ 40) (hX : X.Pairwise (· < ·)) (hP : Pl w X) (hk : 200 < k) :
    ∃ Z, Z.Perm X ∧ Srt c s w Z ∧ slices_SortStableFunc.f k c w s X = some (c, w, s, Z) := by
  obtain ⟨k, rfl⟩ : ∃ q, k = q + 8 := ⟨k - 8, by omega⟩
  obtain ⟨X1, X2, rfl, h1⟩ := split_at X (min X.length 20) (by omega)
  simp only [List.length_append] at hn h1
  rw [List.pairwise_append] at hX
  have hP1 : Pl w X1 := fun x hx => hP x (List.mem_append_left _ hx)
  have hP2 : Pl w X2 := fun x hx => hP x (List.mem_append_right _ hx)
  have w1 : ∀ x : Int, -1000 ≤ x → x ≤ 1000 → wrap64 x = x := fun x h h' => wrap_id (by omega) (by omega)
  suffices h : ∃ Z, Z.Perm (X1 ++ X2) ∧ Srt c s w Z ∧ slices_stableCmpFunc.f (k + 7) ((X1 ++ X2).length : Int) c w s (X1 ++ X2) = some (c, w, s, Z) by
    obtain ⟨Z, z1, z2, z3⟩ := h
    refine ⟨Z, z1, z2, ?_⟩
    rw [slices_SortStableFunc.f_eq, z3, bs]
  rw [slices_stableCmpFunc.f_eq, List.length_append, slices_stableCmpFunc.l0_eq]
  by_cases hs : X1.length + X2.length < 20
  · rw [if_neg (by omega)]
    have e6 : X2 = [] := List.length_eq_zero_iff.1 (by omega)
    subst e6
    obtain ⟨Z, z1, z2, z3⟩ := ins_f hC (k + 4) X1 [] [] 0 ((X1.length + ([] : List Int).length : Nat) : Int) rfl (by simp) hX.1 hP1 (by simp; unfold BIG; omega) (by omega)
    refine ⟨Z, by simpa using z1, z2, ?_⟩
    have e7 : X1 ++ [] = [] ++ X1 ++ [] := by simp
    rw [e7, z3, bs, slices_stableCmpFunc.l1_eq, if_neg (by simp; omega)]
    simp
  · rw [if_pos (by omega)]
    obtain ⟨Z1, z1, z2, z3⟩ := ins_f hC (k + 4) X1 X2 [] 0 20 rfl (by omega) hX.1 hP1 (by simp; unfold BIG; omega) (by omega)
    have e7 : X1 ++ X2 = [] ++ X1 ++ X2 := by simp
    have l1 := z1.length_eq
    rw [e7, z3, bs, w1 (20 + 20) (by omega) (by omega), slices_stableCmpFunc.l0_eq]
    -- the second block
    have h2 : ∃ Z2, Z2.Perm X2 ∧ Srt c s w Z2 ∧ (if (20 + 20 : Int) ≤ ((X1.length + X2.length : Nat) : Int) then (slices_insertionSortCmpFunc.f (k + 6) 20 (20 + 20) c w s ([] ++ Z1 ++ X2)).bind (fun r1 => slices_stableCmpFunc.l0 (k + 6) (k + 4) ((X1.length + X2.length : Nat) : Int) 20 (20 + 20) (wrap64 (20 + 20 + 20)) r1.1 r1.2.1 r1.2.2.1 r1.2.2.2) else (slices_insertionSortCmpFunc.f (k + 6) 20 ((X1.length + X2.length : Nat) : Int) c w s ([] ++ Z1 ++ X2)).bind (fun r2 => slices_stableCmpFunc.l1 (k + 6) (k + 6) ((X1.length + X2.length : Nat) : Int) 20 r2.1 r2.2.1 r2.2.2.1 r2.2.2.2))
        = slices_stableCmpFunc.l1 (k + 6) (k + 6) ((X1.length + X2.length : Nat) : Int) 20 c w s (Z1 ++ Z2) := by
      obtain ⟨Z2, y1, y2, y3⟩ := ins_f hC (k + 4) X2 [] Z1 20 ((X1.length + X2.length : Nat) : Int) (by omega) (by omega) hX.2.1 hP2 (by simp; unfold BIG; omega) (by omega)
      have e8 : [] ++ Z1 ++ X2 = Z1 ++ X2 ++ [] := by simp
      refine ⟨Z2, y1, y2, ?_⟩
      by_cases h40 : (20 + 20 : Int) ≤ ((X1.length + X2.length : Nat) : Int)
      · rw [if_pos h40]
        have e9 : (20 + 20 : Int) = ((X1.length + X2.length : Nat) : Int) := by omega
        rw [e8, e9, y3, bs, ← e9, w1 (20 + 20 + 20) (by omega) (by omega), slices_stableCmpFunc.l0_eq, if_neg (by omega)]
        obtain ⟨Z3, x1, x2, x3⟩ := ins_f hC (k + 4) [] [] (Z1 ++ Z2) (20 + 20) (20 + 20) (by have := y1.length_eq; simp; omega) (by simp) List.Pairwise.nil (fun x hx => by cases hx) (by have := y1.length_eq; simp; unfold BIG; omega) (by simp)
        have e10 : Z3 = [] := List.length_eq_zero_iff.1 (by have := x1.length_eq; simpa using this)
        subst e10
        simp only [List.append_nil] at x3 ⊢
        rw [x3, bs]
      · rw [if_neg h40, e8, y3, bs]
        simp
    obtain ⟨Z2, y1, y2, y3⟩ := h2
    have l2 := y1.length_eq
    rw [y3, slices_stableCmpFunc.l1_eq]
    by_cases h20 : (20 : Int) < ((X1.length + X2.length : Nat) : Int)
    · rw [if_pos h20, w1 (2 * 20) (by omega) (by omega), slices_stableCmpFunc.l2_eq, w1 (0 + 20) (by omega) (by omega)]
      obtain ⟨Z, x1, x2, x3⟩ := sym_f hC 40 Z1 Z2 [] [] (k + 6) 0 (0 + 20) ((X1.length + X2.length : Nat) : Int) (by omega) (by omega) (by omega) rfl (by omega) (by omega) z2 y2 (by
        intro x hx y hy
        exact hX.2.2 x (z1.mem_iff.1 hx) y (y1.mem_iff.1 hy)) (fun x hx => hP1 x (z1.mem_iff.1 hx)) (fun x hx => hP2 x (y1.mem_iff.1 hx)) (by simp; unfold BIG; omega) (by omega)
      refine ⟨Z, x1.trans (z1.append y1), x2, ?_⟩
      have e12 : Z1 ++ Z2 = [] ++ Z1 ++ Z2 ++ [] := by simp
      by_cases h40 : (2 * 20 : Int) ≤ ((X1.length + X2.length : Nat) : Int)
      · rw [if_pos h40]
        have e9 : (2 * 20 : Int) = ((X1.length + X2.length : Nat) : Int) := by omega
        rw [e12, e9, x3, bs, ← e9, w1 (2 * 20) (by omega) (by omega), w1 (2 * 20 + 2 * 20) (by omega) (by omega), slices_stableCmpFunc.l2_eq, if_neg (by omega), w1 (2 * 20 + 20) (by omega) (by omega), if_neg (by omega), w1 (20 * 2) (by omega) (by omega), slices_stableCmpFunc.l1_eq, if_neg (by omega)]
        simp
      · rw [if_neg h40, if_pos (by omega), e12, x3, bs, w1 (20 * 2) (by omega) (by omega), slices_stableCmpFunc.l1_eq, if_neg (by omega)]
        simp
    · rw [if_neg h20]
      refine ⟨Z1 ++ Z2, z1.append y1, ?_, rfl⟩
      have e13 : Z2 = [] := List.length_eq_zero_iff.1 (by omega)
      subst e13
      simpa using z2
end
end Go.Vm.Pu
namespace Go.Vm.Pu
open Go Go.RowKit Go.Vm
set_option linter.unusedVariables false
set_option linter.unusedSimpArgs false
def mkI (a : Int) : Nat → List Int
  | 0 => []
  | n + 1 => a :: mkI (a + 1) n
theorem mkI_length (n : Nat) : ∀ a, (mkI a n).length = n := by
  induction n with
  | zero => intro a; rfl
  | succ n ih => intro a; simp [mkI, ih]
theorem toIntS_f (l : List Int) (hn : l.length ≤ 1048576) (k : Nat) (hk : l.length + 1 < k) : laws_toIntS.f k l = some l := by
  obtain ⟨k, rfl⟩ : ∃ m, k = m + 1 := ⟨k - 1, by omega⟩
  rw [laws_toIntS.f_eq, if_pos (by omega), if_pos (by omega), if_pos (by omega)]
  have := set_loop (fun fu s i => laws_toIntS.l0 k fu l i s) l id 0 (by
    intro fu s _
    simp only [laws_toIntS.l0_eq]
    rw [if_neg (by omega)]) (by
    intro fu i s h _ hs
    simp only [laws_toIntS.l0_eq]
    rw [if_pos (by omega), if_pos (by omega), if_pos (by omega), if_pos (by omega), if_pos (by omega), rd_at l i h, wrap_next h (by omega)]
    rfl) k (List.replicate (Int.toNat (l.length : Int)) 0) (by omega) (by simp)
  simpa using this
theorem eqIntS_f (l : List Int) (hn : l.length ≤ 1048576) (k : Nat) (hk : l.length + 1 < k) : laws_eqIntS.f k l l = some true := by
  obtain ⟨k, rfl⟩ : ∃ m, k = m + 1 := ⟨k - 1, by omega⟩
  rw [laws_eqIntS.f_eq, if_neg (by simp)]
  exact count_loop (fun fu i => laws_eqIntS.l0 k fu l l i) l.length 0 true (by
    intro fu _
    simp only [laws_eqIntS.l0_eq]
    rw [if_neg (by omega)]) (by
    intro fu i h _
    simp only [laws_eqIntS.l0_eq]
    rw [if_pos (by omega), if_pos (by omega), if_pos (by omega), if_pos (by omega), if_pos (by omega), if_neg (by simp), wrap_next h (by omega)]) k (by omega)
theorem markI_loop (n : Nat) (hn : n ≤ 2000000) (K : Nat) : ∀ (d k i : Nat) (x0 : List Int) (x1 : Int), i + d = n → x0.length = n → d < k → 0 ≤ x1 → x1 ≤ 4000000 + i →
    laws_markIntS.l0 K k x1 (i : Int) x0 = some (x1 + d, x0.take i ++ mkI x1 d) := by
  intro d
  induction d with
  | zero =>
    intro k i x0 x1 hi hl hk h0 h1
    obtain ⟨k, rfl⟩ : ∃ m, k = m + 1 := ⟨k - 1, by omega⟩
    rw [laws_markIntS.l0_eq, if_neg (by omega), List.take_of_length_le (by omega)]
    simp [mkI]
  | succ d ih =>
    intro k i x0 x1 hi hl hk h0 h1
    obtain ⟨k, rfl⟩ : ∃ m, k = m + 1 := ⟨k - 1, by omega⟩
    rw [laws_markIntS.l0_eq, if_pos (by omega), if_pos (by omega), if_pos (by omega), wrap_next (show i < n by omega) (by omega), wrap_id (x := x1 + 1) (by omega) (by omega), ih k (i + 1) _ _ (by omega) (by simpa using hl) (by omega) (by omega) (by omega)]
    simp only [Int.toNat_natCast]
    rw [set_take _ _ _ (by omega), List.append_assoc]
    simp only [mkI, List.singleton_append]
    rw [show x1 + 1 + (d : Int) = x1 + ((d + 1 : Nat) : Int) by omega]
theorem markI_f (l : List Int) (a : Int) (hn : l.length ≤ 2000000) (h0 : 0 ≤ a) (h1 : a ≤ 4000000) (k : Nat) (hk : l.length + 1 < k) : laws_markIntS.f k a l = some (a + l.length, mkI a l.length) := by
  obtain ⟨k, rfl⟩ : ∃ m, k = m + 1 := ⟨k - 1, by omega⟩
  rw [laws_markIntS.f_eq]
  have := markI_loop l.length hn k l.length k 0 l a (by omega) rfl (by omega) h0 (by omega)
  simpa using this
theorem heldI_loop (x0 : List Int) (hn : x0.length ≤ 2000000) (K : Nat) : ∀ (d k i : Nat) (x1 : Int), i + d = x0.length → x0.drop i = mkI x1 d → d < k → 0 ≤ x1 → x1 ≤ 4000000 + i →
    laws_heldIntS.l0 K k x0 x1 (i : Int) = some (x1 + d) := by
  intro d
  induction d with
  | zero =>
    intro k i x1 hi hl hk h0 h1
    obtain ⟨k, rfl⟩ : ∃ m, k = m + 1 := ⟨k - 1, by omega⟩
    rw [laws_heldIntS.l0_eq, if_neg (by omega)]
    simp
  | succ d ih =>
    intro k i x1 hi hl hk h0 h1
    obtain ⟨k, rfl⟩ : ∃ m, k = m + 1 := ⟨k - 1, by omega⟩
    rw [drop_cons x0 i (by omega)] at hl
    simp only [mkI, List.cons.injEq] at hl
    rw [laws_heldIntS.l0_eq, if_pos (by omega), if_pos (by omega), if_pos (by omega), rd_at x0 i (by omega), if_neg (by simpa using hl.1), wrap_next (show i < x0.length by omega) (by omega), wrap_id (x := x1 + 1) (by omega) (by omega), ih k (i + 1) _ (by omega) hl.2 (by omega) (by omega) (by omega),
      show x1 + 1 + (d : Int) = x1 + ((d + 1 : Nat) : Int) by omega]
theorem heldI_f (a : Int) (n : Nat) (hn : n ≤ 2000000) (h0 : 0 ≤ a) (h1 : a ≤ 4000000) (k : Nat) (hk : n + 1 < k) : laws_heldIntS.f k (mkI a n) a = some (a + n) := by
  obtain ⟨k, rfl⟩ : ∃ m, k = m + 1 := ⟨k - 1, by omega⟩
  rw [laws_heldIntS.f_eq]
  have := heldI_loop (mkI a n) (by rw [mkI_length]; exact hn) k n k 0 a (by rw [mkI_length]; omega) rfl (by omega) h0 (by omega)
  simpa using this
end Go.Vm.Pu
namespace Go.Vm.Pu
open Go Go.RowKit Go.Vm
set_option linter.unusedVariables false
set_option linter.unusedSimpArgs false
theorem inB_f (k : Nat) (x lo hi : Int) (hk : 1 ≤ k) : spec_l01In.f k x lo hi = some (decide (lo ≤ x ∧ x ≤ hi)) := by
  obtain ⟨k, rfl⟩ : ∃ m, k = m + 1 := ⟨k - 1, by omega⟩
  rw [spec_l01In.f_eq]
  by_cases h : lo ≤ x
  · rw [if_pos h]
    by_cases h2 : x ≤ hi <;> simp [h, h2]
  · rw [if_neg h]; simp [h]
def sm : List Int → Int
  | [] => 0
  | x :: l => x + sm l
def okw (x : Int) : Prop := 0 ≤ x ∧ x ≤ 1000000
instance (x : Int) : Decidable (okw x) := inferInstanceAs (Decidable (_ ∧ _))
theorem sm_ok : ∀ {l : List Int}, (∀ x ∈ l, okw x) → 0 ≤ sm l ∧ sm l ≤ 1000000 * l.length ∧ ∀ x ∈ l, x ≤ sm l
  | [], _ => by simp [sm]
  | a :: l, h => by
    obtain ⟨h1, h2, h3⟩ := sm_ok (l := l) fun x hx => h x (by simp [hx])
    have ha := h a (by simp)
    unfold okw at ha
    simp only [sm, List.length_cons]
    refine ⟨by omega, by omega, fun x hx => ?_⟩
    rcases List.mem_cons.1 hx with e | e
    · omega
    · have := h3 x e; omega
theorem not_ok {l : List Int} {i : Nat} (h : i < l.length) (hb : ¬ okw l[i]) : ¬ ∀ x ∈ l.drop i, okw x := by
  intro H
  rw [drop_cons l i h] at H
  exact hb (H _ (List.mem_cons_self ..))
theorem all_ok {l : List Int} {i : Nat} (h : i < l.length) (hb : okw l[i]) : (∀ x ∈ l.drop i, okw x) ↔ ∀ x ∈ l.drop (i + 1), okw x := by
  rw [drop_cons l i h]
  constructor
  · intro H x hx; exact H x (List.mem_cons_of_mem _ hx)
  · intro H x hx
    rcases List.mem_cons.1 hx with e | e
    · rw [e]; exact hb
    · exact H x e
theorem ss_l0 (K : Nat) (c : Int) (w : List Int) (hn : w.length ≤ 40) (hK : 1 ≤ K) : ∀ (d k i : Nat) (S : Int), i + d = w.length → d < k → 0 ≤ S → S ≤ 1000000 * i →
    spec_SplitCents.l0 K k c w S (i : Int) = if (∀ x ∈ w.drop i, okw x) then (if S + sm (w.drop i) = 0 then some (false, ([] : List Int)) else spec_SplitCents.l1 K K c w (S + sm (w.drop i)) c 0 [] []) else some (false, ([] : List Int)) := by
  intro d
  induction d with
  | zero =>
    intro k i S hi hk h0 h1
    obtain ⟨k, rfl⟩ : ∃ m, k = m + 1 := ⟨k - 1, by omega⟩
    rw [spec_SplitCents.l0_eq, if_neg (by omega), List.drop_of_length_le (by omega), if_pos (c := ∀ x ∈ ([] : List Int), okw x) (fun x hx => by cases hx)]
    simp only [sm, Int.add_zero]
  | succ d ih =>
    intro k i S hi hk h0 h1
    obtain ⟨k, rfl⟩ : ∃ m, k = m + 1 := ⟨k - 1, by omega⟩
    have hl : i < w.length := by omega
    rw [spec_SplitCents.l0_eq, if_pos (by omega), if_pos (by omega), if_pos (by omega), inB_f K _ _ _ hK, bs, rd_at w i hl]
    by_cases h : okw w[i]
    · have h' := h
      unfold okw at h
      have e : decide (0 ≤ w[i] ∧ w[i] ≤ 1000000) = true := decide_eq_true h
      rw [e, if_neg (by decide), if_pos (by omega), if_pos (by omega), wrap_next hl (by omega), wrap_id (by omega) (by omega), ih k (i + 1) _ (by omega) (by omega) (by omega) (by omega)]
      have e2 : S + w[i] + sm (w.drop (i + 1)) = S + sm (w.drop i) := by rw [drop_cons w i hl]; simp only [sm]; omega
      rw [e2]
      by_cases H : ∀ x ∈ w.drop i, okw x
      · rw [if_pos H, if_pos ((all_ok hl h').1 H)]
      · rw [if_neg H, if_neg (fun q => H ((all_ok hl h').2 q))]
    · have e : decide (0 ≤ w[i] ∧ w[i] ≤ 1000000) = false := decide_eq_false h
      rw [e, if_pos (by decide), if_neg (not_ok hl h)]
theorem is_l0 (K : Nat) (c : Int) (w : List Int) (hn : w.length ≤ 40) : ∀ (d k i : Nat) (S : Int), i + d = w.length → d < k → 0 ≤ S → S ≤ 1000000 * i →
    impl_SplitCents.l0 K k w (w.length : Int) (i : Int) c w S = if (∀ x ∈ w.drop i, okw x) then (if S + sm (w.drop i) = 0 then some (false, ([] : List Int)) else impl_SplitCents.l1 K K c w (w.length : Int) 0 c w (S + sm (w.drop i)) [] []) else some (false, ([] : List Int)) := by
  intro d
  induction d with
  | zero =>
    intro k i S hi hk h0 h1
    obtain ⟨k, rfl⟩ : ∃ m, k = m + 1 := ⟨k - 1, by omega⟩
    rw [impl_SplitCents.l0_eq, if_neg (by omega), List.drop_of_length_le (by omega), if_pos (c := ∀ x ∈ ([] : List Int), okw x) (fun x hx => by cases hx)]
    simp only [sm, Int.add_zero]
  | succ d ih =>
    intro k i S hi hk h0 h1
    obtain ⟨k, rfl⟩ : ∃ m, k = m + 1 := ⟨k - 1, by omega⟩
    have hl : i < w.length := by omega
    rw [impl_SplitCents.l0_eq, if_pos (by omega), if_pos (by omega), if_pos (by omega), rd_at w i hl]
    by_cases h : okw w[i]
    · have h' := h
      unfold okw at h
      rw [if_neg (by omega), if_neg (by omega), wrap_next hl (by omega), wrap_id (by omega) (by omega), ih k (i + 1) _ (by omega) (by omega) (by omega) (by omega)]
      have e2 : S + w[i] + sm (w.drop (i + 1)) = S + sm (w.drop i) := by rw [drop_cons w i hl]; simp only [sm]; omega
      rw [e2]
      by_cases H : ∀ x ∈ w.drop i, okw x
      · rw [if_pos H, if_pos ((all_ok hl h').1 H)]
      · rw [if_neg H, if_neg (fun q => H ((all_ok hl h').2 q))]
    · rw [if_neg (not_ok hl h)]
      unfold okw at h
      by_cases h2 : w[i] < 0
      · rw [if_pos h2]
      · rw [if_neg h2, if_pos (by omega)]
section
variable {c s : Int} {w : List Int}
variable (c s) in
def flo (x : Int) : Int := Int.tdiv (c * x) s
variable (c s) in
def kyo (x : Int) : Int := Int.tmod (c * x) s
theorem fl_bd (h : CK c s w) (hs : ∀ x ∈ w, x ≤ s) {x : Int} (hx : x ∈ w) : 0 ≤ flo c s x ∧ flo c s x ≤ c ∧ 0 ≤ kyo c s x ∧ kyo c s x < s ∧ 0 ≤ c * x ∧ c * x ≤ 1000000000000000000 ∧ c * x = s * flo c s x + kyo c s x := by
  obtain ⟨e0, e1⟩ := h.el _ hx
  have p0 : 0 ≤ c * x := Int.mul_nonneg h.c0 e0
  have p1 : c * x ≤ 1000000000000 * 1000000 := Int.mul_le_mul h.c1 e1 e0 (by omega)
  have h0 := h.s0
  have p2 : c * x ≤ c * s := Int.mul_le_mul_of_nonneg_left (hs x hx) h.c0
  unfold flo kyo
  refine ⟨Int.tdiv_nonneg p0 (by omega), ?_, Int.tmod_nonneg _ p0, Int.tmod_lt_of_pos _ (by omega), p0, by omega, ?_⟩
  · rw [Int.tdiv_eq_ediv_of_nonneg p0]
    exact Int.ediv_le_of_le_mul (by omega) p2
  · exact (Int.mul_tdiv_add_tmod (c * x) s).symm
theorem ss_l1 (h : CK c s w) (hs : ∀ x ∈ w, x ≤ s) (K : Nat) : ∀ (d k i : Nat) (l : Int) (out rest : List Int), i + d = w.length → d < k → out.length = i → rest.length = i → -(1000000000000 * (i : Int)) ≤ l → l ≤ 1000000000000 →
    spec_SplitCents.l1 K k c w s l (i : Int) out rest = spec_SplitCents.l2 K K (l - sm ((w.drop i).map (flo c s))) (out ++ (w.drop i).map (flo c s)) (rest ++ (w.drop i).map (kyo c s)) := by
  intro d
  have hn := h.len
  have h0 := h.s0
  have hc1 := h.c1
  induction d with
  | zero =>
    intro k i l out rest hi hk ho hr h1 h2
    obtain ⟨k, rfl⟩ : ∃ m, k = m + 1 := ⟨k - 1, by omega⟩
    rw [spec_SplitCents.l1_eq, if_neg (by omega), List.drop_of_length_le (by omega)]
    simp [sm]
  | succ d ih =>
    intro k i l out rest hi hk ho hr h1 h2
    obtain ⟨k, rfl⟩ : ∃ m, k = m + 1 := ⟨k - 1, by omega⟩
    have hl : i < w.length := by omega
    obtain ⟨b0, b1, b2, b3, b4, b5, b6⟩ := fl_bd h hs (List.getElem_mem hl)
    have ew : wrap64 (c * w[i]) = c * w[i] := wrap_id (by omega) (by omega)
    have ef : wrap64 (Int.tdiv (c * w[i]) s) = flo c s w[i] := wrap_id (by show _ ≤ flo c s w[i]; omega) (by show flo c s w[i] ≤ _; omega)
    rw [spec_SplitCents.l1_eq, if_pos (by omega), if_pos (by omega), if_pos (by omega), if_pos (by omega), if_pos (by omega), if_pos (by omega), if_pos (by omega), if_pos (by omega), if_pos (by omega), if_pos (by omega), if_pos (by omega), if_pos (by omega), rd_at w i hl, ew, ef, wrap_next hl (by omega), wrap_id (x := l - flo c s w[i]) (by omega) (by omega)]
    have ek : Int.tmod (c * w[i]) s = kyo c s w[i] := rfl
    rw [ek, ih k (i + 1) _ _ _ (by omega) (by omega) (by simp; omega) (by simp; omega) (by omega) (by omega), drop_cons w i hl]
    simp only [List.map_cons, sm, List.append_assoc, List.singleton_append]
    congr 1
    omega
def ordL : Nat → Nat → List Int
  | _, 0 => []
  | i, n + 1 => (i : Int) :: ordL (i + 1) n
theorem ordL_mem : ∀ {n i : Nat} {x : Int}, x ∈ ordL i n ↔ (i : Int) ≤ x ∧ x < (i : Int) + n
  | 0, i, x => by simp [ordL]
  | n + 1, i, x => by
    simp only [ordL, List.mem_cons, ordL_mem (n := n) (i := i + 1)]
    omega
theorem ordL_lt : ∀ (n i : Nat), (ordL i n).Pairwise (· < ·)
  | 0, i => List.Pairwise.nil
  | n + 1, i => List.pairwise_cons.2 ⟨fun y hy => by have := ordL_mem.1 hy; omega, ordL_lt n (i + 1)⟩
theorem ordL_len : ∀ (n i : Nat), (ordL i n).length = n
  | 0, i => rfl
  | n + 1, i => by simp [ordL, ordL_len n]
theorem is_l1 (h : CK c s w) (hs : ∀ x ∈ w, x ≤ s) (K : Nat) : ∀ (d k i : Nat) (l : Int) (sh od : List Int), i + d = w.length → d < k → sh.length = i → od.length = i → -(1000000000000 * (i : Int)) ≤ l → l ≤ 1000000000000 →
    impl_SplitCents.l1 K k l w (w.length : Int) (i : Int) c w s sh od = (slices_SortStableFunc.f K c w s (od ++ ordL i d)).bind (fun r1 => (if 0 ≤ (l - sm ((w.drop i).map (flo c s))) then (if (l - sm ((w.drop i).map (flo c s))) ≤ (r1.2.2.2.length : Int) then impl_SplitCents.l2 K K (cut r1.2.2.2 0 (l - sm ((w.drop i).map (flo c s)))) ((cut r1.2.2.2 0 (l - sm ((w.drop i).map (flo c s)))).length : Int) 0 (sh ++ (w.drop i).map (flo c s)) else none) else none)) := by
  intro d
  have hn := h.len
  have h0 := h.s0
  have hc1 := h.c1
  induction d with
  | zero =>
    intro k i l sh od hi hk ho hr h1 h2
    obtain ⟨k, rfl⟩ : ∃ m, k = m + 1 := ⟨k - 1, by omega⟩
    rw [impl_SplitCents.l1_eq, if_neg (by omega), List.drop_of_length_le (by omega)]
    simp [sm, ordL]
  | succ d ih =>
    intro k i l sh od hi hk ho hr h1 h2
    obtain ⟨k, rfl⟩ : ∃ m, k = m + 1 := ⟨k - 1, by omega⟩
    have hl : i < w.length := by omega
    obtain ⟨b0, b1, b2, b3, b4, b5, b6⟩ := fl_bd h hs (List.getElem_mem hl)
    have ew : wrap64 (c * w[i]) = c * w[i] := wrap_id (by omega) (by omega)
    have ef : wrap64 (Int.tdiv (c * w[i]) s) = flo c s w[i] := wrap_id (by show _ ≤ flo c s w[i]; omega) (by show flo c s w[i] ≤ _; omega)
    have er : rdI (sh ++ [flo c s w[i]]) (i : Int) = flo c s w[i] := rdP sh _ [] (by omega)
    rw [impl_SplitCents.l1_eq, if_pos (by omega), if_pos (by omega), if_pos (by omega), if_pos (by omega), if_pos (by omega), if_pos (by omega), if_pos (by simp; omega), if_pos (by omega), rd_at w i hl, ew, ef, er, wrap_next hl (by omega), wrap_id (x := l - flo c s w[i]) (by omega) (by omega),
      ih k (i + 1) _ _ _ (by omega) (by omega) (by simp; omega) (by simp; omega) (by omega) (by omega), drop_cons w i hl]
    have e5 : l - flo c s w[i] - sm ((w.drop (i + 1)).map (flo c s)) = l - sm ((w[i] :: w.drop (i + 1)).map (flo c s)) := by simp only [List.map_cons, sm]; omega
    have e6 : sh ++ [flo c s w[i]] ++ (w.drop (i + 1)).map (flo c s) = sh ++ (w[i] :: w.drop (i + 1)).map (flo c s) := by rw [List.append_assoc]; rfl
    have e7 : od ++ [(i : Int)] ++ ordL (i + 1) d = od ++ ordL i (d + 1) := by simp [ordL]
    rw [e5, e6, e7]
/-! ### what is left over -/
theorem sm_mul : ∀ (l : List Int), (∀ x ∈ l, c * x = s * flo c s x + kyo c s x) → c * sm l = s * sm (l.map (flo c s)) + sm (l.map (kyo c s))
  | [], _ => by simp [sm]
  | a :: l, h => by
    have h1 := sm_mul l fun x hx => h x (by simp [hx])
    have h2 := h a (by simp)
    simp only [List.map_cons, sm, Int.mul_add]
    omega
theorem sm_ky (h : CK c s w) (hs : ∀ x ∈ w, x ≤ s) : ∀ (l : List Int), (∀ x ∈ l, x ∈ w) → 0 ≤ sm (l.map (kyo c s)) ∧ sm (l.map (kyo c s)) ≤ (s - 1) * (l.length : Int)
  | [], _ => by simp [sm]
  | a :: l, hw => by
    obtain ⟨h1, h2⟩ := sm_ky h hs l fun x hx => hw x (by simp [hx])
    obtain ⟨_, _, b2, b3, _⟩ := fl_bd h hs (hw a (by simp))
    simp only [List.map_cons, sm, List.length_cons]
    rw [show ((l.length + 1 : Nat) : Int) = (l.length : Int) + 1 by omega, Int.mul_add]
    omega
theorem left_bd (h : CK c s w) (hs : ∀ x ∈ w, x ≤ s) (hsum : s = sm w) : 0 ≤ c - sm (w.map (flo c s)) ∧ c - sm (w.map (flo c s)) ≤ (w.length : Int) ∧ s * (c - sm (w.map (flo c s))) = sm (w.map (kyo c s)) := by
  have h1 := sm_mul (c := c) (s := s) w fun x hx => (fl_bd h hs hx).2.2.2.2.2.2
  obtain ⟨h2, h3⟩ := sm_ky h hs w fun _ hx => hx
  have h0 := h.s0
  have e : s * (c - sm (w.map (flo c s))) = sm (w.map (kyo c s)) := by
    rw [Int.mul_sub]
    rw [← hsum, Int.mul_comm c s] at h1
    omega
  refine ⟨?_, ?_, e⟩
  · rcases Int.lt_or_le (c - sm (w.map (flo c s))) 0 with hh | hh
    · have := Int.mul_neg_of_pos_of_neg (show 0 < s by omega) hh
      omega
    · exact hh
  · rcases Int.lt_or_le (w.length : Int) (c - sm (w.map (flo c s))) with hh | hh
    · have := Int.mul_lt_mul_of_pos_left hh (show 0 < s by omega)
      have e3 : (s - 1) * (w.length : Int) = s * (w.length : Int) - (w.length : Int) := by rw [Int.sub_mul]; omega
      omega
    · exact hh
end
end Go.Vm.Pu
namespace Go.Vm.Pu
open Go Go.RowKit Go.Vm
set_option linter.unusedVariables false
set_option linter.unusedSimpArgs false
theorem rd_set (r : List Int) (p j : Int) (v : Int) (hp : 0 ≤ p ∧ p < (r.length : Int)) (hj : 0 ≤ j ∧ j < (r.length : Int)) : rdI (r.set p.toNat v) j = if j = p then v else rdI r j := by
  obtain ⟨a, rfl⟩ := Int.eq_ofNat_of_zero_le hp.1
  obtain ⟨b, rfl⟩ := Int.eq_ofNat_of_zero_le hj.1
  rw [rd_at _ b (by simp; omega), rd_at r b (by omega)]
  simp only [Int.toNat_natCast, List.getElem_set]
  by_cases e : a = b
  · subst e; simp
  · rw [if_neg e, if_neg (by omega)]
def mk1 (P r : List Int) : List Int := P.foldl (fun r i => r.set i.toNat (-1)) r
def bump (P o : List Int) : List Int := P.foldl (fun o i => o.set i.toNat (wrap64 (rdI o i + 1))) o
theorem mk1_len : ∀ (P r : List Int), (mk1 P r).length = r.length
  | [], r => rfl
  | p :: P, r => by show (mk1 P _).length = _; rw [mk1_len P]; simp
theorem bump_len : ∀ (P r : List Int), (bump P r).length = r.length
  | [], r => rfl
  | p :: P, r => by show (bump P _).length = _; rw [bump_len P]; simp
theorem mk1_rd : ∀ (P r : List Int), (∀ p ∈ P, 0 ≤ p ∧ p < (r.length : Int)) → ∀ j, 0 ≤ j ∧ j < (r.length : Int) → (j ∈ P → rdI (mk1 P r) j = -1) ∧ (j ∉ P → rdI (mk1 P r) j = rdI r j)
  | [], r, _, j, hj => ⟨fun h => (by cases h), fun _ => rfl⟩
  | p :: P, r, h, j, hj => by
    have h1 := mk1_rd P (r.set p.toNat (-1)) (fun q hq => by rw [List.length_set]; exact h q (List.mem_cons_of_mem _ hq)) j (by rw [List.length_set]; exact hj)
    rw [rd_set r p j (-1) (h p (by simp)) hj] at h1
    have e : mk1 (p :: P) r = mk1 P (r.set p.toNat (-1)) := rfl
    rw [e]
    by_cases hP : j ∈ P
    · exact ⟨fun _ => h1.1 hP, fun q => absurd (List.mem_cons_of_mem _ hP) q⟩
    · refine ⟨fun q => ?_, fun q => ?_⟩
      · rcases List.mem_cons.1 q with e2 | e2
        · rw [h1.2 hP, if_pos e2]
        · exact absurd e2 hP
      · rw [h1.2 hP, if_neg (fun e2 => q (by rw [e2]; simp))]
/-- The first of the greatest. -/
theorem best_l3 (K fu0 : Nat) (l : Int) (out r : List Int) (hr2 : r.length ≤ 40) (ho : out.length = r.length) (hl0 : 0 < l) (hl : l ≤ 1000) : ∀ (d k i b : Nat), i + d = r.length → d < k → b < r.length → (b = 0 ∨ b < i) →
    (∀ j : Nat, j < i → rdI r j ≤ rdI r b ∧ (j < b → rdI r j < rdI r b)) →
    ∃ b' : Nat, b' < r.length ∧ (∀ j : Nat, j < r.length → rdI r j ≤ rdI r b' ∧ (j < b' → rdI r j < rdI r b')) ∧
      spec_SplitCents.l3 K fu0 k l (b : Int) (i : Int) out r = spec_SplitCents.l2 K fu0 (l - 1) (out.set (Int.toNat (b' : Int)) (wrap64 (rdI out (b' : Int) + 1))) (r.set (Int.toNat (b' : Int)) (-1)) := by
  intro d
  induction d with
  | zero =>
    intro k i b hi hk hb hb2 H
    obtain ⟨k, rfl⟩ : ∃ m, k = m + 1 := ⟨k - 1, by omega⟩
    refine ⟨b, hb, fun j hj => H j (by omega), ?_⟩
    rw [spec_SplitCents.l3_eq, if_neg (by omega), if_pos (by omega), if_pos (by omega), if_pos (by omega), if_pos (by omega), if_pos (by omega), if_pos (by omega), wrap_id (x := l - 1) (by omega) (by omega)]
  | succ d ih =>
    intro k i b hi hk hb hb2 H
    obtain ⟨k, rfl⟩ : ∃ m, k = m + 1 := ⟨k - 1, by omega⟩
    have hl : i < r.length := by omega
    rw [spec_SplitCents.l3_eq, if_pos (by omega), if_pos (by omega), if_pos (by omega), if_pos (by omega), if_pos (by omega), wrap_next hl (by omega)]
    by_cases h : rdI r (i : Int) > rdI r (b : Int)
    · rw [if_pos h]
      exact ih k (i + 1) i (by omega) (by omega) hl (by omega) (by
        intro j hj
        by_cases e : j = i
        · subst e; exact ⟨Int.le_refl _, fun q => absurd q (by omega)⟩
        · have := H j (by omega)
          exact ⟨by omega, fun _ => by omega⟩)
    · rw [if_neg h]
      exact ih k (i + 1) b (by omega) (by omega) hb (by omega) (by
        intro j hj
        by_cases e : j = i
        · subst e; exact ⟨by omega, fun q => absurd q (by omega)⟩
        · exact H j (by omega))
section
variable {c s : Int} {w : List Int}
theorem kys_rd (i : Int) (h0 : 0 ≤ i) (h1 : i < (w.length : Int)) : rdI (w.map (kyo c s)) i = key c s w i := by
  obtain ⟨n, rfl⟩ := Int.eq_ofNat_of_zero_le h0
  rw [rd_at _ n (by simp; omega), List.getElem_map]
  unfold key kyo
  rw [rd_at w n (by omega)]
theorem pick_l2 (h : CK c s w) (K : Nat) (hK : 100 < K) (out Z : List Int) (ho : out.length = w.length) (hZ : Srt c s w Z) (hP : Pl w Z) (hall : ∀ x : Int, 0 ≤ x → x < (w.length : Int) → x ∈ Z) : ∀ (A P Q : List Int) (k : Nat), Z = P ++ A ++ Q → A.length < k → Z.length ≤ 40 →
    spec_SplitCents.l2 K k (A.length : Int) (bump P out) (mk1 P (w.map (kyo c s))) = some (true, bump (P ++ A) out) := by
  have hn := h.len
  intro A
  induction A with
  | nil =>
    intro P Q k hz hk h40
    obtain ⟨k, rfl⟩ : ∃ m, k = m + 1 := ⟨k - 1, by omega⟩
    rw [spec_SplitCents.l2_eq, if_neg (by simp)]
    simp
  | cons a A ih =>
    intro P Q k hz hk h40
    obtain ⟨k, rfl⟩ : ∃ m, k = m + 1 := ⟨k - 1, by omega⟩
    have hlz := congrArg List.length hz
    simp only [List.length_append, List.length_cons] at hlz hk
    have hml : (mk1 P (w.map (kyo c s))).length = w.length := by rw [mk1_len]; simp
    have ha := hP a (by rw [hz]; simp)
    have hPP : ∀ p ∈ P, 0 ≤ p ∧ p < ((w.map (kyo c s)).length : Int) := fun p hp => by
      rw [List.length_map]; exact hP p (by rw [hz]; simp [hp])
    have hrd := fun (j : Int) (h0 : 0 ≤ j) (h1 : j < (w.length : Int)) => mk1_rd P (w.map (kyo c s)) hPP j ⟨h0, by rw [List.length_map]; exact h1⟩
    -- the order
    have hZ' := hZ
    unfold Srt at hZ'
    rw [hz, List.append_assoc, List.pairwise_append] at hZ'
    obtain ⟨_, o1, o2⟩ := hZ'
    rw [List.cons_append, List.pairwise_cons] at o1
    have haP : a ∉ P := fun q => bef_irr (o2 a q a (by simp)) (o2 a q a (by simp))
    obtain ⟨b, b1, b2, b3⟩ := best_l3 K k ((A.length : Int) + 1) (bump P out) (mk1 P (w.map (kyo c s))) (by omega) (by rw [bump_len]; omega) (by omega) (by omega) (mk1 P (w.map (kyo c s))).length K 0 0 (by omega) (by omega) (by omega) (.inl rfl) (fun j hj => absurd hj (by omega))
    have hba : (b : Int) = a := by
      have hb := hall (b : Int) (by omega) (by omega)
      obtain ⟨n, rfl⟩ := Int.eq_ofNat_of_zero_le ha.1
      have m1 := b2 n (by omega)
      have ka := (hrd n (by omega) (by omega)).2 haP
      rw [kys_rd _ (by omega) (by omega)] at ka
      have kb := key_bd h n (by omega) (by omega)
      rw [hz] at hb
      simp only [List.mem_append, List.mem_cons] at hb
      by_cases hbP : (b : Int) ∈ P
      · have := (hrd b (by omega) (by omega)).1 hbP
        omega
      · have kb2 := (hrd b (by omega) (by omega)).2 hbP
        rw [kys_rd _ (by omega) (by omega)] at kb2
        by_cases e : (b : Int) = (n : Int)
        · exact e
        · have hbA : (b : Int) ∈ A ++ Q := by
            rcases hb with (h1 | h1 | h1) | h1
            · exact absurd h1 hbP
            · exact absurd h1 e
            · exact List.mem_append_left _ h1
            · exact List.mem_append_right _ h1
          have hbef := o1.1 _ hbA
          unfold Bef at hbef
          rcases hbef with q | ⟨q1, q2⟩
          · omega
          · have := m1.2 (by omega)
            omega
    rw [spec_SplitCents.l2_eq, show ((a :: A).length : Int) = (A.length : Int) + 1 by simp, if_pos (by omega)]
    have b3' := b3
    simp only [Int.natCast_zero] at b3'
    have e0 : ((0 : Nat) : Int) = 0 := rfl
    rw [e0] at b3
    rw [b3, hba, show (A.length : Int) + 1 - 1 = (A.length : Int) by omega]
    have e1 : (bump P out).set a.toNat (wrap64 (rdI (bump P out) a + 1)) = bump (P ++ [a]) out := by simp [bump, List.foldl_append]
    have e2 : (mk1 P (w.map (kyo c s))).set a.toNat (-1) = mk1 (P ++ [a]) (w.map (kyo c s)) := by simp [mk1, List.foldl_append]
    rw [e1, e2, ih (P ++ [a]) Q k (by rw [hz]; simp) (by omega) h40]
    simp
theorem bump_l2 (K n : Nat) (hn : n ≤ 40) : ∀ (A P : List Int) (k : Nat) (o : List Int) (T : List Int), T = P ++ A → A.length < k → T.length ≤ 40 → o.length = n → (∀ x ∈ T, 0 ≤ x ∧ x < (n : Int)) →
    impl_SplitCents.l2 K k T (T.length : Int) (P.length : Int) o = some (true, bump A o) := by
  intro A
  induction A with
  | nil =>
    intro P k o T hT hk h40 ho hx
    obtain ⟨k, rfl⟩ : ∃ m, k = m + 1 := ⟨k - 1, by omega⟩
    rw [impl_SplitCents.l2_eq, if_neg (by rw [hT]; simp)]
    rfl
  | cons a A ih =>
    intro P k o T hT hk h40 ho hx
    obtain ⟨k, rfl⟩ : ∃ m, k = m + 1 := ⟨k - 1, by omega⟩
    have hl := congrArg List.length hT
    simp only [List.length_append, List.length_cons] at hl hk
    have ha := hx a (by rw [hT]; simp)
    have er : rdI T (P.length : Int) = a := by rw [hT]; exact rdP P a A rfl
    rw [impl_SplitCents.l2_eq, if_pos (by omega), if_pos (by omega), if_pos (by omega), er, if_pos (by omega), if_pos (by omega), if_pos (by omega), if_pos (by omega), wrap_id (x := (P.length : Int) + 1) (by omega) (by omega)]
    have e : (P.length : Int) + 1 = ((P ++ [a]).length : Int) := by simp
    rw [e, ih (P ++ [a]) k _ T (by rw [hT]; simp) (by omega) h40 (by rw [List.length_set]; exact ho) hx]
    rfl
/-- Where the parts go: the order of the places, the parts. -/
theorem both (h : CK c s w) (hs : s = sm w) (K : Nat) (hK : 300 < K) : ∃ Z, Z.Perm (ordL 0 w.length) ∧ Srt c s w Z ∧
    spec_SplitCents.l1 K K c w s c 0 [] [] = some (true, bump (Z.take (c - sm (w.map (flo c s))).toNat) (w.map (flo c s))) ∧
    impl_SplitCents.l1 K K c w (w.length : Int) 0 c w s [] [] = some (true, bump (Z.take (c - sm (w.map (flo c s))).toNat) (w.map (flo c s))) := by
  have hn := h.len
  have hle : ∀ x ∈ w, x ≤ s := by rw [hs]; exact (sm_ok (l := w) h.el).2.2
  obtain ⟨l0, l1, l2⟩ := left_bd h hle hs
  have hc0 := h.c0
  have hc1 := h.c1
  obtain ⟨Z, z1, z2, z3⟩ := stable_f h (ordL 0 w.length) K (by rw [ordL_len]; omega) (ordL_lt _ _) (fun x hx => by have := ordL_mem.1 hx; omega) (by omega)
  have hzl : Z.length = w.length := by rw [z1.length_eq, ordL_len]
  have hPZ : Pl w Z := fun x hx => by have := ordL_mem.1 (z1.mem_iff.1 hx); omega
  generalize hL : c - sm (w.map (flo c s)) = left at l0 l1 l2
  obtain ⟨m, rfl⟩ := Int.eq_ofNat_of_zero_le l0
  refine ⟨Z, z1, z2, ?_, ?_⟩
  · have := ss_l1 h hle K w.length K 0 c [] [] (by omega) (by omega) rfl rfl (by omega) (by omega)
    simp only [List.drop_zero, List.nil_append, Int.natCast_zero] at this
    have e0 : ((0 : Nat) : Int) = 0 := rfl
    try rw [e0] at this
    rw [this, hL]
    have ht : (Z.take m).length = m := by rw [List.length_take]; omega
    have := pick_l2 h K (by omega) (w.map (flo c s)) Z (by simp) z2 hPZ (fun x h0 h1 => z1.mem_iff.2 (ordL_mem.2 (by omega))) (Z.take m) [] (Z.drop m) K (by simp) (by omega) (by omega)
    rw [ht] at this
    simpa [bump, mk1] using this
  · have := is_l1 h hle K w.length K 0 c [] [] (by omega) (by omega) rfl rfl (by omega) (by omega)
    simp only [List.drop_zero, List.nil_append] at this
    have e0 : ((0 : Nat) : Int) = 0 := rfl
    rw [e0] at this
    rw [this, hL, z3, bs]
    have ec : cut Z 0 (m : Int) = Z.take m := by simp [cut]
    rw [if_pos (by omega), if_pos (by show (m : Int) ≤ (Z.length : Int); omega)]
    show impl_SplitCents.l2 K K (cut Z 0 (m : Int)) ((cut Z 0 (m : Int)).length : Int) 0 _ = _
    rw [ec]
    exact bump_l2 K w.length hn (Z.take m) [] K _ _ (by simp) (by rw [List.length_take]; omega) (by rw [List.length_take]; omega) (by simp) (fun x hx => hPZ x (List.mem_of_mem_take hx))
end
/-- What both return. -/
theorem split_both (c : Int) (w : List Int) (K : Nat) (hK : 400 < K) : ∃ b p, spec_SplitCents.f K c w = some (b, p) ∧ impl_SplitCents.f K c w = some (b, p) ∧
    ((b = false ∧ p = []) ∨ (b = true ∧ w.length ≤ 40 ∧ 1 ≤ w.length ∧ CK c (sm w) w ∧ ∃ Z, Z.Perm (ordL 0 w.length) ∧ Srt c (sm w) w Z ∧ p = bump (Z.take (c - sm (w.map (flo c (sm w)))).toNat) (w.map (flo c (sm w))))) := by
  obtain ⟨K, rfl⟩ : ∃ m, K = m + 1 := ⟨K - 1, by omega⟩
  rw [spec_SplitCents.f_eq, impl_SplitCents.f_eq, inB_f K _ _ _ (by omega), bs]
  by_cases h1 : 0 ≤ c ∧ c ≤ 1000000000000
  case neg =>
    refine ⟨false, [], by rw [decide_eq_false h1]; rfl, ?_, .inl ⟨rfl, rfl⟩⟩
    by_cases h2 : c < 0
    · rw [if_pos h2]
    · rw [if_neg h2, if_pos (by omega)]
  rw [decide_eq_true h1, if_neg (by decide), if_neg (by omega), if_neg (by omega), inB_f K _ _ _ (by omega), bs]
  by_cases h2 : 1 ≤ (w.length : Int) ∧ (w.length : Int) ≤ 40
  case neg =>
    refine ⟨false, [], by rw [decide_eq_false h2]; rfl, ?_, .inl ⟨rfl, rfl⟩⟩
    by_cases h3 : (w.length : Int) < 1
    · rw [if_pos h3]
    · rw [if_neg h3, if_pos (by omega)]
  rw [decide_eq_true h2, if_neg (by decide), if_neg (by omega), if_neg (by omega)]
  have e0 : ((0 : Nat) : Int) = 0 := rfl
  have a1 := ss_l0 K c w (by omega) (by omega) w.length K 0 0 (by omega) (by omega) (by omega) (by omega)
  have a2 := is_l0 K c w (by omega) w.length K 0 0 (by omega) (by omega) (by omega) (by omega)
  rw [e0, List.drop_zero, Int.zero_add] at a1 a2
  rw [a1, a2]
  by_cases h3 : ∀ x ∈ w, okw x
  case neg =>
    rw [if_neg h3, if_neg h3]
    exact ⟨false, [], rfl, rfl, .inl ⟨rfl, rfl⟩⟩
  rw [if_pos h3, if_pos h3]
  by_cases h4 : sm w = 0
  · rw [if_pos h4, if_pos h4]
    exact ⟨false, [], rfl, rfl, .inl ⟨rfl, rfl⟩⟩
  rw [if_neg h4, if_neg h4]
  obtain ⟨s1, s2, s3⟩ := sm_ok h3
  have hC : CK c (sm w) w := ⟨by omega, by omega, by omega, by omega, by omega, h3⟩
  obtain ⟨Z, z1, z2, z3, z4⟩ := both hC rfl K (by omega)
  exact ⟨true, _, z3, z4, .inr ⟨rfl, by omega, by omega, hC, Z, z1, z2, rfl⟩⟩
theorem law_SplitCents (c : Int) (w : List Int) : ∃ k, laws_FnExactSplitCents.f k c w = some true := by
  refine ⟨1048700 + 1, ?_⟩
  obtain ⟨K, hK⟩ : ∃ K, K = 1048700 := ⟨_, rfl⟩
  rw [← hK, laws_FnExactSplitCents.f_eq]
  by_cases hb : (w.length : Int) > 1048576
  · rw [if_pos hb]
  rw [if_neg hb]
  obtain ⟨b, p, e1, e2, e3⟩ := split_both c w K (by omega)
  have hp : p.length ≤ 40 := by
    rcases e3 with ⟨_, rfl⟩ | ⟨_, h1, _, _, Z, _, _, rfl⟩
    · simp
    · rw [bump_len, List.length_map]; exact h1
  have T := toIntS_f w (by omega) K (by omega)
  have Q := eqIntS_f w (by omega) K (by omega)
  have Q2 := eqIntS_f p (by omega) K (by omega)
  have M := markI_f w 1 (by omega) (by omega) (by omega) K (by omega)
  have M2 := markI_f p 1 (by omega) (by omega) (by omega) K (by omega)
  have H := heldI_f 1 p.length (by omega) (by omega) (by omega) K (by omega)
  simp only [T, e1, e2, Q, Q2, M, M2, H, bs, Bool.not_true, beq_self_eq_true, if_false, Bool.false_eq_true]
  rw [if_neg (by omega), if_neg (by omega), if_neg (by simp), if_neg (by omega), if_neg (by simp)]
end Go.Vm.Pu
namespace Go.Vm.Pu
open Go Go.RowKit Go.Vm
set_option linter.unusedVariables false
set_option linter.unusedSimpArgs false
theorem and_255 (a : Int) : 0 ≤ bitsOf .and .i64 a 255 ∧ bitsOf .and .i64 a 255 ≤ 255 := by
  have h : ((BitVec.ofInt 64 a &&& BitVec.ofInt 64 255).toNat) ≤ 255 := by
    rw [BitVec.toNat_and]
    exact Nat.and_le_right
  have e : bitsOf .and .i64 a 255 = IntKind.i64.wrap ((BitVec.ofInt 64 a &&& BitVec.ofInt 64 255).toNat : Int) := rfl
  rw [e]
  have := wrap_id (x := ((BitVec.ofInt 64 a &&& BitVec.ofInt 64 255).toNat : Int)) (by omega) (by omega)
  unfold wrap64 at this
  rw [this]
  omega
theorem byte_f (b : List Int) (hb : b.length ≤ 1048576) (i h : Int) (hi : 0 ≤ i) (k : Nat) (hk : 1 ≤ k) : ∃ x i' h', spec_l01Byte.f k b i h = some (x, b, i', h') ∧ 0 ≤ x ∧ x ≤ 255 ∧ 0 ≤ i' := by
  obtain ⟨k, rfl⟩ : ∃ m, k = m + 1 := ⟨k - 1, by omega⟩
  rw [spec_l01Byte.f_eq]
  by_cases c : i < (b.length : Int)
  · rw [if_pos c, if_pos hi, if_pos c]
    exact ⟨_, _, _, rfl, (and_255 _).1, (and_255 _).2, by rw [wrap_id (by omega) (by omega)]; omega⟩
  · rw [if_neg c]
    exact ⟨_, _, _, rfl, (and_255 _).1, (and_255 _).2, hi⟩
theorem below_f (b : List Int) (hb : b.length ≤ 1048576) (n i h : Int) (hi : 0 ≤ i) (k : Nat) (hk : 2 ≤ k) : ∃ x i' h', spec_l01Below.f k n b i h = some (x, b, i', h') ∧ 0 ≤ x ∧ (0 < n → x < n) ∧ (n ≤ 0 → x = 0) ∧ 0 ≤ i' := by
  obtain ⟨k, rfl⟩ : ∃ m, k = m + 1 := ⟨k - 1, by omega⟩
  rw [spec_l01Below.f_eq]
  by_cases c : n ≤ 0
  · rw [if_pos c]
    exact ⟨0, i, h, rfl, by omega, by omega, fun _ => rfl, hi⟩
  rw [if_neg c]
  obtain ⟨x, i1, h1, e1, x0, x1, j1⟩ := byte_f b hb i h hi k (by omega)
  by_cases c2 : n ≤ 256
  · rw [if_pos c2, e1, bs, if_pos (by omega)]
    exact ⟨_, _, _, rfl, Int.tmod_nonneg _ x0, fun _ => Int.tmod_lt_of_pos _ (by omega), fun q => absurd q c, j1⟩
  · rw [if_neg c2, e1, bs]
    obtain ⟨y, i2, h2, e2, y0, y1, j2⟩ := byte_f b hb i1 h1 j1 k (by omega)
    simp only [e2, bs]
    obtain ⟨z, i3, h3, e3, z0, z1, j3⟩ := byte_f b hb i2 h2 j2 k (by omega)
    simp only [e3, bs]
    rw [if_pos (by omega), wrap_id (x := x * 65536) (by omega) (by omega), wrap_id (x := y * 256) (by omega) (by omega), wrap_id (x := x * 65536 + y * 256) (by omega) (by omega), wrap_id (x := x * 65536 + y * 256 + z) (by omega) (by omega)]
    exact ⟨_, _, _, rfl, Int.tmod_nonneg _ (by omega), fun _ => Int.tmod_lt_of_pos _ (by omega), fun q => absurd q c, j3⟩
theorem once_f (b : List Int) (hb : b.length ≤ 1048576) (n i h : Int) (hi : 0 ≤ i) (k : Nat) (hk : 3 ≤ k) : ∃ x i' h', spec_l01Once.f k n b i h = some (x, b, i', h') ∧ 0 ≤ i' := by
  obtain ⟨k, rfl⟩ : ∃ m, k = m + 1 := ⟨k - 1, by omega⟩
  obtain ⟨x, i1, h1, e1, x0, x1, x2, j1⟩ := below_f b hb n i h hi k (by omega)
  rw [spec_l01Once.f_eq, e1, bs]
  exact ⟨_, _, _, rfl, j1⟩
theorem pick_f (b : List Int) (hb : b.length ≤ 1048576) (l : List Int) (hl : 0 < l.length) (i h : Int) (hi : 0 ≤ i) (k : Nat) (hk : 3 ≤ k) : ∃ x i' h', spec_l01PickInt.f k l b i h = some (x, b, i', h') ∧ x ∈ l ∧ 0 ≤ i' := by
  obtain ⟨k, rfl⟩ : ∃ m, k = m + 1 := ⟨k - 1, by omega⟩
  obtain ⟨x, i1, h1, e1, x0, x1, x2, j1⟩ := below_f b hb (l.length : Int) i h hi k (by omega)
  have := x1 (by omega)
  rw [spec_l01PickInt.f_eq, e1, bs, if_pos x0, if_pos this]
  exact ⟨_, _, _, rfl, rd_mem l x x0 this, j1⟩
theorem new_l0 (b : List Int) (hb : b.length ≤ 1048576) (K : Nat) : ∀ (d k i : Nat) (h : Int), i + d = b.length → d < k → ∃ h', spec_l01New.l0 K k b h (i : Int) = some (b, 0, h') := by
  intro d
  induction d with
  | zero =>
    intro k i h hi hk
    obtain ⟨k, rfl⟩ : ∃ m, k = m + 1 := ⟨k - 1, by omega⟩
    rw [spec_l01New.l0_eq, if_neg (by omega)]
    exact ⟨_, rfl⟩
  | succ d ih =>
    intro k i h hi hk
    obtain ⟨k, rfl⟩ : ∃ m, k = m + 1 := ⟨k - 1, by omega⟩
    rw [spec_l01New.l0_eq, if_pos (by omega)]
    by_cases c : (i : Int) < 4000
    · rw [if_pos c, if_pos (by omega), if_pos (by omega), wrap_next (show i < b.length by omega) (by omega)]
      exact ih k (i + 1) _ (by omega) (by omega)
    · rw [if_neg c]
      exact ⟨_, rfl⟩
theorem new_f (b : List Int) (hb : b.length ≤ 1048576) (k : Nat) (hk : 1048580 ≤ k) : ∃ h', spec_l01New.f k b = some (b, 0, h') := by
  obtain ⟨k, rfl⟩ : ∃ m, k = m + 1 := ⟨k - 1, by omega⟩
  rw [spec_l01New.f_eq]
  exact new_l0 b hb k b.length k 0 _ (by omega) (by omega)
theorem size_f (b : List Int) (hb : b.length ≤ 1048576) (most : Int) (hm : 2 ≤ most) (k : Nat) (hk : 1 ≤ k) : ∃ n, spec_l01Size.f k b most = some n ∧ 2 ≤ n ∧ n ≤ most := by
  obtain ⟨k, rfl⟩ : ∃ m, k = m + 1 := ⟨k - 1, by omega⟩
  have e : Int.tdiv (b.length : Int) 16 = (b.length : Int) / 16 := Int.tdiv_eq_ediv_of_nonneg (by omega)
  rw [spec_l01Size.f_eq, e, wrap_id (x := (b.length : Int) / 16) (by omega) (by omega), wrap_id (x := 2 + (b.length : Int) / 16) (by omega) (by omega)]
  by_cases c : 2 + (b.length : Int) / 16 > most
  · rw [if_pos c]; exact ⟨_, rfl, by omega, by omega⟩
  · rw [if_neg c]; exact ⟨_, rfl, by omega, by omega⟩
theorem big_f (b : List Int) (k : Nat) (hk : 1 ≤ k) : laws_big.f k b = some (decide ((b.length : Int) > 1048576)) := by
  obtain ⟨k, rfl⟩ : ∃ m, k = m + 1 := ⟨k - 1, by omega⟩
  rw [laws_big.f_eq]
end Go.Vm.Pu
namespace Go.Vm.Pu
open Go Go.RowKit Go.Vm
set_option linter.unusedVariables false
set_option linter.unusedSimpArgs false
/-! ### the draw -/
theorem dsc_j1 (b : List Int) (hb : b.length ≤ 1048576) (i h : Int) (hi : 0 ≤ i) (w : List Int) (k : Nat) (hk : 10 ≤ k) : ∃ c, spec_DrawSplitCents.j1 k b i h w = some (c, w) := by
  rw [spec_DrawSplitCents.j1_eq]
  obtain ⟨x1, i1, h1, e1, _, _, _, j1⟩ := below_f b hb 1000 i h hi k (by omega)
  simp only [e1, bs]
  obtain ⟨x2, i2, h2, e2, _, _, _, j2⟩ := below_f b hb 16777216 i1 h1 j1 k (by omega)
  simp only [e2, bs]
  obtain ⟨x3, i3, h3, e3, _, _, _, j3⟩ := below_f b hb 50 i2 h2 j2 k (by omega)
  simp only [e3, bs]
  obtain ⟨x4, i4, h4, e4, _, j4⟩ := pick_f b hb [0, 1, 100, x1, x2, 1000000000000, 1000000000001, (-1), x3] (by simp) i3 h3 j3 k (by omega)
  simp only [e4, bs]
  exact ⟨_, rfl⟩
theorem dsc_j2 (b : List Int) (hb : b.length ≤ 1048576) (t : Bool) (i h : Int) (hi : 0 ≤ i) (w : List Int) (ht : t = true → 0 < w.length) (k : Nat) (hk : 10 ≤ k) : ∃ c w', spec_DrawSplitCents.j2 k t b i h w = some (c, w') := by
  rw [spec_DrawSplitCents.j2_eq]
  cases t with
  | true =>
    have hw := ht rfl
    obtain ⟨x4, i4, h4, e4, _, j4⟩ := pick_f b hb [(-1), 1000001] (by simp) i h hi k (by omega)
    simp only [e4, bs, if_true]
    rw [if_pos (by omega)]
    obtain ⟨c, hc⟩ := dsc_j1 b hb i4 h4 j4 (w.set (Int.toNat 0) x4) k hk
    exact ⟨_, _, hc⟩
  | false =>
    obtain ⟨c, hc⟩ := dsc_j1 b hb i h hi w k hk
    exact ⟨_, _, hc⟩
theorem dsc_l0 (b : List Int) (hb : b.length ≤ 1048576) (K : Nat) (hK : 10 ≤ K) (n : Int) (hn : n ≤ 100) : ∀ (d k m : Nat) (i h : Int) (w : List Int), (n - m).toNat ≤ d → d < k → 0 ≤ i → w.length = m → ∃ c w', spec_DrawSplitCents.l0 K k n (m : Int) b i h w = some (c, w') := by
  intro d
  induction d with
  | zero =>
    intro k m i h w hd hk hi hw
    obtain ⟨k, rfl⟩ : ∃ q, k = q + 1 := ⟨k - 1, by omega⟩
    rw [spec_DrawSplitCents.l0_eq, if_neg (by omega)]
    obtain ⟨x, i1, h1, e1, j1⟩ := once_f b hb 15 i h hi K (by omega)
    rw [e1, bs]
    cases x with
    | true =>
      rw [if_pos rfl]
      exact dsc_j2 b hb _ i1 h1 j1 w (fun q => by have := of_decide_eq_true q; omega) K hK
    | false => exact dsc_j2 b hb _ i1 h1 j1 w (fun q => by cases q) K hK
  | succ d ih =>
    intro k m i h w hd hk hi hw
    obtain ⟨k, rfl⟩ : ∃ q, k = q + 1 := ⟨k - 1, by omega⟩
    by_cases c : (m : Int) < n
    · rw [spec_DrawSplitCents.l0_eq, if_pos c]
      obtain ⟨x1, i1, h1, e1, _, _, _, j1⟩ := below_f b hb 10 i h hi K (by omega)
      simp only [e1, bs]
      obtain ⟨x4, i4, h4, e4, _, j4⟩ := pick_f b hb [0, 1, 2, 3, x1, 1000000] (by simp) i1 h1 j1 K (by omega)
      simp only [e4, bs]
      rw [if_pos (by omega), wrap_id (by omega) (by omega)]
      exact ih k (m + 1) i4 h4 (w ++ [x4]) (by omega) (by omega) j4 (by simp; omega)
    · rw [spec_DrawSplitCents.l0_eq, if_neg c]
      obtain ⟨x, i1, h1, e1, j1⟩ := once_f b hb 15 i h hi K (by omega)
      rw [e1, bs]
      cases x with
      | true =>
        rw [if_pos rfl]
        exact dsc_j2 b hb _ i1 h1 j1 w (fun q => by have := of_decide_eq_true q; omega) K hK
      | false => exact dsc_j2 b hb _ i1 h1 j1 w (fun q => by cases q) K hK
theorem dsc_f (b : List Int) (hb : b.length ≤ 1048576) (k : Nat) (hk : 1048600 ≤ k) : ∃ c w, spec_DrawSplitCents.f k b = some (c, w) := by
  obtain ⟨k, rfl⟩ : ∃ q, k = q + 1 := ⟨k - 1, by omega⟩
  rw [spec_DrawSplitCents.f_eq]
  obtain ⟨h0, e0⟩ := new_f b hb k (by omega)
  simp only [e0, bs]
  obtain ⟨n, en, n0, n1⟩ := size_f b hb 12 (by omega) k (by omega)
  simp only [en, bs]
  obtain ⟨x1, i1, h1, e1, x0, x1', _, j1⟩ := below_f b hb n 0 h0 (by omega) k (by omega)
  simp only [e1, bs]
  obtain ⟨x, i2, h2, e2, j2⟩ := once_f b hb 12 i1 h1 j1 k (by omega)
  simp only [e2, bs]
  have hx := x1' (by omega)
  cases x with
  | true =>
    obtain ⟨x4, i4, h4, e4, m4, j4⟩ := pick_f b hb [0, 40, 41] (by simp) i2 h2 j2 k (by omega)
    simp only [e4, bs, if_true]
    rw [spec_DrawSplitCents.j0_eq]
    simp at m4
    exact dsc_l0 b hb k (by omega) x4 (by omega) 100 k 0 i4 h4 [] (by omega) (by omega) j4 rfl
  | false =>
    simp only [Bool.false_eq_true, if_false]
    rw [spec_DrawSplitCents.j0_eq, wrap_id (by omega) (by omega)]
    exact dsc_l0 b hb k (by omega) (1 + x1) (by omega) 100 k 0 i2 h2 [] (by omega) (by omega) j2 rfl
/-! ### the parts -/
theorem sm_perm {l1 l2 : List Int} (h : l1.Perm l2) : sm l1 = sm l2 := by
  induction h with
  | nil => rfl
  | cons x _ ih => simp only [sm]; omega
  | swap x y l => simp only [sm]; omega
  | trans _ _ h1 h2 => omega
theorem sm_app : ∀ (a b : List Int), sm (a ++ b) = sm a + sm b
  | [], b => by simp [sm]
  | x :: a, b => by simp only [List.cons_append, sm, sm_app a b]; omega
theorem sm_set : ∀ (l : List Int) (n : Nat) (v : Int), n < l.length → sm (l.set n v) = sm l - rdI l n + v
  | [], n, v, h => by simp at h
  | x :: l, 0, v, h => by simp [sm, rdI]; omega
  | x :: l, n + 1, v, h => by
    have := sm_set l n v (by simpa using h)
    simp only [List.set_cons_succ, sm, this]
    have e : rdI (x :: l) ((n + 1 : Nat) : Int) = rdI l (n : Int) := by simp only [rdI, Int.toNat_natCast, List.getD_cons_succ]
    rw [e]; omega
theorem bump_rd : ∀ (P o : List Int) (B : Int), P.Nodup → (∀ p ∈ P, 0 ≤ p ∧ p < (o.length : Int)) → B + P.length ≤ 1000000000000000 → (∀ j, 0 ≤ j → j < (o.length : Int) → 0 ≤ rdI o j ∧ rdI o j ≤ B) →
    sm (bump P o) = sm o + P.length ∧ ∀ j, 0 ≤ j → j < (o.length : Int) → (j ∈ P → rdI (bump P o) j = rdI o j + 1) ∧ (j ∉ P → rdI (bump P o) j = rdI o j)
  | [], o, B, _, _, _, _ => ⟨by simp [bump], fun j _ _ => ⟨fun h => (by cases h), fun _ => rfl⟩⟩
  | p :: P, o, B, hnd, hP, hB, ho => by
    rw [List.nodup_cons] at hnd
    have hp := hP p (by simp)
    have hop := ho p hp.1 hp.2
    simp only [List.length_cons] at hB
    have ew : wrap64 (rdI o p + 1) = rdI o p + 1 := wrap_id (by omega) (by omega)
    have hr := fun (j : Int) (h0 : 0 ≤ j) (h1 : j < (o.length : Int)) => rd_set o p j (rdI o p + 1) hp ⟨h0, h1⟩
    obtain ⟨i1, i2⟩ := bump_rd P (o.set p.toNat (rdI o p + 1)) (B + 1) hnd.2 (fun q hq => by rw [List.length_set]; exact hP q (List.mem_cons_of_mem _ hq)) (by omega) (fun j h0 h1 => by
      rw [List.length_set] at h1
      rw [hr j h0 h1]
      have := ho j h0 h1
      by_cases e : j = p
      · rw [if_pos e]; omega
      · rw [if_neg e]; omega)
    have e : bump (p :: P) o = bump P (o.set p.toNat (rdI o p + 1)) := by
      show bump P (o.set p.toNat (wrap64 (rdI o p + 1))) = _
      rw [ew]
    rw [e]
    constructor
    · rw [i1, sm_set o p.toNat _ (by omega), Int.toNat_of_nonneg hp.1]
      simp only [List.length_cons]
      omega
    · intro j h0 h1
      have h2 := i2 j h0 (by rw [List.length_set]; exact h1)
      rw [hr j h0 h1] at h2
      constructor
      · intro hj
        rcases List.mem_cons.1 hj with q | q
        · subst q
          rw [h2.2 hnd.1, if_pos rfl]
        · have hne : j ≠ p := fun q2 => hnd.1 (by rw [← q2]; exact q)
          rw [h2.1 q, if_neg hne]
      · intro hj
        have hne : j ≠ p := fun q2 => hj (by rw [q2]; simp)
        rw [h2.2 (fun q => hj (List.mem_cons_of_mem _ q)), if_neg hne]
section
variable {c s : Int} {w : List Int}
theorem key_ord : ∀ (n i : Nat), i + n = w.length → (ordL i n).map (key c s w) = (w.drop i).map (kyo c s)
  | 0, i, h => by rw [List.drop_of_length_le (by omega)]; rfl
  | n + 1, i, h => by
    rw [drop_cons w i (by omega)]
    simp only [ordL, List.map_cons]
    rw [key_ord n (i + 1) (by omega)]
    have : key c s w (i : Int) = kyo c s w[i] := by unfold key kyo; rw [rd_at w i (by omega)]
    rw [this]
theorem srt_nodup {Z : List Int} (h : Srt c s w Z) : Z.Nodup := List.Pairwise.imp (fun {a b} hab e => by subst e; exact bef_irr hab hab) h
/-- Who gets one more has something left. -/
theorem some_left (h : CK c s w) (hle : ∀ x ∈ w, x ≤ s) (hs : s = sm w) {Z : List Int} (hZ : Srt c s w Z) (hp : Z.Perm (ordL 0 w.length)) (m : Nat) (hm : (m : Int) = c - sm (w.map (flo c s))) (a : Int) (ha : a ∈ Z.take m) : key c s w a ≠ 0 := by
  intro h0
  obtain ⟨l0, l1, l2⟩ := left_bd h hle hs
  rw [← hm] at l2
  have hsum : sm (Z.map (key c s w)) = s * m := by
    rw [sm_perm (hp.map _), key_ord w.length 0 (by omega), List.drop_zero, l2]
  obtain ⟨P, A, hPA⟩ := List.append_of_mem ha
  have hlP : P.length < m := by
    have := congrArg List.length hPA
    simp only [List.length_append, List.length_cons, List.length_take] at this
    omega
  have hz : Z = P ++ a :: (A ++ Z.drop m) := by
    have : Z = Z.take m ++ Z.drop m := (List.take_append_drop m Z).symm
    rw [hPA] at this
    simpa using this
  have hin : ∀ x ∈ Z, 0 ≤ key c s w x ∧ key c s w x ≤ s - 1 := fun x hx => by
    have := ordL_mem.1 (hp.mem_iff.1 hx)
    have := key_bd h x (by omega) (by omega)
    omega
  have hZ' := hZ
  unfold Srt at hZ'
  rw [hz, List.pairwise_append, List.pairwise_cons] at hZ'
  have hzero : ∀ (l : List Int), (∀ x ∈ l, key c s w x = 0) → sm (l.map (key c s w)) = 0 := by
    intro l hl
    induction l with
    | nil => rfl
    | cons y l ih =>
      simp only [List.map_cons, sm]
      rw [hl y (by simp), ih fun x hx => hl x (List.mem_cons_of_mem _ hx)]
      rfl
  have hup : ∀ (l : List Int), (∀ x ∈ l, key c s w x ≤ s - 1) → sm (l.map (key c s w)) ≤ (s - 1) * (l.length : Int) := by
    intro l hl
    induction l with
    | nil => simp [sm]
    | cons y l ih =>
      have h1 := ih fun x hx => hl x (List.mem_cons_of_mem _ hx)
      have h2 := hl y (by simp)
      simp only [List.map_cons, sm, List.length_cons]
      rw [show ((l.length + 1 : Nat) : Int) = (l.length : Int) + 1 by omega, Int.mul_add]
      omega
  have hT := hzero (a :: (A ++ Z.drop m)) (fun x hx => by
    rcases List.mem_cons.1 hx with q | q
    · rw [q]; exact h0
    · have hb := hZ'.2.1.1 x q
      have h3 := hin x (by rw [hz]; exact List.mem_append_right _ hx)
      unfold Bef at hb
      omega)
  have hPu := hup P (fun x hx => (hin x (by rw [hz]; exact List.mem_append_left _ hx)).2)
  have hall : sm (Z.map (key c s w)) = sm (P.map (key c s w)) := by
    have e := congrArg (fun l => sm (l.map (key c s w))) hz
    simp only [List.map_append, sm_app] at e
    rw [e]
    have hT' := hT
    simp only [List.map_cons, List.map_append, sm, sm_app] at hT' ⊢
    omega
  have s0 := h.s0
  have k1 : s * (P.length + 1 : Int) ≤ s * m := Int.mul_le_mul_of_nonneg_left (by omega) (by omega)
  have k2 : (s - 1) * (P.length : Int) = s * (P.length : Int) - (P.length : Int) := by rw [Int.sub_mul]; omega
  rw [Int.mul_add] at k1
  omega
end
theorem cp_f (a : List Int) (ha : a.length ≤ 1048576) (k : Nat) (hk : a.length + 1 < k) : laws_cp.f k a = some a := by
  obtain ⟨k, rfl⟩ : ∃ q, k = q + 1 := ⟨k - 1, by omega⟩
  rw [laws_cp.f_eq]
  have := append_loop (fun fu s i => laws_cp.l0 k fu a i s) a id 0 [] (by
    intro fu s _
    simp only [laws_cp.l0_eq]
    rw [if_neg (by omega)]) (by
    intro fu i s h _ hs
    simp only [laws_cp.l0_eq]
    rw [if_pos (by omega), if_pos (by omega), if_pos (by omega), if_pos (by simp at hs; omega), rd_at a i h, wrap_next h (by omega)]
    rfl) k (by omega)
  simpa using this
theorem fs_l0 (K : Nat) (c : Int) (w p : List Int) (hw : w.length ≤ 40) (hp : p.length = w.length) (okW : ∀ x ∈ w, 0 ≤ x ∧ x ≤ 1000000) (okP : ∀ x ∈ p, 0 ≤ x ∧ x ≤ 2000000000000) : ∀ (d k i : Nat) (S A : Int), i + d = w.length → d < k → 0 ≤ S → S ≤ 1000000 * i → 0 ≤ A → A ≤ 2000000000000 * i →
    laws_FnShares.l0 K k c S A (i : Int) w p = laws_FnShares.l1 K K c (S + sm (w.drop i)) (A + sm (p.drop i)) 0 w p := by
  intro d
  induction d with
  | zero =>
    intro k i S A hi hk h0 h1 h2 h3
    obtain ⟨k, rfl⟩ : ∃ q, k = q + 1 := ⟨k - 1, by omega⟩
    rw [laws_FnShares.l0_eq, if_neg (by omega), List.drop_of_length_le (by omega), List.drop_of_length_le (by omega)]
    simp only [sm, Int.add_zero]
  | succ d ih =>
    intro k i S A hi hk h0 h1 h2 h3
    obtain ⟨k, rfl⟩ : ∃ q, k = q + 1 := ⟨k - 1, by omega⟩
    have hl : i < w.length := by omega
    have hl2 : i < p.length := by omega
    have o1 := okW _ (List.getElem_mem hl)
    have o2 := okP _ (List.getElem_mem hl2)
    rw [laws_FnShares.l0_eq, if_pos (by omega), if_pos (by omega), if_pos (by omega), if_pos (by omega), if_pos (by omega), rd_at w i hl, rd_at p i hl2, wrap_next hl (by omega), wrap_id (x := S + w[i]) (by omega) (by omega), wrap_id (x := A + p[i]) (by omega) (by omega),
      ih k (i + 1) _ _ (by omega) (by omega) (by omega) (by omega) (by omega) (by omega), drop_cons w i hl, drop_cons p i hl2]
    simp only [sm]
    rw [show S + w[i] + sm (w.drop (i + 1)) = S + (w[i] + sm (w.drop (i + 1))) by omega, show A + p[i] + sm (p.drop (i + 1)) = A + (p[i] + sm (p.drop (i + 1))) by omega]
theorem fs_l1 (K : Nat) (c s : Int) (w p : List Int) (hC : CK c s w) (hle : ∀ x ∈ w, x ≤ s) (A : Int) (hp : p.length = w.length)
    (hok : ∀ i : Nat, (h : i < w.length) → rdI p (i : Int) = flo c s w[i] ∨ (rdI p (i : Int) = flo c s w[i] + 1 ∧ kyo c s w[i] ≠ 0)) : ∀ (d k i : Nat), i + d = w.length → d < k →
    laws_FnShares.l1 K k c s A (i : Int) w p = some (decide (A = c)) := by
  have hn := hC.len
  have hs0 := hC.s0
  have hc1 := hC.c1
  intro d
  induction d with
  | zero =>
    intro k i hi hk
    obtain ⟨k, rfl⟩ : ∃ q, k = q + 1 := ⟨k - 1, by omega⟩
    rw [laws_FnShares.l1_eq, if_neg (by omega)]
  | succ d ih =>
    intro k i hi hk
    obtain ⟨k, rfl⟩ : ∃ q, k = q + 1 := ⟨k - 1, by omega⟩
    have hl : i < w.length := by omega
    obtain ⟨b0, b1, b2, b3, b4, b5, b6⟩ := fl_bd hC hle (List.getElem_mem hl)
    have ew : wrap64 (c * w[i]) = c * w[i] := wrap_id (by omega) (by omega)
    have ef : wrap64 (Int.tdiv (c * w[i]) s) = flo c s w[i] := wrap_id (by show _ ≤ flo c s w[i]; omega) (by show flo c s w[i] ≤ _; omega)
    have ek : Int.tmod (c * w[i]) s = kyo c s w[i] := rfl
    rw [laws_FnShares.l1_eq, if_pos (by omega), if_pos (by omega), if_pos (by omega), if_pos (by omega), if_pos (by omega), if_pos (by omega), rd_at w i hl, ew, ef, wrap_id (x := flo c s w[i] + 1) (by omega) (by omega), ek, wrap_next hl (by omega)]
    rcases hok i hl with q | ⟨q, q2⟩
    · rw [if_neg (by omega), if_pos (by omega), if_pos (by omega), if_neg (by omega), if_pos (by omega), if_pos (by omega), if_neg (by omega)]
      exact ih k (i + 1) (by omega) (by omega)
    · rw [if_neg (by omega), if_pos (by omega), if_pos (by omega), if_neg (by omega), if_pos (by omega), if_pos (by omega), if_pos q, if_pos (by omega), if_pos (by omega), if_pos (by omega), if_neg q2]
      exact ih k (i + 1) (by omega) (by omega)
theorem law_Shares (b : List Int) : ∃ k, laws_FnShares.f k b = some true := by
  refine ⟨1048700 + 1, ?_⟩
  obtain ⟨K, hK⟩ : ∃ K, K = 1048700 := ⟨_, rfl⟩
  rw [← hK, laws_FnShares.f_eq, big_f b K (by omega), bs]
  by_cases hb : (b.length : Int) > 1048576
  · rw [if_pos (decide_eq_true hb)]
  rw [if_neg (by simpa using hb)]
  obtain ⟨c, w, e0⟩ := dsc_f b (by omega) K (by omega)
  obtain ⟨ok, p, e1, e2, e3⟩ := split_both c w K (by omega)
  simp only [e0, e1, bs]
  rcases e3 with ⟨rfl, rfl⟩ | ⟨rfl, h1, h2, hC, Z, z1, z2, rfl⟩
  · rfl
  obtain ⟨s1, s2, hle⟩ := sm_ok (l := w) hC.el
  obtain ⟨l0, l1, l2⟩ := left_bd hC hle rfl
  have hc0 := hC.c0
  have hc1 := hC.c1
  obtain ⟨m, hm⟩ := Int.eq_ofNat_of_zero_le l0
  rw [hm, Int.toNat_natCast] at e2 ⊢
  have hzl : Z.length = w.length := by rw [z1.length_eq, ordL_len]
  have hflo : ∀ j, 0 ≤ j → j < ((w.map (flo c (sm w))).length : Int) → 0 ≤ rdI (w.map (flo c (sm w))) j ∧ rdI (w.map (flo c (sm w))) j ≤ 1000000000000 := by
    intro j h0 h1
    have := rd_mem _ j h0 h1
    obtain ⟨x, hx, hx2⟩ := List.mem_map.1 this
    obtain ⟨b0, b1, _⟩ := fl_bd hC hle hx
    rw [← hx2]
    omega
  have hin : ∀ x ∈ Z.take m, 0 ≤ x ∧ x < ((w.map (flo c (sm w))).length : Int) := fun x hx => by
    have := ordL_mem.1 (z1.mem_iff.1 (List.mem_of_mem_take hx))
    rw [List.length_map]; omega
  have hlt : (Z.take m).length = m := by rw [List.length_take]; omega
  obtain ⟨g1, g2⟩ := bump_rd (Z.take m) (w.map (flo c (sm w))) 1000000000000 ((srt_nodup z2).sublist (List.take_sublist m Z)) hin (by omega) hflo
  have hpl : (bump (Z.take m) (w.map (flo c (sm w)))).length = w.length := by rw [bump_len, List.length_map]
  rw [hlt] at g1
  simp only [Bool.not_true, Bool.false_eq_true, if_false]
  rw [cp_f w (by omega) K (by omega)]
  simp only [bs, e2, Bool.not_true, Bool.false_eq_true, if_false]
  rw [if_neg (by rw [hpl]; simp)]
  generalize bump (Z.take m) (w.map (flo c (sm w))) = p at g1 g2 hpl
  rw [List.length_map] at g2
  have hvals : ∀ i : Nat, (h : i < w.length) → rdI p (i : Int) = flo c (sm w) w[i] ∨ (rdI p (i : Int) = flo c (sm w) w[i] + 1 ∧ kyo c (sm w) w[i] ≠ 0) := by
    intro i h
    have er : rdI (w.map (flo c (sm w))) (i : Int) = flo c (sm w) w[i] := by rw [rd_at _ i (by simpa using h), List.getElem_map]
    have := g2 i (by omega) (by omega)
    rw [er] at this
    by_cases q : (i : Int) ∈ Z.take m
    · right
      refine ⟨this.1 q, ?_⟩
      have := some_left hC hle rfl z2 z1 m hm.symm i q
      unfold key at this
      rw [rd_at w i h] at this
      exact this
    · exact .inl (this.2 q)
  have okP : ∀ x ∈ p, 0 ≤ x ∧ x ≤ 2000000000000 := by
    intro x hx
    obtain ⟨i, hi, rfl⟩ := List.getElem_of_mem hx
    have h3 := hvals i (by omega)
    rw [rd_at p i hi] at h3
    obtain ⟨b0, b1, _⟩ := fl_bd hC hle (List.getElem_mem (show i < w.length by omega))
    omega
  have a1 := fs_l0 K c w p h1 hpl hC.el okP w.length K 0 0 0 (by omega) (by omega) (by omega) (by omega) (by omega) (by omega)
  have e00 : ((0 : Nat) : Int) = 0 := rfl
  rw [e00, List.drop_zero, List.drop_zero, Int.zero_add, Int.zero_add] at a1
  rw [a1]
  have a2 := fs_l1 K c (sm w) w p hC hle (sm p) hpl hvals w.length K 0 (by omega) (by omega)
  rw [e00] at a2
  rw [a2]
  congr 1
  exact decide_eq_true (by omega)
end Go.Vm.Pu
