/- Plain lemmas that the texts of FnCertTrue share. -/
import Derived.Test.YtabicblkdgpogaaVFnCertTrue
import Derived.RowKit
section
namespace Go.Proofs.Ytabicblkdgpogaa.Lib
open Go.RowKit Go.Proofs.YtabicblkdgpogaaW.PrintWords
theorem bs {α β : Type} (x : α) (f : α → Option β) : (some x).bind f = f x := (Option.bind_some x f).trans (Eq.refl _)
theorem wrap_id {x : Int} (h1 : -9223372036854775808 ≤ x) (h2 : x ≤ 9223372036854775807) : wrap64 x = x := by
  unfold wrap64; omega
theorem rd_at (l : List Int) (i : Nat) (h : i < l.length) : rd l (i : Int) = l[i] := by
  simp [rd, List.getD, h]
theorem rd_mem (l : List Int) (i : Int) (h0 : 0 ≤ i) (h : i < l.length) : rd l i ∈ l := by
  obtain ⟨n, rfl⟩ := Int.eq_ofNat_of_zero_le h0
  have hn : n < l.length := by omega
  rw [rd_at l n hn]
  exact List.getElem_mem hn
theorem set_take {α : Type} (l : List α) (i : Nat) (a : α) (h : i < l.length) : (l.set i a).take (i + 1) = l.take i ++ [a] := by
  rw [List.take_succ_eq_append_getElem (by simpa using h), List.take_set_of_le (by omega)]
  simp
theorem drop_cons {α : Type} (l : List α) (i : Nat) (h : i < l.length) : l.drop i = l[i] :: l.drop (i + 1) := List.drop_eq_getElem_cons h
theorem cast_succ (i : Nat) : (i : Int) + 1 = ((i + 1 : Nat) : Int) := rfl
theorem ev_of_lt {α : Type} {g : Nat → Option α} {r : α} (d : Nat) (h : ∀ k, d < k → g k = some r) : Ev g r := ⟨d + 1, fun k hk => h k hk⟩
theorem ev_const {α : Type} {g : Option α} {r : α} (h : g = some r) : Ev (fun _ => g) r := ⟨0, fun _ _ => h⟩
theorem ev_ite_pos {α : Type} {p : Prop} [Decidable p] {g f : Nat → Option α} {r : α} (h : p) (k : Ev g r) : Ev (fun n => if p then g n else f n) r := by
  obtain ⟨K, hK⟩ := k
  exact ⟨K, fun n hn => by simp only [if_pos h]; exact hK n hn⟩
theorem ev_ite_neg {α : Type} {p : Prop} [Decidable p] {g f : Nat → Option α} {r : α} (h : ¬ p) (k : Ev f r) : Ev (fun n => if p then g n else f n) r := by
  obtain ⟨K, hK⟩ := k
  exact ⟨K, fun n hn => by simp only [if_neg h]; exact hK n hn⟩
theorem ev_at {α : Type} {g : Nat → Option α} {r : α} (h : Ev g r) : ∃ k, g k = some r := h.rounds
theorem wf_bounds {x : Int} (h : (Lit.int .i64 x).wf = true) : -9223372036854775808 ≤ x ∧ x ≤ 9223372036854775807 := by
  simp only [Lit.wf, Bool.and_eq_true, decide_eq_true_eq] at h
  exact h
theorem wf_byte {x : Int} (h : (Lit.int .u8 x).wf = true) : 0 ≤ x ∧ x ≤ 255 := by
  simp only [Lit.wf, Bool.and_eq_true, decide_eq_true_eq] at h
  exact h
theorem loop_list {α σ R : Type} (F : Nat → σ → Int → Option R) (l : List α) (K : Nat) (Inv : Nat → σ → Prop) (G : List α → σ → R)
    (hnil : ∀ k s, K ≤ k → Inv l.length s → F (k + 1) s (l.length : Int) = some (G [] s))
    (hcons : ∀ k i s (h : i < l.length), K ≤ k → Inv i s → (∃ s', F (k + 1) s (i : Int) = F k s' ((i + 1 : Nat) : Int) ∧ Inv (i + 1) s' ∧ G (l[i] :: l.drop (i + 1)) s = G (l.drop (i + 1)) s') ∨ F (k + 1) s (i : Int) = some (G (l[i] :: l.drop (i + 1)) s))
    (k : Nat) (s : σ) (hk : l.length + K < k) (h0 : Inv 0 s) : F k s 0 = some (G l s) := by
  have key : ∀ (d k i : Nat) (s : σ), i + d = l.length → d + K < k → Inv i s → F k s (i : Int) = some (G (l.drop i) s) := by
    intro d
    induction d with
    | zero =>
      intro k i s hi hk h
      obtain ⟨k, rfl⟩ : ∃ m, k = m + 1 := ⟨k - 1, by omega⟩
      obtain rfl : i = l.length := by omega
      rw [hnil k s (by omega) h, List.drop_length]
    | succ d ih =>
      intro k i s hi hk h
      obtain ⟨k, rfl⟩ : ∃ m, k = m + 1 := ⟨k - 1, by omega⟩
      rw [drop_cons l i (by omega)]
      rcases hcons k i s (by omega) (by omega) h with ⟨s', e, h', g⟩ | e
      · rw [e, g]
        exact ih k (i + 1) s' (by omega) (by omega) h'
      · exact e
  have := key l.length k 0 s (by omega) (by omega) h0
  simpa using this
theorem set_loop {α β : Type} (F : Nat → List β → Int → Option (List β)) (l : List α) (f : α → β) (K : Nat)
    (hnil : ∀ k s, K ≤ k → F (k + 1) s (l.length : Int) = some s)
    (hcons : ∀ k i s (h : i < l.length), K ≤ k → s.length = l.length → F (k + 1) s (i : Int) = F k (s.set i (f l[i])) ((i + 1 : Nat) : Int))
    (k : Nat) (s : List β) (hk : l.length + K < k) (hs : s.length = l.length) : F k s 0 = some (l.map f) := by
  have key : ∀ (d k i : Nat) (s : List β), i + d = l.length → d + K < k → s.length = l.length → F k s (i : Int) = some (s.take i ++ (l.drop i).map f) := by
    intro d
    induction d with
    | zero =>
      intro k i s hi hk hs
      obtain ⟨k, rfl⟩ : ∃ m, k = m + 1 := ⟨k - 1, by omega⟩
      obtain rfl : i = l.length := by omega
      rw [hnil k s (by omega), List.drop_length, List.take_of_length_le (by omega)]
      simp
    | succ d ih =>
      intro k i s hi hk hs
      obtain ⟨k, rfl⟩ : ∃ m, k = m + 1 := ⟨k - 1, by omega⟩
      rw [hcons k i s (by omega) (by omega) hs, ih k (i + 1) _ (by omega) (by omega) (by simpa using hs), set_take _ _ _ (by omega), drop_cons l i (by omega), List.map_cons, List.append_assoc]
      rfl
  have := key l.length k 0 s (by omega) (by omega) hs
  simpa using this
theorem append_loop {α β : Type} (F : Nat → List β → Int → Option (List β)) (l : List α) (f : α → β) (K : Nat) (s0 : List β)
    (hnil : ∀ k s, K ≤ k → F (k + 1) s (l.length : Int) = some s)
    (hcons : ∀ k i s (h : i < l.length), K ≤ k → s.length = s0.length + i → F (k + 1) s (i : Int) = F k (s ++ [f l[i]]) ((i + 1 : Nat) : Int))
    (k : Nat) (hk : l.length + K < k) : F k s0 0 = some (s0 ++ l.map f) := by
  have key : ∀ (d k i : Nat) (s : List β), i + d = l.length → d + K < k → s.length = s0.length + i → F k s (i : Int) = some (s ++ (l.drop i).map f) := by
    intro d
    induction d with
    | zero =>
      intro k i s hi hk hs
      obtain ⟨k, rfl⟩ : ∃ m, k = m + 1 := ⟨k - 1, by omega⟩
      obtain rfl : i = l.length := by omega
      rw [hnil k s (by omega), List.drop_length]
      simp
    | succ d ih =>
      intro k i s hi hk hs
      obtain ⟨k, rfl⟩ : ∃ m, k = m + 1 := ⟨k - 1, by omega⟩
      rw [hcons k i s (by omega) (by omega) hs, ih k (i + 1) _ (by omega) (by omega) (by simp [hs]; omega), drop_cons l i (by omega), List.map_cons, List.append_assoc]
      rfl
  have := key l.length k 0 s0 (by omega) (by omega) (by simp)
  simpa using this
theorem count_loop {R : Type} (F : Nat → Int → Option R) (n K : Nat) (r : R) (hend : ∀ k, K ≤ k → F (k + 1) (n : Int) = some r)
    (hgo : ∀ k i, i < n → K ≤ k → F (k + 1) (i : Int) = F k ((i + 1 : Nat) : Int)) (k : Nat) (hk : n + K < k) : F k 0 = some r := by
  have key : ∀ (d k i : Nat), i + d = n → d + K < k → F k (i : Int) = some r := by
    intro d
    induction d with
    | zero =>
      intro k i hi hk
      obtain ⟨k, rfl⟩ : ∃ m, k = m + 1 := ⟨k - 1, by omega⟩
      obtain rfl : i = n := by omega
      exact hend k (by omega)
    | succ d ih =>
      intro k i hi hk
      obtain ⟨k, rfl⟩ : ∃ m, k = m + 1 := ⟨k - 1, by omega⟩
      rw [hgo k i (by omega) (by omega)]
      exact ih k (i + 1) (by omega) (by omega)
  exact key n k 0 (by omega) (by omega)
theorem wrap_next {i n : Nat} (h : i < n) (hn : n ≤ 281474976710656) : wrap64 ((i : Int) + 1) = ((i + 1 : Nat) : Int) := by
  rw [wrap_id (by omega) (by omega)]; rfl
end Go.Proofs.Ytabicblkdgpogaa.Lib
end
section
namespace Go.Proofs.Ytabicblkdgpogaa.Lib
open Go.RowKit Go.Proofs.YtabicblkdgpogaaW.PrintWords
def md (f : Int) : Int := if f = 0 then 17 else (if f = 1 then 97 else (if f = 2 then 193 else (if f = 3 then 257 else (if f = 4 then 7681 else (if f = 5 then 12289 else (if f = 6 then 998244353 else (if f = 7 then 469762049 else (if f = 8 then 1004535809 else 0))))))))
def gn (f : Int) : Int := if f = 0 then 3 else (if f = 1 then 5 else (if f = 2 then 5 else (if f = 3 then 3 else (if f = 4 then 17 else (if f = 5 then 11 else (if f = 6 then 3 else (if f = 7 then 3 else (if f = 8 then 3 else 0))))))))
def tw (f : Int) : Int := if f = 0 then 4 else (if f = 1 then 5 else (if f = 2 then 6 else (if f = 3 then 8 else (if f = 4 then 9 else (if f = 5 then 12 else (if f = 6 then 23 else (if f = 7 then 26 else (if f = 8 then 21 else 0))))))))
theorem nine {f : Int} (h0 : 0 ≤ f) (h8 : f ≤ 8) : f = 0 ∨ f = 1 ∨ f = 2 ∨ f = 3 ∨ f = 4 ∨ f = 5 ∨ f = 6 ∨ f = 7 ∨ f = 8 := by omega
theorem md_out {f : Int} (h : ¬ (0 ≤ f ∧ f ≤ 8)) : md f = 0 ∧ gn f = 0 ∧ tw f = 0 := by
  unfold md gn tw
  rw [if_neg (by omega), if_neg (by omega), if_neg (by omega), if_neg (by omega), if_neg (by omega), if_neg (by omega), if_neg (by omega), if_neg (by omega), if_neg (by omega)]
  rw [if_neg (by omega), if_neg (by omega), if_neg (by omega), if_neg (by omega), if_neg (by omega), if_neg (by omega), if_neg (by omega), if_neg (by omega), if_neg (by omega)]
  rw [if_neg (by omega), if_neg (by omega), if_neg (by omega), if_neg (by omega), if_neg (by omega), if_neg (by omega), if_neg (by omega), if_neg (by omega), if_neg (by omega)]
  exact ⟨rfl, rfl, rfl⟩
theorem md_in {f : Int} (h : md f ≠ 0) : 0 ≤ f ∧ f ≤ 8 := by
  by_cases c : 0 ≤ f ∧ f ≤ 8
  · exact c
  · exact absurd (md_out c).1 h
theorem md_pos {f : Int} (h : md f ≠ 0) : 17 ≤ md f ∧ md f ≤ 1004535809 := by
  obtain ⟨h0, h8⟩ := md_in h
  rcases nine h0 h8 with rfl | rfl | rfl | rfl | rfl | rfl | rfl | rfl | rfl <;> decide
theorem md_nonneg (f : Int) : 0 ≤ md f := by
  by_cases h : md f = 0
  · omega
  · have := md_pos h; omega
def El (p : Int) (l : List Int) : Prop := ∀ x ∈ l, 0 ≤ x ∧ x < p
instance (p : Int) (l : List Int) : Decidable (El p l) := inferInstanceAs (Decidable (∀ x ∈ l, 0 ≤ x ∧ x < p))
theorem El.nil (p : Int) : El p [] := fun x hx => by cases hx
theorem El.at {p : Int} {l : List Int} (h : El p l) (i : Nat) (hi : i < l.length) : 0 ≤ l[i] ∧ l[i] < p := h _ (List.getElem_mem hi)
def L (l : List Int) (i : Nat) : Int := l.getD i 0
theorem L_at (l : List Int) (i : Nat) (h : i < l.length) : L l i = l[i] := by simp [L, List.getD, h]
theorem L_out (l : List Int) (i : Nat) (h : l.length ≤ i) : L l i = 0 := by simp [L, List.getD, h]
theorem rd_L (l : List Int) (i : Nat) : rd l (i : Int) = L l i := by simp [rd, L]
theorem L_el {p : Int} (hp : 0 < p) {l : List Int} (h : El p l) (i : Nat) : 0 ≤ L l i ∧ L l i < p := by
  by_cases c : i < l.length
  · rw [L_at l i c]; exact h.at i c
  · rw [L_out l i (by omega)]; omega
def fl (n : Nat) (g : Nat → Int) : List Int := (List.range n).map g
theorem fl_length (n : Nat) (g : Nat → Int) : (fl n g).length = n := by simp [fl]
theorem L_fl (n : Nat) (g : Nat → Int) (i : Nat) (h : i < n) : L (fl n g) i = g i := by
  rw [L_at _ _ (by rw [fl_length]; exact h)]; simp [fl]
theorem fl_L (l : List Int) : fl l.length (L l) = l := by
  apply List.ext_getElem
  · exact fl_length _ _
  · intro i h1 h2
    simp [fl, L_at l i h2]
theorem fl_congr {n : Nat} {g h : Nat → Int} (e : ∀ i, i < n → g i = h i) : fl n g = fl n h := by
  unfold fl
  exact List.map_congr_left (fun i hi => e i (List.mem_range.1 hi))
theorem fl_inj {n : Nat} {g h : Nat → Int} (e : fl n g = fl n h) (i : Nat) (hi : i < n) : g i = h i := by
  rw [← L_fl n g i hi, e, L_fl n h i hi]
theorem fl_set (n : Nat) (g : Nat → Int) (t : Nat) (v : Int) : (fl n g).set t v = fl n (fun m => if m = t then v else g m) := by
  apply List.ext_getElem
  · simp [fl_length]
  · intro i h1 h2
    simp only [fl, List.getElem_set, List.getElem_map, List.getElem_range]
    by_cases c : t = i
    · rw [if_pos c, if_pos c.symm]
    · rw [if_neg c, if_neg (Ne.symm c)]
theorem fl_snoc (n : Nat) (g : Nat → Int) : fl n g ++ [g n] = fl (n + 1) g := by simp [fl, List.range_succ]
theorem fl_zero (n : Nat) : List.replicate n (0 : Int) = fl n (fun _ => 0) := by
  apply List.ext_getElem
  · simp [fl]
  · intro i h1 h2; simp [fl]
theorem fl_el {p : Int} {n : Nat} {g : Nat → Int} (h : ∀ i, i < n → 0 ≤ g i ∧ g i < p) : El p (fl n g) := by
  intro x hx
  obtain ⟨i, hi, rfl⟩ := List.mem_map.1 hx
  exact h i (List.mem_range.1 hi)
theorem list_ext {a b : List Int} (hl : a.length = b.length) (h : ∀ i, i < a.length → L a i = L b i) : a = b := by
  rw [← fl_L a, ← fl_L b, ← hl]
  exact fl_congr h
def sumN (n : Nat) (g : Nat → Int) : Int := match n with
  | 0 => 0
  | n + 1 => sumN n g + g n
theorem sumN_congr {n : Nat} {g h : Nat → Int} (e : ∀ i, i < n → g i = h i) : sumN n g = sumN n h := by
  induction n with
  | zero => rfl
  | succ n ih => simp only [sumN]; rw [ih (fun i hi => e i (by omega)), e n (by omega)]
theorem sumN_zero {n : Nat} {g : Nat → Int} (e : ∀ i, i < n → g i = 0) : sumN n g = 0 := by
  induction n with
  | zero => rfl
  | succ n ih => simp only [sumN]; rw [ih (fun i hi => e i (by omega)), e n (by omega)]; rfl
theorem emod_range (x : Int) {p : Int} (hp : 0 < p) : 0 ≤ x % p ∧ x % p < p := ⟨Int.emod_nonneg x (by omega), Int.emod_lt_of_pos x hp⟩
theorem tmod_nonneg' {x : Int} (p : Int) (h : 0 ≤ x) : Int.tmod x p = x % p := Int.tmod_eq_emod_of_nonneg h
theorem reduce_int (x p : Int) (hp : 0 < p) : (if Int.tmod x p < 0 then Int.tmod x p + p else Int.tmod x p) = x % p := by
  have h := Int.tmod_add_mul_tdiv x p
  have h1 : x % p = (Int.tmod x p) % p := by
    conv => lhs; rw [← h]
    rw [Int.add_mul_emod_self_left]
  have h2 : Int.tmod x p < p := Int.tmod_lt_of_pos x hp
  have h3 : -p < Int.tmod x p := by
    have := Int.lt_tmod_of_pos x hp
    omega
  rw [h1]
  by_cases c : Int.tmod x p < 0
  · rw [if_pos c, ← Int.add_emod_right, Int.emod_eq_of_lt (by omega) (by omega)]
  · rw [if_neg c, Int.emod_eq_of_lt (by omega) h2]
theorem prod_range {x y p : Int} (hp : p ≤ 1004535809) (hx : 0 ≤ x ∧ x < p) (hy : 0 ≤ y ∧ y < p) : 0 ≤ x * y ∧ x * y ≤ 1009092191563284481 := by
  refine ⟨Int.mul_nonneg hx.1 hy.1, ?_⟩
  have := Int.mul_le_mul (show x ≤ 1004535809 by omega) (show y ≤ 1004535809 by omega) hy.1 (by omega)
  omega
end Go.Proofs.Ytabicblkdgpogaa.Lib
end
section
namespace Go.Proofs.Ytabicblkdgpogaa.Lib
open Go.RowKit Go.Proofs.YtabicblkdgpogaaW.PrintWords
def noDiv (p : Nat) : Nat → Nat → Bool
  | 0, lo => p % lo != 0
  | k + 1, lo => noDiv p k lo && noDiv p k (lo + 2 ^ k)
theorem noDiv_spec (p : Nat) : ∀ (k lo : Nat), noDiv p k lo = true → ∀ d, lo ≤ d → d < lo + 2 ^ k → p % d ≠ 0 := by
  intro k
  induction k with
  | zero =>
    intro lo h d h1 h2
    have : d = lo := by simp at h2; omega
    subst this
    simpa [noDiv] using h
  | succ k ih =>
    intro lo h d h1 h2
    simp only [noDiv, Bool.and_eq_true] at h
    rw [Nat.pow_succ] at h2
    by_cases c : d < lo + 2 ^ k
    · exact ih lo h.1 d h1 c
    · exact ih (lo + 2 ^ k) h.2 d (by omega) (by omega)
structure Pr (p : Nat) : Prop where
  two : 2 ≤ p
  div : ∀ d, d ∣ p → d = 1 ∨ d = p
theorem pr_of (p k : Nat) (h2 : 2 ≤ p) (h : noDiv p k 2 = true) (hk : p < (2 ^ k + 2) * (2 ^ k + 2)) : Pr p := by
  have key := noDiv_spec p k 2 h
  refine ⟨h2, fun d hd => ?_⟩
  obtain ⟨e, rfl⟩ := hd
  by_cases d1 : d = 1
  · exact .inl d1
  · right
    by_cases e1 : e = 1
    · subst e1; simp
    · exfalso
      have hd0 : d ≠ 0 := by rintro rfl; simp at h2
      have he0 : e ≠ 0 := by rintro rfl; simp at h2
      by_cases c : d < 2 ^ k + 2
      · exact key d (by omega) (by omega) (Nat.mul_mod_right d e)
      · by_cases c2 : e < 2 ^ k + 2
        · exact key e (by omega) (by omega) (Nat.mul_mod_left d e)
        · have := Nat.mul_le_mul (show 2 ^ k + 2 ≤ d by omega) (show 2 ^ k + 2 ≤ e by omega)
          omega
theorem Pr.dvd_mul {p a b : Nat} (hp : Pr p) (h : p ∣ a * b) : p ∣ a ∨ p ∣ b := by
  rcases hp.div (Nat.gcd p a) (Nat.gcd_dvd_left p a) with h1 | h1
  · right
    exact Nat.Coprime.dvd_of_dvd_mul_left h1 h
  · left
    rw [← h1]
    exact Nat.gcd_dvd_right p a
def ch : Nat → Nat → Nat
  | _, 0 => 1
  | 0, _ + 1 => 0
  | n + 1, k + 1 => ch n k + ch n (k + 1)
theorem ch_zero (n : Nat) : ch n 0 = 1 := by cases n <;> rfl
theorem ch_out : ∀ n k : Nat, n < k → ch n k = 0 := by
  intro n
  induction n with
  | zero => intro k h; cases k with
    | zero => omega
    | succ k => rfl
  | succ n ih => intro k h; cases k with
    | zero => omega
    | succ k => simp only [ch]; rw [ih k (by omega), ih (k + 1) (by omega)]
theorem ch_self : ∀ n : Nat, ch n n = 1 := by
  intro n
  induction n with
  | zero => rfl
  | succ n ih => simp only [ch]; rw [ih, ch_out n (n + 1) (by omega)]
theorem ch_mul : ∀ n k : Nat, (n + 1) * ch n k = ch (n + 1) (k + 1) * (k + 1) := by
  intro n
  induction n with
  | zero => intro k; cases k with
    | zero => rfl
    | succ k => simp [ch]
  | succ n ih =>
    intro k
    cases k with
    | zero =>
      have h0 := ih 0
      simp only [ch_zero, ch] at h0 ⊢
      omega
    | succ k =>
      have h0 := ih k
      have h1 := ih (k + 1)
      simp only [ch] at h0 h1 ⊢
      grind
def sN (n : Nat) (g : Nat → Nat) : Nat := match n with
  | 0 => 0
  | n + 1 => sN n g + g n
theorem sN_add (n : Nat) (g h : Nat → Nat) : sN n (fun k => g k + h k) = sN n g + sN n h := by
  induction n with
  | zero => rfl
  | succ n ih => simp only [sN, ih]; omega
theorem sN_mul (n x : Nat) (g : Nat → Nat) : sN n (fun k => x * g k) = x * sN n g := by
  induction n with
  | zero => rfl
  | succ n ih => simp only [sN, ih, Nat.mul_add]
theorem sN_front (n : Nat) (g : Nat → Nat) : sN (n + 1) g = g 0 + sN n (fun k => g (k + 1)) := by
  induction n with
  | zero => simp [sN]
  | succ n ih => rw [sN, ih]; simp only [sN]; omega
theorem sN_congr {n : Nat} {g h : Nat → Nat} (e : ∀ i, i < n → g i = h i) : sN n g = sN n h := by
  induction n with
  | zero => rfl
  | succ n ih => simp only [sN]; rw [ih (fun i hi => e i (by omega)), e n (by omega)]
theorem sN_dvd {p n : Nat} {g : Nat → Nat} (h : ∀ i, i < n → p ∣ g i) : p ∣ sN n g := by
  induction n with
  | zero => exact Nat.dvd_zero p
  | succ n ih => exact Nat.dvd_add (ih (fun i hi => h i (by omega))) (h n (by omega))
theorem binom (x : Nat) : ∀ n : Nat, (x + 1) ^ n = sN (n + 1) (fun k => ch n k * x ^ k) := by
  intro n
  induction n with
  | zero => simp [sN, ch]
  | succ n ih =>
    rw [sN_front]
    simp only [ch, Nat.pow_zero, Nat.mul_one]
    have e1 : sN (n + 1) (fun k => (ch n k + ch n (k + 1)) * x ^ (k + 1)) = x * sN (n + 1) (fun k => ch n k * x ^ k) + sN (n + 1) (fun k => ch n (k + 1) * x ^ (k + 1)) := by
      rw [← sN_mul, ← sN_add]
      apply sN_congr
      intro i _
      rw [Nat.pow_succ]
      grind
    have e2 : sN (n + 2) (fun k => ch n k * x ^ k) = 1 + sN (n + 1) (fun k => ch n (k + 1) * x ^ (k + 1)) := by
      rw [sN_front]
      simp [ch_zero]
    have e3 : sN (n + 2) (fun k => ch n k * x ^ k) = sN (n + 1) (fun k => ch n k * x ^ k) := by
      rw [sN, ch_out n (n + 1) (by omega)]
      omega
    rw [e1, Nat.pow_succ, ih]
    have : 1 + (x * sN (n + 1) (fun k => ch n k * x ^ k) + sN (n + 1) (fun k => ch n (k + 1) * x ^ (k + 1))) = x * sN (n + 1) (fun k => ch n k * x ^ k) + sN (n + 1) (fun k => ch n k * x ^ k) := by omega
    rw [this]
    grind
theorem Pr.ch_dvd {p : Nat} (hp : Pr p) (k : Nat) (h0 : 0 < k) (h1 : k < p) : p ∣ ch p k := by
  obtain ⟨n, rfl⟩ : ∃ n, p = n + 1 := ⟨p - 1, by have := hp.two; omega⟩
  obtain ⟨j, rfl⟩ : ∃ j, k = j + 1 := ⟨k - 1, by omega⟩
  have h := ch_mul n j
  rcases hp.dvd_mul (show n + 1 ∣ ch (n + 1) (j + 1) * (j + 1) from ⟨ch n j, h.symm⟩) with h2 | h2
  · exact h2
  · have := Nat.le_of_dvd (by omega) h2
    omega
theorem Pr.freshman {p : Nat} (hp : Pr p) (x : Nat) : ∃ m, (x + 1) ^ p = x ^ p + 1 + p * m := by
  obtain ⟨n, rfl⟩ : ∃ n, p = n + 1 := ⟨p - 1, by have := hp.two; omega⟩
  have hd : n + 1 ∣ sN n (fun k => ch (n + 1) (k + 1) * x ^ (k + 1)) := sN_dvd (fun i hi => Nat.dvd_trans (hp.ch_dvd (i + 1) (by omega) (by omega)) (Nat.dvd_mul_right _ _))
  obtain ⟨m, hm⟩ := hd
  refine ⟨m, ?_⟩
  rw [binom, sN_front]
  rw [show sN (n + 1) (fun k => ch (n + 1) (k + 1) * x ^ (k + 1)) = sN n (fun k => ch (n + 1) (k + 1) * x ^ (k + 1)) + ch (n + 1) (n + 1) * x ^ (n + 1) from rfl, hm, ch_self, ch_zero, Nat.pow_zero, Nat.one_mul, Nat.one_mul]
  omega
theorem Pr.fermat {p : Nat} (hp : Pr p) (x : Nat) : x ^ p % p = x % p := by
  induction x with
  | zero =>
    have := hp.two
    rw [Nat.zero_pow (by omega)]
  | succ x ih =>
    obtain ⟨m, hm⟩ := hp.freshman x
    rw [hm, Nat.add_mul_mod_self_left, Nat.add_mod, ih, ← Nat.add_mod]
theorem Pr.fermat1 {p : Nat} (hp : Pr p) (x : Nat) (h : x % p ≠ 0) : x ^ (p - 1) % p = 1 := by
  have h2 := hp.two
  obtain ⟨n, rfl⟩ : ∃ n, p = n + 1 := ⟨p - 1, by omega⟩
  have hf := hp.fermat x
  have hx0 : 0 < x := by
    rcases Nat.eq_zero_or_pos x with rfl | h'
    · simp at h
    · exact h'
  have hpow : 1 ≤ x ^ n := Nat.pos_of_ne_zero (fun h => by have := (Nat.pow_eq_zero.1 h).1; omega)
  have hd : n + 1 ∣ x * (x ^ n - 1) := by
    rw [Nat.mul_sub, Nat.mul_one, ← Nat.pow_succ']
    exact Nat.dvd_of_mod_eq_zero (Nat.sub_mod_eq_zero_of_mod_eq hf)
  rcases hp.dvd_mul hd with h3 | h3
  · exact absurd (Nat.mod_eq_zero_of_dvd h3) h
  · obtain ⟨m, hm⟩ := h3
    have : x ^ n = 1 + (n + 1) * m := by omega
    rw [Nat.add_sub_cancel, this, Nat.add_mul_mod_self_left, Nat.mod_eq_of_lt (by omega)]
theorem md_pr {f : Int} (h : md f ≠ 0) : Pr (md f).toNat := by
  obtain ⟨h0, h8⟩ := md_in h
  rcases nine h0 h8 with rfl | rfl | rfl | rfl | rfl | rfl | rfl | rfl | rfl
  · exact pr_of 17 2 (by decide) (by decide +kernel) (by decide)
  · exact pr_of 97 3 (by decide) (by decide +kernel) (by decide)
  · exact pr_of 193 4 (by decide) (by decide +kernel) (by decide)
  · exact pr_of 257 4 (by decide) (by decide +kernel) (by decide)
  · exact pr_of 7681 7 (by decide) (by decide +kernel) (by decide)
  · exact pr_of 12289 7 (by decide) (by decide +kernel) (by decide)
  · exact pr_of 998244353 15 (by decide) (by decide +kernel) (by decide)
  · exact pr_of 469762049 15 (by decide) (by decide +kernel) (by decide)
  · exact pr_of 1004535809 15 (by decide) (by decide +kernel) (by decide)
theorem no_zero {f : Int} (hp : md f ≠ 0) {x y : Int} (h : (x * y) % md f = 0) : x % md f = 0 ∨ y % md f = 0 := by
  have hq := md_pos hp
  have hpr := md_pr hp
  have e : (((md f).toNat : Nat) : Int) = md f := Int.toNat_of_nonneg (by omega)
  have h1 : (md f).toNat ∣ x.natAbs * y.natAbs := by
    rw [← Int.natAbs_mul, ← Int.ofNat_dvd_left, e]
    exact Int.dvd_of_emod_eq_zero h
  rcases hpr.dvd_mul h1 with h2 | h2
  · left
    exact Int.emod_eq_zero_of_dvd (by rw [← e]; exact Int.ofNat_dvd_left.2 h2)
  · right
    exact Int.emod_eq_zero_of_dvd (by rw [← e]; exact Int.ofNat_dvd_left.2 h2)
theorem fermat_int {f : Int} (hp : md f ≠ 0) {x : Int} (h0 : 0 ≤ x) (h : x % md f ≠ 0) : x ^ ((md f).toNat - 1) % md f = 1 := by
  have hq := md_pos hp
  have e : (((md f).toNat : Nat) : Int) = md f := Int.toNat_of_nonneg (by omega)
  obtain ⟨n, rfl⟩ := Int.eq_ofNat_of_zero_le h0
  have h1 : n % (md f).toNat ≠ 0 := by
    intro hh
    apply h
    rw [← e]
    exact_mod_cast hh
  have := (md_pr hp).fermat1 n h1
  rw [← e]
  exact_mod_cast this
theorem pow_emod (x p : Int) : ∀ n : Nat, (x % p) ^ n % p = x ^ n % p := by
  intro n
  induction n with
  | zero => simp
  | succ n ih => rw [Int.pow_succ, Int.pow_succ, Int.mul_emod, ih, Int.emod_emod_of_dvd _ (Int.dvd_refl p), ← Int.mul_emod]
theorem sq_pow (x : Int) : ∀ n : Nat, (x * x) ^ n = x ^ (2 * n) := by
  intro n
  induction n with
  | zero => simp
  | succ n ih => rw [Int.pow_succ, ih, show 2 * (n + 1) = 2 * n + 1 + 1 by omega, Int.pow_succ, Int.pow_succ, Int.mul_assoc]
theorem pow_half (p x out : Int) (n : Nat) : (if n % 2 = 1 then (out * x % p) * (x * x % p) ^ (n / 2) % p else out * (x * x % p) ^ (n / 2) % p) = out * x ^ n % p := by
  have h : ∀ o : Int, o * (x * x % p) ^ (n / 2) % p = o * x ^ (2 * (n / 2)) % p := by
    intro o
    rw [Int.mul_emod, pow_emod, sq_pow, ← Int.mul_emod]
  by_cases c : n % 2 = 1
  · rw [if_pos c, h, Int.mul_emod, Int.emod_emod_of_dvd _ (Int.dvd_refl p), ← Int.mul_emod, Int.mul_assoc]
    congr 2
    rw [Int.mul_comm, ← Int.pow_succ]
    congr 1
    omega
  · rw [if_neg c, h]
    congr 3
    omega
def powS (f a e : Int) : Int := if a % md f = 0 then (if e = 0 then 1 else if e < 0 then -1 else 0) else (a % md f) ^ (e % (md f - 1)).toNat % md f
def inv (f a : Int) : Int := (a % md f) ^ ((md f).toNat - 2) % md f
theorem powS_inv {f a : Int} (hp : md f ≠ 0) (ha : a % md f ≠ 0) : powS f a (-1) = inv f a := by
  have hq := md_pos hp
  unfold powS inv
  rw [if_neg ha]
  have : (-1 : Int) % (md f - 1) = md f - 2 := by
    rw [← Int.add_emod_right, Int.emod_eq_of_lt (by omega) (by omega)]
    omega
  rw [this]
  congr 2
  omega
theorem inv_range (f a : Int) (hp : md f ≠ 0) : 0 ≤ inv f a ∧ inv f a < md f := by
  have hq := md_pos hp
  exact emod_range _ (by omega)
theorem mul_inv {f a : Int} (hp : md f ≠ 0) (ha : a % md f ≠ 0) : (a * inv f a) % md f = 1 := by
  have hq := md_pos hp
  have hr := emod_range a (show 0 < md f by omega)
  have h := fermat_int hp hr.1 (x := a % md f) (by rwa [Int.emod_emod_of_dvd _ (Int.dvd_refl _)])
  unfold inv
  rw [Int.mul_emod, Int.emod_emod_of_dvd _ (Int.dvd_refl (md f)), ← h]
  conv => rhs; rw [show (md f).toNat - 1 = ((md f).toNat - 2) + 1 by omega, Int.pow_succ, Int.mul_comm, Int.mul_emod, Int.emod_emod_of_dvd _ (Int.dvd_refl (md f))]
end Go.Proofs.Ytabicblkdgpogaa.Lib
end
section
namespace Go.Proofs.Ytabicblkdgpogaa.Lib
open Go.RowKit Go.Proofs.YtabicblkdgpogaaW.PrintWords
theorem sumN_add (n : Nat) (g h : Nat → Int) : sumN n (fun k => g k + h k) = sumN n g + sumN n h := by
  induction n with
  | zero => rfl
  | succ n ih => simp only [sumN, ih]; omega
theorem sumN_sub (n : Nat) (g h : Nat → Int) : sumN n (fun k => g k - h k) = sumN n g - sumN n h := by
  induction n with
  | zero => rfl
  | succ n ih => simp only [sumN, ih]; omega
theorem sumN_mul (n : Nat) (x : Int) (g : Nat → Int) : sumN n (fun k => x * g k) = x * sumN n g := by
  induction n with
  | zero => simp [sumN]
  | succ n ih => simp only [sumN, ih, Int.mul_add]
theorem sumN_emod {n : Nat} {g h : Nat → Int} (p : Int) (e : ∀ i, i < n → g i % p = h i % p) : sumN n g % p = sumN n h % p := by
  induction n with
  | zero => rfl
  | succ n ih =>
    simp only [sumN]
    rw [Int.add_emod, ih (fun i hi => e i (by omega)), e n (by omega), ← Int.add_emod]
theorem sumN_single {n k : Nat} {g : Nat → Int} (hk : k < n) (e : ∀ i, i < n → i ≠ k → g i = 0) : sumN n g = g k := by
  induction n with
  | zero => omega
  | succ n ih =>
    simp only [sumN]
    by_cases c : k = n
    · subst c
      rw [sumN_zero (fun i hi => e i (by omega) (by omega))]
      omega
    · rw [ih (by omega) (fun i hi hne => e i (by omega) hne), e n (by omega) (by omega)]
      omega
theorem sumN_emod_single {n k : Nat} {g : Nat → Int} (p : Int) (hk : k < n) (e : ∀ i, i < n → i ≠ k → g i % p = 0) : sumN n g % p = g k % p := by
  have h : sumN n g % p = sumN n (fun i => if i = k then g k else 0) % p := by
    apply sumN_emod
    intro i hi
    by_cases c : i = k
    · subst c; rw [if_pos rfl]
    · rw [if_neg c, e i hi c]; simp
  rw [h, sumN_single hk (fun i _ hne => by rw [if_neg hne]), if_pos rfl]
def cv (A B : Nat → Int) (m : Nat) : Int := sumN (m + 1) (fun t => A t * B (m - t))
theorem cv_sub (A A' B : Nat → Int) (m : Nat) : cv (fun t => A t - A' t) B m = cv A B m - cv A' B m := by
  unfold cv
  rw [← sumN_sub]
  exact sumN_congr (fun i _ => Int.sub_mul _ _ _)
theorem cv_emod_left {A A' B : Nat → Int} {p : Int} (h : ∀ i, A i % p = A' i % p) (m : Nat) : cv A B m % p = cv A' B m % p := by
  unfold cv
  apply sumN_emod
  intro i _
  rw [Int.mul_emod, h i, ← Int.mul_emod]
theorem cv_put (A B : Nat → Int) (k : Nat) (v : Int) (hk : A k = 0) (m : Nat) : cv (fun t => if t = k then v else A t) B m = cv A B m + (if k ≤ m then v * B (m - k) else 0) := by
  have h : cv (fun t => if t = k then v else A t) B m = cv A B m + sumN (m + 1) (fun t => if t = k then v * B (m - k) else 0) := by
    unfold cv
    rw [← sumN_add]
    apply sumN_congr
    intro i _
    by_cases c : i = k
    · subst c
      simp [hk]
    · simp [c]
  rw [h]
  by_cases c : k ≤ m
  · rw [if_pos c, sumN_single (k := k) (by omega) (fun i _ hne => by simp [hne])]
    simp
  · rw [if_neg c, sumN_zero (fun i hi => by rw [if_neg (by omega)])]
theorem cv_top {p : Int} {D B : Nat → Int} {n t : Nat} (hn : 1 ≤ n) (hB : ∀ i, n ≤ i → B i = 0) (h : ∀ s, t < s → D s % p = 0) : cv D B (t + (n - 1)) % p = (D t * B (n - 1)) % p := by
  unfold cv
  rw [sumN_emod_single (k := t) p (by omega)]
  · rw [show t + (n - 1) - t = n - 1 by omega]
  · intro i hi hne
    by_cases c : t < i
    · rw [Int.mul_emod, h i c]; simp
    · rw [hB _ (by omega)]; simp
theorem quotient_zero {f : Int} (hp : md f ≠ 0) {D B E : Nat → Int} {n : Nat} (hn : 1 ≤ n) (hB : ∀ i, n ≤ i → B i = 0) (hl : B (n - 1) % md f ≠ 0) (hcv : ∀ m, cv D B m % md f = E m % md f) (hE : ∀ m, n - 1 ≤ m → E m % md f = 0)
    (N : Nat) (hD : ∀ s, N ≤ s → D s % md f = 0) : ∀ s, D s % md f = 0 := by
  have key : ∀ j s : Nat, N ≤ s + j → D s % md f = 0 := by
    intro j
    induction j with
    | zero => intro s hs; exact hD s (by omega)
    | succ j ih =>
      intro s hs
      by_cases c : N ≤ s + j
      · exact ih s c
      · have ht := cv_top (p := md f) (D := D) (t := s) hn hB (fun u hu => ih u (by omega))
        rw [hcv, hE _ (by omega)] at ht
        rcases no_zero hp ht.symm with h1 | h1
        · exact h1
        · exact absurd h1 hl
  intro s
  exact key N s (by omega)
theorem el_eq {p x y : Int} (hx : 0 ≤ x ∧ x < p) (hy : 0 ≤ y ∧ y < p) (h : (x - y) % p = 0) : x = y := by
  obtain ⟨k, hk⟩ := Int.dvd_of_emod_eq_zero h
  rcases Int.lt_trichotomy k 0 with c | c | c
  · have := Int.mul_le_mul_of_nonneg_left (show k ≤ -1 by omega) (show 0 ≤ p by omega)
    omega
  · subst c; omega
  · have := Int.mul_le_mul_of_nonneg_left (show 1 ≤ k by omega) (show 0 ≤ p by omega)
    omega
theorem el_eq_emod {p x y : Int} (hx : 0 ≤ x ∧ x < p) (hy : 0 ≤ y ∧ y < p) (h : x % p = y % p) : x = y := by
  rwa [Int.emod_eq_of_lt hx.1 hx.2, Int.emod_eq_of_lt hy.1 hy.2] at h
def tn (l : List Int) : Nat → Nat
  | 0 => 0
  | n + 1 => if L l n = 0 then tn l n else n + 1
def tr (l : List Int) : List Int := l.take (tn l l.length)
def Tr (l : List Int) : Prop := ∀ j, l.length = j + 1 → L l j ≠ 0
theorem tn_le (l : List Int) : ∀ n, tn l n ≤ n := by
  intro n
  induction n with
  | zero => exact Nat.le_refl _
  | succ n ih =>
    simp only [tn]
    split
    · omega
    · omega
theorem tn_zero (l : List Int) : ∀ n i, tn l n ≤ i → i < n → L l i = 0 := by
  intro n
  induction n with
  | zero => intro i _ h; omega
  | succ n ih =>
    intro i h1 h2
    simp only [tn] at h1
    by_cases c : L l n = 0
    · rw [if_pos c] at h1
      by_cases e : i = n
      · subst e; exact c
      · exact ih i h1 (by omega)
    · rw [if_neg c] at h1; omega
theorem tn_last (l : List Int) : ∀ n j, tn l n = j + 1 → L l j ≠ 0 := by
  intro n
  induction n with
  | zero => intro j h; simp [tn] at h
  | succ n ih =>
    intro j h
    simp only [tn] at h
    by_cases c : L l n = 0
    · rw [if_pos c] at h; exact ih j h
    · rw [if_neg c] at h
      obtain rfl : n = j := by omega
      exact c
theorem L_take (l : List Int) (n i : Nat) : L (l.take n) i = if i < n then L l i else 0 := by
  by_cases c : i < n
  · rw [if_pos c]
    by_cases d : i < l.length
    · rw [L_at _ _ (by simp; omega), L_at _ _ d]; simp
    · rw [L_out _ _ (by simp; omega), L_out _ _ (by omega)]
  · rw [if_neg c, L_out _ _ (by simp; omega)]
theorem tr_length (l : List Int) : (tr l).length = tn l l.length := by
  unfold tr
  rw [List.length_take]
  have := tn_le l l.length
  omega
theorem tr_le (l : List Int) : (tr l).length ≤ l.length := by rw [tr_length]; exact tn_le _ _
theorem L_tr (l : List Int) (i : Nat) : L (tr l) i = L l i := by
  unfold tr
  rw [L_take]
  by_cases c : i < tn l l.length
  · rw [if_pos c]
  · rw [if_neg c]
    by_cases d : i < l.length
    · rw [tn_zero l l.length i (by omega) d]
    · rw [L_out l i (by omega)]
theorem tr_Tr (l : List Int) : Tr (tr l) := by
  intro j h
  rw [tr_length] at h
  rw [L_tr]
  exact tn_last l l.length j h
theorem tr_el {p : Int} {l : List Int} (h : El p l) : El p (tr l) := fun x hx => h x (List.mem_of_mem_take hx)
theorem Tr.ext {a b : List Int} (ha : Tr a) (hb : Tr b) (h : ∀ i, L a i = L b i) : a = b := by
  have hl : a.length = b.length := by
    rcases Nat.lt_trichotomy a.length b.length with c | c | c
    · exfalso
      have := hb (b.length - 1) (by omega)
      rw [← h, L_out a _ (by omega)] at this
      exact this rfl
    · exact c
    · exfalso
      have := ha (a.length - 1) (by omega)
      rw [h, L_out b _ (by omega)] at this
      exact this rfl
  exact list_ext hl (fun i _ => h i)
theorem Tr.le {a : List Int} (ha : Tr a) {n : Nat} (h : ∀ i, n ≤ i → L a i = 0) : a.length ≤ n := by
  rcases Nat.lt_or_ge n a.length with c | c
  · exact absurd (h (a.length - 1) (by omega)) (ha (a.length - 1) (by omega))
  · exact c
theorem div_unique {f : Int} (hp : md f ≠ 0) {b q r q' r' : List Int} (hb : 1 ≤ b.length) (hEb : El (md f) b) (hTb : Tr b) (hq : El (md f) q) (hr : El (md f) r) (hq' : El (md f) q') (hr' : El (md f) r')
    (tq : Tr q) (trr : Tr r) (tq' : Tr q') (tr' : Tr r') (lr : r.length < b.length) (lr' : r'.length < b.length)
    (h : ∀ m, (cv (L q) (L b) m + L r m) % md f = (cv (L q') (L b) m + L r' m) % md f) : q = q' ∧ r = r' := by
  have hm := md_pos hp
  have hlast : L b (b.length - 1) % md f ≠ 0 := by
    have h1 := hTb (b.length - 1) (by omega)
    have h2 := L_el (show 0 < md f by omega) hEb (b.length - 1)
    rw [Int.emod_eq_of_lt h2.1 h2.2]
    exact h1
  have hsub : ∀ m, cv (fun t => L q t - L q' t) (L b) m % md f = (L r' m - L r m) % md f := by
    intro m
    rw [cv_sub]
    have e := h m
    have e2 := Int.emod_emod_of_dvd 0 (Int.dvd_refl (md f))
    have : (cv (L q) (L b) m + L r m - (cv (L q') (L b) m + L r' m)) % md f = 0 := Int.emod_eq_emod_iff_emod_sub_eq_zero.1 e
    apply Int.emod_eq_emod_iff_emod_sub_eq_zero.2
    rw [← this]
    congr 1
    omega
  have hz := quotient_zero hp (D := fun t => L q t - L q' t) (B := L b) (E := fun m => L r' m - L r m) hb (fun i hi => L_out b i hi) hlast hsub
    (fun m hmm => by rw [L_out r' m (by omega), L_out r m (by omega)]; simp) (q.length + q'.length) (fun s hs => by show (L q s - L q' s) % md f = 0; rw [L_out q s (by omega), L_out q' s (by omega)]; simp)
  have hqq : q = q' := tq.ext tq' (fun i => el_eq (L_el (by omega) hq i) (L_el (by omega) hq' i) (hz i))
  subst hqq
  refine ⟨rfl, trr.ext tr' (fun i => ?_)⟩
  have e := hsub i
  rw [cv_sub, Int.sub_self] at e
  exact (el_eq (L_el (by omega) hr' i) (L_el (by omega) hr i) (by rw [← e]; simp)).symm
theorem sumN_front (n : Nat) (g : Nat → Int) : sumN (n + 1) g = g 0 + sumN n (fun k => g (k + 1)) := by
  induction n with
  | zero => simp [sumN]
  | succ n ih => rw [sumN, ih]; simp only [sumN]; omega
theorem sumN_rev (n : Nat) : ∀ g : Nat → Int, sumN n g = sumN n (fun i => g (n - 1 - i)) := by
  induction n with
  | zero => intro g; rfl
  | succ n ih =>
    intro g
    rw [sumN_front, sumN, ih (fun k => g (k + 1))]
    rw [show n + 1 - 1 - n = 0 by omega]
    have : sumN n (fun i => g (n - 1 - i + 1)) = sumN n (fun i => g (n + 1 - 1 - i)) := sumN_congr (fun i hi => by rw [show n - 1 - i + 1 = n + 1 - 1 - i by omega])
    rw [this]
    omega
theorem cv_comm (A B : Nat → Int) (m : Nat) : cv A B m = cv B A m := by
  unfold cv
  rw [sumN_rev]
  apply sumN_congr
  intro i hi
  rw [show m - (m + 1 - 1 - i) = i by omega, show m + 1 - 1 - i = m - i by omega, Int.mul_comm]
theorem cv_out (a b : List Int) (m : Nat) (h : a.length + b.length ≤ m + 1) : cv (L a) (L b) m = 0 := by
  unfold cv
  apply sumN_zero
  intro i hi
  by_cases c : i < a.length
  · rw [L_out b _ (by omega)]; simp
  · rw [L_out a _ (by omega)]; simp
def addP (p : Int) (a b : List Int) : List Int := tr (fl (max a.length b.length) (fun m => (L a m + L b m) % p))
def mulP (p : Int) (a b : List Int) : List Int := if a.length = 0 ∨ b.length = 0 then [] else tr (fl (a.length + b.length - 1) (fun m => cv (L a) (L b) m % p))
theorem L_addP (p : Int) (a b : List Int) (i : Nat) : L (addP p a b) i = (L a i + L b i) % p := by
  unfold addP
  rw [L_tr]
  by_cases c : i < max a.length b.length
  · rw [L_fl _ _ _ c]
  · rw [L_out _ _ (by rw [fl_length]; omega), L_out a i (by omega), L_out b i (by omega)]
    simp
theorem L_mulP (p : Int) (a b : List Int) (i : Nat) : L (mulP p a b) i = cv (L a) (L b) i % p := by
  unfold mulP
  by_cases z : a.length = 0 ∨ b.length = 0
  · rw [if_pos z, L_out [] i (by simp)]
    have : cv (L a) (L b) i = 0 := by
      unfold cv
      apply sumN_zero
      intro j _
      rcases z with z | z
      · rw [L_out a j (by omega)]; simp
      · rw [L_out b _ (by omega)]; simp
    rw [this]
    simp
  · rw [if_neg z, L_tr]
    by_cases c : i < a.length + b.length - 1
    · rw [L_fl _ _ _ c]
    · rw [L_out _ _ (by rw [fl_length]; omega), cv_out a b i (by omega)]
      simp
theorem addP_Tr (p : Int) (a b : List Int) : Tr (addP p a b) := tr_Tr _
theorem mulP_Tr (p : Int) (a b : List Int) : Tr (mulP p a b) := by
  unfold mulP
  split
  · intro j h; simp at h
  · exact tr_Tr _
theorem addP_el {p : Int} (hp : 0 < p) (a b : List Int) : El p (addP p a b) := tr_el (fl_el (fun _ _ => emod_range _ hp))
theorem mulP_el {p : Int} (hp : 0 < p) (a b : List Int) : El p (mulP p a b) := by
  unfold mulP
  split
  · exact El.nil p
  · exact tr_el (fl_el (fun _ _ => emod_range _ hp))
theorem mulP_le (p : Int) (a b : List Int) : (mulP p a b).length ≤ a.length + b.length := by
  unfold mulP
  split
  · simp
  · have := tr_le (fl (a.length + b.length - 1) (fun m => cv (L a) (L b) m % p))
    rw [fl_length] at this
    omega
end Go.Proofs.Ytabicblkdgpogaa.Lib
end
