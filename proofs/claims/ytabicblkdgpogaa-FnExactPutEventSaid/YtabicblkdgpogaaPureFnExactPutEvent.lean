/- PutEvent of the program and of the reference answer alike for all events. -/
import Derived.Test.YtabicblkdgpogaaQFnExactPutEventx17
import Derived.Test.YtabicblkdgpogaaVFnExactPutEventl
namespace Go.Proofs.Ytabicblkdgpogaa.Pure
open Go.RowKit Go.Proofs.Ytabicblkdgpogaa.QFnExactPutEvent Go.Proofs.YtabicblkdgpogaaW.PrintWords Go.Proofs.YtabicblkdgpogaaW.PrintLast Go.Proofs.YtabicblkdgpogaaW.PrintMore Go.Proofs.Ytabicblkdgpogaa.Lib
set_option linter.unusedVariables false

/-- All are bytes. -/
def Bs (l : List Int) : Prop := ∀ x ∈ l, 0 ≤ x ∧ x < 256
theorem Bs.L {l : List Int} (h : Bs l) (i : Nat) : 0 ≤ L l i ∧ L l i < 256 := L_el (by decide) h i
/-- 128 to the n. -/
def P7 (n : Nat) : Int := (2 : Int) ^ (7 * n)
theorem P7_succ (n : Nat) : P7 (n + 1) = P7 n * 128 := by
  unfold P7
  rw [show 7 * (n + 1) = 7 * n + 7 from rfl, Int.pow_add]
  rfl
theorem P7_pos (n : Nat) : 1 ≤ P7 n := by
  induction n with
  | zero => decide
  | succ n ih => rw [P7_succ]; omega
theorem P7_le {n m : Nat} (h : n ≤ m) : P7 n ≤ P7 m := by
  induction m with
  | zero => obtain rfl : n = 0 := by omega
            exact Int.le_refl _
  | succ m ih =>
    by_cases c : n = m + 1
    · rw [c]; exact Int.le_refl _
    · have := ih (by omega)
      have := P7_pos m
      rw [P7_succ]
      omega
/-- The number that a varint's bytes tell. -/
def val : List Int → Int
  | [] => 0
  | a :: s => a % 128 + 128 * val s
/-- A number's varint, of at most d + 1 bytes. -/
def vi : Nat → Int → List Int
  | 0, u => [u % 256]
  | d + 1, u => if u ≥ 128 then (128 + u % 128) % 256 :: vi d (u / 128) else [u % 256]
theorem val_nonneg (s : List Int) : 0 ≤ val s := by
  induction s with
  | nil => exact Int.le_refl _
  | cons a s ih => unfold val; omega
theorem val_lt (s : List Int) : val s < P7 s.length := by
  induction s with
  | nil => decide
  | cons a s ih =>
    rw [List.length_cons, P7_succ]
    unfold val
    omega
theorem val_snoc (s : List Int) (c : Int) : val (s ++ [c]) = val s + c % 128 * P7 s.length := by
  induction s with
  | nil =>
    show c % 128 + 128 * 0 = 0 + c % 128 * 1
    omega
  | cons a s ih =>
    rw [List.cons_append, val, ih, val, List.length_cons, P7_succ, Int.mul_add, ← Int.add_assoc, ← Int.mul_assoc (c % 128), Int.mul_comm 128 (c % 128 * P7 s.length)]
theorem vi_val (c : Int) (hc : 0 ≤ c ∧ c < 128) : ∀ (s : List Int) (d : Nat), (∀ a ∈ s, 128 ≤ a ∧ a < 256) → s.length ≤ d → (vi d (val (s ++ [c])) = s ++ [c] ↔ (s = [] ∨ c ≠ 0)) := by
  intro s
  induction s with
  | nil =>
    intro d _ _
    have e : val ([] ++ [c]) = c := by
      show c % 128 + 128 * 0 = c
      omega
    rw [e]
    have e2 : vi d c = [c % 256] := by
      cases d with
      | zero => rfl
      | succ d =>
        unfold vi
        rw [if_neg (by omega)]
    rw [e2, show c % 256 = c by omega]
    simp
  | cons a s ih =>
    intro d ha hd
    obtain ⟨d, rfl⟩ : ∃ m, d = m + 1 := ⟨d - 1, by simp at hd; omega⟩
    have a1 := ha a List.mem_cons_self
    have ihs := ih d (fun x hx => ha x (List.mem_cons_of_mem _ hx)) (by simp at hd; omega)
    have hv := val_nonneg (s ++ [c])
    have hsn := val_snoc s c
    have hs0 := val_nonneg s
    have hP := P7_pos s.length
    rw [List.cons_append, val]
    by_cases z : val (s ++ [c]) = 0
    · rw [z]
      have hm : 0 ≤ c % 128 * P7 s.length := Int.mul_nonneg (by omega) (by omega)
      have hz : c = 0 := by
        rcases Int.mul_eq_zero.1 (show c % 128 * P7 s.length = 0 by omega) with h | h <;> omega
      unfold vi
      rw [if_neg (by omega)]
      constructor
      · intro h
        have := (List.cons.inj h).2
        simp at this
      · intro h
        rcases h with h | h
        · simp at h
        · exact absurd hz h
    · unfold vi
      rw [if_pos (by omega), show (a % 128 + 128 * val (s ++ [c])) / 128 = val (s ++ [c]) by omega, show (128 + (a % 128 + 128 * val (s ++ [c])) % 128) % 256 = a by omega]
      constructor
      · intro h
        have := ihs.1 (List.cons.inj h).2
        right
        rcases this with h | h
        · rw [h] at z
          intro e
          rw [e] at z
          exact z (by decide)
        · exact h
      · intro h
        have hc0 : c ≠ 0 := by
          rcases h with h | h
          · simp at h
          · exact h
        rw [ihs.2 (Or.inr hc0)]
theorem or_gen (n : Nat) (hn : n ≤ 42) (u c : Int) (hu : 0 ≤ u) (hu2 : u < 2 ^ n) (hc : 0 ≤ c) (hc2 : c < 128) :
    shl .i64 c (n : Int) = c * 2 ^ n ∧ Go.bits .or .i64 u (shl .i64 c (n : Int)) = u + c * 2 ^ n := by
  have hp : (2 : Int) ^ n ≤ 2 ^ 42 := by exact_mod_cast Nat.pow_le_pow_right (by decide) hn
  have hp0 : (0 : Int) < 2 ^ n := by exact_mod_cast Nat.two_pow_pos n
  have hm : c * 2 ^ n ≤ 127 * 2 ^ n := Int.mul_le_mul_of_nonneg_right (by omega) (by omega)
  have hm0 : 0 ≤ c * 2 ^ n := Int.mul_nonneg hc (by omega)
  have h42 : (2 : Int) ^ 42 = 4398046511104 := by decide
  have h62 : (2 : Int) ^ 62 = 4611686018427387904 := by decide
  have e : shl .i64 c (n : Int) = c * 2 ^ n := by
    unfold shl
    rw [Int.toNat_natCast, Nat.min_eq_left (show n ≤ IntKind.i64.bits by show n ≤ 64; omega), IntKind.wrap_i64]
    omega
  refine ⟨e, ?_⟩
  rw [e]
  have hcm : ∀ x y : Int, Go.bits .or .i64 x y = Go.bits .or .i64 y x := by
    intro x y
    simp only [Go.bits, BitVec.or_comm]
  rw [hcm, bits_join .i64 62 (by decide) (fun m h1 h2 => by rw [IntKind.wrap_i64]; omega) n (c * 2 ^ n) u hm0 (Int.mul_emod_left _ _) (by omega) hu hu2 (by omega)]
  omega
/-- What a number's varint tells: the even ones are the numbers from 0 on, the odd ones those below. -/
def zig (u : Int) : Int := if u % 2 = 1 then -((u + 1) / 2) else u / 2
/-- Behind the last byte, c. -/
def tnf (u c : Int) (i at_ : Nat) : Int × Nat × Bool := if (c = 0 ∧ 0 < i) ∨ zig u < -1099511627776 ∨ zig u > 1099511627776 then (0, 0, false) else (zig u, at_ + i + 1, true)
def scan (b : List Int) (at_ : Nat) : Nat → Nat → Int → Int × Nat × Bool
  | 0, _, _ => (0, 0, false)
  | d + 1, i, u => if at_ + i < b.length then (if L b (at_ + i) ≥ 128 then scan b at_ d (i + 1) (u + L b (at_ + i) % 128 * P7 i) else tnf (u + L b (at_ + i) % 128 * P7 i) (L b (at_ + i)) i at_) else (0, 0, false)
theorem scan_succ (b : List Int) (at_ d i : Nat) (u : Int) : scan b at_ (d + 1) i u = if at_ + i < b.length then (if L b (at_ + i) ≥ 128 then scan b at_ d (i + 1) (u + L b (at_ + i) % 128 * P7 i) else tnf (u + L b (at_ + i) % 128 * P7 i) (L b (at_ + i)) i at_) else (0, 0, false) := rfl
/-- The number at a place: the number, the place behind it, whether there is one. -/
def tk (b : List Int) (at_ : Nat) : Int × Nat × Bool := scan b at_ 6 0 0
theorem scan_last (b : List Int) (at_ : Nat) (u : Int) (hb : Bs b) (hu : 0 ≤ u) : scan b at_ 1 6 u = (0, 0, false) := by
  have hc := hb.L (at_ + 6)
  unfold scan
  by_cases c1 : at_ + 6 < b.length
  · rw [if_pos c1]
    by_cases c2 : L b (at_ + 6) ≥ 128
    · rw [if_pos c2]; rfl
    · rw [if_neg c2]
      unfold tnf
      by_cases c3 : L b (at_ + 6) = 0
      · rw [if_pos (Or.inl ⟨c3, by decide⟩)]
      · have hP : P7 6 = 4398046511104 := by decide
        rw [if_pos]
        right
        unfold zig
        rw [hP]
        by_cases z : (u + L b (at_ + 6) % 128 * 4398046511104) % 2 = 1
        · rw [if_pos z]; omega
        · rw [if_neg z]; omega
  · rw [if_neg c1]
theorem scan76 (b : List Int) (at_ : Nat) (hb : Bs b) : ∀ (d i : Nat) (u : Int), i + d = 6 → 0 ≤ u → scan b at_ (d + 1) i u = scan b at_ d i u := by
  intro d
  induction d with
  | zero =>
    intro i u hi hu
    obtain rfl : i = 6 := by omega
    rw [scan_last b at_ u hb hu]; rfl
  | succ d ih =>
    intro i u hi hu
    rw [scan_succ b at_ (d + 1) i u, scan_succ b at_ d i u]
    have hn : 0 ≤ u + L b (at_ + i) % 128 * P7 i := by
      have := Int.mul_nonneg (show 0 ≤ L b (at_ + i) % 128 by omega) (show 0 ≤ P7 i by have := P7_pos i; omega)
      omega
    rw [ih (i + 1) _ (by omega) hn]
theorem scan_at (b : List Int) (at_ : Nat) : ∀ (d i : Nat) (u : Int), (scan b at_ d i u).2.1 ≤ b.length ∧ ((scan b at_ d i u).2.2 = true → at_ < (scan b at_ d i u).2.1) ∧ ((scan b at_ d i u).2.2 = false → scan b at_ d i u = (0, 0, false)) ∧ -1099511627776 ≤ (scan b at_ d i u).1 ∧ (scan b at_ d i u).1 ≤ 1099511627776 := by
  intro d
  induction d with
  | zero => intro i u; exact ⟨Nat.zero_le _, fun h => by simp [scan] at h, fun _ => rfl, by simp [scan], by simp [scan]⟩
  | succ d ih =>
    intro i u
    rw [scan]
    by_cases c1 : at_ + i < b.length
    · rw [if_pos c1]
      by_cases c2 : L b (at_ + i) ≥ 128
      · rw [if_pos c2]; exact ih _ _
      · rw [if_neg c2]
        unfold tnf
        split
        · exact ⟨Nat.zero_le _, fun h => by simp at h, fun _ => rfl, by simp, by simp⟩
        · rename_i h
          exact ⟨by show at_ + i + 1 ≤ b.length; omega, fun _ => by show at_ < at_ + i + 1; omega, fun h => by simp at h, by show -1099511627776 ≤ zig _; omega, by show zig _ ≤ 1099511627776; omega⟩
    · rw [if_neg c1]
      exact ⟨Nat.zero_le _, fun h => by simp at h, fun _ => rfl, by simp, by simp⟩
theorem tk_at (b : List Int) (at_ : Nat) : (tk b at_).2.1 ≤ b.length ∧ ((tk b at_).2.2 = true → at_ < (tk b at_).2.1) ∧ ((tk b at_).2.2 = false → tk b at_ = (0, 0, false)) ∧ -1099511627776 ≤ (tk b at_).1 ∧ (tk b at_).1 ≤ 1099511627776 := scan_at b at_ 6 0 0
theorem P7_42 {i : Nat} (h : i ≤ 6) : P7 i ≤ 4398046511104 := by
  have := P7_le h
  have e : P7 6 = 4398046511104 := by decide
  omega
theorem take_seg (b : List Int) (at_ i : Nat) (h : at_ + i < b.length) : (b.take (at_ + i + 1)).drop at_ = (b.take (at_ + i)).drop at_ ++ [L b (at_ + i)] := by
  rw [List.take_succ_eq_append_getElem h, List.drop_append_of_le_length (by rw [List.length_take]; omega), L_at _ _ h]
/-- What the rounds hold of a byte. -/
theorem round_of (b : List Int) (hb : Bs b) (at_ i : Nat) (u : Int) (hi : i ≤ 6) (hu : 0 ≤ u) (hu2 : u < P7 i) :
    0 ≤ u + L b (at_ + i) % 128 * P7 i ∧ u + L b (at_ + i) % 128 * P7 i < P7 (i + 1) ∧ u + L b (at_ + i) % 128 * P7 i < 562949953421312 := by
  have hc := hb.L (at_ + i)
  have hp := P7_pos i
  have h42 := P7_42 hi
  have h1 : 0 ≤ L b (at_ + i) % 128 * P7 i := Int.mul_nonneg (by omega) (by omega)
  have h2 : L b (at_ + i) % 128 * P7 i ≤ 127 * P7 i := Int.mul_le_mul_of_nonneg_right (by omega) (by omega)
  have h3 := P7_succ i
  refine ⟨by omega, by omega, by omega⟩
theorem itake_loop (b : List Int) (hb : Bs b) (at_ : Nat) (hlen : b.length ≤ 2000000) (hat : at_ ≤ b.length) : ∀ (d i k : Nat) (u : Int), i + d = 7 → 2 * d + 2 ≤ k → 0 ≤ u → u < P7 i →
    impl_takeNumber.l0 k b (at_ : Int) u (i : Int) = some ((scan b at_ d i u).1, ((scan b at_ d i u).2.1 : Int), (scan b at_ d i u).2.2) := by
  intro d
  induction d with
  | zero =>
    intro i k u hi hk hu hu2
    obtain ⟨k, rfl⟩ : ∃ m, k = m + 2 := ⟨k - 2, by omega⟩
    simp only [impl_takeNumber.l0]
    rw [if_neg (by omega)]
    simp only [impl_takeNumber.j1]
    rw [if_neg (by decide)]
    rfl
  | succ d ih =>
    intro i k u hi hk hu hu2
    obtain ⟨k, rfl⟩ : ∃ m, k = m + 2 := ⟨k - 2, by omega⟩
    have hw : wrap64 ((at_ : Int) + (i : Int)) = ((at_ + i : Nat) : Int) := by
      rw [wrap_id (by omega) (by omega)]; rfl
    have h7 : wrap64 (7 * (i : Int)) = ((7 * i : Nat) : Int) := by
      rw [wrap_id (by omega) (by omega)]; rfl
    have hc := hb.L (at_ + i)
    have hr := round_of b hb at_ i u (by omega) hu hu2
    simp only [impl_takeNumber.l0]
    rw [if_pos (by omega), hw]
    simp only [impl_takeNumber.j1]
    rw [scan]
    by_cases c1 : at_ + i < b.length
    · rw [if_pos c1, if_pos (decide_eq_true (by omega)), hw, if_pos (by omega), if_pos (by omega), h7, if_pos (by omega), rd_L, wrap_id (x := L b (at_ + i)) (by omega) (by omega), Int.tmod_eq_emod_of_nonneg hc.1]
      have ho := (or_gen (7 * i) (by omega) u (L b (at_ + i) % 128) hu hu2 (by omega) (by omega)).2
      rw [ho]
      have hP : (2 : Int) ^ (7 * i) = P7 i := rfl
      rw [hP]
      by_cases c2 : L b (at_ + i) ≥ 128
      · rw [if_pos c2, if_pos c2, wrap_next (show i < 7 by omega) (by omega)]
        exact ih (i + 1) k _ (by omega) (by omega) hr.1 hr.2.1
      · rw [if_neg c2, if_neg c2]
        generalize u + L b (at_ + i) % 128 * P7 i = v at hr ⊢
        rw [Int.tmod_eq_emod_of_nonneg hr.1]
        have ha : wrap64 (((at_ + i : Nat) : Int) + 1) = ((at_ + i + 1 : Nat) : Int) := by
          rw [wrap_id (by omega) (by omega)]; rfl
        unfold tnf zig
        by_cases z : v % 2 = 1
        · have hx : wrap64 (Int.tdiv (wrap64 (-(wrap64 (v + 1)))) 2) = -((v + 1) / 2) := by
            rw [wrap_id (x := v + 1) (by omega) (by omega), wrap_id (x := -(v + 1)) (by omega) (by omega), Int.neg_tdiv, Int.tdiv_eq_ediv_of_nonneg (by omega), wrap_id (by omega) (by omega)]
          rw [if_pos z, if_pos z, hx, ha]
          by_cases y0 : L b (at_ + i) = 0
          · rw [if_pos y0]
            by_cases y1 : (i : Int) > 0
            · rw [if_pos y1, if_pos (Or.inl ⟨y0, by omega⟩)]; rfl
            · rw [if_neg y1]
              by_cases y2 : -((v + 1) / 2) < (-1099511627776 : Int)
              · rw [if_pos y2, if_pos (Or.inr (Or.inl y2))]; rfl
              · rw [if_neg y2]
                by_cases y3 : -((v + 1) / 2) > (1099511627776 : Int)
                · rw [if_pos y3, if_pos (Or.inr (Or.inr y3))]; rfl
                · rw [if_neg y3, if_neg (by omega)]
          · rw [if_neg y0]
            by_cases y2 : -((v + 1) / 2) < (-1099511627776 : Int)
            · rw [if_pos y2, if_pos (Or.inr (Or.inl y2))]; rfl
            · rw [if_neg y2]
              by_cases y3 : -((v + 1) / 2) > (1099511627776 : Int)
              · rw [if_pos y3, if_pos (Or.inr (Or.inr y3))]; rfl
              · rw [if_neg y3, if_neg (by omega)]
        · have hx : wrap64 (Int.tdiv v 2) = v / 2 := by
            rw [Int.tdiv_eq_ediv_of_nonneg hr.1, wrap_id (by omega) (by omega)]
          rw [if_neg z, if_neg z, hx, ha]
          by_cases y0 : L b (at_ + i) = 0
          · rw [if_pos y0]
            by_cases y1 : (i : Int) > 0
            · rw [if_pos y1, if_pos (Or.inl ⟨y0, by omega⟩)]; rfl
            · rw [if_neg y1]
              by_cases y2 : v / 2 < (-1099511627776 : Int)
              · rw [if_pos y2, if_pos (Or.inr (Or.inl y2))]; rfl
              · rw [if_neg y2]
                by_cases y3 : v / 2 > (1099511627776 : Int)
                · rw [if_pos y3, if_pos (Or.inr (Or.inr y3))]; rfl
                · rw [if_neg y3, if_neg (by omega)]
          · rw [if_neg y0]
            by_cases y2 : v / 2 < (-1099511627776 : Int)
            · rw [if_pos y2, if_pos (Or.inr (Or.inl y2))]; rfl
            · rw [if_neg y2]
              by_cases y3 : v / 2 > (1099511627776 : Int)
              · rw [if_pos y3, if_pos (Or.inr (Or.inr y3))]; rfl
              · rw [if_neg y3, if_neg (by omega)]
    · rw [if_neg c1, if_neg (by simp; omega)]
      rfl
theorem itake_f (b : List Int) (hb : Bs b) (at_ : Nat) (hlen : b.length ≤ 2000000) (hat : at_ ≤ b.length) (k : Nat) (hk : 16 ≤ k) : impl_takeNumber.f k b (at_ : Int) = some ((tk b at_).1, ((tk b at_).2.1 : Int), (tk b at_).2.2) := by
  unfold impl_takeNumber.f
  rw [if_neg (by omega)]
  have := itake_loop b hb at_ hlen hat 7 0 k 0 (by omega) (by omega) (by omega) (by decide)
  rw [scan76 b at_ hb 6 0 0 (by omega) (by omega)] at this
  exact this
theorem put_loop : ∀ (d k : Nat) (acc : List Int) (u : Int), 0 ≤ u → u < P7 (d + 1) → u < 4611686018427387904 → acc.length + d ≤ 1000 → d < k → spec_PutNumber.l0 k acc u = some (acc ++ vi d u) := by
  intro d
  induction d with
  | zero =>
    intro k acc u h0 h1 _ hl hk
    obtain ⟨k, rfl⟩ : ∃ m, k = m + 1 := ⟨k - 1, by omega⟩
    have e : P7 (0 + 1) = 128 := by decide
    simp only [spec_PutNumber.l0]
    rw [if_neg (by omega), if_pos (by omega)]
    rfl
  | succ d ih =>
    intro k acc u h0 h1 h2 hl hk
    obtain ⟨k, rfl⟩ : ∃ m, k = m + 1 := ⟨k - 1, by omega⟩
    simp only [spec_PutNumber.l0]
    unfold vi
    by_cases c : u ≥ 128
    · have hd := Int.emod_add_mul_ediv u 128
      have := P7_succ (d + 1)
      rw [if_pos c, if_pos c, if_pos (by omega), Int.tmod_eq_emod_of_nonneg h0, Int.tdiv_eq_ediv_of_nonneg h0, wrap_id (x := 128 + u % 128) (by omega) (by omega), wrap_id (x := u / 128) (by omega) (by omega), ih k _ (u / 128) (by omega) (by omega) (by omega) (by simp; omega) (by omega), List.append_assoc]
      rfl
    · rw [if_neg c, if_neg c, if_pos (by omega)]
/-- The number that is written for one. -/
def unz (x : Int) : Int := if x < 0 then -2 * x - 1 else 2 * x
theorem unz_zig (u : Int) (h : 0 ≤ u) : unz (zig u) = u := by
  unfold unz zig
  by_cases z : u % 2 = 1
  · rw [if_pos z, if_pos (by omega)]; omega
  · rw [if_neg z, if_neg (by omega)]; omega
theorem put_f (x : Int) (h1 : -1099511627776 ≤ x) (h2 : x ≤ 1099511627776) (k : Nat) (hk : 10 ≤ k) : spec_PutNumber.f k x = some (vi 6 (unz x)) := by
  obtain ⟨k, rfl⟩ : ∃ m, k = m + 1 := ⟨k - 1, by omega⟩
  have e : P7 (6 + 1) = 562949953421312 := by decide
  unfold spec_PutNumber.f
  simp only [bs]
  unfold spec_l01In.f
  rw [if_pos h1, decide_eq_true h2]
  simp only [bs, if_true]
  unfold unz
  by_cases c : x < 0
  · rw [if_pos c, if_pos c, wrap_id (x := -2 * x) (by omega) (by omega), wrap_id (by omega) (by omega)]
    simp only [spec_PutNumber.j0]
    rw [put_loop 6 k [] (-2 * x - 1) (by omega) (by omega) (by omega) (by decide) (by omega), List.nil_append]
  · rw [if_neg c, if_neg c, wrap_id (x := 2 * x) (by omega) (by omega)]
    simp only [spec_PutNumber.j0]
    rw [put_loop 6 k [] (2 * x) (by omega) (by omega) (by omega) (by decide) (by omega), List.nil_append]
theorem put_out (x : Int) (h : x < -1099511627776 ∨ x > 1099511627776) (k : Nat) : spec_PutNumber.f k x = some [] := by
  unfold spec_PutNumber.f
  simp only [bs]
  unfold spec_l01In.f
  by_cases c : (-1099511627776 : Int) ≤ x
  · rw [if_pos c, decide_eq_false (by omega)]
    simp only [bs]
    rw [if_neg (by decide)]
  · rw [if_neg c]
    simp only [bs]
    rw [if_neg (by decide)]
theorem same_f (a b : List Int) (hn : a.length ≤ 2000000) (k : Nat) (hk : a.length < k) : spec_l01Same.f k a b = some (decide (a = b)) := by
  unfold spec_l01Same.f
  by_cases c : (a.length : Int) = (b.length : Int)
  · rw [if_pos c]
    have key : ∀ (d k i : Nat), i + d = a.length → d < k → spec_l01Same.l0 k a b (i : Int) = some (decide (a.drop i = b.drop i)) := by
      intro d
      induction d with
      | zero =>
        intro k i hi hk
        obtain ⟨k, rfl⟩ : ∃ m, k = m + 1 := ⟨k - 1, by omega⟩
        simp only [spec_l01Same.l0]
        rw [if_neg (by omega), List.drop_eq_nil_of_le (by omega), List.drop_eq_nil_of_le (by omega)]
        rfl
      | succ d ih =>
        intro k i hi hk
        obtain ⟨k, rfl⟩ : ∃ m, k = m + 1 := ⟨k - 1, by omega⟩
        simp only [spec_l01Same.l0]
        rw [if_pos (by omega), if_pos (by omega), if_pos (by omega), rd_at a i (by omega), rd_at b i (by omega), drop_cons a i (by omega), drop_cons b i (by omega)]
        by_cases e : a[i] = b[i]
        · rw [if_pos e, wrap_next (show i < a.length by omega) (by omega), ih k (i + 1) (by omega) (by omega)]
          congr 1
          exact decide_eq_decide.mpr ⟨fun h => by rw [e, h], fun h => (List.cons.inj h).2⟩
        · rw [if_neg e, decide_eq_false (fun h => e (List.cons.inj h).1)]
    have := key a.length k 0 (by omega) hk
    simpa using this
  · rw [if_neg c, decide_eq_false (fun h => c (by rw [h]))]
theorem vi_length : ∀ (d : Nat) (u : Int), (vi d u).length ≤ d + 1 := by
  intro d
  induction d with
  | zero => intro u; exact Nat.le_refl _
  | succ d ih =>
    intro u
    unfold vi
    split
    · have := ih (u / 128)
      rw [List.length_cons]
      omega
    · simp
theorem stake_end (b : List Int) (hb : Bs b) (at_ i : Nat) (hlen : b.length ≤ 2000000) (hi : i ≤ 5) (h : at_ + i < b.length) (hc : L b (at_ + i) < 128) (hs : ∀ a ∈ (b.take (at_ + i)).drop at_, 128 ≤ a ∧ a < 256) (k : Nat) (hk : 50 ≤ k) :
    spec_TakeNumber.j3 k b (at_ : Int) (i : Int) (zig (val ((b.take (at_ + i + 1)).drop at_))) = some ((tnf (val ((b.take (at_ + i + 1)).drop at_)) (L b (at_ + i)) i at_).1, ((tnf (val ((b.take (at_ + i + 1)).drop at_)) (L b (at_ + i)) i at_).2.1 : Int), (tnf (val ((b.take (at_ + i + 1)).drop at_)) (L b (at_ + i)) i at_).2.2) := by
  obtain ⟨k, rfl⟩ : ∃ m, k = m + 1 := ⟨k - 1, by omega⟩
  have hcc := hb.L (at_ + i)
  have hw : wrap64 (wrap64 ((at_ : Int) + (i : Int)) + 1) = ((at_ + i + 1 : Nat) : Int) := by
    rw [wrap_id (x := (at_ : Int) + (i : Int)) (by omega) (by omega), wrap_id (by omega) (by omega)]; rfl
  have hsl : ((b.take (at_ + i)).drop at_).length = i := by rw [List.length_drop, List.length_take]; omega
  have hvv := vi_val (L b (at_ + i)) ⟨hcc.1, hc⟩ ((b.take (at_ + i)).drop at_) 6 hs (by omega)
  have hv0 := val_nonneg ((b.take (at_ + i + 1)).drop at_)
  have huz := unz_zig _ hv0
  have hne : ((b.take (at_ + i)).drop at_ = [] ↔ i = 0) := by
    rw [← List.length_eq_zero_iff, hsl]
  rw [← take_seg b at_ i h] at hvv
  have hl2 : ((b.take (at_ + i + 1)).drop at_).length = i + 1 := by rw [List.length_drop, List.length_take]; omega
  simp only [spec_TakeNumber.j3, hw, Int.toNat_natCast]
  generalize (b.take (at_ + i + 1)).drop at_ = seg at hvv hv0 huz hl2 ⊢
  unfold tnf
  by_cases g : zig (val seg) < -1099511627776 ∨ zig (val seg) > 1099511627776
  · rw [if_pos (Or.inr g), put_out _ g]
    simp only [bs]
    rw [if_pos (by omega), if_pos (by omega), if_pos (by omega), same_f _ _ (by simp) k (by simp; omega)]
    simp only [bs]
    rw [if_neg]
    · rfl
    · rw [decide_eq_false (fun e => by rw [← e] at hl2; simp at hl2)]
      decide
  · rw [put_f _ (by omega) (by omega) k (by omega), huz]
    simp only [bs]
    have hlv := vi_length 6 (val seg)
    rw [if_pos (by omega), if_pos (by omega), if_pos (by omega), same_f _ _ (by omega) k (by omega)]
    simp only [bs]
    by_cases y : L b (at_ + i) = 0 ∧ 0 < i
    · rw [if_pos (Or.inl y), if_neg]
      · rfl
      · rw [decide_eq_false]
        · decide
        · intro e
          rcases hvv.1 e with e1 | e1
          · have := hne.1 e1; omega
          · exact e1 y.1
    · have hvs : vi 6 (val seg) = seg := by
        apply hvv.2
        by_cases z : i = 0
        · exact Or.inl (hne.2 z)
        · right
          intro e
          exact y ⟨e, by omega⟩
      rw [decide_eq_true hvs, if_pos rfl, if_neg (fun e => e.elim y g)]
theorem stake_loop (b : List Int) (hb : Bs b) (at_ : Nat) (hlen : b.length ≤ 2000000) (hat : at_ ≤ b.length) : ∀ (d i k : Nat), i + d = 6 → at_ + i ≤ b.length → 2 * d + 60 ≤ k → (∀ a ∈ (b.take (at_ + i)).drop at_, 128 ≤ a ∧ a < 256) →
    spec_TakeNumber.l0 k b (at_ : Int) (val ((b.take (at_ + i)).drop at_)) (i : Int) = some ((scan b at_ d i (val ((b.take (at_ + i)).drop at_))).1, ((scan b at_ d i (val ((b.take (at_ + i)).drop at_))).2.1 : Int), (scan b at_ d i (val ((b.take (at_ + i)).drop at_))).2.2) := by
  intro d
  induction d with
  | zero =>
    intro i k hi hai hk hs
    obtain ⟨k, rfl⟩ : ∃ m, k = m + 2 := ⟨k - 2, by omega⟩
    simp only [spec_TakeNumber.l0]
    rw [if_neg (by omega)]
    simp only [spec_TakeNumber.j2]
    rw [if_neg (by decide)]
    rfl
  | succ d ih =>
    intro i k hi hai hk hs
    obtain ⟨k, rfl⟩ : ∃ m, k = m + 2 := ⟨k - 2, by omega⟩
    have hw : wrap64 ((at_ : Int) + (i : Int)) = ((at_ + i : Nat) : Int) := by
      rw [wrap_id (by omega) (by omega)]; rfl
    have h7 : IntKind.u64.wrap (wrap64 (7 * (i : Int))) = ((7 * i : Nat) : Int) := by
      rw [wrap_id (x := 7 * (i : Int)) (by omega) (by omega)]
      show (7 * (i : Int)) % 18446744073709551616 = _
      omega
    have hwl : wrap64 ((b.length : Int) - (at_ : Int)) = (b.length : Int) - (at_ : Int) := wrap_id (by omega) (by omega)
    have hc := hb.L (at_ + i)
    have hsl : ((b.take (at_ + i)).drop at_).length = i := by rw [List.length_drop, List.length_take]; omega
    have hv0 := val_nonneg ((b.take (at_ + i)).drop at_)
    have hv1 := val_lt ((b.take (at_ + i)).drop at_)
    rw [hsl] at hv1
    have hr := round_of b hb at_ i _ (by omega) hv0 hv1
    simp only [spec_TakeNumber.l0]
    rw [if_pos (by omega), hwl]
    simp only [spec_TakeNumber.j2]
    rw [scan]
    by_cases c1 : at_ + i < b.length
    · have hseg := take_seg b at_ i c1
      have hval : val ((b.take (at_ + i + 1)).drop at_) = val ((b.take (at_ + i)).drop at_) + L b (at_ + i) % 128 * P7 i := by
        rw [hseg, val_snoc, hsl]
      rw [if_pos c1, if_pos (decide_eq_true (by omega)), hw, if_pos (by omega), if_pos (by omega), h7, if_pos (by omega), rd_L, wrap_id (x := L b (at_ + i)) (by omega) (by omega), Int.tmod_eq_emod_of_nonneg hc.1]
      have ho := (or_gen (7 * i) (by omega) _ (L b (at_ + i) % 128) hv0 hv1 (by omega) (by omega)).1
      rw [ho]
      have hP : (2 : Int) ^ (7 * i) = P7 i := rfl
      rw [hP, ← hval]
      rw [← hval] at hr
      rw [wrap_id (x := val ((b.take (at_ + i + 1)).drop at_)) (by omega) (by omega)]
      by_cases c2 : L b (at_ + i) ≥ 128
      · rw [if_pos c2, if_pos c2, wrap_next (show i < 7 by omega) (by omega)]
        refine ih (i + 1) k (by omega) (by omega) (by omega) ?_
        intro a ha
        rw [show at_ + (i + 1) = at_ + i + 1 from rfl, hseg, List.mem_append, List.mem_singleton] at ha
        rcases ha with ha | rfl
        · exact hs a ha
        · exact ⟨c2, hc.2⟩
      · rw [if_neg c2, if_neg c2]
        have he := stake_end b hb at_ i hlen (by omega) c1 (by omega) hs k (by omega)
        rw [Int.tmod_eq_emod_of_nonneg hr.1]
        have hz : (if val ((b.take (at_ + i + 1)).drop at_) % 2 = 1 then spec_TakeNumber.j3 k b (at_ : Int) (i : Int) (wrap64 (wrap64 (-(wrap64 (Int.tdiv (val ((b.take (at_ + i + 1)).drop at_)) 2))) - 1)) else spec_TakeNumber.j3 k b (at_ : Int) (i : Int) (wrap64 (Int.tdiv (val ((b.take (at_ + i + 1)).drop at_)) 2))) = spec_TakeNumber.j3 k b (at_ : Int) (i : Int) (zig (val ((b.take (at_ + i + 1)).drop at_))) := by
          rw [Int.tdiv_eq_ediv_of_nonneg hr.1]
          generalize val ((b.take (at_ + i + 1)).drop at_) = v at hr ⊢
          unfold zig
          by_cases z : v % 2 = 1
          · rw [if_pos z, if_pos z, wrap_id (x := v / 2) (by omega) (by omega), wrap_id (x := -(v / 2)) (by omega) (by omega), wrap_id (by omega) (by omega)]
            congr 1
            omega
          · rw [if_neg z, if_neg z, wrap_id (x := v / 2) (by omega) (by omega)]
        rw [hz, he]
    · rw [if_neg c1, if_neg (by simp; omega)]
      rfl
theorem stake_f (b : List Int) (hb : Bs b) (at_ : Nat) (hlen : b.length ≤ 2000000) (hat : at_ ≤ b.length) (k : Nat) (hk : 80 ≤ k) : spec_TakeNumber.f k b (at_ : Int) = some ((tk b at_).1, ((tk b at_).2.1 : Int), (tk b at_).2.2) := by
  obtain ⟨k, rfl⟩ : ∃ m, k = m + 1 := ⟨k - 1, by omega⟩
  unfold spec_TakeNumber.f
  rw [if_neg (by omega)]
  simp only [spec_TakeNumber.j0]
  by_cases c : at_ = b.length
  · rw [if_pos (decide_eq_true (by omega))]
    have e : tk b at_ = (0, 0, false) := by
      unfold tk scan
      rw [if_neg (by omega)]
    rw [e]
    rfl
  · rw [if_neg (by simp; omega)]
    have hd : (b.take (at_ + 0)).drop at_ = [] := by
      apply List.drop_eq_nil_of_le
      rw [List.length_take]
      omega
    have := stake_loop b hb at_ hlen hat 6 0 k (by omega) (by omega) (by omega) (by rw [hd]; intro a ha; cases ha)
    rw [hd] at this
    exact this
theorem in_is (a b c : Int) : spec_l01In.f a b c = some (decide (b ≤ a ∧ a ≤ c)) := by
  unfold spec_l01In.f
  by_cases h : b ≤ a
  · rw [if_pos h]
    congr 1
    rw [decide_eq_decide]
    exact ⟨fun g => ⟨h, g⟩, fun g => g.2⟩
  · rw [if_neg h, decide_eq_false (fun g => h g.1)]
theorem modulus_is (f : Int) : spec_Modulus.f f = some (md f) := by
  unfold spec_Modulus.f md
  simp only [apply_ite some]
theorem fieldOf_is (f : Int) : impl_fieldOf.f f = some (md f, gn f, tw f, decide (md f ≠ 0)) := by
  by_cases c : 0 ≤ f ∧ f ≤ 8
  · rcases nine c.1 c.2 with rfl | rfl | rfl | rfl | rfl | rfl | rfl | rfl | rfl <;> rfl
  · obtain ⟨h1, h2, h3⟩ := md_out c
    unfold impl_fieldOf.f
    rw [h1, h2, h3]
    by_cases c0 : f < 0
    · rw [if_pos c0]; rfl
    · rw [if_neg c0, if_pos (by omega)]; rfl
/-- Few numbers that are not too great. -/
def Wd (l : List Int) : Prop := ∀ x ∈ l, -1099511627776 ≤ x ∧ x ≤ 1099511627776
instance (l : List Int) : Decidable (Wd l) := inferInstanceAs (Decidable (∀ x ∈ l, -1099511627776 ≤ x ∧ x ≤ 1099511627776))
def Ww (l : List Int) : Prop := l.length ≤ 400 ∧ Wd l
instance (l : List Int) : Decidable (Ww l) := by unfold Ww; exact inferInstance
theorem Wd_cons {a : Int} {l : List Int} : Wd (a :: l) ↔ (-1099511627776 ≤ a ∧ a ≤ 1099511627776) ∧ Wd l := by
  constructor
  · intro h
    exact ⟨h a List.mem_cons_self, fun x hx => h x (List.mem_cons_of_mem _ hx)⟩
  · rintro ⟨h1, h2⟩ x hx
    rcases List.mem_cons.1 hx with rfl | hx
    · exact h1
    · exact h2 x hx
theorem swords_f (l : List Int) (hn : l.length ≤ 2000000) (k : Nat) (hk : l.length < k) : spec_l10Words.f k l = some (decide (Ww l)) := by
  unfold spec_l10Words.f
  by_cases c : (l.length : Int) > 400
  · rw [if_pos c, decide_eq_false (fun h => by have := h.1; omega)]
  · rw [if_neg c]
    have := loop_list (fun k (_ : Unit) i => spec_l10Words.l0 k l i) l 0 (fun _ _ => True) (fun r _ => decide (Wd r)) (by
      intro k s _ _
      simp only [spec_l10Words.l0]
      rw [if_neg (by omega), decide_eq_true (show Wd [] from fun x hx => by cases hx)]) (by
      intro k i s h _ _
      simp only [spec_l10Words.l0]
      rw [if_pos (by omega), if_pos (by omega), rd_at l i h, in_is]
      simp only [bs]
      by_cases c : -1099511627776 ≤ l[i] ∧ l[i] ≤ 1099511627776
      · left
        refine ⟨(), ?_, trivial, ?_⟩
        · rw [if_pos (decide_eq_true c), wrap_next h (by omega)]
        · rw [decide_eq_decide, Wd_cons]
          exact ⟨fun h => h.2, fun h => ⟨c, h⟩⟩
      · right
        rw [if_neg (by simpa using c), decide_eq_false (fun h => c (Wd_cons.1 h).1)]) k () (by omega) trivial
    rw [this]
    congr 1
    rw [decide_eq_decide]
    exact ⟨fun h => ⟨by omega, h⟩, fun h => h.2⟩
theorem iwords_f (l : List Int) (hn : l.length ≤ 2000000) (k : Nat) (hk : l.length < k) : impl_areWords.f k l = some (decide (Ww l)) := by
  unfold impl_areWords.f
  have := loop_list (fun k (_ : Unit) i => impl_areWords.l0 k l l (l.length : Int) i) l 0 (fun _ _ => True) (fun r _ => decide (l.length ≤ 400 ∧ Wd r)) (by
    intro k s _ _
    simp only [impl_areWords.l0]
    rw [if_neg (by omega)]
    congr 1
    rw [decide_eq_decide]
    exact ⟨fun h => ⟨by omega, fun x hx => by cases hx⟩, fun h => by have := h.1; omega⟩) (by
    intro k i s h _ _
    simp only [impl_areWords.l0]
    rw [if_pos (by omega), if_pos (by omega), if_pos (by omega), rd_at l i h]
    by_cases c1 : l[i] < -1099511627776
    · right
      rw [if_pos c1, decide_eq_false (fun h => by have := (Wd_cons.1 h.2).1; omega)]
    · rw [if_neg c1]
      by_cases c2 : l[i] > 1099511627776
      · right
        rw [if_pos c2, decide_eq_false (fun h => by have := (Wd_cons.1 h.2).1; omega)]
      · left
        refine ⟨(), ?_, trivial, ?_⟩
        · rw [if_neg c2, wrap_next h (by omega)]
        · rw [decide_eq_decide, Wd_cons]
          exact ⟨fun h => ⟨h.1, h.2.2⟩, fun h => ⟨h.1, ⟨by omega, by omega⟩, h.2⟩⟩) k () (by omega) trivial
  exact this
def uB (a : Int) : Prop := a ≠ 1 ∧ a ≠ 2 ∧ a ≠ 7
instance (a : Int) : Decidable (uB a) := by unfold uB; exact inferInstance
/-- A valid job. -/
def JobP (a f : Int) (A B : List Int) (n : Int) : Prop := (1 ≤ a ∧ a ≤ 11) ∧ md f ≠ 0 ∧ (a = 6 → f = 0) ∧ Ww A ∧ Ww B ∧ (0 ≤ n ∧ n ≤ 400) ∧ (uB a ∨ B.length = 0) ∧ (a = 11 ∨ n = 0)
instance (a f : Int) (A B : List Int) (n : Int) : Decidable (JobP a f A B n) := by unfold JobP; exact inferInstance
theorem has_is (l : List Int) (a : Int) (hn : l.length ≤ 2000000) (k : Nat) (hk : l.length < k) : spec_l01Has.f k l a = some (decide (a ∈ l)) := by
  unfold spec_l01Has.f
  exact loop_list (fun k (_ : Unit) i => spec_l01Has.l0 k l a i) l 0 (fun _ _ => True) (fun r _ => decide (a ∈ r)) (by
    intro k s _ _
    simp only [spec_l01Has.l0]
    rw [if_neg (by omega)]
    simp) (by
    intro k i s h _ _
    simp only [spec_l01Has.l0]
    rw [if_pos (by omega), if_pos (by omega), rd_at l i h]
    by_cases c : l[i] = a
    · right
      rw [if_pos c]
      simp [c]
    · left
      refine ⟨(), ?_, trivial, ?_⟩
      · rw [if_neg c, wrap_next h (by omega)]
      · have c' : ¬ a = l[i] := fun e => c e.symm
        rw [decide_eq_decide, List.mem_cons]
        exact ⟨fun h => h.resolve_left c', Or.inr⟩) k () (by omega) trivial
theorem susesB_f (a : Int) (ha : 1 ≤ a ∧ a ≤ 11) (k : Nat) (hk : 8 < k) : spec_l10UsesB.f k a = some (decide (uB a)) := by
  unfold spec_l10UsesB.f
  rw [has_is ([3, 4, 5, 6, 8, 9, 10, 11] : List Int) a (by decide) k hk]
  simp only [bs]
  congr 1
  rw [decide_eq_decide]
  unfold uB
  simp only [List.mem_cons, List.not_mem_nil, or_false]
  omega
theorem iusesB_f (a : Int) : impl_usesB.f a = some (decide (uB a)) := by
  unfold impl_usesB.f
  by_cases c1 : a = 1
  · rw [if_pos c1, decide_eq_false (fun h => h.1 c1)]
  · rw [if_neg c1]
    by_cases c2 : a = 2
    · rw [if_pos c2, decide_eq_false (fun h => h.2.1 c2)]
    · rw [if_neg c2]
      congr 1
      by_cases c3 : a = 7
      · rw [decide_eq_false (fun h => h.2.2 c3), c3]; rfl
      · rw [decide_eq_true ⟨c1, c2, c3⟩]
        simpa using c3
theorem tail_job (a n : Int) : (if a = 11 then some true else some (n == 0)) = some (decide (a = 11 ∨ n = 0)) := by
  by_cases c : a = 11
  · rw [if_pos c, decide_eq_true (Or.inl c)]
  · rw [if_neg c]
    by_cases d : n = 0
    · rw [decide_eq_true (Or.inr d), d]; rfl
    · rw [decide_eq_false (fun h => h.elim c d)]
      congr 1
      simpa using d
theorem sjobOk_f (a f : Int) (A B : List Int) (n : Int) (hA : A.length ≤ 2000000) (hB : B.length ≤ 2000000) (k : Nat) (hk : A.length + B.length + 20 < k) : spec_JobOk.f k a f A B n = some (decide (JobP a f A B n)) := by
  obtain ⟨k, rfl⟩ : ∃ m, k = m + 1 := ⟨k - 1, by omega⟩
  have bad : ¬ ((1 ≤ a ∧ a ≤ 11) ∧ md f ≠ 0 ∧ (a = 6 → f = 0)) → some false = some (decide (JobP a f A B n)) := fun h => by rw [decide_eq_false (fun g => h ⟨g.1, g.2.1, g.2.2.1⟩)]
  have good : (1 ≤ a ∧ a ≤ 11) ∧ md f ≠ 0 ∧ (a = 6 → f = 0) → spec_JobOk.j0 (k + 1) false a f A B n = some (decide (JobP a f A B n)) := by
    intro h
    simp only [spec_JobOk.j0]
    rw [if_neg (by decide), swords_f A hA k (by omega)]
    simp only [bs]
    by_cases wA : Ww A
    · rw [if_pos (decide_eq_true wA), swords_f B hB k (by omega)]
      simp only [bs]
      by_cases wB : Ww B
      · rw [if_pos (decide_eq_true wB), in_is]
        simp only [bs]
        by_cases wn : 0 ≤ n ∧ n ≤ 400
        · rw [if_pos (decide_eq_true wn), susesB_f a h.1 k (by omega)]
          simp only [bs, tail_job]
          by_cases u : uB a
          · rw [if_pos (decide_eq_true u)]
            congr 1
            rw [decide_eq_decide]
            exact ⟨fun g => ⟨h.1, h.2.1, h.2.2, wA, wB, wn, Or.inl u, g⟩, fun g => g.2.2.2.2.2.2.2⟩
          · rw [if_neg (by simpa using u)]
            by_cases z : (B.length : Int) = 0
            · rw [if_pos z]
              congr 1
              rw [decide_eq_decide]
              exact ⟨fun g => ⟨h.1, h.2.1, h.2.2, wA, wB, wn, Or.inr (by omega), g⟩, fun g => g.2.2.2.2.2.2.2⟩
            · rw [if_neg z, decide_eq_false (fun g => g.2.2.2.2.2.2.1.elim u (fun e => z (by omega)))]
        · rw [if_neg (by simpa using wn), decide_eq_false (fun g => wn g.2.2.2.2.2.1)]
      · rw [if_neg (by simpa using wB), decide_eq_false (fun g => wB g.2.2.2.2.1)]
    · rw [if_neg (by simpa using wA), decide_eq_false (fun g => wA g.2.2.2.1)]
  have no : spec_JobOk.j0 (k + 1) true a f A B n = some false := by
    simp only [spec_JobOk.j0, if_true]
  unfold spec_JobOk.f
  rw [in_is]
  simp only [bs]
  by_cases h1 : 1 ≤ a ∧ a ≤ 11
  · rw [if_pos (decide_eq_true h1), modulus_is]
    simp only [bs]
    by_cases h2 : md f = 0
    · rw [if_pos h2, no, bad (fun g => g.2.1 h2)]
    · rw [if_neg h2]
      by_cases h3 : a = 6
      · rw [if_pos h3]
        by_cases h4 : f = 0
        · rw [show (f != 0) = false by simpa using h4, good ⟨h1, h2, fun _ => h4⟩]
        · rw [show (f != 0) = true by simpa using h4, no, bad (fun g => h4 (g.2.2 h3))]
      · rw [if_neg h3, good ⟨h1, h2, fun e => absurd e h3⟩]
  · rw [if_neg (by simpa using h1), no, bad (fun g => h1 g.1)]
theorem ijobOk_f (a f : Int) (A B : List Int) (n : Int) (hA : A.length ≤ 2000000) (hB : B.length ≤ 2000000) (k : Nat) (hk : A.length + B.length + 20 < k) : impl_isJob.f k a f A B n = some (decide (JobP a f A B n)) := by
  obtain ⟨k, rfl⟩ : ∃ m, k = m + 1 := ⟨k - 1, by omega⟩
  have bad : ¬ ((1 ≤ a ∧ a ≤ 11) ∧ md f ≠ 0 ∧ (a = 6 → f = 0)) → some false = some (decide (JobP a f A B n)) := fun h => by rw [decide_eq_false (fun g => h ⟨g.1, g.2.1, g.2.2.1⟩)]
  have good : (1 ≤ a ∧ a ≤ 11) ∧ md f ≠ 0 ∧ (a = 6 → f = 0) → impl_isJob.j0 (k + 1) false a f A B n = some (decide (JobP a f A B n)) := by
    intro h
    simp only [impl_isJob.j0]
    rw [if_neg (by decide), iwords_f A hA k (by omega)]
    simp only [bs]
    by_cases wA : Ww A
    · rw [if_pos (decide_eq_true wA), iwords_f B hB k (by omega)]
      simp only [bs]
      by_cases wB : Ww B
      · rw [if_pos (decide_eq_true wB)]
        by_cases n1 : n < 0
        · rw [if_pos n1, decide_eq_false (fun g => by have := g.2.2.2.2.2.1; omega)]
        · rw [if_neg n1]
          by_cases n2 : n > 400
          · rw [if_pos n2, decide_eq_false (fun g => by have := g.2.2.2.2.2.1; omega)]
          · have wn : 0 ≤ n ∧ n ≤ 400 := by omega
            rw [if_neg n2, iusesB_f a]
            simp only [bs, tail_job]
            by_cases u : uB a
            · rw [if_pos (decide_eq_true u)]
              congr 1
              rw [decide_eq_decide]
              exact ⟨fun g => ⟨h.1, h.2.1, h.2.2, wA, wB, wn, Or.inl u, g⟩, fun g => g.2.2.2.2.2.2.2⟩
            · rw [if_neg (by simpa using u)]
              by_cases z : (B.length : Int) = 0
              · rw [if_pos z]
                congr 1
                rw [decide_eq_decide]
                exact ⟨fun g => ⟨h.1, h.2.1, h.2.2, wA, wB, wn, Or.inr (by omega), g⟩, fun g => g.2.2.2.2.2.2.2⟩
              · rw [if_neg z, decide_eq_false (fun g => g.2.2.2.2.2.2.1.elim u (fun e => z (by omega)))]
      · rw [if_neg (by simpa using wB), decide_eq_false (fun g => wB g.2.2.2.2.1)]
    · rw [if_neg (by simpa using wA), decide_eq_false (fun g => wA g.2.2.2.1)]
  have no : impl_isJob.j0 (k + 1) true a f A B n = some false := by
    simp only [impl_isJob.j0, if_true]
  unfold impl_isJob.f
  rw [fieldOf_is]
  simp only [bs]
  by_cases h2 : md f = 0
  · rw [if_neg (by simpa using h2), no, bad (fun g => g.2.1 h2)]
  · rw [if_pos (decide_eq_true h2)]
    by_cases h1 : a < 1
    · rw [if_pos h1, no, bad (fun g => by omega)]
    · rw [if_neg h1]
      by_cases h1' : a > 11
      · rw [if_pos h1', no, bad (fun g => by omega)]
      · rw [if_neg h1']
        by_cases h3 : a = 6
        · rw [if_pos h3]
          by_cases h4 : f = 0
          · rw [show (f != 0) = false by simpa using h4, good ⟨⟨by omega, by omega⟩, h2, fun _ => h4⟩]
          · rw [show (f != 0) = true by simpa using h4, no, bad (fun g => h4 (g.2.2 h3))]
        · rw [if_neg h3, good ⟨⟨by omega, by omega⟩, h2, fun e => absurd e h3⟩]
/-- So many numbers, one behind the other. -/
def items (b : List Int) : Nat → Nat → List Int → List Int × Nat × Bool
  | 0, at_, acc => (acc, at_, true)
  | n + 1, at_, acc => if (tk b at_).2.2 = true then items b n (tk b at_).2.1 (acc ++ [(tk b at_).1]) else ([], 0, false)
/-- A list: its length ahead. -/
def tl (b : List Int) (at_ : Nat) : List Int × Nat × Bool := if (tk b at_).2.2 = true ∧ 0 ≤ (tk b at_).1 ∧ (tk b at_).1 ≤ 400 then items b (tk b at_).1.toNat (tk b at_).2.1 [] else ([], 0, false)
theorem items_at (b : List Int) : ∀ (n at_ : Nat) (acc : List Int), at_ ≤ b.length → (items b n at_ acc).2.1 ≤ b.length ∧ (items b n at_ acc).1.length ≤ acc.length + n ∧ ((items b n at_ acc).2.2 = false → items b n at_ acc = ([], 0, false)) := by
  intro n
  induction n with
  | zero => intro at_ acc h; exact ⟨h, Nat.le_refl _, fun h => by simp [items] at h⟩
  | succ n ih =>
    intro at_ acc h
    unfold items
    by_cases c : (tk b at_).2.2 = true
    · rw [if_pos c]
      have := ih (tk b at_).2.1 (acc ++ [(tk b at_).1]) (tk_at b at_).1
      refine ⟨this.1, ?_, this.2.2⟩
      have h2 := this.2.1
      rw [List.length_append, List.length_singleton] at h2
      omega
    · rw [if_neg c]
      exact ⟨Nat.zero_le _, by simp, fun _ => rfl⟩
theorem tl_at (b : List Int) (at_ : Nat) : (tl b at_).2.1 ≤ b.length ∧ (tl b at_).1.length ≤ 400 ∧ ((tl b at_).2.2 = false → tl b at_ = ([], 0, false)) := by
  unfold tl
  by_cases c : (tk b at_).2.2 = true ∧ 0 ≤ (tk b at_).1 ∧ (tk b at_).1 ≤ 400
  · rw [if_pos c]
    have := items_at b (tk b at_).1.toNat (tk b at_).2.1 [] (tk_at b at_).1
    refine ⟨this.1, ?_, this.2.2⟩
    have h2 := this.2.1
    simp only [List.length_nil] at h2
    omega
  · rw [if_neg c]
    exact ⟨Nat.zero_le _, by simp, fun _ => rfl⟩
theorem stl_loop (b : List Int) (hb : Bs b) (hlen : b.length ≤ 2000000) (n : Nat) (hn : n ≤ 400) : ∀ (d i at_ k : Nat) (acc : List Int), i + d = n → at_ ≤ b.length → acc.length + d ≤ 1000 → d + 100 ≤ k →
    spec_l10TakeList.l0 k b (at_ : Int) acc (n : Int) (i : Int) = some ((items b d at_ acc).1, ((items b d at_ acc).2.1 : Int), (items b d at_ acc).2.2) := by
  intro d
  induction d with
  | zero =>
    intro i at_ k acc hi hat hacc hk
    obtain ⟨k, rfl⟩ : ∃ m, k = m + 1 := ⟨k - 1, by omega⟩
    simp only [spec_l10TakeList.l0]
    rw [if_neg (by omega)]
    rfl
  | succ d ih =>
    intro i at_ k acc hi hat hacc hk
    obtain ⟨k, rfl⟩ : ∃ m, k = m + 1 := ⟨k - 1, by omega⟩
    simp only [spec_l10TakeList.l0]
    rw [if_pos (by omega), stake_f b hb at_ hlen hat k (by omega)]
    simp only [bs]
    rw [items]
    by_cases c : (tk b at_).2.2 = true
    · rw [if_pos c, if_pos c, if_pos (by omega), wrap_next (show i < n by omega) (by omega)]
      exact ih (i + 1) _ k _ (by omega) (tk_at b at_).1 (by simp; omega) (by omega)
    · rw [if_neg c, if_neg c]
      rfl
theorem stl_f (b : List Int) (hb : Bs b) (hlen : b.length ≤ 2000000) (at_ : Nat) (hat : at_ ≤ b.length) (k : Nat) (hk : 600 ≤ k) : spec_l10TakeList.f k b (at_ : Int) = some ((tl b at_).1, ((tl b at_).2.1 : Int), (tl b at_).2.2) := by
  obtain ⟨k, rfl⟩ : ∃ m, k = m + 1 := ⟨k - 1, by omega⟩
  unfold spec_l10TakeList.f
  simp only [bs]
  rw [stake_f b hb at_ hlen hat (k + 1) (by omega)]
  simp only [bs]
  unfold tl
  by_cases c : (tk b at_).2.2 = true
  · rw [if_pos c, in_is]
    simp only [bs]
    simp only [spec_l10TakeList.j0]
    by_cases d : 0 ≤ (tk b at_).1 ∧ (tk b at_).1 ≤ 400
    · rw [if_neg (by simpa using d), if_pos ⟨c, d⟩]
      have := stl_loop b hb hlen (tk b at_).1.toNat (by omega) (tk b at_).1.toNat 0 (tk b at_).2.1 k [] (by omega) (tk_at b at_).1 (by simp; omega) (by omega)
      rw [Int.toNat_of_nonneg d.1] at this
      exact this
    · rw [decide_eq_false d, if_pos (by decide), if_neg (fun h => d h.2)]
      rfl
  · rw [if_neg c, if_neg (fun h => c h.1)]
    simp only [spec_l10TakeList.j0, if_true]
    rfl
def badJob : Int × Int × List Int × List Int × Int × Bool := (0, 0, [], [], 0, false)
/-- What both decode. -/
def djEnd (b : List Int) (f0 f1 : Int) (A : List Int) (f4 : Int) (B : List Int × Nat × Bool) : Int × Int × List Int × List Int × Int × Bool :=
  if B.2.2 = true ∧ B.2.1 = b.length ∧ JobP f0 f1 A B.1 f4 then (f0, f1, A, B.1, f4, true) else badJob
def djA (b : List Int) (f0 f1 f4 : Int) (A : List Int × Nat × Bool) : Int × Int × List Int × List Int × Int × Bool :=
  if A.2.2 = true then djEnd b f0 f1 A.1 f4 (tl b A.2.1) else badJob
def dj (b : List Int) : Int × Int × List Int × List Int × Int × Bool :=
  if b.length < 2 then badJob else (if (tk b 2).2.2 = true then djA b (L b 0) (L b 1) (tk b 2).1 (tl b (tk b 2).2.1) else badJob)
theorem sdecode_f (b : List Int) (hb : Bs b) (hlen : b.length ≤ 2000000) (k : Nat) (hk : 2000 ≤ k) : spec_DecodeJob.f k b = some (dj b) := by
  have b0 := hb.L 0
  have b1 := hb.L 1
  unfold spec_DecodeJob.f dj
  by_cases c : (b.length : Int) < 2
  · rw [if_pos c, if_pos (by omega)]
    rfl
  · have s2 := stake_f b hb 2 hlen (by omega) k (by omega)
    have r0 : rd b 0 = L b 0 := rd_L b 0
    have r1 : rd b 1 = L b 1 := rd_L b 1
    rw [show ((2 : Nat) : Int) = 2 from rfl] at s2
    rw [if_neg c, if_pos (by omega), if_pos (by omega), s2, if_neg (by omega)]
    simp only [bs]
    rw [r0, r1, wrap_id (x := L b 0) (by omega) (by omega), wrap_id (x := L b 1) (by omega) (by omega)]
    by_cases h1 : (tk b 2).2.2 = true
    · rw [if_pos h1, if_pos h1, stl_f b hb hlen _ (tk_at b 2).1 k (by omega)]
      simp only [bs]
      have tA := tl_at b (tk b 2).2.1
      generalize tl b (tk b 2).2.1 = A at tA ⊢
      unfold djA
      by_cases h2 : A.2.2 = true
      · rw [if_pos h2, if_pos h2, stl_f b hb hlen _ tA.1 k (by omega)]
        simp only [bs]
        have tB := tl_at b A.2.1
        generalize tl b A.2.1 = B at tB ⊢
        unfold djEnd
        by_cases h3 : B.2.2 = true
        · rw [if_pos h3]
          by_cases h4 : (B.2.1 : Int) = (b.length : Int)
          · rw [if_pos h4, sjobOk_f _ _ _ _ _ (by omega) (by omega) k (by omega)]
            simp only [bs]
            by_cases h5 : JobP (L b 0) (L b 1) A.1 B.1 (tk b 2).1
            · rw [if_pos (decide_eq_true h5), if_pos ⟨h3, by omega, h5⟩]
            · rw [if_neg (by simpa using h5), if_neg (fun h => h5 h.2.2)]
              rfl
          · rw [if_neg h4, if_neg (fun h => h4 (by omega))]
            rfl
        · rw [if_neg h3, if_neg (fun h => h3 h.1)]
          rfl
      · rw [if_neg h2, if_neg h2]
        rfl
    · rw [if_neg h1, if_neg h1]
      rfl
theorem ij4_f (b : List Int) (hlen : b.length ≤ 2000000) (at_ : Nat) (ok : Bool) (f0 f1 : Int) (A B : List Int) (f4 : Int) (hA : A.length ≤ 500) (hB : B.length ≤ 500) (k : Nat) (hk : 1100 ≤ k) :
    impl_DecodeJob.j4 k b (at_ : Int) ok f0 f1 A B f4 = some (djEnd b f0 f1 A f4 (B, at_, ok)) := by
  obtain ⟨k, rfl⟩ : ∃ m, k = m + 1 := ⟨k - 1, by omega⟩
  simp only [impl_DecodeJob.j4]
  unfold djEnd
  by_cases c : ok = true
  · rw [if_pos c]
    by_cases d : (at_ : Int) = (b.length : Int)
    · rw [if_pos d, ijobOk_f _ _ _ _ _ (by omega) (by omega) k (by omega)]
      simp only [bs]
      by_cases e : JobP f0 f1 A B f4
      · rw [if_pos (decide_eq_true e), if_pos ⟨c, by omega, e⟩]
      · rw [if_neg (by simpa using e), if_neg (fun h => e h.2.2)]
        rfl
    · rw [if_neg d, if_neg (fun h => d (by have := h.2.1; simp only at this; omega))]
      rfl
  · rw [if_neg c, if_neg (fun h => c h.1)]
    rfl
theorem ij4_no (b : List Int) (at_ : Int) (f0 f1 : Int) (A B : List Int) (f4 : Int) (k : Nat) (hk : 1 ≤ k) : impl_DecodeJob.j4 k b at_ false f0 f1 A B f4 = some badJob := by
  obtain ⟨k, rfl⟩ : ∃ m, k = m + 1 := ⟨k - 1, by omega⟩
  simp only [impl_DecodeJob.j4]
  rw [if_neg (by decide)]
  rfl
theorem il1_no (b : List Int) (at_ m i : Int) (f0 f1 : Int) (A B : List Int) (f4 : Int) (k : Nat) (hk : 2 ≤ k) : impl_DecodeJob.l1 k b at_ false m i f0 f1 A B f4 = some badJob := by
  obtain ⟨k, rfl⟩ : ∃ m, k = m + 1 := ⟨k - 1, by omega⟩
  simp only [impl_DecodeJob.l1]
  rw [if_neg (by decide), ij4_no _ _ _ _ _ _ _ k (by omega)]
theorem il0_no (b : List Int) (at_ m i : Int) (f0 f1 : Int) (A : List Int) (f4 : Int) (k : Nat) (hk : 2 ≤ k) : impl_DecodeJob.l0 k b at_ false m i f0 f1 A f4 = some badJob := by
  obtain ⟨k, rfl⟩ : ∃ m, k = m + 1 := ⟨k - 1, by omega⟩
  simp only [impl_DecodeJob.l0]
  rw [if_neg (by decide)]
  rfl
theorem il1_f (b : List Int) (hb : Bs b) (hlen : b.length ≤ 2000000) (f0 f1 : Int) (A : List Int) (f4 : Int) (hA : A.length ≤ 500) (n : Nat) (hn : n ≤ 400) : ∀ (d i at_ k : Nat) (B : List Int), i + d = n → at_ ≤ b.length → B.length + d ≤ 500 → d + 1300 ≤ k →
    impl_DecodeJob.l1 k b (at_ : Int) true (n : Int) (i : Int) f0 f1 A B f4 = some (djEnd b f0 f1 A f4 (items b d at_ B)) := by
  intro d
  induction d with
  | zero =>
    intro i at_ k B hi hat hB hk
    obtain ⟨k, rfl⟩ : ∃ m, k = m + 1 := ⟨k - 1, by omega⟩
    simp only [impl_DecodeJob.l1, if_true]
    rw [if_neg (by omega), ij4_f b hlen at_ true f0 f1 A B f4 hA (by omega) k (by omega)]
    rfl
  | succ d ih =>
    intro i at_ k B hi hat hB hk
    obtain ⟨k, rfl⟩ : ∃ m, k = m + 1 := ⟨k - 1, by omega⟩
    simp only [impl_DecodeJob.l1, if_true]
    rw [if_pos (by omega), itake_f b hb at_ hlen hat k (by omega)]
    simp only [bs]
    rw [if_pos (by omega), items]
    by_cases c : (tk b at_).2.2 = true
    · rw [c, if_pos rfl, wrap_next (show i < n by omega) (by omega)]
      exact ih (i + 1) _ k _ (by omega) (tk_at b at_).1 (by simp; omega) (by omega)
    · rw [if_neg c, show (tk b at_).2.2 = false by simpa using c, il1_no _ _ _ _ _ _ _ _ _ k (by omega)]
      unfold djEnd
      rw [if_neg (fun h => by simp at h)]
theorem ij2_f (b : List Int) (hb : Bs b) (hlen : b.length ≤ 2000000) (at_ : Nat) (hat : at_ ≤ b.length) (f0 f1 : Int) (A : List Int) (f4 : Int) (hA : A.length ≤ 500) (k : Nat) (hk : 2000 ≤ k) :
    (impl_takeNumber.f k b (at_ : Int)).bind (fun bt226 => (if bt226.2.2 = true then (if bt226.1 ≥ 0 then (impl_DecodeJob.j2 k b bt226.2.1 (decide (bt226.1 ≤ 400)) bt226.1 f0 f1 A f4) else (impl_DecodeJob.j2 k b bt226.2.1 false bt226.1 f0 f1 A f4)) else (impl_DecodeJob.j2 k b bt226.2.1 false bt226.1 f0 f1 A f4))) = some (djEnd b f0 f1 A f4 (tl b at_)) := by
  obtain ⟨k, rfl⟩ : ∃ m, k = m + 1 := ⟨k - 1, by omega⟩
  rw [itake_f b hb at_ hlen hat (k + 1) (by omega)]
  simp only [bs]
  simp only [impl_DecodeJob.j2]
  have no : ¬ ((tk b at_).2.2 = true ∧ 0 ≤ (tk b at_).1 ∧ (tk b at_).1 ≤ 400) → some badJob = some (djEnd b f0 f1 A f4 (tl b at_)) := by
    intro h
    unfold tl
    rw [if_neg h]
    unfold djEnd
    rw [if_neg (fun h => by simp at h)]
  by_cases c : (tk b at_).2.2 = true
  · rw [if_pos c]
    by_cases d : (tk b at_).1 ≥ 0
    · rw [if_pos d]
      by_cases e : (tk b at_).1 ≤ 400
      · rw [decide_eq_true e]
        have := il1_f b hb hlen f0 f1 A f4 hA (tk b at_).1.toNat (by omega) (tk b at_).1.toNat 0 (tk b at_).2.1 k [] (by omega) (tk_at b at_).1 (by simp; omega) (by omega)
        rw [Int.toNat_of_nonneg d] at this
        rw [show ((0 : Nat) : Int) = 0 from rfl] at this
        rw [this]
        unfold tl
        rw [if_pos ⟨c, d, e⟩]
      · rw [decide_eq_false e, il1_no _ _ _ _ _ _ _ _ _ k (by omega)]
        exact no (fun h => e h.2.2)
    · rw [if_neg d, il1_no _ _ _ _ _ _ _ _ _ k (by omega)]
      exact no (fun h => d h.2.1)
  · rw [if_neg c, il1_no _ _ _ _ _ _ _ _ _ k (by omega)]
    exact no (fun h => c h.1)
theorem il0_f (b : List Int) (hb : Bs b) (hlen : b.length ≤ 2000000) (f0 f1 : Int) (f4 : Int) (n : Nat) (hn : n ≤ 400) : ∀ (d i at_ k : Nat) (A : List Int), i + d = n → at_ ≤ b.length → A.length + d ≤ 500 → d + 2100 ≤ k →
    impl_DecodeJob.l0 k b (at_ : Int) true (n : Int) (i : Int) f0 f1 A f4 = some (djA b f0 f1 f4 (items b d at_ A)) := by
  intro d
  induction d with
  | zero =>
    intro i at_ k A hi hat hA hk
    obtain ⟨k, rfl⟩ : ∃ m, k = m + 1 := ⟨k - 1, by omega⟩
    simp only [impl_DecodeJob.l0, if_true]
    rw [if_neg (by omega)]
    exact ij2_f b hb hlen at_ hat f0 f1 A f4 (by omega) k (by omega)
  | succ d ih =>
    intro i at_ k A hi hat hA hk
    obtain ⟨k, rfl⟩ : ∃ m, k = m + 1 := ⟨k - 1, by omega⟩
    simp only [impl_DecodeJob.l0, if_true]
    rw [if_pos (by omega), itake_f b hb at_ hlen hat k (by omega)]
    simp only [bs]
    rw [if_pos (by omega), items]
    by_cases c : (tk b at_).2.2 = true
    · rw [c, if_pos rfl, wrap_next (show i < n by omega) (by omega)]
      exact ih (i + 1) _ k _ (by omega) (tk_at b at_).1 (by simp; omega) (by omega)
    · rw [if_neg c, show (tk b at_).2.2 = false by simpa using c, il0_no _ _ _ _ _ _ _ _ k (by omega)]
      unfold djA
      rw [if_neg (fun h => by simp at h)]
theorem idecode_f (b : List Int) (hb : Bs b) (hlen : b.length ≤ 2000000) (k : Nat) (hk : 3000 ≤ k) : impl_DecodeJob.f k b = some (dj b) := by
  obtain ⟨k, rfl⟩ : ∃ m, k = m + 1 := ⟨k - 1, by omega⟩
  have b0 := hb.L 0
  have b1 := hb.L 1
  unfold impl_DecodeJob.f dj
  by_cases c : (b.length : Int) < 2
  · rw [if_pos c, if_pos (by omega)]
    rfl
  · have s2 := itake_f b hb 2 hlen (by omega) (k + 1) (by omega)
    have r0 : rd b 0 = L b 0 := rd_L b 0
    have r1 : rd b 1 = L b 1 := rd_L b 1
    rw [show ((2 : Nat) : Int) = 2 from rfl] at s2
    rw [if_neg c, if_pos (by omega), if_pos (by omega), s2, if_neg (by omega)]
    simp only [bs]
    rw [itake_f b hb _ hlen (tk_at b 2).1 (k + 1) (by omega)]
    simp only [bs]
    rw [r0, r1, wrap_id (x := L b 0) (by omega) (by omega), wrap_id (x := L b 1) (by omega) (by omega)]
    simp only [impl_DecodeJob.j0]
    have noA : ¬ ((tk b (tk b 2).2.1).2.2 = true ∧ 0 ≤ (tk b (tk b 2).2.1).1 ∧ (tk b (tk b 2).2.1).1 ≤ 400) → djA b (L b 0) (L b 1) (tk b 2).1 (tl b (tk b 2).2.1) = badJob := by
      intro h
      unfold tl
      rw [if_neg h]
      unfold djA
      rw [if_neg (fun h => by simp at h)]
    by_cases h1 : (tk b 2).2.2 = true
    · rw [if_pos h1, if_pos h1]
      by_cases h2 : (tk b (tk b 2).2.1).2.2 = true
      · rw [if_pos h2]
        by_cases h3 : (tk b (tk b 2).2.1).1 ≥ 0
        · rw [if_pos h3]
          by_cases h4 : (tk b (tk b 2).2.1).1 ≤ 400
          · rw [decide_eq_true h4]
            have := il0_f b hb hlen (L b 0) (L b 1) (tk b 2).1 (tk b (tk b 2).2.1).1.toNat (by omega) (tk b (tk b 2).2.1).1.toNat 0 (tk b (tk b 2).2.1).2.1 k [] (by omega) (tk_at b _).1 (by simp; omega) (by omega)
            rw [Int.toNat_of_nonneg h3] at this
            rw [show ((0 : Nat) : Int) = 0 from rfl] at this
            rw [this]
            unfold tl
            rw [if_pos ⟨h2, h3, h4⟩]
          · rw [decide_eq_false h4, il0_no _ _ _ _ _ _ _ _ k (by omega), noA (fun h => h4 h.2.2)]
        · rw [if_neg h3, il0_no _ _ _ _ _ _ _ _ k (by omega), noA (fun h => h3 h.2.1)]
      · rw [if_neg h2, il0_no _ _ _ _ _ _ _ _ k (by omega), noA (fun h => h2 h.1)]
    · rw [if_neg h1, if_neg h1, il0_no _ _ _ _ _ _ _ _ k (by omega)]
theorem dj_ok (b : List Int) : ((dj b).2.2.2.2.2 = true → JobP (dj b).1 (dj b).2.1 (dj b).2.2.1 (dj b).2.2.2.1 (dj b).2.2.2.2.1) ∧ (dj b).2.2.1.length ≤ 400 ∧ (dj b).2.2.2.1.length ≤ 400 := by
  have hbad : ((badJob).2.2.2.2.2 = true → JobP badJob.1 badJob.2.1 badJob.2.2.1 badJob.2.2.2.1 badJob.2.2.2.2.1) ∧ badJob.2.2.1.length ≤ 400 ∧ badJob.2.2.2.1.length ≤ 400 := ⟨fun h => by simp [badJob] at h, by simp [badJob], by simp [badJob]⟩
  unfold dj
  by_cases c : b.length < 2
  · rw [if_pos c]; exact hbad
  · rw [if_neg c]
    by_cases d : (tk b 2).2.2 = true
    · rw [if_pos d]
      unfold djA
      have tA := tl_at b (tk b 2).2.1
      by_cases e : (tl b (tk b 2).2.1).2.2 = true
      · rw [if_pos e]
        have tB := tl_at b (tl b (tk b 2).2.1).2.1
        unfold djEnd
        split
        · rename_i h
          exact ⟨fun _ => h.2.2, tA.2.1, tB.2.1⟩
        · exact hbad
      · rw [if_neg e]; exact hbad
    · rw [if_neg d]; exact hbad
theorem toByteS_f (l : List Int) (hn : l.length ≤ 1048576) (k : Nat) (hk : l.length < k) : laws_toByteS.f k l = some l := by
  unfold laws_toByteS.f
  rw [if_pos (by omega), if_pos (by omega)]
  have := set_loop (fun k s i => laws_toByteS.l0 k l s i) l id 0 (by
    intro k s _
    simp only [laws_toByteS.l0]
    rw [if_neg (by omega)]) (by
    intro k i s h _ hs
    simp only [laws_toByteS.l0]
    rw [if_pos (by omega), if_pos (by omega), if_pos (by omega), rd_at l i h, wrap_next h (by omega)]
    rfl) k (List.replicate ((l.length : Int) : Int).toNat 0) (by omega) (by simp)
  simpa using this
theorem eqByteS_f (l : List Int) (hn : l.length ≤ 1048576) (k : Nat) (hk : l.length < k) : laws_eqByteS.f k l l = some true := by
  unfold laws_eqByteS.f
  rw [if_pos rfl]
  exact count_loop (fun k i => laws_eqByteS.l0 k l l i) l.length 0 true (by
    intro k _
    simp only [laws_eqByteS.l0]
    rw [if_neg (by omega)]) (by
    intro k i h _
    simp only [laws_eqByteS.l0, if_true]
    rw [if_pos (by omega), if_pos (by omega), if_pos (by omega), wrap_next h (by omega)]) k (by omega)
theorem bits_mono : ∀ (k : Nat) (x a r : Int), spec_l10Bits.l0 k x a = some r → ∀ m, spec_l10Bits.l0 (k + m) x a = some r := by
  intro k
  induction k with
  | zero => intro x a r h; simp [spec_l10Bits.l0] at h
  | succ k ih =>
    intro x a r h m
    rw [show k + 1 + m = (k + m) + 1 by omega]
    simp only [spec_l10Bits.l0] at h ⊢
    by_cases c : x > 0
    · rw [if_pos c] at h ⊢
      exact ih _ _ _ h m
    · rw [if_neg c] at h ⊢
      exact h
/-- How many bits a number of at most 1000 has. -/
def bl (n : Nat) : Int := (spec_l10Bits.l0 12 (n : Int) 0).getD 0
set_option maxRecDepth 100000 in
theorem bits_tab : ∀ n : Fin 1001, bits_Len.f 1 (n.val : Int) = some (bl n.val) ∧ spec_l10Bits.l0 12 (n.val : Int) 0 = some (bl n.val) := by decide +kernel
theorem sbits_f (n : Nat) (h : n ≤ 1000) (k : Nat) (hk : 12 ≤ k) : spec_l10Bits.f k (n : Int) = some (bl n) := by
  obtain ⟨m, rfl⟩ : ∃ m, k = 12 + m := ⟨k - 12, by omega⟩
  exact bits_mono 12 _ _ _ (bits_tab ⟨n, by omega⟩).2 m
theorem ibits_f (n : Nat) (h : n ≤ 1000) (k : Nat) (hk : 1 ≤ k) : bits_Len.f k (IntKind.u64.wrap (n : Int)) = some (bl n) := by
  obtain ⟨k, rfl⟩ : ∃ m, k = m + 1 := ⟨k - 1, by omega⟩
  have e : IntKind.u64.wrap (n : Int) = (n : Int) := by
    show (n : Int) % 18446744073709551616 = _
    omega
  rw [e]
  exact (show bits_Len.f (k + 1) (n : Int) = bits_Len.f 1 (n : Int) from rfl).trans (bits_tab ⟨n, by omega⟩).1
/-- A job's cost. -/
def jc (a l s v w : Int) : Int :=
  if a = 1 ∨ a = 2 then wrap64 (1 + wrap64 (l * v)) else if a = 3 ∨ a = 4 then wrap64 (1 + wrap64 (wrap64 (3 * l) * v)) else if a = 5 then wrap64 (1 + wrap64 (s * w)) else if a = 6 then wrap64 (1 + wrap64 (wrap64 (2 * s) * w)) else
  if a = 7 then wrap64 (1 + wrap64 (wrap64 (2 * l) * v)) else if a = 8 ∨ a = 9 then wrap64 (1 + wrap64 (wrap64 (s * w) * w)) else if a = 10 then wrap64 (1 + wrap64 (wrap64 (3 * s) * w)) else wrap64 (1 + wrap64 (l * l))
def cost (a : Int) (A B : List Int) : Int := jc a A.length (wrap64 ((A.length : Int) + (B.length : Int))) (bl A.length) (bl (A.length + B.length))
theorem eleven {a : Int} (h : 1 ≤ a ∧ a ≤ 11) : a = 1 ∨ a = 2 ∨ a = 3 ∨ a = 4 ∨ a = 5 ∨ a = 6 ∨ a = 7 ∨ a = 8 ∨ a = 9 ∨ a = 10 ∨ a = 11 := by omega
theorem scost_f (a f : Int) (A B : List Int) (n : Int) (h : JobP a f A B n) (k : Nat) (hk : 1000 ≤ k) : spec_JobCost.f k a f A B n = some (cost a A B) := by
  obtain ⟨k, rfl⟩ : ∃ m, k = m + 3 := ⟨k - 3, by omega⟩
  have e := eleven h.1
  have hA := h.2.2.2.1.1
  have hB := h.2.2.2.2.1.1
  have hs : wrap64 ((A.length : Int) + (B.length : Int)) = ((A.length + B.length : Nat) : Int) := by
    rw [wrap_id (by omega) (by omega)]; rfl
  unfold spec_JobCost.f
  rw [sjobOk_f a f A B n (by omega) (by omega) (k + 3) (by omega)]
  simp only [bs]
  rw [if_pos (decide_eq_true h), sbits_f _ (by omega) (k + 3) (by omega)]
  simp only [bs]
  rw [hs, sbits_f _ (by omega) (k + 3) (by omega)]
  simp only [bs]
  unfold cost
  rw [hs]
  generalize ((A.length + B.length : Nat) : Int) = s
  generalize bl A.length = v
  generalize bl (A.length + B.length) = w
  generalize (A.length : Int) = l
  clear hA hB hs h
  rcases e with rfl | rfl | rfl | rfl | rfl | rfl | rfl | rfl | rfl | rfl | rfl <;> simp [jc, spec_JobCost.j0, spec_JobCost.j1, spec_JobCost.j2]
theorem icost_f (a f : Int) (A B : List Int) (n : Int) (h : JobP a f A B n) (k : Nat) (hk : 1000 ≤ k) : impl_jobCost.f k a f A B n = some (cost a A B) := by
  obtain ⟨k, rfl⟩ : ∃ m, k = m + 3 := ⟨k - 3, by omega⟩
  have e := eleven h.1
  have hA := h.2.2.2.1.1
  have hB := h.2.2.2.2.1.1
  have hs : wrap64 ((A.length : Int) + (B.length : Int)) = ((A.length + B.length : Nat) : Int) := by
    rw [wrap_id (by omega) (by omega)]; rfl
  unfold impl_jobCost.f
  rw [ibits_f _ (by omega) (k + 3) (by omega)]
  simp only [bs]
  rw [hs, ibits_f _ (by omega) (k + 3) (by omega)]
  simp only [bs]
  unfold cost
  generalize bl A.length = v
  generalize bl (A.length + B.length) = w
  generalize (A.length : Int) = l
  generalize (B.length : Int) = m
  clear hA hB hs h
  rcases e with rfl | rfl | rfl | rfl | rfl | rfl | rfl | rfl | rfl | rfl | rfl <;> simp [jc, impl_jobCost.j0, impl_jobCost.j1, impl_jobCost.j2]
/-- A valid event. -/
def EvP (a0 a1 a2 a3 : Int) (D : List Int) : Prop := (0 ≤ a1 ∧ a1 ≤ 99) ∧ ((a0 = 1 ∧ a2 = 0 ∧ (100 ≤ a3 ∧ a3 ≤ 100000) ∧ D.length = 0) ∨
  (a0 = 2 ∧ (1 ≤ a2 ∧ a2 ≤ 1000000000) ∧ (dj D).2.2.2.2.2 = true ∧ a3 = cost (dj D).1 (dj D).2.2.1 (dj D).2.2.2.1) ∨ ((a0 = 3 ∨ a0 = 4) ∧ (1 ≤ a2 ∧ a2 ≤ 1000000000) ∧ a3 = 0 ∧ D.length = 0) ∨ (a0 = 5 ∧ a2 = 0 ∧ a3 = 0 ∧ D.length = 0))
instance (a0 a1 a2 a3 : Int) (D : List Int) : Decidable (EvP a0 a1 a2 a3 D) := by unfold EvP; exact inferInstance
theorem some_beq (x y : Int) : some (x == y) = some (decide (x = y)) := by
  congr 1
theorem sevent_f (a0 a1 a2 a3 : Int) (D : List Int) (hb : Bs D) (hlen : D.length ≤ 2000000) (k : Nat) (hk : 4000 ≤ k) : spec_EventOk.f k a0 a1 a2 a3 D = some (decide (EvP a0 a1 a2 a3 D)) := by
  obtain ⟨k, rfl⟩ : ∃ m, k = m + 1 := ⟨k - 1, by omega⟩
  unfold spec_EventOk.f
  rw [in_is]
  simp only [bs]
  by_cases h1 : 0 ≤ a1 ∧ a1 ≤ 99
  · rw [if_pos (decide_eq_true h1)]
    by_cases e1 : a0 = 1
    · rw [if_pos e1]
      by_cases e2 : a2 = 0
      · rw [if_pos e2, in_is]
        simp only [bs]
        by_cases e3 : 100 ≤ a3 ∧ a3 ≤ 100000
        · rw [if_pos (decide_eq_true e3), some_beq]
          congr 1
          rw [decide_eq_decide]
          unfold EvP
          omega
        · rw [if_neg (by simpa using e3), decide_eq_false]
          unfold EvP
          omega
      · rw [if_neg e2, decide_eq_false]
        unfold EvP
        omega
    · rw [if_neg e1]
      by_cases e2 : a0 = 2
      · rw [if_pos e2, sdecode_f D hb hlen (k + 1) (by omega), in_is]
        simp only [bs]
        have hok := dj_ok D
        by_cases e3 : 1 ≤ a2 ∧ a2 ≤ 1000000000
        · rw [if_pos (decide_eq_true e3)]
          by_cases e4 : (dj D).2.2.2.2.2 = true
          · rw [if_pos e4, scost_f _ _ _ _ _ (hok.1 e4) (k + 1) (by omega)]
            simp only [bs]
            rw [some_beq]
            congr 1
            rw [decide_eq_decide]
            unfold EvP
            exact ⟨fun h => ⟨h1, Or.inr (Or.inl ⟨e2, e3, e4, h⟩)⟩, fun h => by
              rcases h.2 with h | h | h | h
              · omega
              · exact h.2.2.2
              · omega
              · omega⟩
          · rw [if_neg e4, decide_eq_false]
            unfold EvP
            rintro ⟨_, h | h | h | h⟩
            · omega
            · exact e4 h.2.2.1
            · omega
            · omega
        · rw [if_neg (by simpa using e3), decide_eq_false]
          unfold EvP
          rintro ⟨_, h | h | h | h⟩
          · omega
          · exact e3 h.2.1
          · omega
          · omega
      · rw [if_neg e2]
        have key : ∀ x : Bool, (x = true ↔ (a0 = 3 ∨ a0 = 4)) → spec_EventOk.j0 (k + 1) a0 x a0 a1 a2 a3 D = some (decide (EvP a0 a1 a2 a3 D)) := by
          intro x hx
          simp only [spec_EventOk.j0]
          by_cases c : x = true
          · rw [if_pos c, in_is]
            simp only [bs]
            have := hx.1 c
            by_cases e3 : 1 ≤ a2 ∧ a2 ≤ 1000000000
            · rw [if_pos (decide_eq_true e3)]
              by_cases e4 : a3 = 0
              · rw [if_pos e4, some_beq]
                congr 1
                rw [decide_eq_decide]
                unfold EvP
                omega
              · rw [if_neg e4, decide_eq_false]
                unfold EvP
                omega
            · rw [if_neg (by simpa using e3), decide_eq_false]
              unfold EvP
              omega
          · rw [if_neg c]
            have hn : ¬ (a0 = 3 ∨ a0 = 4) := fun h => c (hx.2 h)
            by_cases e5 : a0 = 5
            · rw [if_pos e5]
              by_cases e6 : a2 = 0
              · rw [if_pos e6]
                by_cases e7 : a3 = 0
                · rw [if_pos e7, some_beq]
                  congr 1
                  rw [decide_eq_decide]
                  unfold EvP
                  omega
                · rw [if_neg e7, decide_eq_false]
                  unfold EvP
                  omega
              · rw [if_neg e6, decide_eq_false]
                unfold EvP
                omega
            · rw [if_neg e5, decide_eq_false]
              unfold EvP
              omega
        by_cases e3 : a0 = 3
        · rw [if_pos e3, key _ (by simp [e3])]
        · rw [if_neg e3, key _ (by simp [e3])]
  · rw [if_neg (by simpa using h1), decide_eq_false (fun h => h1 h.1)]
theorem ievent_f (a0 a1 a2 a3 : Int) (D : List Int) (hb : Bs D) (hlen : D.length ≤ 2000000) (k : Nat) (hk : 4000 ≤ k) : impl_isEvent.f k a0 a1 a2 a3 D = some (decide (EvP a0 a1 a2 a3 D)) := by
  obtain ⟨k, rfl⟩ : ∃ m, k = m + 3 := ⟨k - 3, by omega⟩
  have no : ¬ (0 ≤ a1 ∧ a1 ≤ 99) → impl_isEvent.j0 (k + 3) true a0 a1 a2 a3 D = some (decide (EvP a0 a1 a2 a3 D)) := by
    intro h
    simp only [impl_isEvent.j0, if_true]
    rw [decide_eq_false (fun g => h g.1)]
  have yes : (0 ≤ a1 ∧ a1 ≤ 99) → impl_isEvent.j0 (k + 3) false a0 a1 a2 a3 D = some (decide (EvP a0 a1 a2 a3 D)) := by
    intro h1
    have key : ∀ x : Bool, (x = true ↔ (1 ≤ a2 ∧ a2 ≤ 1000000000)) → impl_isEvent.j1 (k + 2) x a0 a1 a2 a3 D = some (decide (EvP a0 a1 a2 a3 D)) := by
      intro x hx
      simp only [impl_isEvent.j1]
      by_cases e1 : a0 = 1
      · rw [if_pos e1]
        by_cases e2 : a2 = 0
        · rw [if_pos e2]
          by_cases e3 : a3 ≥ 100
          · rw [if_pos e3]
            by_cases e4 : a3 ≤ 100000
            · rw [if_pos e4, some_beq]
              congr 1
              rw [decide_eq_decide]
              unfold EvP
              omega
            · rw [if_neg e4, decide_eq_false]
              unfold EvP
              omega
          · rw [if_neg e3, decide_eq_false]
            unfold EvP
            omega
        · rw [if_neg e2, decide_eq_false]
          unfold EvP
          omega
      · rw [if_neg e1]
        by_cases e2 : a0 = 2
        · rw [if_pos e2, idecode_f D hb hlen (k + 1) (by omega)]
          simp only [bs]
          have hok := dj_ok D
          by_cases e3 : x = true
          · rw [if_pos e3]
            by_cases e4 : (dj D).2.2.2.2.2 = true
            · rw [if_pos e4, icost_f _ _ _ _ _ (hok.1 e4) (k + 1) (by omega)]
              simp only [bs]
              rw [some_beq]
              congr 1
              rw [decide_eq_decide]
              unfold EvP
              exact ⟨fun h => ⟨h1, Or.inr (Or.inl ⟨e2, hx.1 e3, e4, h⟩)⟩, fun h => by
                rcases h.2 with h | h | h | h
                · omega
                · exact h.2.2.2
                · omega
                · omega⟩
            · rw [if_neg e4, decide_eq_false]
              unfold EvP
              rintro ⟨_, h | h | h | h⟩
              · omega
              · exact e4 h.2.2.1
              · omega
              · omega
          · rw [if_neg e3, decide_eq_false]
            unfold EvP
            rintro ⟨_, h | h | h | h⟩
            · omega
            · exact e3 (hx.2 h.2.1)
            · omega
            · omega
        · rw [if_neg e2]
          have key2 : ∀ y : Bool, (y = true ↔ (a0 = 3 ∨ a0 = 4)) → impl_isEvent.j2 (k + 1) x a0 y a0 a1 a2 a3 D = some (decide (EvP a0 a1 a2 a3 D)) := by
            intro y hy
            simp only [impl_isEvent.j2]
            by_cases c : y = true
            · rw [if_pos c]
              have := hy.1 c
              by_cases e3 : x = true
              · have := hx.1 e3
                rw [if_pos e3]
                by_cases e4 : a3 = 0
                · rw [if_pos e4, some_beq]
                  congr 1
                  rw [decide_eq_decide]
                  unfold EvP
                  omega
                · rw [if_neg e4, decide_eq_false]
                  unfold EvP
                  omega
              · have : ¬ (1 ≤ a2 ∧ a2 ≤ 1000000000) := fun h => e3 (hx.2 h)
                rw [if_neg e3, decide_eq_false]
                unfold EvP
                omega
            · rw [if_neg c]
              have hn : ¬ (a0 = 3 ∨ a0 = 4) := fun h => c (hy.2 h)
              by_cases e5 : a0 = 5
              · rw [if_pos e5]
                by_cases e6 : a2 = 0
                · rw [if_pos e6]
                  by_cases e7 : a3 = 0
                  · rw [if_pos e7, some_beq]
                    congr 1
                    rw [decide_eq_decide]
                    unfold EvP
                    omega
                  · rw [if_neg e7, decide_eq_false]
                    unfold EvP
                    omega
                · rw [if_neg e6, decide_eq_false]
                  unfold EvP
                  omega
              · rw [if_neg e5, decide_eq_false]
                unfold EvP
                omega
          by_cases e3 : a0 = 3
          · rw [if_pos e3, key2 _ (by simp [e3])]
          · rw [if_neg e3, key2 _ (by simp [e3])]
    simp only [impl_isEvent.j0]
    rw [if_neg (by decide)]
    by_cases e1 : a2 ≥ 1
    · rw [if_pos e1, key _ (by simp; omega)]
    · rw [if_neg e1, key _ (by simp; omega)]
  unfold impl_isEvent.f
  by_cases c : a1 < 0
  · rw [if_pos c, no (by omega)]
  · rw [if_neg c]
    by_cases d : a1 > 99
    · rw [decide_eq_true d, no (by omega)]
    · rw [decide_eq_false d, yes (by omega)]
theorem Bs.of {l : List Int} (h : ∀ y ∈ l, (Lit.int .u8 y).wf = true) : Bs l := fun x hx => by
  have := wf_byte (h x hx)
  omega
theorem szEvent_f (a0 a1 a2 a3 : Int) (D : List Int) (h : D.length ≤ maxLen) : laws_szEvent.f a0 a1 a2 a3 D 1048576 = some (if D.length ≤ 1048576 then 1048576 - (D.length : Int) else -1) := by
  unfold maxLen at h
  unfold laws_szEvent.f laws_szByteS.f
  rw [wrap_id (x := 1048576 - (D.length : Int)) (by omega) (by omega)]
  by_cases c : (1048576 : Int) - D.length < 0
  · rw [if_pos c, if_neg (by omega)]
    simp only [bs]
    rw [if_pos (by omega)]
  · rw [if_neg c, if_pos (by omega)]
    simp only [bs]
    rw [if_neg c]
theorem toEvent_f (a0 a1 a2 a3 : Int) (D : List Int) (h : D.length ≤ 1048576) (k : Nat) (hk : 1048577 < k) : laws_toEvent.f k a0 a1 a2 a3 D = some (a0, a1, a2, a3, D) := by
  unfold laws_toEvent.f
  simp only [toByteS_f D h k (by omega), bs]
theorem eqEvent_self (a0 a1 a2 a3 : Int) (D : List Int) (h : D.length ≤ 1048576) (k : Nat) (hk : 1048577 < k) : laws_eqEvent.f k a0 a1 a2 a3 D a0 a1 a2 a3 D = some true := by
  unfold laws_eqEvent.f
  simp only [eqByteS_f D h k (by omega), bs, if_true]
/-- A valid frame. -/
def FrP (t s : Int) (b : List Int) : Prop := (0 ≤ t ∧ t ≤ 99) ∧ (0 ≤ s ∧ s ≤ 2147483647) ∧ b.length ≤ 5000
instance (t s : Int) (b : List Int) : Decidable (FrP t s b) := by unfold FrP; exact inferInstance
theorem sframe_f (t s : Int) (b : List Int) : spec_FrameOk.f t s b = some (decide (FrP t s b)) := by
  unfold spec_FrameOk.f
  rw [in_is]
  simp only [bs]
  by_cases h1 : 0 ≤ t ∧ t ≤ 99
  · rw [if_pos (decide_eq_true h1), in_is]
    simp only [bs]
    by_cases h2 : 0 ≤ s ∧ s ≤ 2147483647
    · rw [if_pos (decide_eq_true h2)]
      congr 1
      rw [decide_eq_decide]
      exact ⟨fun h => ⟨h1, h2, by omega⟩, fun h => by have := h.2.2; omega⟩
    · rw [if_neg (by simpa using h2), decide_eq_false (fun h => h2 h.2.1)]
  · rw [if_neg (by simpa using h1), decide_eq_false (fun h => h1 h.1)]
theorem iframe_f (t s : Int) (b : List Int) : impl_isFrame.f t s b = some (decide (FrP t s b)) := by
  unfold impl_isFrame.f
  by_cases h1 : t ≥ 0
  · rw [if_pos h1]
    by_cases h2 : t ≤ 99
    · rw [if_pos h2]
      by_cases h3 : s ≥ 0
      · rw [if_pos h3]
        by_cases h4 : s ≤ 2147483647
        · rw [if_pos h4]
          congr 1
          rw [decide_eq_decide]
          exact ⟨fun h => ⟨⟨h1, h2⟩, ⟨h3, h4⟩, by omega⟩, fun h => by have := h.2.2; omega⟩
        · rw [if_neg h4, decide_eq_false (fun h => h4 h.2.1.2)]
      · rw [if_neg h3, decide_eq_false (fun h => h3 h.2.1.1)]
    · rw [if_neg h2, decide_eq_false (fun h => h2 h.1.2)]
  · rw [if_neg h1, decide_eq_false (fun h => h1 h.1.1)]
theorem bytes_is (l : List Int) (hn : l.length ≤ 2000000) (k : Nat) (hk : l.length < k) : spec_l01Bytes.f k l = some l := by
  unfold spec_l01Bytes.f
  have := append_loop (fun k s i => spec_l01Bytes.l0 k l s i) l id 0 [] (by
    intro k s _
    simp only [spec_l01Bytes.l0]
    rw [if_neg (by omega)]) (by
    intro k i s h _ hs
    simp only [List.length_nil] at hs
    simp only [spec_l01Bytes.l0]
    rw [if_pos (by omega), if_pos (by omega), if_pos (by omega), rd_at l i h, wrap_next h (by omega)]
    rfl) k (by omega)
  simpa using this
theorem iput_loop : ∀ (d k : Nat) (acc : List Int) (u : Int), 0 ≤ u → u < P7 (d + 1) → u < 4611686018427387904 → acc.length + d ≤ 1000 → d < k → impl_putNumber.l0 k u acc = some (acc ++ vi d u) := by
  intro d
  induction d with
  | zero =>
    intro k acc u h0 h1 _ hl hk
    obtain ⟨k, rfl⟩ : ∃ m, k = m + 1 := ⟨k - 1, by omega⟩
    have e : P7 (0 + 1) = 128 := by decide
    simp only [impl_putNumber.l0]
    rw [if_neg (by omega), if_pos (by omega)]
    rfl
  | succ d ih =>
    intro k acc u h0 h1 h2 hl hk
    obtain ⟨k, rfl⟩ : ∃ m, k = m + 1 := ⟨k - 1, by omega⟩
    simp only [impl_putNumber.l0]
    unfold vi
    by_cases c : u ≥ 128
    · have hd := Int.emod_add_mul_ediv u 128
      have := P7_succ (d + 1)
      rw [if_pos c, if_pos c, if_pos (by omega), Int.tmod_eq_emod_of_nonneg h0, Int.tdiv_eq_ediv_of_nonneg h0, wrap_id (x := u % 128 + 128) (by omega) (by omega), wrap_id (x := u / 128) (by omega) (by omega), ih k _ (u / 128) (by omega) (by omega) (by omega) (by simp; omega) (by omega), List.append_assoc, Int.add_comm (u % 128) 128]
      rfl
    · rw [if_neg c, if_neg c, if_pos (by omega)]
theorem iput_f (x : Int) (h1 : -1099511627776 ≤ x) (h2 : x ≤ 1099511627776) (k : Nat) (hk : 10 ≤ k) : impl_putNumber.f k x = some (vi 6 (unz x)) := by
  obtain ⟨k, rfl⟩ : ∃ m, k = m + 1 := ⟨k - 1, by omega⟩
  have e : P7 (6 + 1) = 562949953421312 := by decide
  unfold impl_putNumber.f unz
  by_cases c : x < 0
  · rw [if_pos c, if_pos c, wrap_id (x := -2 * x) (by omega) (by omega), wrap_id (by omega) (by omega)]
    simp only [impl_putNumber.j0]
    rw [iput_loop 6 k [] (-2 * x - 1) (by omega) (by omega) (by omega) (by decide) (by omega), List.nil_append]
  · rw [if_neg c, if_neg c, wrap_id (x := 2 * x) (by omega) (by omega)]
    simp only [impl_putNumber.j0]
    rw [iput_loop 6 k [] (2 * x) (by omega) (by omega) (by omega) (by decide) (by omega), List.nil_append]
set_option maxRecDepth 100000 in
theorem bl_tab : ∀ n : Fin 1001, 0 ≤ bl n.val ∧ bl n.val ≤ 10 := by decide +kernel
theorem bl_range (n : Nat) (h : n ≤ 1000) : 0 ≤ bl n ∧ bl n ≤ 10 := bl_tab ⟨n, by omega⟩
theorem mul_range {x y X Y : Int} (h1 : 0 ≤ x) (h2 : x ≤ X) (h3 : 0 ≤ y) (h4 : y ≤ Y) : 0 ≤ x * y ∧ x * y ≤ X * Y :=
  ⟨Int.mul_nonneg h1 h3, Int.mul_le_mul h2 h4 h3 (by omega)⟩
theorem cost_range (a f : Int) (A B : List Int) (n : Int) (h : JobP a f A B n) : 0 ≤ cost a A B ∧ cost a A B ≤ 1000000000 := by
  have hA := h.2.2.2.1.1
  have hB := h.2.2.2.2.1.1
  have v := bl_range A.length (by omega)
  have w := bl_range (A.length + B.length) (by omega)
  unfold cost
  rw [wrap_id (x := (A.length : Int) + (B.length : Int)) (by omega) (by omega)]
  have hl : 0 ≤ (A.length : Int) ∧ (A.length : Int) ≤ 400 := by omega
  have hs : 0 ≤ (A.length : Int) + (B.length : Int) ∧ (A.length : Int) + (B.length : Int) ≤ 800 := by omega
  generalize bl A.length = v0 at v ⊢
  generalize bl (A.length + B.length) = w0 at w ⊢
  generalize (A.length : Int) + (B.length : Int) = s at hs ⊢
  generalize (A.length : Int) = l at hl ⊢
  have lv := mul_range hl.1 hl.2 v.1 v.2
  have ll := mul_range hl.1 hl.2 hl.1 hl.2
  have sw := mul_range hs.1 hs.2 w.1 w.2
  have sww := mul_range sw.1 sw.2 w.1 w.2
  have l3 := mul_range (show 0 ≤ 3 * l by omega) (show 3 * l ≤ 1200 by omega) v.1 v.2
  have l2 := mul_range (show 0 ≤ 2 * l by omega) (show 2 * l ≤ 1200 by omega) v.1 v.2
  have s2 := mul_range (show 0 ≤ 2 * s by omega) (show 2 * s ≤ 2400 by omega) w.1 w.2
  have s3 := mul_range (show 0 ≤ 3 * s by omega) (show 3 * s ≤ 2400 by omega) w.1 w.2
  unfold jc
  rw [wrap_id (x := 3 * l) (by omega) (by omega), wrap_id (x := 2 * l) (by omega) (by omega), wrap_id (x := 2 * s) (by omega) (by omega), wrap_id (x := 3 * s) (by omega) (by omega), wrap_id (x := l * v0) (by omega) (by omega), wrap_id (x := l * l) (by omega) (by omega), wrap_id (x := s * w0) (by omega) (by omega),
    wrap_id (x := s * w0 * w0) (by omega) (by omega), wrap_id (x := 3 * l * v0) (by omega) (by omega), wrap_id (x := 2 * l * v0) (by omega) (by omega), wrap_id (x := 2 * s * w0) (by omega) (by omega), wrap_id (x := 3 * s * w0) (by omega) (by omega)]
  repeat' split
  all_goals (rw [wrap_id (by omega) (by omega)]; omega)
theorem ev_num {a0 a1 a2 a3 : Int} {D : List Int} (h : EvP a0 a1 a2 a3 D) : -1099511627776 ≤ a3 ∧ a3 ≤ 1099511627776 := by
  rcases h.2 with h | h | h | h
  · omega
  · have := cost_range _ _ _ _ _ ((dj_ok D).1 h.2.2.1)
    omega
  · omega
  · omega
/-- A number's bytes, the highest first. -/
def w4 (x : Int) : List Int := [x / 16777216 % 256, x / 65536 % 256, x / 256 % 256, x % 256]
def w2 (x : Int) : List Int := [x / 256 % 256, x % 256]
theorem big4_f (x : Int) (k : Nat) (hk : 5 ≤ k) : impl_bigEndian.f k x 4 = some (w4 x) := by
  obtain ⟨k, rfl⟩ : ∃ m, k = m + 5 := ⟨k - 5, by omega⟩
  have e0 : wrap64 (4 - 1) = 3 := wrap_id (by decide) (by decide)
  have e1 : wrap64 (3 - 1) = 2 := wrap_id (by decide) (by decide)
  have e2 : wrap64 (2 - 1) = 1 := wrap_id (by decide) (by decide)
  have e3 : wrap64 (1 - 1) = 0 := wrap_id (by decide) (by decide)
  have e4 : wrap64 (0 - 1) = -1 := wrap_id (by decide) (by decide)
  unfold impl_bigEndian.f
  rw [if_pos (by decide), if_pos (by decide), e0]
  simp only [impl_bigEndian.l0]
  rw [if_pos (by decide), if_pos (by decide), if_pos (by simp), e1, if_pos (by decide), if_pos (by decide), if_pos (by simp), e2, if_pos (by decide), if_pos (by decide), if_pos (by simp), e3, if_pos (by decide), if_pos (by decide), if_pos (by simp), e4, if_neg (by decide)]
  show some [x / 256 / 256 / 256 % 256, x / 256 / 256 % 256, x / 256 % 256, x % 256] = some (w4 x)
  unfold w4
  rw [show x / 256 / 256 / 256 = x / 16777216 by omega, show x / 256 / 256 = x / 65536 by omega]
theorem big2_f (x : Int) (k : Nat) (hk : 5 ≤ k) : impl_bigEndian.f k x 2 = some (w2 x) := by
  obtain ⟨k, rfl⟩ : ∃ m, k = m + 5 := ⟨k - 5, by omega⟩
  have e2 : wrap64 (2 - 1) = 1 := wrap_id (by decide) (by decide)
  have e3 : wrap64 (1 - 1) = 0 := wrap_id (by decide) (by decide)
  have e4 : wrap64 (0 - 1) = -1 := wrap_id (by decide) (by decide)
  unfold impl_bigEndian.f
  rw [if_pos (by decide), if_pos (by decide), e2]
  simp only [impl_bigEndian.l0]
  rw [if_pos (by decide), if_pos (by decide), if_pos (by simp), e3, if_pos (by decide), if_pos (by decide), if_pos (by simp), e4, if_neg (by decide)]
  rfl
theorem byte_of (x : Int) (n : Nat) (hn : n ≤ 3) (h0 : 0 ≤ x) (h1 : x < 4294967296) : (Go.bits .and .i64 (shr .i64 x ((8 * n : Nat) : Int)) 255) % 256 = x / 2 ^ (8 * n) % 256 := by
  have hp : (1 : Int) ≤ 2 ^ (8 * n) := by exact_mod_cast Nat.one_le_two_pow
  have hq : 0 ≤ x / 2 ^ (8 * n) := Int.ediv_nonneg h0 (by omega)
  have hq2 : x / 2 ^ (8 * n) ≤ x := Int.ediv_le_self _ h0
  have e : shr .i64 x ((8 * n : Nat) : Int) = x / 2 ^ (8 * n) := by
    unfold shr
    rw [Int.toNat_natCast, Nat.min_eq_left (show 8 * n ≤ IntKind.i64.bits by show 8 * n ≤ 64; omega)]
  rw [e, show (255 : Int) = 2 ^ 8 - 1 from rfl, bits_mask .i64 62 (by decide) (fun m h1 h2 => by rw [IntKind.wrap_i64]; omega) 8 (by decide) _ hq (by omega)]
  rw [show (2 : Int) ^ 8 = 256 from rfl]
  omega
theorem wide_step (x : Int) (acc : List Int) (n : Nat) (hn : n ≤ 3) (h0 : 0 ≤ x) (h1 : x < 4294967296) (ha : acc.length ≤ 100) (k : Nat) : spec_l11Wide.l0 (k + 1) x acc (n : Int) = spec_l11Wide.l0 k x (acc ++ [x / 2 ^ (8 * n) % 256]) ((n : Int) - 1) := by
  have h8 : IntKind.u64.wrap (wrap64 (8 * (n : Int))) = ((8 * n : Nat) : Int) := by
    rw [wrap_id (x := 8 * (n : Int)) (by omega) (by omega)]
    show (8 * (n : Int)) % 18446744073709551616 = _
    omega
  simp only [spec_l11Wide.l0]
  rw [if_pos (by omega), h8, if_pos (by omega), if_pos (by omega), byte_of x n hn h0 h1, wrap_id (by omega) (by omega)]
theorem wide4_f (x : Int) (h0 : 0 ≤ x) (h1 : x < 4294967296) (k : Nat) (hk : 5 ≤ k) : spec_l11Wide.f k x 4 = some (w4 x) := by
  obtain ⟨k, rfl⟩ : ∃ m, k = m + 5 := ⟨k - 5, by omega⟩
  have e0 : wrap64 (4 - 1) = ((3 : Nat) : Int) := wrap_id (by decide) (by decide)
  unfold spec_l11Wide.f
  rw [e0, wide_step x _ 3 (by decide) h0 h1 (by simp), show ((3 : Nat) : Int) - 1 = ((2 : Nat) : Int) from rfl, wide_step x _ 2 (by decide) h0 h1 (by simp), show ((2 : Nat) : Int) - 1 = ((1 : Nat) : Int) from rfl, wide_step x _ 1 (by decide) h0 h1 (by simp),
    show ((1 : Nat) : Int) - 1 = ((0 : Nat) : Int) from rfl, wide_step x _ 0 (by decide) h0 h1 (by simp)]
  simp only [spec_l11Wide.l0]
  rw [if_neg (by decide)]
  show some [x / 2 ^ 24 % 256, x / 2 ^ 16 % 256, x / 2 ^ 8 % 256, x / 2 ^ 0 % 256] = some (w4 x)
  rw [show (2 : Int) ^ 24 = 16777216 from rfl, show (2 : Int) ^ 16 = 65536 from rfl, show (2 : Int) ^ 8 = 256 from rfl, show (2 : Int) ^ 0 = 1 from rfl, Int.ediv_one]
  rfl
theorem wide2_f (x : Int) (h0 : 0 ≤ x) (h1 : x < 4294967296) (k : Nat) (hk : 5 ≤ k) : spec_l11Wide.f k x 2 = some (w2 x) := by
  obtain ⟨k, rfl⟩ : ∃ m, k = m + 5 := ⟨k - 5, by omega⟩
  have e0 : wrap64 (2 - 1) = ((1 : Nat) : Int) := wrap_id (by decide) (by decide)
  unfold spec_l11Wide.f
  rw [e0, wide_step x _ 1 (by decide) h0 h1 (by simp), show ((1 : Nat) : Int) - 1 = ((0 : Nat) : Int) from rfl, wide_step x _ 0 (by decide) h0 h1 (by simp)]
  simp only [spec_l11Wide.l0]
  rw [if_neg (by decide)]
  show some [x / 2 ^ 8 % 256, x / 2 ^ 0 % 256] = some (w2 x)
  rw [show (2 : Int) ^ 8 = 256 from rfl, show (2 : Int) ^ 0 = 1 from rfl, Int.ediv_one]
  rfl
/-- The checksum of what follows. -/
def ck : List Int → Int × Int → Int
  | [], s => 65536 * s.2 + s.1
  | c :: l, s => ck l ((s.1 + c) % 65521, (s.2 + (s.1 + c) % 65521) % 65521)
theorem ck_range : ∀ (l : List Int) (s : Int × Int), 0 ≤ s.1 → s.1 < 65521 → 0 ≤ s.2 → s.2 < 65521 → 0 ≤ ck l s ∧ ck l s < 4294967296 := by
  intro l
  induction l with
  | nil => intro s h1 h2 h3 h4; show 0 ≤ 65536 * s.2 + s.1 ∧ 65536 * s.2 + s.1 < 4294967296; omega
  | cons c l ih =>
    intro s h1 h2 h3 h4
    exact ih _ (by simp only; omega) (by simp only; omega) (by simp only; omega) (by simp only; omega)
def CkI (s : Int × Int) : Prop := (0 ≤ s.1 ∧ s.1 < 65521) ∧ (0 ≤ s.2 ∧ s.2 < 65521)
theorem CkI.next {s : Int × Int} (h : CkI s) (c : Int) : CkI ((s.1 + c) % 65521, (s.2 + (s.1 + c) % 65521) % 65521) := by
  unfold CkI
  simp only
  omega
theorem scheck_f (b : List Int) (hb : Bs b) (hlen : b.length ≤ 2000000) (k : Nat) (hk : b.length < k) : spec_CheckSum.f k b = some (ck b (1, 0)) := by
  unfold spec_CheckSum.f
  exact loop_list (fun k (s : Int × Int) i => spec_CheckSum.l0 k b s.1 s.2 i) b 0 (fun _ s => CkI s) ck (by
    intro k s _ hs
    unfold CkI at hs
    simp only [spec_CheckSum.l0]
    rw [if_neg (by omega), wrap_id (x := 65536 * s.2) (by omega) (by omega), wrap_id (by omega) (by omega)]
    rfl) (by
    intro k i s h _ hs
    have hs' := hs
    unfold CkI at hs'
    have hc := hb _ (List.getElem_mem h)
    left
    refine ⟨_, ?_, hs.next b[i], rfl⟩
    simp only [spec_CheckSum.l0]
    rw [if_pos (by omega), if_pos (by omega), rd_at b i h, wrap_id (x := b[i]) (by omega) (by omega), wrap_id (x := s.1 + b[i]) (by omega) (by omega), Int.tmod_eq_emod_of_nonneg (show 0 ≤ s.1 + b[i] by omega),
      wrap_id (x := s.2 + (s.1 + b[i]) % 65521) (by omega) (by omega), Int.tmod_eq_emod_of_nonneg (show 0 ≤ s.2 + (s.1 + b[i]) % 65521 by omega), wrap_next h (by omega)]) k (1, 0) (by omega) (by unfold CkI; decide)
theorem icheck_f (b : List Int) (hb : Bs b) (hlen : b.length ≤ 2000000) (k : Nat) (hk : b.length < k) : impl_checkSum.f k b = some (ck b (1, 0)) := by
  unfold impl_checkSum.f
  exact loop_list (fun k (s : Int × Int) i => impl_checkSum.l0 k s.1 s.2 b (b.length : Int) i) b 0 (fun _ s => CkI s) ck (by
    intro k s _ hs
    unfold CkI at hs
    simp only [impl_checkSum.l0]
    rw [if_neg (by omega), wrap_id (x := 65536 * s.2) (by omega) (by omega), wrap_id (by omega) (by omega)]
    rfl) (by
    intro k i s h _ hs
    have hs' := hs
    unfold CkI at hs'
    have hc := hb _ (List.getElem_mem h)
    left
    refine ⟨_, ?_, hs.next b[i], rfl⟩
    simp only [impl_checkSum.l0]
    rw [if_pos (by omega), if_pos (by omega), if_pos (by omega), rd_at b i h, wrap_id (x := b[i]) (by omega) (by omega), wrap_id (x := s.1 + b[i]) (by omega) (by omega), Int.tmod_eq_emod_of_nonneg (show 0 ≤ s.1 + b[i] by omega),
      wrap_id (x := s.2 + (s.1 + b[i]) % 65521) (by omega) (by omega), Int.tmod_eq_emod_of_nonneg (show 0 ≤ s.2 + (s.1 + b[i]) % 65521 by omega), wrap_next h (by omega)]) k (1, 0) (by omega) (by unfold CkI; decide)
theorem join_is (a b : List Int) (ha : a.length ≤ 2000000) (hb : b.length ≤ 2000000) (k : Nat) (hk : a.length < k) (hk2 : b.length < k) : spec_l01Join.f k a b = some (a ++ b) := by
  unfold spec_l01Join.f
  rw [bytes_is a ha k hk]
  simp only [bs]
  have := append_loop (fun k s i => spec_l01Join.l0 k b s i) b id 0 a (by
    intro k s _
    simp only [spec_l01Join.l0]
    rw [if_neg (by omega)]) (by
    intro k i s h _ hs
    simp only [spec_l01Join.l0]
    rw [if_pos (by omega), if_pos (by omega), if_pos (by omega), rd_at b i h, wrap_next h (by omega)]
    rfl) k (by omega)
  simpa using this
theorem Bs.app {a b : List Int} (ha : Bs a) (hb : Bs b) : Bs (a ++ b) := fun x hx => (List.mem_append.1 hx).elim (ha x) (hb x)
theorem Bs.w4 (x : Int) : Bs (w4 x) := by
  intro y hy
  simp only [Pure.w4, List.mem_cons, List.not_mem_nil, or_false] at hy
  omega
theorem Bs.w2 (x : Int) : Bs (w2 x) := by
  intro y hy
  simp only [Pure.w2, List.mem_cons, List.not_mem_nil, or_false] at hy
  omega
theorem Bs.one (x : Int) : Bs [x % 256] := by
  intro y hy
  simp only [List.mem_cons, List.not_mem_nil, or_false] at hy
  omega
theorem Bs.vi : ∀ (d : Nat) (u : Int), Bs (vi d u) := by
  intro d
  induction d with
  | zero => intro u; exact Bs.one u
  | succ d ih =>
    intro u
    unfold Pure.vi
    split
    · intro y hy
      rcases List.mem_cons.1 hy with rfl | hy
      · omega
      · exact ih _ y hy
    · exact Bs.one u
/-- What stands between the sign and the sum. -/
def mid (t s : Int) (b : List Int) : List Int := [t % 256] ++ w4 s ++ w2 (b.length : Int) ++ b
/-- What both encode. -/
def ef (t s : Int) (b : List Int) : List Int := if FrP t s b then [199, 77] ++ mid t s b ++ w4 (ck (mid t s b) (1, 0)) else []
theorem mid_len (t s : Int) (b : List Int) : (mid t s b).length = 7 + b.length := by
  unfold mid w4 w2
  simp only [List.length_append, List.length_cons, List.length_nil]
theorem mid_bs (t s : Int) (b : List Int) (hb : Bs b) : Bs (mid t s b) := (((Bs.one t).app (Bs.w4 s)).app (Bs.w2 _)).app hb
theorem ef_len (t s : Int) (b : List Int) : (ef t s b).length ≤ 5013 := by
  unfold ef
  split
  · rename_i h
    have := h.2.2
    have hm := mid_len t s b
    unfold w4
    simp only [List.length_append, List.length_cons, List.length_nil]
    omega
  · exact Nat.zero_le _
theorem sencode_f (t s : Int) (b : List Int) (hb : Bs b) (hlen : b.length ≤ 1500000) (k : Nat) (hk : 1600000 ≤ k) : spec_EncodeFrame.f k t s b = some (ef t s b) := by
  unfold spec_EncodeFrame.f ef
  rw [sframe_f]
  simp only [bs]
  by_cases h : FrP t s b
  · have hl := h.2.2
    have hm := mid_len t s b
    have hc := ck_range (mid t s b) (1, 0) (by decide) (by decide) (by decide) (by decide)
    have e1 : [t % 256] ++ w4 s ++ w2 (b.length : Int) ++ b = mid t s b := rfl
    rw [if_pos (decide_eq_true h), if_pos h, wide4_f s h.2.1.1 (by have := h.2.1.2; omega) k (by omega)]
    simp only [bs]
    rw [join_is _ _ (by simp) (by simp [w4]) k (by simp; omega) (by simp [w4]; omega)]
    simp only [bs]
    rw [wide2_f _ (by omega) (by omega) k (by omega)]
    simp only [bs]
    rw [join_is _ _ (by simp [w4]) (by simp [w2]) k (by simp [w4]; omega) (by simp [w2]; omega)]
    simp only [bs]
    rw [join_is _ _ (by simp [w4, w2]) (by omega) k (by simp [w4, w2]; omega) (by omega)]
    simp only [bs]
    rw [e1, join_is _ _ (by simp) (by omega) k (by simp; omega) (by omega)]
    simp only [bs]
    rw [scheck_f _ (mid_bs t s b hb) (by omega) k (by omega)]
    simp only [bs]
    rw [wide4_f _ hc.1 hc.2 k (by omega)]
    simp only [bs]
    rw [join_is _ _ (by simp; omega) (by simp [w4]) k (by simp; omega) (by simp [w4]; omega)]
    simp only [bs]
  · rw [if_neg (by simpa using h), if_neg h]
theorem iencode_f (t s : Int) (b : List Int) (hb : Bs b) (hlen : b.length ≤ 1500000) (k : Nat) (hk : 1600000 ≤ k) : impl_EncodeFrame.f k t s b = some (ef t s b) := by
  unfold impl_EncodeFrame.f ef
  rw [iframe_f]
  try simp only [bs]
  by_cases h : FrP t s b
  · have hl := h.2.2
    have hm := mid_len t s b
    have e1 : [199, 77, t % 256] ++ w4 s ++ w2 (b.length : Int) ++ b = [199, 77] ++ mid t s b := by
      unfold mid
      simp only [List.append_assoc, List.cons_append, List.nil_append]
    rw [if_pos (decide_eq_true h), if_pos h]
    unfold impl_encodeFrame.f
    try simp only [bs]
    rw [big4_f s k (by omega)]
    try simp only [bs]
    rw [if_pos (by simp [w4])]
    try simp only [bs]
    rw [big2_f _ k (by omega)]
    try simp only [bs]
    rw [if_pos (by simp [w4, w2])]
    try simp only [bs]
    rw [if_pos (by simp [w4, w2]; omega)]
    try simp only [bs]
    rw [e1, if_pos (by simp; omega), show (([199, 77] : List Int) ++ mid t s b).drop 2 = mid t s b from rfl, icheck_f _ (mid_bs t s b hb) (by omega) k (by omega)]
    try simp only [bs]
    rw [big4_f _ k (by omega)]
    try simp only [bs]
    rw [if_pos (by simp [w4]; omega)]
    simp only [bs]
  · rw [if_neg (by simpa using h), if_neg h]
/-- What both put. -/
def pe (a0 a1 a2 a3 : Int) (D : List Int) : List Int := if EvP a0 a1 a2 a3 D then ef a1 a2 ([a0 % 256] ++ vi 6 (unz a3) ++ D) else []
theorem pe_len (a0 a1 a2 a3 : Int) (D : List Int) : (pe a0 a1 a2 a3 D).length ≤ 5013 := by
  unfold pe
  split
  · exact ef_len _ _ _
  · exact Nat.zero_le _
theorem body_bs (a0 a3 : Int) (D : List Int) (hb : Bs D) : Bs ([a0 % 256] ++ vi 6 (unz a3) ++ D) := ((Bs.one a0).app (Bs.vi 6 _)).app hb
theorem body_len (a0 a3 : Int) (D : List Int) : ([a0 % 256] ++ vi 6 (unz a3) ++ D).length ≤ 8 + D.length := by
  have := vi_length 6 (unz a3)
  simp only [List.length_append, List.length_cons, List.length_nil]
  omega
theorem sput_f (a0 a1 a2 a3 : Int) (D : List Int) (hb : Bs D) (hlen : D.length ≤ 1048576) (k : Nat) (hk : 1600000 ≤ k) : spec_PutEvent.f k a0 a1 a2 a3 D = some (pe a0 a1 a2 a3 D) := by
  unfold spec_PutEvent.f pe
  rw [sevent_f a0 a1 a2 a3 D hb (by omega) k (by omega)]
  simp only [bs]
  by_cases h : EvP a0 a1 a2 a3 D
  · have hn := ev_num h
    have hv := vi_length 6 (unz a3)
    have hbl := body_len a0 a3 D
    rw [if_pos (decide_eq_true h), if_pos h, put_f a3 hn.1 hn.2 k (by omega)]
    simp only [bs]
    rw [join_is _ _ (by simp) (by omega) k (by simp; omega) (by omega)]
    simp only [bs]
    rw [join_is _ _ (by simp; omega) (by omega) k (by simp; omega) (by omega)]
    simp only [bs]
    rw [sencode_f _ _ _ (body_bs a0 a3 D hb) (by omega) k hk]
    simp only [bs]
  · rw [if_neg (by simpa using h), if_neg h]
theorem iput_is (a0 a1 a2 a3 : Int) (D : List Int) (hb : Bs D) (hlen : D.length ≤ 1048576) (h : EvP a0 a1 a2 a3 D) (k : Nat) (hk : 1600000 ≤ k) : impl_putEvent.f k a0 a1 a2 a3 D = some (pe a0 a1 a2 a3 D) := by
  have hn := ev_num h
  have hv := vi_length 6 (unz a3)
  have hbl := body_len a0 a3 D
  unfold impl_putEvent.f pe
  try simp only [bs]
  rw [iput_f a3 hn.1 hn.2 k (by omega), if_pos h]
  try simp only [bs]
  rw [if_pos (by simp; omega)]
  try simp only [bs]
  rw [if_pos (by simp; omega), iencode_f _ _ _ (body_bs a0 a3 D hb) (by omega) k hk]
  try simp only [bs]
theorem iPut_f (a0 a1 a2 a3 : Int) (D : List Int) (hb : Bs D) (hlen : D.length ≤ 1048576) (k : Nat) (hk : 1600000 ≤ k) : impl_PutEvent.f k a0 a1 a2 a3 D = some (pe a0 a1 a2 a3 D) := by
  unfold impl_PutEvent.f
  rw [ievent_f a0 a1 a2 a3 D hb (by omega) k (by omega)]
  simp only [bs]
  by_cases h : EvP a0 a1 a2 a3 D
  · rw [if_pos (decide_eq_true h), iput_is a0 a1 a2 a3 D hb hlen h k hk]
    simp only [bs]
  · rw [if_neg (by simpa using h)]
    unfold pe
    rw [if_neg h]
/-- So many bytes, counted from a number on. -/
def markL (a : Int) : Nat → List Int
  | 0 => []
  | n + 1 => (a % 256) :: markL (a + 1) n
theorem markL_length (n : Nat) : ∀ a, (markL a n).length = n := by
  induction n with
  | zero => intro a; rfl
  | succ n ih => intro a; simp [markL, ih]
theorem mark_loop (n : Nat) (hn : n ≤ 2000000) : ∀ (d k i : Nat) (x0 : List Int) (x1 : Int), i + d = n → x0.length = n → d < k → 0 ≤ x1 → x1 ≤ 4000000 + i →
    laws_markByteS.l0 k x0 x1 (i : Int) = some (x1 + d, x0.take i ++ markL x1 d) := by
  intro d
  induction d with
  | zero =>
    intro k i x0 x1 hi hl hk h0 h1
    obtain ⟨k, rfl⟩ : ∃ m, k = m + 1 := ⟨k - 1, by omega⟩
    simp only [laws_markByteS.l0]
    rw [if_neg (by omega), List.take_of_length_le (by omega)]
    simp [markL]
  | succ d ih =>
    intro k i x0 x1 hi hl hk h0 h1
    obtain ⟨k, rfl⟩ : ∃ m, k = m + 1 := ⟨k - 1, by omega⟩
    simp only [laws_markByteS.l0]
    rw [if_pos (by omega), if_pos (by omega), wrap_next (show i < n by omega) (by omega), wrap_id (x := x1 + 1) (by omega) (by omega), ih k (i + 1) _ _ (by omega) (by simpa using hl) (by omega) (by omega) (by omega)]
    simp only [Int.toNat_natCast]
    rw [set_take _ _ _ (by omega), List.append_assoc]
    simp only [markL, List.singleton_append]
    rw [show x1 + 1 + (d : Int) = x1 + ((d + 1 : Nat) : Int) by omega]
theorem mark_f (l : List Int) (a : Int) (hn : l.length ≤ 2000000) (h0 : 0 ≤ a) (h1 : a ≤ 4000000) (k : Nat) (hk : l.length < k) : laws_markByteS.f k l a = some (a + l.length, markL a l.length) := by
  unfold laws_markByteS.f
  have := mark_loop l.length hn l.length k 0 l a (by omega) rfl hk h0 (by omega)
  simpa using this
theorem held_loop (x0 : List Int) (hn : x0.length ≤ 2000000) : ∀ (d k i : Nat) (x1 : Int), i + d = x0.length → x0.drop i = markL x1 d → d < k → 0 ≤ x1 → x1 ≤ 4000000 + i →
    laws_heldByteS.l0 k x0 x1 (i : Int) = some (x1 + d) := by
  intro d
  induction d with
  | zero =>
    intro k i x1 hi hl hk h0 h1
    obtain ⟨k, rfl⟩ : ∃ m, k = m + 1 := ⟨k - 1, by omega⟩
    simp only [laws_heldByteS.l0]
    rw [if_neg (by omega)]
    simp
  | succ d ih =>
    intro k i x1 hi hl hk h0 h1
    obtain ⟨k, rfl⟩ : ∃ m, k = m + 1 := ⟨k - 1, by omega⟩
    rw [drop_cons x0 i (by omega)] at hl
    simp only [markL, List.cons.injEq] at hl
    simp only [laws_heldByteS.l0]
    rw [if_pos (by omega), if_pos (by omega), rd_at x0 i (by omega), if_pos hl.1, wrap_next (show i < x0.length by omega) (by omega), wrap_id (x := x1 + 1) (by omega) (by omega), ih k (i + 1) _ (by omega) hl.2 (by omega) (by omega) (by omega),
      show x1 + 1 + (d : Int) = x1 + ((d + 1 : Nat) : Int) by omega]
theorem held_f (a : Int) (n : Nat) (hn : n ≤ 2000000) (h0 : 0 ≤ a) (h1 : a ≤ 4000000) (k : Nat) (hk : n < k) : laws_heldByteS.f k (markL a n) a = some (a + n) := by
  unfold laws_heldByteS.f
  have := held_loop (markL a n) (by rw [markL_length]; exact hn) n k 0 a (by rw [markL_length]; omega) rfl hk h0 (by omega)
  simpa using this
theorem markEvent_f (a0 a1 a2 a3 : Int) (D : List Int) (h : D.length ≤ 1048576) (k : Nat) (hk : 1048577 < k) : laws_markEvent.f k a0 a1 a2 a3 D 1 = some ((1 : Int) + D.length, markL 1 D.length) := by
  unfold laws_markEvent.f
  simp only [mark_f D 1 (by omega) (by omega) (by omega) k (by omega), bs]
theorem FnExactPutEvent : laws_FnExactPutEvent.Pure := by
  intro a0 a1 a2 a3 D hw
  obtain ⟨_, _, _, _, wD, wb⟩ := hw
  have hb : Bs D := Bs.of wb
  by_cases c : D.length ≤ 1048576
  case neg =>
    refine ⟨0, ?_⟩
    unfold laws_FnExactPutEvent.f
    rw [szEvent_f a0 a1 a2 a3 D wD, if_neg c]
    simp only [bs]
    rw [if_pos (by decide)]
  obtain ⟨K, hK⟩ : ∃ K : Nat, K = 1600000 := ⟨_, rfl⟩
  have T : ∀ k, K ≤ k → laws_toEvent.f k a0 a1 a2 a3 D = _ := fun k hk => toEvent_f a0 a1 a2 a3 D c k (by omega)
  have Q : ∀ k, K ≤ k → laws_eqEvent.f k a0 a1 a2 a3 D a0 a1 a2 a3 D = _ := fun k hk => eqEvent_self a0 a1 a2 a3 D c k (by omega)
  have E1 : ∀ k, K ≤ k → spec_PutEvent.f k a0 a1 a2 a3 D = _ := fun k hk => sput_f a0 a1 a2 a3 D hb c k (by omega)
  have E2 : ∀ k, K ≤ k → impl_PutEvent.f k a0 a1 a2 a3 D = _ := fun k hk => iPut_f a0 a1 a2 a3 D hb c k (by omega)
  have hl := pe_len a0 a1 a2 a3 D
  generalize pe a0 a1 a2 a3 D = r at hl E1 E2
  have S : ∀ k, K ≤ k → laws_eqByteS.f k r r = _ := fun k hk => eqByteS_f r (by omega) k (by omega)
  have M : ∀ k, K ≤ k → laws_markByteS.f k r 1 = _ := fun k hk => mark_f r 1 (by omega) (by omega) (by omega) k (by omega)
  have H : ∀ k, K ≤ k → laws_heldByteS.f k (markL 1 r.length) 1 = _ := fun k hk => held_f 1 r.length (by omega) (by omega) (by omega) k (by omega)
  refine ⟨K + 3, ?_⟩
  unfold laws_FnExactPutEvent.f
  rw [szEvent_f a0 a1 a2 a3 D wD, if_pos c]
  simp only [bs]
  rw [if_neg (by omega), T _ (by omega)]
  simp only [bs]
  rw [E1 _ (by omega)]
  simp only [bs]
  rw [E2 _ (by omega)]
  simp only [bs]
  rw [S _ (by omega)]
  simp only [bs, if_true]
  rw [Q _ (by omega)]
  simp only [bs, if_true]
  rw [markEvent_f a0 a1 a2 a3 D c (K + 3) (by omega)]
  simp only [bs]
  rw [if_neg (by omega)]
  simp only [laws_FnExactPutEvent.j0, Bool.not_true]
  rw [if_neg (by decide), M _ (by omega)]
  simp only [bs]
  rw [H _ (by omega)]
  simp only [bs]
  rw [if_neg (by omega), if_pos trivial, T _ (by omega)]
  simp only [bs]
  rw [E2 _ (by omega)]
  simp only [bs]
  rw [S _ (by omega)]
  simp only [bs, if_true]
  rw [if_neg (by omega)]

end Go.Proofs.Ytabicblkdgpogaa.Pure
