/- SpotForward at all places takes Forward, and no other drawn vector. -/
import Derived.Test.YtabicblkdgpogaaQFnSpotsx9
import Derived.Test.YtabicblkdgpogaaVFnSpotsl
namespace Go.Proofs.Ytabicblkdgpogaa.Pure
open Go.RowKit Go.Proofs.Ytabicblkdgpogaa.QFnSpots Go.Proofs.YtabicblkdgpogaaW.PrintWords Go.Proofs.YtabicblkdgpogaaW.PrintLast Go.Proofs.YtabicblkdgpogaaW.PrintMore Go.Proofs.Ytabicblkdgpogaa.Lib
set_option linter.unusedVariables false

theorem modulus_f (f : Int) : spec_Modulus.f f = some (md f) := by
  unfold spec_Modulus.f md
  simp only [apply_ite some]
theorem reduce_f (f x : Int) (hp : md f ≠ 0) : spec_Reduce.f f x = some (x % md f) := by
  have h := md_pos hp
  have hr := reduce_int x (md f) (by omega)
  have hx := emod_range x (show 0 < md f by omega)
  unfold spec_Reduce.f
  rw [modulus_f]
  simp only [bs]
  rw [if_neg hp]
  by_cases c : Int.tmod x (md f) < 0
  · rw [if_pos c] at hr ⊢
    rw [hr, wrap_id (by omega) (by omega)]
  · rw [if_neg c] at hr ⊢
    rw [hr]
theorem in_f (x a b : Int) : spec_l01In.f x a b = some (decide (a ≤ x ∧ x ≤ b)) := by
  unfold spec_l01In.f
  by_cases c : a ≤ x
  · rw [if_pos c]; simp [c]
  · rw [if_neg c]; simp [c]
theorem elements_f (f : Int) (l : List Int) (hn : l.length ≤ 2000000) (k : Nat) (hk : l.length < k) : spec_l03Elements.f k f l = some (decide (md f ≠ 0 ∧ El (md f) l)) := by
  unfold spec_l03Elements.f
  simp only [modulus_f, bs]
  by_cases hp : md f = 0
  · rw [if_pos hp, decide_eq_false (fun h => h.1 hp)]
  · rw [if_neg hp]
    have hq := md_pos hp
    have key := loop_list (fun k (_ : Unit) i => spec_l03Elements.l0 k l (md f) i) l 0 (fun _ _ => True) (fun r _ => decide (El (md f) r)) (by
      intro k s _ _
      simp only [spec_l03Elements.l0]
      rw [if_neg (by omega), decide_eq_true (El.nil _)]) (by
      intro k i s h _ _
      simp only [spec_l03Elements.l0]
      rw [if_pos (by omega), if_pos (by omega), rd_at l i h, wrap_id (x := md f - 1) (by omega) (by omega), in_f]
      simp only [bs]
      by_cases c : 0 ≤ l[i] ∧ l[i] ≤ md f - 1
      · left
        refine ⟨(), ?_, trivial, ?_⟩
        · rw [if_pos (by simpa using c), wrap_next h (by omega)]
        · apply decide_eq_decide.mpr
          constructor
          · intro hh x hx
            exact hh x (List.mem_cons_of_mem _ hx)
          · intro hh x hx
            rcases List.mem_cons.1 hx with rfl | hx
            · omega
            · exact hh x hx
      · right
        rw [if_neg (by simpa using c)]
        rw [decide_eq_false]
        intro hh
        have := hh l[i] List.mem_cons_self
        omega) k () (by omega) trivial
    rw [key]
    congr 1
    exact decide_eq_decide.mpr ⟨fun h => ⟨hp, h⟩, fun h => h.2⟩
theorem fieldOf_f (f : Int) : impl_fieldOf.f f = some (md f, gn f, tw f, decide (md f ≠ 0)) := by
  by_cases c : 0 ≤ f ∧ f ≤ 8
  · rcases nine c.1 c.2 with rfl | rfl | rfl | rfl | rfl | rfl | rfl | rfl | rfl <;> rfl
  · obtain ⟨h1, h2, h3⟩ := md_out c
    unfold impl_fieldOf.f
    rw [h1, h2, h3]
    by_cases c0 : f < 0
    · rw [if_pos c0]; rfl
    · rw [if_neg c0, if_pos (by omega)]; rfl
theorem areElements_f (p g t : Int) (l : List Int) (hn : l.length ≤ 2000000) (k : Nat) (hk : l.length < k) : impl_field_areElements.f k p g t l = some (decide (El p l)) := by
  unfold impl_field_areElements.f
  exact loop_list (fun k (_ : Unit) i => impl_field_areElements.l0 k l (l.length : Int) i p g t) l 0 (fun _ _ => True) (fun r _ => decide (El p r)) (by
    intro k s _ _
    simp only [impl_field_areElements.l0]
    rw [if_neg (by omega), decide_eq_true (El.nil _)]) (by
    intro k i s h _ _
    simp only [impl_field_areElements.l0]
    rw [if_pos (by omega), if_pos (by omega), if_pos (by omega), rd_at l i h]
    by_cases c : l[i] < 0
    · right
      rw [if_pos c, decide_eq_false]
      intro hh
      have := hh l[i] List.mem_cons_self
      omega
    · by_cases c1 : l[i] ≥ p
      · right
        rw [if_neg c, if_pos c1, decide_eq_false]
        intro hh
        have := hh l[i] List.mem_cons_self
        omega
      · left
        refine ⟨(), ?_, trivial, ?_⟩
        · rw [if_neg c, if_neg c1, wrap_next h (by omega)]
        · apply decide_eq_decide.mpr
          constructor
          · intro hh x hx
            exact hh x (List.mem_cons_of_mem _ hx)
          · intro hh x hx
            rcases List.mem_cons.1 hx with rfl | hx
            · omega
            · exact hh x hx) k () (by omega) trivial
theorem power_loop (p : Int) (h2 : 2 ≤ p) (hp : p ≤ 1004535809) : ∀ (m n : Nat), n ≤ m → n ≤ 4611686018427387904 → ∀ (x out : Int), 0 ≤ x ∧ x < p → 0 ≤ out ∧ out < p → Ev (fun k => spec_Power.l0 k p x (n : Int) out) (out * x ^ n % p) := by
  intro m
  induction m with
  | zero =>
    intro n hn _ x out hx ho
    obtain rfl : n = 0 := by omega
    refine Ev.step (f := fun _ => some (out * x ^ 0 % p)) (fun k => ?_) (Ev.now _)
    simp only [spec_Power.l0]
    rw [if_neg (by omega), Int.pow_zero, Int.mul_one, Int.emod_eq_of_lt ho.1 ho.2]
  | succ m ih =>
    intro n hn hmax x out hx ho
    by_cases c : n = 0
    · exact ih n (by omega) hmax x out hx ho
    · have hxx := prod_range hp hx hx
      have hox := prod_range hp ho hx
      have r1 := emod_range (x * x) (show 0 < p by omega)
      have r2 := emod_range (out * x) (show 0 < p by omega)
      have hdiv : wrap64 (Int.tdiv (n : Int) 2) = ((n / 2 : Nat) : Int) := by
        rw [Int.tdiv_eq_ediv_of_nonneg (by omega), wrap_id (by omega) (by omega)]
        rfl
      have hpw := pow_half p x out n
      by_cases o : n % 2 = 1
      · rw [if_pos o] at hpw
        rw [← hpw]
        refine Ev.step (f := fun k => spec_Power.l0 k p (x * x % p) ((n / 2 : Nat) : Int) (out * x % p)) (fun k => ?_) (ih (n / 2) (by omega) (by omega) _ _ r1 r2)
        simp only [spec_Power.l0]
        rw [if_pos (by omega), if_pos (by rw [tmod_nonneg' _ (by omega)]; omega), if_neg (by omega), hdiv, wrap_id (x := x * x) (by omega) (by omega), wrap_id (x := out * x) (by omega) (by omega), tmod_nonneg' _ hxx.1, tmod_nonneg' _ hox.1]
      · rw [if_neg o] at hpw
        rw [← hpw]
        refine Ev.step (f := fun k => spec_Power.l0 k p (x * x % p) ((n / 2 : Nat) : Int) out) (fun k => ?_) (ih (n / 2) (by omega) (by omega) _ _ r1 ho)
        simp only [spec_Power.l0]
        rw [if_pos (by omega), if_neg (by rw [tmod_nonneg' _ (by omega)]; omega), if_neg (by omega), hdiv, wrap_id (x := x * x) (by omega) (by omega), tmod_nonneg' _ hxx.1]
theorem power_ev (f a e : Int) (hp : md f ≠ 0) (he0 : -4611686018427387904 ≤ e) (he1 : e ≤ 4611686018427387904) : Ev (fun k => spec_Power.f k f a e) (powS f a e) := by
  have hq := md_pos hp
  have hr := emod_range a (show 0 < md f by omega)
  have hn := emod_range e (show 0 < md f - 1 by omega)
  have hre := reduce_int e (md f - 1) (by omega)
  unfold powS
  by_cases z : a % md f = 0
  · rw [if_pos z]
    refine ⟨0, fun k _ => ?_⟩
    simp only [spec_Power.f, modulus_f, bs]
    rw [if_neg hp, reduce_f f a hp]
    simp only [bs]
    rw [if_pos z]
    by_cases e0 : e = 0
    · rw [if_pos e0, if_pos e0]
    · rw [if_neg e0, if_neg e0]
      by_cases e1 : e < 0
      · rw [if_pos e1, if_pos e1]
      · rw [if_neg e1, if_neg e1]
  · rw [if_neg z]
    have hl := power_loop (md f) (by omega) hq.2 (e % (md f - 1)).toNat (e % (md f - 1)).toNat (Nat.le_refl _) (by omega) (a % md f) 1 hr ⟨by omega, by omega⟩
    rw [Int.one_mul, Int.toNat_of_nonneg hn.1] at hl
    obtain ⟨K, hK⟩ := hl
    refine ⟨K + 1, fun k hk => ?_⟩
    obtain ⟨k, rfl⟩ : ∃ m, k = m + 1 := ⟨k - 1, by omega⟩
    simp only [spec_Power.f, modulus_f, bs]
    rw [if_neg hp, reduce_f f a hp]
    simp only [bs]
    rw [if_neg z, wrap_id (x := md f - 1) (by omega) (by omega), if_neg (by omega)]
    by_cases c : Int.tmod e (md f - 1) < 0
    · rw [if_pos c] at hre ⊢
      have : -(md f - 1) < Int.tmod e (md f - 1) := by
        have := Int.lt_tmod_of_pos e (show 0 < md f - 1 by omega)
        omega
      rw [wrap_id (x := Int.tmod e (md f - 1) + md f) (by omega) (by omega), wrap_id (by omega) (by omega), show Int.tmod e (md f - 1) + md f - 1 = e % (md f - 1) by omega]
      simp only [spec_Power.j0]
      exact hK k (by omega)
    · rw [if_neg c] at hre ⊢
      rw [hre]
      simp only [spec_Power.j0]
      exact hK k (by omega)
/-- A number's lowest s bits, turned round. -/
def rv : Nat → Nat → Nat
  | 0, _ => 0
  | s + 1, x => x % 2 * 2 ^ s + rv s (x / 2)
theorem rv_lt : ∀ s x : Nat, rv s x < 2 ^ s := by
  intro s
  induction s with
  | zero => intro x; exact Nat.one_pos
  | succ s ih =>
    intro x
    have := ih (x / 2)
    rw [rv, Nat.pow_succ]
    rcases Nat.mod_two_eq_zero_or_one x with h | h <;> rw [h] <;> omega
theorem rv_inj : ∀ s x y : Nat, rv s x = rv s y → x % 2 ^ s = y % 2 ^ s := by
  intro s
  induction s with
  | zero => intro x y _; rw [Nat.pow_zero, Nat.mod_one, Nat.mod_one]
  | succ s ih =>
    intro x y h
    rw [rv, rv] at h
    have h1 := rv_lt s (x / 2)
    have h2 := rv_lt s (y / 2)
    have e : x % 2 = y % 2 ∧ rv s (x / 2) = rv s (y / 2) := by
      rcases Nat.mod_two_eq_zero_or_one x with a | a <;> rcases Nat.mod_two_eq_zero_or_one y with b | b <;> rw [a, b] at h ⊢ <;> omega
    have := ih _ _ e.2
    rw [Nat.pow_succ, Nat.mul_comm, Nat.mod_mul, Nat.mod_mul, e.1, this]
theorem rv_even (s j : Nat) : rv (s + 1) (2 * j) = rv s j := by
  rw [rv, show 2 * j % 2 = 0 by omega, show 2 * j / 2 = j by omega, Nat.zero_mul, Nat.zero_add]
theorem rv_odd (s j : Nat) : rv (s + 1) (2 * j + 1) = 2 ^ s + rv s j := by
  rw [rv, show (2 * j + 1) % 2 = 1 by omega, show (2 * j + 1) / 2 = j by omega, Nat.one_mul]
theorem sumN_two (n : Nat) (g : Nat → Int) : sumN (2 * n) g = sumN n (fun j => g (2 * j)) + sumN n (fun j => g (2 * j + 1)) := by
  induction n with
  | zero => rfl
  | succ n ih =>
    rw [show 2 * (n + 1) = 2 * n + 1 + 1 from rfl]
    simp only [sumN]
    rw [ih]
    omega
/-- The transform of 2 ^ s numbers that stand in turned order. -/
def T (s N : Nat) (w : Int) (u : Nat → Int) (i : Nat) : Int := sumN (2 ^ s) (fun j => w ^ (N * i * j) * u (rv s j))
theorem T_low (s N : Nat) (w : Int) (u : Nat → Int) (i : Nat) : T (s + 1) N w u i = T s (2 * N) w u i + w ^ (N * i) * T s (2 * N) w (fun x => u (2 ^ s + x)) i := by
  unfold T
  rw [Nat.pow_succ, Nat.mul_comm (2 ^ s) 2, sumN_two, ← sumN_mul]
  congr 1
  · refine sumN_congr (fun j _ => ?_)
    rw [rv_even, show N * i * (2 * j) = 2 * N * i * j by rw [Nat.mul_left_comm, Nat.mul_assoc 2 N i, Nat.mul_assoc 2]]
  · refine sumN_congr (fun j _ => ?_)
    rw [rv_odd, show N * i * (2 * j + 1) = N * i + 2 * N * i * j by rw [Nat.mul_add, Nat.mul_one, Nat.add_comm, Nat.mul_left_comm, Nat.mul_assoc 2 N i, Nat.mul_assoc 2], Int.pow_add, Int.mul_assoc]
theorem pow_neg_one {p x : Int} (h : x % p = (-1) % p) (j : Nat) : x ^ (2 * j) % p = 1 % p ∧ x ^ (2 * j + 1) % p = (-1) % p := by
  induction j with
  | zero => exact ⟨by rw [Nat.mul_zero, Int.pow_zero], by rw [show 2 * 0 + 1 = 1 from rfl, Int.pow_succ, Int.pow_zero, Int.one_mul]; exact h⟩
  | succ j ih =>
    have e1 : x ^ (2 * (j + 1)) % p = 1 % p := by
      rw [show 2 * (j + 1) = 2 * j + 1 + 1 from rfl, Int.pow_succ, Int.mul_emod, ih.2, h, ← Int.mul_emod]
      rfl
    refine ⟨e1, ?_⟩
    rw [Int.pow_succ, Int.mul_emod, e1, h, ← Int.mul_emod]
    rfl
theorem T_high (p : Int) (s N : Nat) (w : Int) (u : Nat → Int) (i : Nat) (hw : w ^ (N * 2 ^ s) % p = (-1) % p) : T (s + 1) N w u (i + 2 ^ s) % p = (T s (2 * N) w u i - w ^ (N * i) * T s (2 * N) w (fun x => u (2 ^ s + x)) i) % p := by
  unfold T
  rw [Nat.pow_succ, Nat.mul_comm (2 ^ s) 2, sumN_two, Int.add_emod, ← sumN_mul, Int.sub_eq_add_neg, Int.add_emod (sumN (2 ^ s) (fun j => w ^ (2 * N * i * j) * u (rv s j)))]
  have hn : -sumN (2 ^ s) (fun k => w ^ (N * i) * (w ^ (2 * N * i * k) * u (2 ^ s + rv s k))) = sumN (2 ^ s) (fun k => (-1) * (w ^ (N * i) * (w ^ (2 * N * i * k) * u (2 ^ s + rv s k)))) := by
    rw [sumN_mul (2 ^ s) (-1), Int.neg_one_mul]
  have hq : ∀ e : Nat, w ^ (N * 2 ^ s * e) = (w ^ (N * 2 ^ s)) ^ e := fun e => Int.pow_mul
  rw [hn]
  congr 1
  congr 1
  · refine sumN_emod p (fun j _ => ?_)
    have e : N * (i + 2 ^ s) * (2 * j) = 2 * N * i * j + N * 2 ^ s * (2 * j) := by
      rw [Nat.mul_add, Nat.add_mul, Nat.mul_left_comm (N * i), Nat.mul_assoc 2 N i, Nat.mul_assoc 2]
    rw [rv_even, e, Int.pow_add, Int.mul_right_comm, Int.mul_emod, hq, (pow_neg_one hw j).1, ← Int.mul_emod, Int.mul_one]
  · refine sumN_emod p (fun j _ => ?_)
    have e : N * (i + 2 ^ s) * (2 * j + 1) = (N * i + 2 * N * i * j) + N * 2 ^ s * (2 * j + 1) := by
      have e0 : N * i * (2 * j + 1) = N * i + 2 * N * i * j := by
        rw [Nat.mul_add, Nat.mul_one, Nat.add_comm, Nat.mul_left_comm, Nat.mul_assoc 2 N i, Nat.mul_assoc 2]
      rw [Nat.mul_add N i, Nat.add_mul, e0]
    rw [rv_odd, e, Int.pow_add, Int.mul_right_comm, Int.mul_emod, hq, (pow_neg_one hw j).2, ← Int.mul_emod, Int.mul_comm _ (-1), Int.pow_add, Int.mul_assoc (w ^ (N * i))]
/-- The rounds of the fast transform make the transform. -/
theorem rounds_T (p : Int) (m : Nat) (w : Int) (A : Nat → Nat → Int) (R : Nat → Int) (hR : ∀ s, s < m → R s % p = w ^ (2 ^ (m - s - 1)) % p) (hw : 0 < m → w ^ (2 ^ (m - 1)) % p = (-1) % p)
    (low : ∀ s b i, s < m → i < 2 ^ s → (b + 1) * 2 ^ (s + 1) ≤ 2 ^ m → A (s + 1) (b * 2 ^ (s + 1) + i) % p = (A s (b * 2 ^ (s + 1) + i) + R s ^ i * A s (b * 2 ^ (s + 1) + 2 ^ s + i)) % p)
    (high : ∀ s b i, s < m → i < 2 ^ s → (b + 1) * 2 ^ (s + 1) ≤ 2 ^ m → A (s + 1) (b * 2 ^ (s + 1) + 2 ^ s + i) % p = (A s (b * 2 ^ (s + 1) + i) - R s ^ i * A s (b * 2 ^ (s + 1) + 2 ^ s + i)) % p) :
    ∀ s b i, s ≤ m → i < 2 ^ s → (b + 1) * 2 ^ s ≤ 2 ^ m → A s (b * 2 ^ s + i) % p = T s (2 ^ (m - s)) w (fun x => A 0 (b * 2 ^ s + x)) i % p := by
  intro s
  induction s with
  | zero =>
    intro b i _ hi _
    obtain rfl : i = 0 := by rw [Nat.pow_zero] at hi; omega
    unfold T
    rw [Nat.pow_zero]
    simp only [sumN, rv, Nat.mul_zero, Int.pow_zero, Int.one_mul, Int.zero_add, Nat.mul_one]
  | succ s ih =>
    intro b i hs hi hb
    have hp : 2 ^ (s + 1) = 2 * 2 ^ s := by rw [Nat.pow_succ, Nat.mul_comm]
    have hN : 2 ^ (m - s) = 2 * 2 ^ (m - (s + 1)) := by
      rw [show m - s = m - (s + 1) + 1 by omega, Nat.pow_succ, Nat.mul_comm]
    have hb1 : (2 * b + 1) * 2 ^ s ≤ 2 ^ m := by
      have : (b + 1) * (2 * 2 ^ s) = (2 * b + 1) * 2 ^ s + 2 ^ s := by
        rw [← Nat.mul_assoc, ← Nat.succ_mul]
        congr 1
        omega
      rw [hp] at hb
      omega
    have hb2 : (2 * b + 1 + 1) * 2 ^ s ≤ 2 ^ m := by
      have : (b + 1) * (2 * 2 ^ s) = (2 * b + 1 + 1) * 2 ^ s := by
        rw [← Nat.mul_assoc]
        congr 1
        omega
      rw [hp] at hb
      omega
    have e1 : 2 * b * 2 ^ s = b * 2 ^ (s + 1) := by rw [hp, Nat.mul_comm 2 b, Nat.mul_assoc]
    have e2 : (2 * b + 1) * 2 ^ s = b * 2 ^ (s + 1) + 2 ^ s := by rw [Nat.succ_mul, e1]
    have hT1 : ∀ j, j < 2 ^ s → A s (b * 2 ^ (s + 1) + j) % p = T s (2 * 2 ^ (m - (s + 1))) w (fun x => A 0 (b * 2 ^ (s + 1) + x)) j % p := by
      intro j hj
      have := ih (2 * b) j (by omega) hj hb1
      rw [e1, hN] at this
      exact this
    have hT2 : ∀ j, j < 2 ^ s → A s (b * 2 ^ (s + 1) + 2 ^ s + j) % p = T s (2 * 2 ^ (m - (s + 1))) w (fun x => A 0 (b * 2 ^ (s + 1) + (2 ^ s + x))) j % p := by
      intro j hj
      have := ih (2 * b + 1) j (by omega) hj hb2
      rw [e2, hN] at this
      rw [this]
      congr 2
      funext x
      rw [Nat.add_assoc]
    have hr : ∀ j : Nat, R s ^ j % p = w ^ (2 ^ (m - (s + 1)) * j) % p := by
      intro j
      rw [← pow_emod, hR s (by omega), pow_emod, Int.pow_mul, show m - s - 1 = m - (s + 1) by omega]
    by_cases c : i < 2 ^ s
    · rw [low s b i (by omega) c hb, T_low, Int.add_emod, Int.mul_emod, hT1 i c, hT2 i c, hr i, ← Int.mul_emod, ← Int.add_emod]
    · obtain ⟨j, rfl⟩ : ∃ j, i = j + 2 ^ s := ⟨i - 2 ^ s, by omega⟩
      have hj : j < 2 ^ s := by omega
      have hww : w ^ (2 ^ (m - (s + 1)) * 2 ^ s) % p = (-1) % p := by
        rw [← Nat.pow_add, show m - (s + 1) + s = m - 1 by omega]
        exact hw (by omega)
      rw [show b * 2 ^ (s + 1) + (j + 2 ^ s) = b * 2 ^ (s + 1) + 2 ^ s + j by omega, high s b j (by omega) hj hb, T_high p s _ w _ j hww, Int.sub_emod, Int.mul_emod, hT1 j hj, hT2 j hj, hr j, ← Int.mul_emod, ← Int.sub_emod]
/-- A power by squares. -/
def pw (p : Int) : Nat → Int → Nat → Int → Int
  | 0, _, _, out => out
  | d + 1, x, n, out => if n % 2 = 1 then pw p d (x * x % p) (n / 2) (out * x % p) else pw p d (x * x % p) (n / 2) out
theorem pw_eq (p : Int) : ∀ (d : Nat) (x : Int) (n : Nat) (out : Int), n < 2 ^ d → pw p d x n out % p = out * x ^ n % p := by
  intro d
  induction d with
  | zero =>
    intro x n out h
    obtain rfl : n = 0 := by rw [Nat.pow_zero] at h; omega
    rw [pw, Int.pow_zero, Int.mul_one]
  | succ d ih =>
    intro x n out h
    have hn : n / 2 < 2 ^ d := by rw [Nat.pow_succ] at h; omega
    rw [pw, ← pow_half p x out n]
    by_cases c : n % 2 = 1
    · rw [if_pos c, if_pos c, ih _ _ _ hn]
    · rw [if_neg c, if_neg c, ih _ _ _ hn]
/-- The number of a field's elements beside 0. -/
def p1 (f : Int) : Nat := (md f - 1).toNat
/-- A root of one, of order 2 to the s. -/
def rt (f : Int) (s : Nat) : Int := gn f ^ (p1 f / 2 ^ s) % md f
theorem nine_f {f : Int} (hp : md f ≠ 0) : f = 0 ∨ f = 1 ∨ f = 2 ∨ f = 3 ∨ f = 4 ∨ f = 5 ∨ f = 6 ∨ f = 7 ∨ f = 8 := nine (md_in hp).1 (md_in hp).2
theorem half_root {f : Int} (hp : md f ≠ 0) : gn f ^ (p1 f / 2) % md f = (-1) % md f := by
  have h := pw_eq (md f) 32 (gn f) (p1 f / 2) 1 (by rcases nine_f hp with rfl | rfl | rfl | rfl | rfl | rfl | rfl | rfl | rfl <;> decide)
  rw [Int.one_mul] at h
  rw [← h]
  rcases nine_f hp with rfl | rfl | rfl | rfl | rfl | rfl | rfl | rfl | rfl <;> decide +kernel
theorem tw_range {f : Int} (hp : md f ≠ 0) : 4 ≤ tw f ∧ tw f ≤ 26 := by
  rcases nine_f hp with rfl | rfl | rfl | rfl | rfl | rfl | rfl | rfl | rfl <;> decide
theorem two_dvd {f : Int} (hp : md f ≠ 0) (m : Nat) (hm : (m : Int) ≤ tw f) : 2 ^ m ∣ p1 f := by
  have h : 2 ^ (tw f).toNat ∣ p1 f := by
    rcases nine_f hp with rfl | rfl | rfl | rfl | rfl | rfl | rfl | rfl | rfl <;> decide +kernel
  exact Nat.dvd_trans (Nat.pow_dvd_pow 2 (by omega)) h
theorem div_pow {P m s : Nat} (h : 2 ^ m ∣ P) (hs : s ≤ m) : P / 2 ^ s = P / 2 ^ m * 2 ^ (m - s) := by
  obtain ⟨q, rfl⟩ := h
  rw [Nat.mul_div_cancel_left q (Nat.two_pow_pos m), show 2 ^ m = 2 ^ s * 2 ^ (m - s) by rw [← Nat.pow_add]; congr 1; omega, Nat.mul_assoc, Nat.mul_div_cancel_left _ (Nat.two_pow_pos s), Nat.mul_comm]
theorem rt_pow {f : Int} (hp : md f ≠ 0) (m s : Nat) (hm : (m : Int) ≤ tw f) (hs : s ≤ m) : rt f s % md f = rt f m ^ (2 ^ (m - s)) % md f := by
  unfold rt
  rw [pow_emod, Int.emod_emod_of_dvd _ (Int.dvd_refl _), div_pow (two_dvd hp m hm) hs, Int.pow_mul]
theorem rt_half {f : Int} (hp : md f ≠ 0) (m : Nat) (hm : (m : Int) ≤ tw f) (h0 : 0 < m) : rt f m ^ (2 ^ (m - 1)) % md f = (-1) % md f := by
  rw [← rt_pow hp m 1 hm h0, rt, Int.emod_emod_of_dvd _ (Int.dvd_refl _), Nat.pow_one]
  exact half_root hp
theorem rt_one {f : Int} (hp : md f ≠ 0) (m : Nat) (hm : (m : Int) ≤ tw f) (h0 : 0 < m) : rt f m ^ (2 ^ m) % md f = 1 % md f := by
  rw [show 2 ^ m = 2 ^ (m - 1) * (2 * 1) by rw [Nat.mul_one, ← Nat.pow_succ]; congr 1; omega, Int.pow_mul]
  exact (pow_neg_one (rt_half hp m hm h0) 1).1
theorem in_is (a b c : Int) : spec_l01In.f a b c = some (decide (b ≤ a ∧ a ≤ c)) := by
  unfold spec_l01In.f
  by_cases h : b ≤ a
  · rw [if_pos h]
    congr 1
    rw [decide_eq_decide]
    exact ⟨fun g => ⟨h, g⟩, fun g => g.2⟩
  · rw [if_neg h, decide_eq_false (fun g => h g.1)]
theorem shl_one (i : Nat) (h : i ≤ 20) : shl .i64 1 (i : Int) = ((2 ^ i : Nat) : Int) := by
  have hp : 2 ^ i ≤ 2 ^ 20 := Nat.pow_le_pow_right (by decide) h
  unfold shl
  rw [Int.toNat_natCast, Nat.min_eq_left (show i ≤ IntKind.i64.bits by show i ≤ 64; omega), IntKind.wrap_i64, Int.one_mul]
  have e : ((2 ^ i : Nat) : Int) = (2 : Int) ^ i := by simp
  rw [← e]
  have : 2 ^ 20 = 1048576 := by decide
  clear e
  generalize 2 ^ i = q at hp ⊢
  omega
/-- A length's logarithm, -1 for none. -/
def lgs (n : Nat) : Nat → Nat → Int
  | 0, _ => -1
  | d + 1, i => if n = 2 ^ i then (i : Int) else lgs n d (i + 1)
def lg (n : Nat) : Int := lgs n 10 0
theorem lgs_spec (n : Nat) : ∀ d i : Nat, lgs n d i = -1 ∨ ∃ m : Nat, lgs n d i = (m : Int) ∧ n = 2 ^ m ∧ m < i + d := by
  intro d
  induction d with
  | zero => intro i; exact Or.inl rfl
  | succ d ih =>
    intro i
    rw [lgs]
    by_cases c : n = 2 ^ i
    · rw [if_pos c]; exact Or.inr ⟨i, rfl, c, by omega⟩
    · rw [if_neg c]
      rcases ih (i + 1) with h | ⟨m, h1, h2, h3⟩
      · exact Or.inl h
      · exact Or.inr ⟨m, h1, h2, by omega⟩
theorem lg_spec {n : Nat} (h : 0 ≤ lg n) : ∃ m : Nat, lg n = (m : Int) ∧ n = 2 ^ m ∧ m ≤ 9 := by
  rcases lgs_spec n 10 0 with h1 | ⟨m, h1, h2, h3⟩
  · unfold lg at h; omega
  · exact ⟨m, h1, h2, by omega⟩
theorem lg_ge (n : Nat) : -1 ≤ lg n := by
  rcases lgs_spec n 10 0 with h1 | ⟨m, h1, h2, h3⟩
  · unfold lg; omega
  · unfold lg; omega
theorem ilog_loop (n : Nat) (hn : n ≤ 2000000) : ∀ d i k : Nat, i + d = 10 → d < k → impl_logOf.l0 k (n : Int) (i : Int) = some (lgs n d i) := by
  intro d
  induction d with
  | zero =>
    intro i k hi hk
    obtain ⟨k, rfl⟩ : ∃ m, k = m + 1 := ⟨k - 1, by omega⟩
    simp only [impl_logOf.l0]
    rw [if_neg (by omega)]
    rfl
  | succ d ih =>
    intro i k hi hk
    obtain ⟨k, rfl⟩ : ∃ m, k = m + 1 := ⟨k - 1, by omega⟩
    simp only [impl_logOf.l0]
    rw [if_pos (by omega), if_pos (by omega), shl_one i (by omega), lgs]
    by_cases c : n = 2 ^ i
    · rw [if_pos (by omega), if_pos c]
    · rw [if_neg (by omega), if_neg c, wrap_next (show i < 10 by omega) (by omega)]
      exact ih (i + 1) k (by omega) (by omega)
theorem ilog_f (n : Nat) (hn : n ≤ 2000000) (k : Nat) (hk : 10 < k) : impl_logOf.f k (n : Int) = some (lg n) := ilog_loop n hn 10 0 k (by omega) hk
theorem slog_loop (n : Nat) (hn : n ≤ 2000000) : ∀ d i k : Nat, i + d = 10 → d < k → spec_LogOf.l0 k (n : Int) (i : Int) = some (lgs n d i) := by
  intro d
  induction d with
  | zero =>
    intro i k hi hk
    obtain ⟨k, rfl⟩ : ∃ m, k = m + 1 := ⟨k - 1, by omega⟩
    simp only [spec_LogOf.l0]
    rw [if_neg (by omega)]
    rfl
  | succ d ih =>
    intro i k hi hk
    obtain ⟨k, rfl⟩ : ∃ m, k = m + 1 := ⟨k - 1, by omega⟩
    have e : IntKind.u64.wrap (i : Int) = (i : Int) := by
      show (i : Int) % 18446744073709551616 = _
      omega
    simp only [spec_LogOf.l0]
    rw [if_pos (by omega), e, if_pos (by omega), shl_one i (by omega), lgs]
    by_cases c : n = 2 ^ i
    · rw [if_pos (by omega), if_pos c]
    · rw [if_neg (by omega), if_neg c, wrap_next (show i < 10 by omega) (by omega)]
      exact ih (i + 1) k (by omega) (by omega)
theorem slog_f (n : Nat) (hn : n ≤ 2000000) (k : Nat) (hk : 10 < k) : spec_LogOf.f k (n : Int) = some (lg n) := slog_loop n hn 10 0 k (by omega) hk
theorem two_mono : ∀ (k : Nat) (x a r : Int), spec_TwoPower.l0 k x a = some r → ∀ m, spec_TwoPower.l0 (k + m) x a = some r := by
  intro k
  induction k with
  | zero => intro x a r h; simp [spec_TwoPower.l0] at h
  | succ k ih =>
    intro x a r h m
    rw [show k + 1 + m = (k + m) + 1 by omega]
    simp only [spec_TwoPower.l0] at h ⊢
    by_cases c : Int.tmod a 2 = 0
    · rw [if_pos c] at h ⊢
      exact ih _ _ _ h m
    · rw [if_neg c] at h ⊢
      exact h
theorem stwo_f (f : Int) (k : Nat) (hk : 30 ≤ k) : spec_TwoPower.f k f = some (if md f = 0 then -1 else tw f) := by
  obtain ⟨m, rfl⟩ : ∃ m, k = 30 + m := ⟨k - 30, by omega⟩
  unfold spec_TwoPower.f
  simp only [modulus_f, bs]
  by_cases h : md f = 0
  · rw [if_pos h, if_pos h]
  · rw [if_neg h, if_neg h]
    apply two_mono
    rcases nine_f h with rfl | rfl | rfl | rfl | rfl | rfl | rfl | rfl | rfl <;> decide +kernel
/-- A vector of a field. -/
def Lok (f : Int) (v : List Int) : Prop := (0 ≤ lg v.length ∧ lg v.length ≤ tw f) ∧ El (md f) v
instance (f : Int) (v : List Int) : Decidable (Lok f v) := by unfold Lok; exact inferInstance
def VecP (f : Int) (v : List Int) : Prop := md f ≠ 0 ∧ Lok f v
instance (f : Int) (v : List Int) : Decidable (VecP f v) := by unfold VecP; exact inferInstance
theorem svec_f (f : Int) (v : List Int) (hn : v.length ≤ 2000000) (k : Nat) (hk : v.length + 100 < k) : spec_VectorOk.f k f v = some (decide (VecP f v)) := by
  have hg := lg_ge v.length
  unfold spec_VectorOk.f
  rw [slog_f v.length hn k (by omega)]
  simp only [bs]
  by_cases c : lg v.length ≥ 0
  · rw [if_pos c, stwo_f f k (by omega)]
    simp only [bs]
    by_cases h : md f = 0
    · rw [if_pos h, if_neg (by omega), decide_eq_false (fun g => g.1 h)]
    · rw [if_neg h]
      by_cases d : lg v.length ≤ tw f
      · rw [if_pos d, elements_f f v hn k (by omega)]
        simp only [bs]
        congr 1
        rw [decide_eq_decide]
        exact ⟨fun g => ⟨h, ⟨c, d⟩, g.2⟩, fun g => ⟨h, g.2.2⟩⟩
      · rw [if_neg d, decide_eq_false (fun g => d g.2.1.2)]
  · rw [if_neg c, decide_eq_false (fun g => c g.2.1.1)]
theorem ivf_step (f : Int) (x1 x19 : List (List Int)) (a v : List Int) (n i k : Nat) (hi : i < n) (hn : n ≤ 100) (hx : n = x19.length) (hv : rd_L3 x19 (i : Int) = v) (ha : rd_L3 x1 0 = a) (h1 : 0 < x1.length) (hl : v.length ≤ 2000000) (hk : v.length + 20 < k) :
    impl_vectorField.l0 (k + 1) x1 x19 (n : Int) (i : Int) (md f) (gn f) (tw f) = if Lok f v ∧ v.length = a.length then impl_vectorField.l0 k x1 x19 (n : Int) ((i + 1 : Nat) : Int) (md f) (gn f) (tw f) else some (0, 0, 0, false) := by
  simp only [impl_vectorField.l0]
  rw [if_pos (by omega), if_pos (by omega), if_pos (by omega), hv, ilog_f v.length hl k (by omega)]
  simp only [bs]
  by_cases c1 : lg v.length < 0
  · rw [if_pos c1, if_neg (fun h => by have := h.1.1.1; omega)]
  · rw [if_neg c1]
    by_cases c2 : lg v.length > tw f
    · rw [if_pos c2, if_neg (fun h => by have := h.1.1.2; omega)]
    · rw [if_neg c2, areElements_f _ _ _ v hl k (by omega)]
      simp only [bs]
      by_cases c3 : El (md f) v
      · rw [if_pos (decide_eq_true c3), if_pos (by omega), ha]
        by_cases c4 : v.length = a.length
        · rw [if_pos (by omega), if_pos ⟨⟨⟨by omega, by omega⟩, c3⟩, c4⟩, wrap_next hi (by omega)]
        · rw [if_neg (by omega), if_neg (fun h => c4 h.2)]
      · rw [if_neg (by simpa using c3), if_neg (fun h => c3 h.1.2)]
theorem ivf_end (f : Int) (x1 x19 : List (List Int)) (n k : Nat) : impl_vectorField.l0 (k + 1) x1 x19 (n : Int) (n : Int) (md f) (gn f) (tw f) = some (md f, gn f, tw f, true) := by
  simp only [impl_vectorField.l0]
  rw [if_neg (by omega)]
theorem ivf_two (f : Int) (a b : List Int) (hla : a.length ≤ 2000000) (hlb : b.length ≤ 2000000) (k : Nat) (hk : a.length + b.length + 50 < k) : impl_vectorField.f k f [a, b] = some (if VecP f a ∧ VecP f b ∧ a.length = b.length then (md f, gn f, tw f, true) else (0, 0, 0, false)) := by
  obtain ⟨k, rfl⟩ : ∃ m, k = m + 3 := ⟨k - 3, by omega⟩
  unfold impl_vectorField.f
  rw [fieldOf_f]
  simp only [bs]
  by_cases h : md f = 0
  · rw [if_neg (by simpa using h), if_neg (fun g => g.1.1 h)]
  · rw [if_pos (by simpa using h)]
    have s1 := ivf_step f [a, b] [a, b] a a 2 0 (k + 2) (by decide) (by decide) rfl rfl rfl (by simp) hla (by omega)
    have s2 := ivf_step f [a, b] [a, b] a b 2 1 (k + 1) (by decide) (by decide) rfl rfl rfl (by simp) hlb (by omega)
    have s3 := ivf_end f [a, b] [a, b] 2 k
    show impl_vectorField.l0 (k + 2 + 1) [a, b] [a, b] ((2 : Nat) : Int) ((0 : Nat) : Int) (md f) (gn f) (tw f) = _
    rw [s1]
    by_cases c1 : Lok f a
    · rw [if_pos ⟨c1, rfl⟩]
      show impl_vectorField.l0 (k + 1 + 1) [a, b] [a, b] ((2 : Nat) : Int) ((1 : Nat) : Int) (md f) (gn f) (tw f) = _
      rw [s2]
      by_cases c2 : Lok f b ∧ b.length = a.length
      · rw [if_pos c2, if_pos ⟨⟨h, c1⟩, ⟨h, c2.1⟩, c2.2.symm⟩]
        exact s3
      · rw [if_neg c2, if_neg (fun g => c2 ⟨g.2.1.2, g.2.2.symm⟩)]
    · rw [if_neg (fun g => c1 g.1), if_neg (fun g => c1 g.1.2)]
theorem ivf_one (f : Int) (a : List Int) (hla : a.length ≤ 2000000) (k : Nat) (hk : a.length + 50 < k) : impl_vectorField.f k f [a] = some (if VecP f a then (md f, gn f, tw f, true) else (0, 0, 0, false)) := by
  obtain ⟨k, rfl⟩ : ∃ m, k = m + 2 := ⟨k - 2, by omega⟩
  unfold impl_vectorField.f
  rw [fieldOf_f]
  simp only [bs]
  by_cases h : md f = 0
  · rw [if_neg (by simpa using h), if_neg (fun g => g.1 h)]
  · rw [if_pos (by simpa using h)]
    have s1 := ivf_step f [a] [a] a a 1 0 (k + 1) (by decide) (by decide) rfl rfl rfl (by simp) hla (by omega)
    have s3 := ivf_end f [a] [a] 1 k
    show impl_vectorField.l0 (k + 1 + 1) [a] [a] ((1 : Nat) : Int) ((0 : Nat) : Int) (md f) (gn f) (tw f) = _
    rw [s1]
    by_cases c1 : Lok f a
    · rw [if_pos ⟨c1, rfl⟩, if_pos ⟨h, c1⟩]
      exact s3
    · rw [if_neg (fun g => c1 g.1), if_neg (fun g => c1 g.2)]
theorem L_set (l : List Int) (a x : Nat) (v : Int) (h : a < l.length) : L (l.set a v) x = if x = a then v else L l x := by
  unfold L
  by_cases c : x = a
  · rw [if_pos c, c]
    simp [List.getD, h]
  · rw [if_neg c]
    simp only [List.getD, List.getElem?_set]
    rw [if_neg (fun e => c e.symm)]
theorem and_one (x : Nat) (h : x < 1000000) : Go.bits .and .i64 (x : Int) 1 = ((x % 2 : Nat) : Int) := by
  have := bits_mask .i64 62 (by decide) (fun m h1 h2 => by rw [IntKind.wrap_i64]; omega) 1 (by decide) (x : Int) (by omega) (by omega)
  rw [show (1 : Int) = 2 ^ 1 - 1 from rfl, this]
  omega
theorem rev_loop (m : Nat) (hm : m ≤ 9) : ∀ d i k x r : Nat, i + d = m → d < k → x < 1000 → r < 2 ^ i → impl_reversed.l0 k (x : Int) (r : Int) (m : Int) (i : Int) = some ((r * 2 ^ d + rv d x : Nat) : Int) := by
  intro d
  induction d with
  | zero =>
    intro i k x r hi hk hx hr
    obtain ⟨k, rfl⟩ : ∃ m, k = m + 1 := ⟨k - 1, by omega⟩
    simp only [impl_reversed.l0]
    rw [if_neg (by omega), Nat.pow_zero, Nat.mul_one]
    rfl
  | succ d ih =>
    intro i k x r hi hk hx hr
    obtain ⟨k, rfl⟩ : ∃ m, k = m + 1 := ⟨k - 1, by omega⟩
    have hp : 2 ^ i ≤ 2 ^ 9 := Nat.pow_le_pow_right (by decide) (by omega)
    have h9 : 2 ^ 9 = 512 := by decide
    simp only [impl_reversed.l0]
    rw [if_pos (by omega), and_one x (by omega), show (x : Int) / 2 = ((x / 2 : Nat) : Int) from rfl, wrap_id (x := 2 * (r : Int)) (by omega) (by omega), wrap_id (x := 2 * (r : Int) + ((x % 2 : Nat) : Int)) (by omega) (by omega), wrap_next (show i < m by omega) (by omega),
      show 2 * (r : Int) + ((x % 2 : Nat) : Int) = ((2 * r + x % 2 : Nat) : Int) by omega, ih (i + 1) k (x / 2) (2 * r + x % 2) (by omega) (by omega) (by omega) (by rw [Nat.pow_succ]; omega)]
    congr 2
    rw [rv, Nat.add_mul, Nat.pow_succ, Nat.mul_comm 2 r, Nat.mul_assoc r, Nat.mul_comm (2 ^ d) 2]
    omega
theorem rev_f (m : Nat) (hm : m ≤ 9) (x k : Nat) (hx : x < 1000) (hk : m < k) : impl_reversed.f k (x : Int) (m : Int) = some ((rv m x : Nat) : Int) := by
  unfold impl_reversed.f
  have := rev_loop m hm m 0 k x 0 (by omega) hk hx (by decide)
  rw [Nat.zero_mul, Nat.zero_add] at this
  exact this
theorem perm_loop (p : Int) (v : List Int) (m : Nat) (hm : m ≤ 9) (hv : v.length = 2 ^ m) (hE : El p v) : ∀ (d i k : Nat) (o : List Int), i + d = 2 ^ m → d + 20 < k → o.length = 2 ^ m → El p o → (∀ j, j < i → L o (rv m j) = L v j) →
    ∃ r, impl_permuted.l0 k (m : Int) o v (v.length : Int) (i : Int) = some r ∧ r.length = 2 ^ m ∧ El p r ∧ ∀ j, j < 2 ^ m → L r (rv m j) = L v j := by
  have h512 : 2 ^ m ≤ 2 ^ 9 := Nat.pow_le_pow_right (by decide) hm
  have h9 : 2 ^ 9 = 512 := by decide
  intro d
  induction d with
  | zero =>
    intro i k o hi hk ho hEo hj
    obtain ⟨k, rfl⟩ : ∃ m, k = m + 1 := ⟨k - 1, by omega⟩
    refine ⟨o, ?_, ho, hEo, fun j h => hj j (by omega)⟩
    simp only [impl_permuted.l0]
    rw [if_neg (by omega)]
  | succ d ih =>
    intro i k o hi hk ho hEo hj
    obtain ⟨k, rfl⟩ : ∃ m, k = m + 1 := ⟨k - 1, by omega⟩
    have hr := rv_lt m i
    simp only [impl_permuted.l0]
    rw [if_pos (by omega), if_pos (by omega), if_pos (by omega), rev_f m hm i k (by omega) (by omega)]
    simp only [bs]
    rw [if_pos (by omega), if_pos (by omega), rd_L, Int.toNat_natCast, wrap_next (show i < 2 ^ m by omega) (by omega)]
    refine ih (i + 1) k _ (by omega) (by omega) (by simpa using ho) ?_ ?_
    · intro x hx
      rcases List.mem_or_eq_of_mem_set hx with h | h
      · exact hEo x h
      · rw [h, L_at v i (by omega)]
        exact hE.at i (by omega)
    · intro j hji
      rw [L_set _ _ _ _ (by omega)]
      by_cases c : j = i
      · rw [c, if_pos rfl]
      · rw [if_neg]
        · exact hj j (by omega)
        · intro e
          have := rv_inj m j i e
          rw [Nat.mod_eq_of_lt (by omega), Nat.mod_eq_of_lt (by omega)] at this
          exact c this
theorem perm_f (p : Int) (hp : 0 < p) (v : List Int) (m : Nat) (hm : m ≤ 9) (hv : v.length = 2 ^ m) (hlg : lg v.length = (m : Int)) (hE : El p v) (k : Nat) (hk : 600 ≤ k) :
    ∃ r, impl_permuted.f k v = some r ∧ r.length = 2 ^ m ∧ El p r ∧ ∀ j, j < 2 ^ m → L r (rv m j) = L v j := by
  have h512 : 2 ^ m ≤ 2 ^ 9 := Nat.pow_le_pow_right (by decide) hm
  have h9 : 2 ^ 9 = 512 := by decide
  obtain ⟨r, h1, h2⟩ := perm_loop p v m hm hv hE (2 ^ m) 0 k (List.replicate v.length 0) (by omega) (by omega) (by rw [List.length_replicate, hv]) (fun x hx => by rw [List.eq_of_mem_replicate hx]; omega) (fun j h => by omega)
  refine ⟨r, ?_, h2⟩
  unfold impl_permuted.f
  rw [ilog_f v.length (by omega) k (by omega), hlg]
  simp only [bs]
  rw [if_pos (by omega), if_pos (by omega), Int.toNat_natCast]
  exact h1
theorem ipower_loop (p g t : Int) (h2 : 2 ≤ p) (hp : p ≤ 1004535809) : ∀ (m n : Nat), n ≤ m → n ≤ 4611686018427387904 → ∀ (x out : Int), 0 ≤ x ∧ x < p → 0 ≤ out ∧ out < p → Ev (fun k => impl_field_power.l0 k x (n : Int) out p g t) (out * x ^ n % p) := by
  intro m
  induction m with
  | zero =>
    intro n hn _ x out hx ho
    obtain rfl : n = 0 := by omega
    refine Ev.step (f := fun _ => some (out * x ^ 0 % p)) (fun k => ?_) (Ev.now _)
    simp only [impl_field_power.l0]
    rw [if_neg (by omega), Int.pow_zero, Int.mul_one, Int.emod_eq_of_lt ho.1 ho.2]
  | succ m ih =>
    intro n hn hmax x out hx ho
    by_cases c : n = 0
    · exact ih n (by omega) hmax x out hx ho
    · have hxx := prod_range hp hx hx
      have hox := prod_range hp ho hx
      have r1 := emod_range (x * x) (show 0 < p by omega)
      have r2 := emod_range (out * x) (show 0 < p by omega)
      have hdiv : wrap64 (Int.tdiv (n : Int) 2) = ((n / 2 : Nat) : Int) := by
        rw [Int.tdiv_eq_ediv_of_nonneg (by omega), wrap_id (by omega) (by omega)]
        rfl
      have hpw := pow_half p x out n
      by_cases o : n % 2 = 1
      · rw [if_pos o] at hpw
        rw [← hpw]
        refine Ev.step (f := fun k => impl_field_power.l0 k (x * x % p) ((n / 2 : Nat) : Int) (out * x % p) p g t) (fun k => ?_) (ih (n / 2) (by omega) (by omega) _ _ r1 r2)
        simp only [impl_field_power.l0, impl_field_mul.f]
        rw [if_pos (by omega), if_pos (by rw [tmod_nonneg' _ (by omega)]; omega), if_neg (by omega)]
        simp only [bs]
        rw [if_neg (by omega)]
        simp only [bs]
        rw [hdiv, wrap_id (x := x * x) (by omega) (by omega), wrap_id (x := out * x) (by omega) (by omega), tmod_nonneg' _ hxx.1, tmod_nonneg' _ hox.1]
      · rw [if_neg o] at hpw
        rw [← hpw]
        refine Ev.step (f := fun k => impl_field_power.l0 k (x * x % p) ((n / 2 : Nat) : Int) out p g t) (fun k => ?_) (ih (n / 2) (by omega) (by omega) _ _ r1 ho)
        simp only [impl_field_power.l0, impl_field_mul.f]
        rw [if_pos (by omega), if_neg (by rw [tmod_nonneg' _ (by omega)]; omega), if_neg (by omega)]
        simp only [bs]
        rw [hdiv, wrap_id (x := x * x) (by omega) (by omega), tmod_nonneg' _ hxx.1]
theorem gn_range {f : Int} (hp : md f ≠ 0) : 2 ≤ gn f ∧ gn f < md f := by
  rcases nine_f hp with rfl | rfl | rfl | rfl | rfl | rfl | rfl | rfl | rfl <;> decide
theorem shr_p1 {f : Int} (hp : md f ≠ 0) (s : Nat) (hs : s ≤ 60) : shr .i64 (wrap64 (md f - 1)) (s : Int) = ((p1 f / 2 ^ s : Nat) : Int) := by
  have hq := md_pos hp
  rw [wrap_id (by omega) (by omega)]
  unfold shr
  rw [Int.toNat_natCast, Nat.min_eq_left (show s ≤ IntKind.i64.bits by show s ≤ 64; omega), show md f - 1 = ((p1 f : Nat) : Int) by unfold p1; omega]
  have e : ((2 ^ s : Nat) : Int) = (2 : Int) ^ s := by simp
  rw [← e]
  rfl
theorem root_ev {f : Int} (hp : md f ≠ 0) (s : Nat) (hs : s ≤ 60) : Ev (fun k => impl_field_root.f k (md f) (gn f) (tw f) (s : Int)) (rt f s) := by
  have hq := md_pos hp
  have hg := gn_range hp
  have hp1 : p1 f ≤ 1004535809 := by unfold p1; omega
  have hd : p1 f / 2 ^ s ≤ p1 f := Nat.div_le_self _ _
  have h := ipower_loop (md f) (gn f) (tw f) (by omega) hq.2 (p1 f / 2 ^ s) (p1 f / 2 ^ s) (Nat.le_refl _) (by omega) (gn f) 1 ⟨by omega, hg.2⟩ ⟨by omega, by omega⟩
  rw [Int.one_mul] at h
  obtain ⟨K, hK⟩ := h
  refine ⟨K, fun k hk => ?_⟩
  have hk' := hK k hk
  simp only at hk' ⊢
  unfold impl_field_root.f impl_field_power.f
  rw [if_pos (by omega), shr_p1 hp s hs, hk']
  simp only [bs]
  rfl
/-- A stage's value at a place. -/
def ts (p w : Int) (h : Nat) (u : Nat → Int) (x : Nat) : Int :=
  if x % (2 * h) < h then (u x + u (x + h) * (w ^ (x % (2 * h)) % p) % p) % p else (u (x - h) - u x * (w ^ (x % (2 * h) - h) % p) % p + p) % p
theorem ts_range (p w : Int) (hp : 0 < p) (h : Nat) (u : Nat → Int) (x : Nat) : 0 ≤ ts p w h u x ∧ ts p w h u x < p := by
  unfold ts
  split <;> exact emod_range _ hp
theorem place_mod (b h j : Nat) (hj : j < 2 * h) : (b * (2 * h) + j) % (2 * h) = j := by
  rw [Nat.mul_comm, Nat.mul_add_mod, Nat.mod_eq_of_lt hj]
theorem ts_low (p w : Int) (h b j : Nat) (u : Nat → Int) (hj : j < h) : ts p w h u (b * (2 * h) + j) = (u (b * (2 * h) + j) + u (b * (2 * h) + j + h) * (w ^ j % p) % p) % p := by
  unfold ts
  rw [place_mod b h j (by omega), if_pos hj]
theorem ts_high (p w : Int) (h b j : Nat) (u : Nat → Int) (hj : j < h) : ts p w h u (b * (2 * h) + j + h) = (u (b * (2 * h) + j) - u (b * (2 * h) + j + h) * (w ^ j % p) % p + p) % p := by
  unfold ts
  rw [show b * (2 * h) + j + h = b * (2 * h) + (j + h) by omega, place_mod b h (j + h) (by omega), if_neg (by omega), show j + h - h = j by omega, show b * (2 * h) + (j + h) - h = b * (2 * h) + j by omega]
theorem stage_step (p g t w r : Int) (hp : 17 ≤ p) (hp2 : p ≤ 1004535809) (hw : 0 ≤ w ∧ w < p) (hr : 0 ≤ r ∧ r < p) (l : List Int) (hE : El p l) (h q j : Nat) (hj : j < h) (hb : q + 2 * h ≤ l.length) (hl : l.length ≤ 512) (out : List Int) (ho : out.length = l.length) (k : Nat) :
    impl_field_stage.l1 (k + 1) l out (h : Int) w (q : Int) r (h : Int) (j : Int) p g t = impl_field_stage.l1 k l ((out.set (q + j) ((L l (q + j) + L l (q + j + h) * r % p) % p)).set (q + j + h) ((L l (q + j) - L l (q + j + h) * r % p + p) % p)) (h : Int) w (q : Int) (r * w % p) (h : Int) ((j + 1 : Nat) : Int) p g t := by
  have a1 : wrap64 ((q : Int) + (j : Int)) = ((q + j : Nat) : Int) := by
    rw [wrap_id (by omega) (by omega)]; rfl
  have a2 : wrap64 (((q + j : Nat) : Int) + (h : Int)) = ((q + j + h : Nat) : Int) := by
    rw [wrap_id (by omega) (by omega)]; rfl
  have x1 := L_el (by omega) hE (q + j)
  have x2 := L_el (by omega) hE (q + j + h)
  have m1 := prod_range hp2 x2 hr
  have m2 := prod_range hp2 hr hw
  have r2 := emod_range (L l (q + j + h) * r) (show 0 < p by omega)
  have b1 : ((q + j : Nat) : Int) < (l.length : Int) := by omega
  have b2 : ((q + j + h : Nat) : Int) < (l.length : Int) := by omega
  have b3 : ((q + j : Nat) : Int) < (out.length : Int) := by omega
  have b4 : ((q + j + h : Nat) : Int) < (out.length : Int) := by omega
  have z1 : (0 : Int) ≤ ((q + j : Nat) : Int) := Int.natCast_nonneg _
  have z2 : (0 : Int) ≤ ((q + j + h : Nat) : Int) := Int.natCast_nonneg _
  have p0 : ¬ p = 0 := by omega
  have jh : (j : Int) < (h : Int) := by omega
  have wn : wrap64 ((j : Int) + 1) = ((j + 1 : Nat) : Int) := wrap_next hj (by omega)
  have w1 : wrap64 (L l (q + j + h) * r) = L l (q + j + h) * r := wrap_id (by omega) (by omega)
  have w2 : wrap64 (r * w) = r * w := wrap_id (by omega) (by omega)
  simp only [impl_field_stage.l1, impl_field_mul.f, impl_field_add.f, impl_field_sub.f]
  rw [if_pos jh, a1, if_pos z1, if_pos b1, a2, if_pos z2, if_pos b2, if_neg p0]
  simp only [bs]
  rw [if_neg p0]
  simp only [bs]
  rw [if_pos b3, if_neg p0]
  simp only [bs]
  rw [if_pos b4, if_neg p0]
  simp only [bs]
  rw [rd_L, rd_L, w1, w2, tmod_nonneg' _ m1.1, tmod_nonneg' _ m2.1, wn, Int.toNat_natCast, Int.toNat_natCast]
  generalize L l (q + j + h) * r % p = y at r2 ⊢
  generalize L l (q + j) = x at x1 ⊢
  have e1 : wrap64 (x + y) = x + y := wrap_id (by omega) (by omega)
  have e2 : wrap64 (x - y) = x - y := wrap_id (by omega) (by omega)
  have e3 : wrap64 (x - y + p) = x - y + p := wrap_id (by omega) (by omega)
  rw [e1, e2, e3, tmod_nonneg' p (show 0 ≤ x + y by omega), tmod_nonneg' p (show 0 ≤ x - y + p by omega)]
theorem stage_in (p g t w : Int) (hp : 17 ≤ p) (hp2 : p ≤ 1004535809) (hw : 0 ≤ w ∧ w < p) (l : List Int) (hE : El p l) (F : Nat → Int) (h q : Nat) (hh : 1 ≤ h) (hb : q + 2 * h ≤ l.length) (hl : l.length ≤ 512)
    (F1 : ∀ j, j < h → F (q + j) = (L l (q + j) + L l (q + j + h) * (w ^ j % p) % p) % p) (F2 : ∀ j, j < h → F (q + j + h) = (L l (q + j) - L l (q + j + h) * (w ^ j % p) % p + p) % p) (K : Nat) (R : List Int)
    (cont : ∀ out : List Int, out.length = l.length → (∀ x, x < q + 2 * h → L out x = F x) → ∀ k, K ≤ k → impl_field_stage.l0 k l out (h : Int) w ((q + 2 * h : Nat) : Int) p g t = some R) :
    ∀ (d j k : Nat) (out : List Int), j + d = h → out.length = l.length → (∀ x, x < q + j → L out x = F x) → (∀ x, q + h ≤ x → x < q + h + j → L out x = F x) → K + d + 1 ≤ k →
      impl_field_stage.l1 k l out (h : Int) w (q : Int) (w ^ j % p) (h : Int) (j : Int) p g t = some R := by
  intro d
  induction d with
  | zero =>
    intro j k out hj ho h1 h2 hk
    obtain ⟨k, rfl⟩ : ∃ m, k = m + 1 := ⟨k - 1, by omega⟩
    have e1 : wrap64 (2 * (h : Int)) = 2 * (h : Int) := wrap_id (by omega) (by omega)
    have e2 : wrap64 ((q : Int) + 2 * (h : Int)) = ((q + 2 * h : Nat) : Int) := by
      rw [wrap_id (by omega) (by omega)]
      omega
    simp only [impl_field_stage.l1]
    rw [if_neg (show ¬ (j : Int) < (h : Int) by omega), e1, e2]
    refine cont out ho (fun x hx => ?_) k (by omega)
    have hjh : j = h := hj
    rw [hjh] at h1 h2
    have e3 : q + 2 * h = q + h + h := by omega
    rw [e3] at hx
    by_cases c : x < q + h
    · exact h1 x c
    · exact h2 x (Nat.le_of_not_lt c) hx
  | succ d ih =>
    intro j k out hj ho h1 h2 hk
    obtain ⟨k, rfl⟩ : ∃ m, k = m + 1 := ⟨k - 1, by omega⟩
    have hjh : j < h := by omega
    have t1 := F1 j hjh
    have t2 := F2 j hjh
    rw [stage_step p g t w (w ^ j % p) hp hp2 hw (emod_range _ (by omega)) l hE h q j hjh hb hl out ho k, show w ^ j % p * w % p = w ^ (j + 1) % p by rw [Int.pow_succ, Int.mul_emod, Int.emod_emod_of_dvd _ (Int.dvd_refl _), ← Int.mul_emod], ← t1, ← t2]
    clear t1 t2
    have sl : ∀ x, L ((out.set (q + j) (F (q + j))).set (q + j + h) (F (q + j + h))) x = if x = q + j + h then F (q + j + h) else if x = q + j then F (q + j) else L out x := by
      intro x
      rw [L_set _ _ _ _ (by rw [List.length_set]; omega), L_set _ _ _ _ (by omega)]
    refine ih (j + 1) k _ (by omega) (by rw [List.length_set, List.length_set]; exact ho) ?_ ?_ (by omega)
    · intro x hx
      rw [sl]
      by_cases c1 : x = q + j + h
      · omega
      · rw [if_neg c1]
        by_cases c2 : x = q + j
        · rw [if_pos c2, c2]
        · rw [if_neg c2, h1 x (by omega)]
    · intro x hx1 hx2
      rw [sl]
      by_cases c1 : x = q + j + h
      · rw [if_pos c1, c1]
      · rw [if_neg c1, if_neg (by omega), h2 x hx1 (by omega)]
theorem stage_out (p g t w : Int) (hp : 17 ≤ p) (hp2 : p ≤ 1004535809) (hw : 0 ≤ w ∧ w < p) (l : List Int) (hE : El p l) (h B : Nat) (hh : 1 ≤ h) (hB : B * (2 * h) = l.length) (hl : l.length ≤ 512) :
    ∀ (d b k : Nat) (out : List Int), b + d = B → out.length = l.length → (∀ x, x < b * (2 * h) → L out x = ts p w h (L l) x) → d * (h + 2) + 1 ≤ k →
      impl_field_stage.l0 k l out (h : Int) w ((b * (2 * h) : Nat) : Int) p g t = some (fl l.length (ts p w h (L l))) := by
  intro d
  induction d with
  | zero =>
    intro b k out hb ho h1 hk
    obtain ⟨k, rfl⟩ : ∃ m, k = m + 1 := ⟨k - 1, by omega⟩
    obtain rfl : b = B := by omega
    simp only [impl_field_stage.l0]
    rw [if_neg (by omega)]
    congr 1
    refine list_ext (by rw [fl_length, ho]) (fun i hi => ?_)
    rw [L_fl _ _ _ (by omega)]
    exact h1 i (by omega)
  | succ d ih =>
    intro b k out hb ho h1 hk
    obtain ⟨k, rfl⟩ : ∃ m, k = m + 1 := ⟨k - 1, by omega⟩
    have e : (d + 1) * (h + 2) = d * (h + 2) + (h + 2) := Nat.succ_mul _ _
    have hbl : (b + 1) * (2 * h) ≤ l.length := by
      rw [← hB]
      exact Nat.mul_le_mul_right _ (by omega)
    have hbb : (b + 1) * (2 * h) = b * (2 * h) + 2 * h := Nat.succ_mul _ _
    simp only [impl_field_stage.l0]
    rw [if_pos (by omega)]
    have := stage_in p g t w hp hp2 hw l hE (ts p w h (L l)) h (b * (2 * h)) hh (by omega) hl (fun j hj => ts_low p w h b j (L l) hj) (fun j hj => ts_high p w h b j (L l) hj) (d * (h + 2) + 1) _ (fun o' h1' h2' k' hk' => by
      rw [← hbb] at h2' ⊢
      exact ih (b + 1) k' o' (by omega) h1' h2' hk') h 0 k out (by omega) ho (fun x hx => h1 x (by omega)) (fun x hx1 hx2 => by omega) (by omega)
    rw [Int.pow_zero, Int.emod_eq_of_lt (by omega) (by omega)] at this
    exact this
theorem stage_ev {f : Int} (hp : md f ≠ 0) (l : List Int) (hE : El (md f) l) (m s : Nat) (hm : m ≤ 9) (hs : s < m) (hl : l.length = 2 ^ m) : Ev (fun k => impl_field_stage.f k (md f) (gn f) (tw f) l (s : Int)) (fl (2 ^ m) (ts (md f) (rt f (s + 1)) (2 ^ s) (L l))) := by
  have hq := md_pos hp
  have h512 : 2 ^ m ≤ 2 ^ 9 := Nat.pow_le_pow_right (by decide) hm
  have h9 : 2 ^ 9 = 512 := by decide
  have hs1 : 1 ≤ 2 ^ s := Nat.one_le_two_pow
  have hs2 : 2 ^ s ≤ 2 ^ 9 := Nat.pow_le_pow_right (by decide) (by omega)
  have hB : 2 ^ (m - (s + 1)) * (2 * 2 ^ s) = l.length := by
    rw [hl, ← Nat.pow_succ', ← Nat.pow_add]
    congr 1
    omega
  have hBle : 2 ^ (m - (s + 1)) ≤ 2 ^ 9 := Nat.pow_le_pow_right (by decide) (by omega)
  have hrt : 0 ≤ rt f (s + 1) ∧ rt f (s + 1) < md f := emod_range _ (by omega)
  obtain ⟨K, hK⟩ := root_ev hp (s + 1) (by omega)
  have so := stage_out (md f) (gn f) (tw f) (rt f (s + 1)) hq.1 hq.2 hrt l hE (2 ^ s) (2 ^ (m - (s + 1))) hs1 hB (by omega) (2 ^ (m - (s + 1))) 0
  have hmul : 2 ^ (m - (s + 1)) * (2 ^ s + 2) ≤ 512 * 514 := Nat.mul_le_mul (by omega) (by omega)
  refine ⟨K + 512 * 514 + 10, fun k hk => ?_⟩
  have hk' := hK k (by omega)
  simp only at hk' ⊢
  unfold impl_field_stage.f
  rw [if_pos (by omega), if_pos (by omega), if_pos (by omega), wrap_next (show s < m by omega) (by omega), hk']
  simp only [bs]
  rw [shl_one s (by omega), Int.toNat_natCast]
  have := so k (List.replicate l.length 0) (by omega) (by rw [List.length_replicate]) (fun x hx => by omega) (by omega)
  rw [Nat.zero_mul] at this
  rw [← hl]
  exact this
/-- The stages, one behind the other. -/
def FS (f : Int) (m : Nat) (o : List Int) : Nat → List Int
  | 0 => o
  | s + 1 => fl (2 ^ m) (ts (md f) (rt f (s + 1)) (2 ^ s) (L (FS f m o s)))
theorem FS_ok {f : Int} (hp : md f ≠ 0) (m : Nat) (o : List Int) (ho : o.length = 2 ^ m) (hE : El (md f) o) (s : Nat) : (FS f m o s).length = 2 ^ m ∧ El (md f) (FS f m o s) := by
  have hq := md_pos hp
  cases s with
  | zero => exact ⟨ho, hE⟩
  | succ s => exact ⟨fl_length _ _, fl_el (fun i _ => ts_range _ _ (by omega) _ _ _)⟩
theorem stages_ev {f : Int} (hp : md f ≠ 0) (m : Nat) (hm : m ≤ 9) (o : List Int) (ho : o.length = 2 ^ m) (hE : El (md f) o) : ∀ d s : Nat, s + d = m → Ev (fun k => impl_field_forward.l0 k (FS f m o s) (m : Int) (s : Int) (md f) (gn f) (tw f)) (FS f m o m) := by
  intro d
  induction d with
  | zero =>
    intro s hs
    obtain rfl : s = m := by omega
    refine Ev.step (f := fun _ => some (FS f s o s)) (fun k => ?_) (Ev.now _)
    simp only [impl_field_forward.l0]
    rw [if_neg (by omega)]
  | succ d ih =>
    intro s hs
    have ok := FS_ok hp m o ho hE s
    refine Ev.step (f := fun k => (impl_field_stage.f k (md f) (gn f) (tw f) (FS f m o s) (s : Int)).bind fun t => impl_field_forward.l0 k t (m : Int) ((s + 1 : Nat) : Int) (md f) (gn f) (tw f)) (fun k => ?_) (Ev.bind (stage_ev hp _ ok.2 m s hm (by omega) ok.1) (ih (s + 1) (by omega)))
    simp only [impl_field_forward.l0]
    rw [if_pos (by omega), wrap_next (show s < m by omega) (by omega)]
/-- The reference's root. -/
def ws (f : Int) (m : Nat) : Int := powS f (gn f) ((p1 f / 2 ^ m : Nat) : Int)
/-- The transform. -/
def fwd (f : Int) (v : List Int) : List Int := fl v.length (fun i => sumN v.length (fun j => L v j * (ws f (lg v.length).toNat ^ (i * j % v.length) % md f)) % md f)
theorem ws_eq {f : Int} (hp : md f ≠ 0) (m : Nat) (hm : (m : Int) ≤ tw f) (h0 : 0 < m) : ws f m = rt f m := by
  have hq := md_pos hp
  have hg := gn_range hp
  have hP : (p1 f : Int) = md f - 1 := by unfold p1; omega
  have hd : p1 f / 2 ^ m < p1 f := Nat.div_lt_self (by omega) (Nat.one_lt_two_pow (by omega))
  have e1 : ((p1 f / 2 ^ m : Nat) : Int) % (md f - 1) = ((p1 f / 2 ^ m : Nat) : Int) := by
    rw [← hP]
    exact Int.emod_eq_of_lt (Int.natCast_nonneg _) (by exact_mod_cast hd)
  unfold ws powS rt
  rw [Int.emod_eq_of_lt (show 0 ≤ gn f by omega) hg.2, if_neg (by omega), e1, Int.toNat_natCast]
theorem FS_fwd {f : Int} (hp : md f ≠ 0) (v : List Int) (m : Nat) (hm : m ≤ 9) (hmt : (m : Int) ≤ tw f) (hlg : lg v.length = (m : Int)) (hv : v.length = 2 ^ m) (o : List Int) (ho : o.length = 2 ^ m) (hE : El (md f) o) (hr : ∀ j, j < 2 ^ m → L o (rv m j) = L v j) : FS f m o m = fwd f v := by
  have hq := md_pos hp
  have ok := FS_ok hp m o ho hE m
  have RT := rounds_T (md f) m (rt f m) (fun s x => L (FS f m o s) x) (fun s => rt f (s + 1)) (fun s hs => by rw [rt_pow hp m (s + 1) hmt (by omega), show m - s - 1 = m - (s + 1) by omega]) (fun h0 => rt_half hp m hmt h0)
    (by
      intro s b i hs hi hb
      have e2 : 2 ^ (s + 1) = 2 * 2 ^ s := by rw [Nat.pow_succ, Nat.mul_comm]
      have hlt : b * (2 * 2 ^ s) + i < 2 ^ m := by
        have : (b + 1) * (2 * 2 ^ s) = b * (2 * 2 ^ s) + 2 * 2 ^ s := Nat.succ_mul _ _
        rw [e2] at hb
        omega
      simp only [FS]
      rw [e2, L_fl _ _ _ hlt, ts_low _ _ _ _ _ _ hi, Int.emod_emod_of_dvd _ (Int.dvd_refl _), show b * (2 * 2 ^ s) + 2 ^ s + i = b * (2 * 2 ^ s) + i + 2 ^ s by omega, Int.mul_comm (rt f (s + 1) ^ i), Int.add_emod, Int.emod_emod_of_dvd _ (Int.dvd_refl _), Int.mul_emod (L (FS f m o s) (b * (2 * 2 ^ s) + i + 2 ^ s)), Int.emod_emod_of_dvd _ (Int.dvd_refl _), ← Int.mul_emod, ← Int.add_emod])
    (by
      intro s b i hs hi hb
      have e2 : 2 ^ (s + 1) = 2 * 2 ^ s := by rw [Nat.pow_succ, Nat.mul_comm]
      have hlt : b * (2 * 2 ^ s) + i + 2 ^ s < 2 ^ m := by
        have : (b + 1) * (2 * 2 ^ s) = b * (2 * 2 ^ s) + 2 * 2 ^ s := Nat.succ_mul _ _
        rw [e2] at hb
        omega
      simp only [FS]
      rw [e2, show b * (2 * 2 ^ s) + 2 ^ s + i = b * (2 * 2 ^ s) + i + 2 ^ s by omega, L_fl _ _ _ hlt, ts_high _ _ _ _ _ _ hi, Int.emod_emod_of_dvd _ (Int.dvd_refl _), Int.add_emod_right, Int.mul_comm (rt f (s + 1) ^ i), Int.sub_emod, Int.emod_emod_of_dvd _ (Int.dvd_refl _), Int.mul_emod (L (FS f m o s) (b * (2 * 2 ^ s) + i + 2 ^ s)), Int.emod_emod_of_dvd _ (Int.dvd_refl _), ← Int.mul_emod, ← Int.sub_emod])
  unfold fwd
  refine list_ext (by rw [fl_length, ok.1, hv]) (fun i hi => ?_)
  rw [ok.1] at hi
  rw [L_fl _ _ _ (by omega), hlg, Int.toNat_natCast]
  have h1 := RT m 0 i (Nat.le_refl _) hi (by omega)
  have h2 := L_el (by omega) ok.2 i
  rw [Nat.sub_self, Nat.pow_zero, Nat.zero_mul, Nat.zero_add] at h1
  rw [← Int.emod_eq_of_lt h2.1 h2.2, h1, hv]
  unfold T
  refine sumN_emod (md f) (fun j hj => ?_)
  simp only [FS]
  rw [Nat.zero_add, hr j hj, Nat.one_mul, Int.mul_comm, Int.mul_emod, Int.mul_emod (L v j) (ws f m ^ (i * j % 2 ^ m) % md f), Int.emod_emod_of_dvd _ (Int.dvd_refl _)]
  congr 2
  by_cases c : 0 < m
  · rw [ws_eq hp m hmt c]
    have hd : i * j = 2 ^ m * (i * j / 2 ^ m) + i * j % 2 ^ m := (Nat.div_add_mod _ _).symm
    have e1 : rt f m ^ (i * j) = rt f m ^ (2 ^ m * (i * j / 2 ^ m)) * rt f m ^ (i * j % 2 ^ m) := by rw [← Int.pow_add, ← hd]
    rw [e1, Int.mul_emod, Int.pow_mul, ← pow_emod, rt_one hp m hmt c, pow_emod, Int.one_pow, ← Int.mul_emod, Int.one_mul]
  · have hm0 : m = 0 := by omega
    subst hm0
    have : i = 0 := by rw [Nat.pow_zero] at hi; omega
    subst this
    rw [Nat.zero_mul, Nat.zero_mod, Int.pow_zero, Int.pow_zero]
theorem iforward_ev {f : Int} {v : List Int} (h : VecP f v) : Ev (fun k => impl_field_forward.f k (md f) (gn f) (tw f) v) (fwd f v) := by
  obtain ⟨hp, ⟨h0, h1⟩, hE⟩ := h
  have hq := md_pos hp
  obtain ⟨m, hlg, hv, hm⟩ := lg_spec h0
  have h512 : 2 ^ m ≤ 2 ^ 9 := Nat.pow_le_pow_right (by decide) hm
  have h9 : 2 ^ 9 = 512 := by decide
  obtain ⟨o, _, ho, hEo, hr⟩ := perm_f (md f) (by omega) v m hm hv hlg hE 600 (by omega)
  have e : ∀ k, 600 ≤ k → impl_permuted.f k v = some o := by
    intro k hk
    obtain ⟨o', h1', ho', hEo', hr'⟩ := perm_f (md f) (by omega) v m hm hv hlg hE k hk
    rw [h1']
    congr 1
    have hx := FS_fwd hp v m hm (by omega) hlg hv
    refine list_ext (by rw [ho, ho']) (fun x hx => ?_)
    have hx' : x < 2 ^ m := by omega
    have hrr : ∀ s y, y < 2 ^ s → ∃ z, z < 2 ^ s ∧ rv s z = y := by
      intro s
      induction s with
      | zero => intro y hy; rw [Nat.pow_zero] at hy; exact ⟨0, by decide, by rw [rv]; omega⟩
      | succ s ih =>
        intro y hy
        rw [Nat.pow_succ] at hy
        by_cases c : y < 2 ^ s
        · obtain ⟨z, hz, e⟩ := ih y c
          exact ⟨2 * z, by rw [Nat.pow_succ]; omega, by rw [rv_even, e]⟩
        · obtain ⟨z, hz, e⟩ := ih (y - 2 ^ s) (by omega)
          exact ⟨2 * z + 1, by rw [Nat.pow_succ]; omega, by rw [rv_odd, e]; omega⟩
    obtain ⟨z, hz, ez⟩ := hrr m x hx'
    rw [← ez, hr z hz, hr' z hz]
  obtain ⟨K, hK⟩ := stages_ev hp m hm o ho hEo m 0 (by omega)
  rw [FS_fwd hp v m hm (by omega) hlg hv o ho hEo hr] at hK
  refine ⟨K + 600, fun k hk => ?_⟩
  have hk' := hK k (by omega)
  simp only [FS] at hk' ⊢
  unfold impl_field_forward.f
  rw [e k (by omega), ilog_f v.length (by omega) k (by omega), hlg]
  simp only [bs]
  exact hk'
theorem sgen_f {f : Int} (hp : md f ≠ 0) (k : Nat) (hk : 2 ≤ k) : spec_Generator.f k f = some (gn f) := by
  obtain ⟨k, rfl⟩ : ∃ m, k = m + 2 := ⟨k - 2, by omega⟩
  rcases nine_f hp with rfl | rfl | rfl | rfl | rfl | rfl | rfl | rfl | rfl <;> rfl
theorem sroot_ev {f : Int} (hp : md f ≠ 0) (m : Nat) (hm : (m : Int) ≤ tw f) : Ev (fun k => spec_RootOf.f k f (m : Int)) (ws f m) := by
  have hq := md_pos hp
  have ht := tw_range hp
  have hP : (p1 f : Int) = md f - 1 := by unfold p1; omega
  have hd : p1 f / 2 ^ m ≤ p1 f := Nat.div_le_self _ _
  have hz := Int.natCast_nonneg (p1 f / 2 ^ m)
  obtain ⟨K, hK⟩ := power_ev f (gn f) ((p1 f / 2 ^ m : Nat) : Int) hp (by omega) (by omega)
  refine ⟨K + 100, fun k hk => ?_⟩
  obtain ⟨k, rfl⟩ : ∃ m, k = m + 1 := ⟨k - 1, by omega⟩
  have hk' := hK k (by omega)
  have e : IntKind.u64.wrap (m : Int) = (m : Int) := by
    show (m : Int) % 18446744073709551616 = _
    omega
  simp only at hk' ⊢
  unfold spec_RootOf.f
  simp only [modulus_f, bs]
  rw [if_neg hp, stwo_f f (k + 1) (by omega), if_neg hp]
  simp only [bs]
  rw [in_is, decide_eq_true (show 0 ≤ (m : Int) ∧ (m : Int) ≤ tw f from ⟨by omega, hm⟩)]
  simp only [bs]
  simp only [spec_RootOf.j0]
  rw [if_neg (by decide), sgen_f hp k (by omega)]
  simp only [modulus_f, bs]
  rw [e, if_pos (by omega), shr_p1 hp m (by omega), hk']
  simp only [bs]
  rfl
theorem ssum_in (p w : Int) (hp : 17 ≤ p) (hp2 : p ≤ 1004535809) (v : List Int) (hE : El p v) (hl : v.length ≤ 512) (h1 : 1 ≤ v.length) (i : Nat) (hi : i < v.length) (out : List Int) (ho : out.length ≤ 512) (K : Nat) (R : List Int)
    (cont : ∀ k, K ≤ k → spec_l04Sum.l1 k v p (v.length : Int) (fl v.length (fun x => w ^ x % p)) (out ++ [sumN v.length (fun j => L v j * (w ^ (i * j % v.length) % p)) % p]) ((i + 1 : Nat) : Int) = some R) :
    ∀ d j k : Nat, j + d = v.length → K + d + 1 ≤ k → spec_l04Sum.l2 k v p (v.length : Int) (fl v.length (fun x => w ^ x % p)) out (i : Int) (sumN j (fun j => L v j * (w ^ (i * j % v.length) % p)) % p) (j : Int) = some R := by
  intro d
  induction d with
  | zero =>
    intro j k hj hk
    obtain ⟨k, rfl⟩ : ∃ m, k = m + 1 := ⟨k - 1, by omega⟩
    obtain rfl : j = v.length := by omega
    simp only [spec_l04Sum.l2]
    rw [if_neg (by omega), if_pos (by omega), wrap_next hi (by omega)]
    exact cont k (by omega)
  | succ d ih =>
    intro j k hj hk
    obtain ⟨k, rfl⟩ : ∃ m, k = m + 1 := ⟨k - 1, by omega⟩
    have hij : i * j ≤ 512 * 512 := Nat.mul_le_mul (by omega) (by omega)
    have hm : Int.tmod (wrap64 ((i : Int) * (j : Int))) (v.length : Int) = ((i * j % v.length : Nat) : Int) := by
      rw [show (i : Int) * (j : Int) = ((i * j : Nat) : Int) from rfl, wrap_id (by omega) (by omega), Int.tmod_eq_emod_of_nonneg (by omega)]
      rfl
    have hlt : i * j % v.length < v.length := Nat.mod_lt _ (by omega)
    have x1 := L_el (by omega) hE j
    have x2 := emod_range (w ^ (i * j % v.length)) (show 0 < p by omega)
    have m1 := prod_range hp2 x1 x2
    have a1 := emod_range (sumN j (fun j => L v j * (w ^ (i * j % v.length) % p))) (show 0 < p by omega)
    simp only [spec_l04Sum.l2]
    rw [if_pos (by omega), if_pos (by omega), if_pos (by omega), if_neg (by omega), hm, if_pos (by omega), if_pos (by rw [fl_length]; omega), if_neg (by omega), rd_L, rd_L, L_fl _ _ _ hlt, wrap_id (x := L v j * (w ^ (i * j % v.length) % p)) (by omega) (by omega), wrap_id (by omega) (by omega), Int.tmod_eq_emod_of_nonneg (by omega), wrap_next (show j < v.length by omega) (by omega)]
    have e : (sumN j (fun j => L v j * (w ^ (i * j % v.length) % p)) % p + L v j * (w ^ (i * j % v.length) % p)) % p = sumN (j + 1) (fun j => L v j * (w ^ (i * j % v.length) % p)) % p := by
      rw [Int.emod_add_emod]
      rfl
    rw [e]
    exact ih (j + 1) k (by omega) (by omega)
theorem ssum_out (p w : Int) (hp : 17 ≤ p) (hp2 : p ≤ 1004535809) (v : List Int) (hE : El p v) (hl : v.length ≤ 512) (h1 : 1 ≤ v.length) : ∀ d i k : Nat, i + d = v.length → d * (v.length + 3) + 1 ≤ k →
    spec_l04Sum.l1 k v p (v.length : Int) (fl v.length (fun x => w ^ x % p)) (fl i (fun i => sumN v.length (fun j => L v j * (w ^ (i * j % v.length) % p)) % p)) (i : Int) = some (fl v.length (fun i => sumN v.length (fun j => L v j * (w ^ (i * j % v.length) % p)) % p)) := by
  intro d
  induction d with
  | zero =>
    intro i k hi hk
    obtain ⟨k, rfl⟩ : ∃ m, k = m + 1 := ⟨k - 1, by omega⟩
    obtain rfl : i = v.length := by omega
    simp only [spec_l04Sum.l1]
    rw [if_neg (by omega)]
  | succ d ih =>
    intro i k hi hk
    obtain ⟨k, rfl⟩ : ∃ m, k = m + 1 := ⟨k - 1, by omega⟩
    have e : (d + 1) * (v.length + 3) = d * (v.length + 3) + (v.length + 3) := Nat.succ_mul _ _
    simp only [spec_l04Sum.l1]
    rw [if_pos (by omega)]
    have := ssum_in p w hp hp2 v hE hl h1 i (by omega) (fl i (fun i => sumN v.length (fun j => L v j * (w ^ (i * j % v.length) % p)) % p)) (by rw [fl_length]; omega) (d * (v.length + 3) + 1) _ (fun k' hk' => by
      rw [fl_snoc i (fun i => sumN v.length (fun j => L v j * (w ^ (i * j % v.length) % p)) % p)]
      exact ih (i + 1) k' (by omega) hk') v.length 0 k (by omega) (by omega)
    rw [show sumN 0 (fun j => L v j * (w ^ (i * j % v.length) % p)) = 0 from rfl, Int.zero_emod] at this
    exact this
theorem ssum_pow (p w : Int) (hp : 17 ≤ p) (hp2 : p ≤ 1004535809) (hw : 0 ≤ w ∧ w < p) (v : List Int) (hl : v.length ≤ 512) (K : Nat) (R : List Int) (cont : ∀ k, K ≤ k → spec_l04Sum.l1 k v p (v.length : Int) (fl v.length (fun x => w ^ x % p)) [] 0 = some R) :
    ∀ d i k : Nat, i + d = v.length → K + d + 1 ≤ k → spec_l04Sum.l0 k v w p (v.length : Int) (fl i (fun x => w ^ x % p)) (w ^ i % p) (i : Int) = some R := by
  intro d
  induction d with
  | zero =>
    intro i k hi hk
    obtain ⟨k, rfl⟩ : ∃ m, k = m + 1 := ⟨k - 1, by omega⟩
    obtain rfl : i = v.length := by omega
    simp only [spec_l04Sum.l0]
    rw [if_neg (by omega)]
    exact cont k (by omega)
  | succ d ih =>
    intro i k hi hk
    obtain ⟨k, rfl⟩ : ∃ m, k = m + 1 := ⟨k - 1, by omega⟩
    have x2 := emod_range (w ^ i) (show 0 < p by omega)
    have m1 := prod_range hp2 x2 hw
    simp only [spec_l04Sum.l0]
    rw [if_pos (by omega), fl_length, if_pos (by omega), if_neg (by omega), fl_snoc i (fun x => w ^ x % p), wrap_id (x := w ^ i % p * w) (by omega) (by omega), tmod_nonneg' _ m1.1, wrap_next (show i < v.length by omega) (by omega), show w ^ i % p * w % p = w ^ (i + 1) % p by rw [Int.pow_succ, Int.mul_emod, Int.emod_emod_of_dvd _ (Int.dvd_refl _), ← Int.mul_emod]]
    exact ih (i + 1) k (by omega) (by omega)
theorem ws_range {f : Int} (hp : md f ≠ 0) (m : Nat) : 0 ≤ ws f m ∧ ws f m < md f := by
  have hq := md_pos hp
  have hg := gn_range hp
  unfold ws powS
  rw [Int.emod_eq_of_lt (show 0 ≤ gn f by omega) hg.2, if_neg (by omega)]
  exact emod_range _ (by omega)
theorem sforward_ev {f : Int} {v : List Int} (h : VecP f v) : Ev (fun k => spec_Forward.f k f v) (fwd f v) := by
  have hV := h
  obtain ⟨hp, ⟨h0, h1⟩, hE⟩ := h
  have hq := md_pos hp
  obtain ⟨m, hlg, hv, hm⟩ := lg_spec h0
  have h512 : 2 ^ m ≤ 2 ^ 9 := Nat.pow_le_pow_right (by decide) hm
  have h9 : 2 ^ 9 = 512 := by decide
  have hone : 1 ≤ 2 ^ m := Nat.one_le_two_pow
  obtain ⟨K, hK⟩ := sroot_ev hp m (by omega)
  have hmul : v.length * (v.length + 3) ≤ 512 * 515 := Nat.mul_le_mul (by omega) (by omega)
  refine ⟨K + 512 * 515 + 2000, fun k hk => ?_⟩
  have hk' := hK k (by omega)
  simp only at hk' ⊢
  unfold spec_Forward.f
  rw [svec_f f v (by omega) k (by omega), decide_eq_true hV]
  simp only [bs, if_true]
  rw [slog_f v.length (by omega) k (by omega), hlg]
  simp only [bs]
  rw [hk']
  simp only [bs]
  unfold spec_l04Sum.f
  simp only [modulus_f, bs]
  have so := ssum_out (md f) (ws f m) hq.1 hq.2 v hE (by omega) (by omega)
  have sp := ssum_pow (md f) (ws f m) hq.1 hq.2 (ws_range hp m) v (by omega) (512 * 515 + 1) _ (fun k' hk' => so v.length 0 k' (by omega) (by omega)) v.length 0 k (by omega) (by omega)
  rw [Int.pow_zero, Int.emod_eq_of_lt (by omega) (by omega)] at sp
  rw [show ((0 : Nat) : Int) = 0 from rfl, show fl 0 (fun x => ws f m ^ x % md f) = [] from rfl] at sp
  rw [sp]
  simp only [bs]
  unfold fwd
  rw [hlg, Int.toNat_natCast]
theorem fwd_length (f : Int) (v : List Int) : (fwd f v).length = v.length := fl_length _ _
/-- A place at which a list is right. -/
def At (v out own : List Int) (x : Int) : Prop := 0 ≤ x ∧ x < (v.length : Int) ∧ L out x.toNat = L own x.toNat
instance (v out own : List Int) (x : Int) : Decidable (At v out own x) := by unfold At; exact inferInstance
def AllAt (v out own l : List Int) : Prop := ∀ x ∈ l, At v out own x
instance (v out own l : List Int) : Decidable (AllAt v out own l) := inferInstanceAs (Decidable (∀ x ∈ l, At v out own x))
theorem ispot_loop (v out own pl : List Int) (hp : pl.length ≤ 2000000) (h1 : out.length = v.length) (h2 : own.length = v.length) (k : Nat) (hk : pl.length < k) : impl_SpotForward.l0 k v out own pl (pl.length : Int) 0 = some (decide (AllAt v out own pl)) := by
  exact loop_list (fun k (_ : Unit) i => impl_SpotForward.l0 k v out own pl (pl.length : Int) i) pl 0 (fun _ _ => True) (fun r _ => decide (AllAt v out own r)) (by
    intro k s _ _
    simp only [impl_SpotForward.l0]
    rw [if_neg (by omega), decide_eq_true (show AllAt v out own [] from fun x hx => by cases hx)]) (by
    intro k i s h _ _
    have no : ¬ At v out own pl[i] → some false = some (decide (AllAt v out own (pl[i] :: pl.drop (i + 1)))) := fun hn => by rw [decide_eq_false (fun g => hn (g _ List.mem_cons_self))]
    simp only [impl_SpotForward.l0]
    rw [if_pos (by omega), if_pos (by omega), if_pos (by omega), rd_at pl i h]
    by_cases c1 : pl[i] < 0
    · right
      rw [if_pos c1]
      exact no (fun g => by have := g.1; omega)
    · rw [if_neg c1]
      by_cases c2 : pl[i] ≥ (v.length : Int)
      · right
        rw [if_pos c2]
        exact no (fun g => by have := g.2.1; omega)
      · rw [if_neg c2, if_pos (by omega), if_pos (by omega), if_pos (by omega)]
        have e1 : rd out pl[i] = L out pl[i].toNat := by
          rw [← rd_L, Int.toNat_of_nonneg (by omega)]
        have e2 : rd own pl[i] = L own pl[i].toNat := by
          rw [← rd_L, Int.toNat_of_nonneg (by omega)]
        rw [e1, e2]
        by_cases c3 : L out pl[i].toNat = L own pl[i].toNat
        · left
          refine ⟨(), ?_, trivial, ?_⟩
          · rw [if_pos c3, wrap_next h (by omega)]
          · rw [decide_eq_decide]
            exact ⟨fun g x hx => g x (List.mem_cons_of_mem _ hx), fun g x hx => by
              rcases List.mem_cons.1 hx with rfl | hx
              · exact ⟨by omega, by omega, c3⟩
              · exact g x hx⟩
        · right
          rw [if_neg c3]
          exact no (fun g => c3 g.2.2)) k () (by omega) trivial
/-- What both answer. -/
def SpP (f : Int) (v out pl : List Int) : Prop := VecP f v ∧ VecP f out ∧ v.length = out.length ∧ pl.length ≤ 4096 ∧ AllAt v out (fwd f v) pl
instance (f : Int) (v out pl : List Int) : Decidable (SpP f v out pl) := by unfold SpP; exact inferInstance
theorem vec_len {f : Int} {v : List Int} (h : VecP f v) : 1 ≤ v.length ∧ v.length ≤ 512 := by
  obtain ⟨m, _, hv, hm⟩ := lg_spec h.2.1.1
  have h512 : 2 ^ m ≤ 2 ^ 9 := Nat.pow_le_pow_right (by decide) hm
  have h9 : 2 ^ 9 = 512 := by decide
  have hone : 1 ≤ 2 ^ m := Nat.one_le_two_pow
  omega
theorem ispot_ev (f : Int) (v out pl : List Int) (hv : v.length ≤ 1048576) (ho : out.length ≤ 1048576) (hp : pl.length ≤ 1048576) : Ev (fun k => impl_SpotForward.f k f v out pl) (decide (SpP f v out pl)) := by
  have no : ∀ k p g t, impl_SpotForward.j0 (k + 1) v out pl true p g t = some false := by
    intro k p g t
    simp only [impl_SpotForward.j0, if_true]
  by_cases c : VecP f v ∧ VecP f out ∧ v.length = out.length
  · by_cases d : (pl.length : Int) > 4096
    · refine ⟨2097252, fun k hk => ?_⟩
      obtain ⟨k, rfl⟩ : ∃ m, k = m + 1 := ⟨k - 1, by omega⟩
      simp only [impl_SpotForward.f]
      rw [ivf_two f v out (by omega) (by omega) (k + 1) (by omega), if_pos c]
      simp only [bs, if_true]
      rw [decide_eq_true d, no, decide_eq_false (fun g => by have := g.2.2.2.1; omega)]
    · obtain ⟨K, hK⟩ := iforward_ev c.1
      refine ⟨K + 2097252, fun k hk => ?_⟩
      obtain ⟨k, rfl⟩ : ∃ m, k = m + 1 := ⟨k - 1, by omega⟩
      have hk' := hK k (by omega)
      simp only at hk'
      simp only [impl_SpotForward.f]
      rw [ivf_two f v out (by omega) (by omega) (k + 1) (by omega), if_pos c]
      simp only [bs, if_true]
      rw [decide_eq_false d]
      simp only [impl_SpotForward.j0]
      rw [if_neg (by decide), hk']
      simp only [bs]
      rw [ispot_loop v out (fwd f v) pl (by omega) c.2.2.symm (fwd_length f v) k (by omega)]
      congr 1
      rw [decide_eq_decide]
      exact ⟨fun g => ⟨c.1, c.2.1, c.2.2, by omega, g⟩, fun g => g.2.2.2.2⟩
  · refine ⟨2097252, fun k hk => ?_⟩
    obtain ⟨k, rfl⟩ : ∃ m, k = m + 1 := ⟨k - 1, by omega⟩
    simp only [impl_SpotForward.f]
    rw [ivf_two f v out (by omega) (by omega) (k + 1) (by omega), if_neg c]
    simp only [bs]
    rw [if_neg (by decide), no, decide_eq_false (fun g => c ⟨g.1, g.2.1, g.2.2.1⟩)]
/-- What a draw from a reader of bytes answers: a value of which P holds, and the reader's place and state behind it. -/
def Dr {α : Type} (r : Option (α × Int × Int)) (P : α → Prop) : Prop := ∃ x i h, r = some (x, i, h) ∧ 0 ≤ i ∧ P x
theorem and255 (x : Int) : 0 ≤ Go.bits .and .i64 x 255 ∧ Go.bits .and .i64 x 255 ≤ 255 := by
  have h : (Go.bits .and .i64 x 255) = IntKind.i64.wrap (((BitVec.ofInt 64 x) &&& (BitVec.ofInt 64 255)).toNat : Int) := rfl
  have hb : ((BitVec.ofInt 64 x) &&& (BitVec.ofInt 64 255)).toNat ≤ 255 := by
    rw [BitVec.toNat_and]
    exact Nat.and_le_right
  rw [h]
  generalize ((BitVec.ofInt 64 x) &&& (BitVec.ofInt 64 255)).toNat = m at hb
  unfold IntKind.wrap
  have e : (m : Int) % 2 ^ IntKind.i64.bits = m := by
    show (m : Int) % 2 ^ 64 = m
    omega
  have e2 : ¬ ((m : Int) ≥ 2 ^ (IntKind.i64.bits - 1)) := by
    show ¬ ((m : Int) ≥ 2 ^ 63)
    omega
  simp only [e]
  simp [e2]
  omega
theorem byte_dr (b : List Int) (hb : b.length ≤ 140737488351232) (i h : Int) (hi : 0 ≤ i) : Dr (spec_l01Byte.f b i h) (fun x => 0 ≤ x ∧ x ≤ 255) := by
  unfold spec_l01Byte.f
  by_cases c : i < (b.length : Int)
  · rw [if_pos c, if_pos hi]
    exact ⟨_, _, _, rfl, by rw [wrap_id (by omega) (by omega)]; omega, and255 _⟩
  · rw [if_neg c]
    exact ⟨_, _, _, rfl, hi, and255 _⟩
theorem below_dr (b : List Int) (hb : b.length ≤ 140737488351232) (i h n : Int) (hi : 0 ≤ i) : Dr (spec_l01Below.f b i h n) (fun x => 0 ≤ x ∧ (n ≤ 0 → x = 0) ∧ (0 < n → x < n)) := by
  unfold spec_l01Below.f
  by_cases c : n ≤ 0
  · rw [if_pos c]
    exact ⟨_, _, _, rfl, hi, by omega⟩
  · rw [if_neg c]
    obtain ⟨x, i1, h1, e1, p1, q1⟩ := byte_dr b hb i h hi
    rw [e1]
    by_cases c1 : n ≤ 256
    · rw [if_pos c1]
      simp only [bs]
      rw [if_neg (by omega)]
      refine ⟨_, _, _, rfl, p1, ?_⟩
      rw [Int.tmod_eq_emod_of_nonneg (by omega)]
      have := Int.emod_nonneg x (show n ≠ 0 by omega)
      have := Int.emod_lt_of_pos x (show 0 < n by omega)
      omega
    · rw [if_neg c1]
      simp only [bs]
      obtain ⟨y, i2, h2, e2, p2, q2⟩ := byte_dr b hb i1 h1 p1
      rw [e2]
      simp only [bs]
      obtain ⟨z, i3, h3, e3, p3, q3⟩ := byte_dr b hb i2 h2 p2
      rw [e3]
      simp only [bs]
      rw [if_neg (by omega)]
      refine ⟨_, _, _, rfl, p3, ?_⟩
      rw [wrap_id (x := x * 65536) (by omega) (by omega), wrap_id (x := y * 256) (by omega) (by omega), wrap_id (x := x * 65536 + y * 256) (by omega) (by omega), wrap_id (x := x * 65536 + y * 256 + z) (by omega) (by omega),
        Int.tmod_eq_emod_of_nonneg (by omega)]
      have := Int.emod_nonneg (x * 65536 + y * 256 + z) (show n ≠ 0 by omega)
      have := Int.emod_lt_of_pos (x * 65536 + y * 256 + z) (show 0 < n by omega)
      omega
theorem new_ev (b : List Int) (hb : b.length ≤ 140737488351232) : ∃ h, Ev (fun k => spec_l01New.f k b) (b, 0, h) := by
  have key : ∀ (d i : Nat) (x3 : Int), i + d = b.length → ∃ h, ∀ k, d < k → spec_l01New.l0 k b x3 (i : Int) = some (b, 0, h) := by
    intro d
    induction d with
    | zero =>
      intro i x3 hi
      refine ⟨x3, fun k hk => ?_⟩
      obtain ⟨k, rfl⟩ : ∃ m, k = m + 1 := ⟨k - 1, by omega⟩
      simp only [spec_l01New.l0]
      rw [if_neg (by omega)]
    | succ d ih =>
      intro i x3 hi
      by_cases c : (i : Int) < 4000
      · obtain ⟨h, hh⟩ := ih (i + 1) (Go.bits .and .i64 (wrap64 ((wrap64 ((wrap64 (x3 * 149)) + (wrap64 (rd b (i : Int))))) + 11)) 1073741823) (by omega)
        refine ⟨h, fun k hk => ?_⟩
        obtain ⟨k, rfl⟩ : ∃ m, k = m + 1 := ⟨k - 1, by omega⟩
        simp only [spec_l01New.l0]
        rw [if_pos (by omega), if_pos c, if_pos (by omega), wrap_id (x := (i : Int) + 1) (by omega) (by omega), cast_succ]
        exact hh k (by omega)
      · refine ⟨x3, fun k hk => ?_⟩
        obtain ⟨k, rfl⟩ : ∃ m, k = m + 1 := ⟨k - 1, by omega⟩
        simp only [spec_l01New.l0]
        rw [if_pos (by omega), if_neg c]
  obtain ⟨h, hh⟩ := key b.length 0 (wrap64 (710710 + (b.length : Int))) (by omega)
  exact ⟨h, ev_of_lt b.length (fun k hk => hh k hk)⟩
theorem once_dr (b : List Int) (hb : b.length ≤ 140737488351232) (i h n : Int) (hi : 0 ≤ i) : Dr (spec_l01Once.f b i h n) (fun _ => True) := by
  obtain ⟨x, i1, h1, e, p, _⟩ := below_dr b hb i h n hi
  unfold spec_l01Once.f
  rw [e]
  exact ⟨_, _, _, rfl, p, trivial⟩
theorem pick_dr (b : List Int) (hb : b.length ≤ 140737488351232) (i h : Int) (l : List Int) (hl : 0 < l.length) (hi : 0 ≤ i) : Dr (spec_l01PickInt.f b i h l) (fun x => x ∈ l) := by
  obtain ⟨x, i1, h1, e, p, q⟩ := below_dr b hb i h (l.length : Int) hi
  have q2 := q.2.2 (by omega)
  unfold spec_l01PickInt.f
  rw [e]
  simp only [bs]
  rw [if_pos q.1, if_pos q2]
  exact ⟨_, _, _, rfl, p, rd_mem l x q.1 q2⟩
theorem field_dr (b : List Int) (hb : b.length ≤ 140737488351232) (i h : Int) (hi : 0 ≤ i) : Dr (spec_l01DrawField.f b i h) (fun _ => True) := by
  obtain ⟨x, i1, h1, e, p, _⟩ := once_dr b hb i h 20 hi
  unfold spec_l01DrawField.f
  rw [e]
  simp only [bs]
  by_cases c : x = true
  · rw [if_pos c]
    obtain ⟨y, i2, h2, e2, p2, _⟩ := pick_dr b hb i1 h1 ([(-1), 9, 100] : List Int) (by decide) p
    rw [e2]
    exact ⟨_, _, _, rfl, p2, trivial⟩
  · rw [if_neg c]
    obtain ⟨y, i2, h2, e2, p2, _⟩ := below_dr b hb i1 h1 9 p
    rw [e2]
    exact ⟨_, _, _, rfl, p2, trivial⟩
theorem elem_dr (b : List Int) (hb : b.length ≤ 140737488351232) (i h f : Int) (hi : 0 ≤ i) : Dr (spec_l01DrawElement.f b i h f) (fun _ => True) := by
  unfold spec_l01DrawElement.f
  simp only [modulus_f, bs]
  by_cases c : md f = 0
  · rw [if_pos c]
    obtain ⟨y, i2, h2, e2, p2, _⟩ := below_dr b hb i h 50 hi
    rw [e2]
    exact ⟨_, _, _, rfl, p2, trivial⟩
  · rw [if_neg c]
    obtain ⟨x, i1, h1, e, p, _⟩ := below_dr b hb i h 6 hi
    rw [e]
    simp only [bs]
    by_cases c0 : x = 0
    · rw [if_pos c0]
      obtain ⟨y, i2, h2, e2, p2, _⟩ := below_dr b hb i1 h1 3 p
      rw [e2]
      exact ⟨_, _, _, rfl, p2, trivial⟩
    · rw [if_neg c0]
      by_cases c1 : x = 1
      · rw [if_pos c1]
        obtain ⟨y, i2, h2, e2, p2, _⟩ := below_dr b hb i1 h1 3 p
        rw [e2]
        exact ⟨_, _, _, rfl, p2, trivial⟩
      · rw [if_neg c1]
        by_cases c2 : x = 2
        · rw [if_pos c2]
          obtain ⟨y, i2, h2, e2, p2, _⟩ := below_dr b hb i1 h1 16777216 p
          rw [e2]
          simp only [bs]
          obtain ⟨z, i3, h3, e3, p3, _⟩ := below_dr b hb i2 h2 256 p2
          rw [e3]
          exact ⟨_, _, _, rfl, p3, trivial⟩
        · rw [if_neg c2]
          obtain ⟨y, i2, h2, e2, p2, _⟩ := below_dr b hb i1 h1 30 p
          rw [e2]
          exact ⟨_, _, _, rfl, p2, trivial⟩
theorem list_dr (b : List Int) (hb : b.length ≤ 140737488351232) (f : Int) (n : Nat) (hn : n ≤ 1000) : ∀ (d j : Nat) (acc : List Int) (i h : Int), j + d = n → acc.length = j → 0 ≤ i →
    ∃ l i' h', l.length = n ∧ 0 ≤ i' ∧ ∀ k, d < k → spec_l01DrawList.l0 k f (n : Int) acc (j : Int) b i h = some (l, i', h') := by
  intro d
  induction d with
  | zero =>
    intro j acc i h hj ha hi
    refine ⟨acc, i, h, by omega, hi, fun k hk => ?_⟩
    obtain ⟨k, rfl⟩ : ∃ m, k = m + 1 := ⟨k - 1, by omega⟩
    simp only [spec_l01DrawList.l0]
    rw [if_neg (by omega)]
  | succ d ih =>
    intro j acc i h hj ha hi
    obtain ⟨x, i1, h1, e, p, _⟩ := elem_dr b hb i h f hi
    obtain ⟨l, i', h', e1, e2, e3⟩ := ih (j + 1) (acc ++ [x]) i1 h1 (by omega) (by simp [ha]) p
    refine ⟨l, i', h', e1, e2, fun k hk => ?_⟩
    obtain ⟨k, rfl⟩ : ∃ m, k = m + 1 := ⟨k - 1, by omega⟩
    simp only [spec_l01DrawList.l0]
    rw [if_pos (by omega), e]
    simp only [bs]
    rw [if_pos (by omega), wrap_next (show j < n by omega) (by omega)]
    exact e3 k (by omega)
theorem vec4_dr (b : List Int) (hb : b.length ≤ 140737488351232) (f : Int) (x : Nat) (hx : x ≤ 9) (i h : Int) (hi : 0 ≤ i) : ∃ l i' h', l.length ≤ 600 ∧ 0 ≤ i' ∧ ∀ k, 600 ≤ k → spec_l04DrawVector.j4 k f (x : Int) b i h = some (l, i', h') := by
  have h512 : 2 ^ x ≤ 2 ^ 9 := Nat.pow_le_pow_right (by decide) hx
  have h9 : 2 ^ 9 = 512 := by decide
  have e0 : IntKind.u64.wrap (x : Int) = (x : Int) := by
    show (x : Int) % 18446744073709551616 = _
    omega
  obtain ⟨l, i1, h1, hl, p1, hlist⟩ := list_dr b hb f (2 ^ x) (by omega) (2 ^ x) 0 [] i h (by omega) rfl hi
  obtain ⟨o, i2, h2, e2, p2, _⟩ := once_dr b hb i1 h1 12 p1
  have main : ∀ (R : Option (List Int × Int × Int)), (∀ k, 600 ≤ k → spec_l04DrawVector.j4 k f (x : Int) b i h = R) → (∃ l i' h', l.length ≤ 600 ∧ 0 ≤ i' ∧ R = some (l, i', h')) → ∃ l i' h', l.length ≤ 600 ∧ 0 ≤ i' ∧ ∀ k, 600 ≤ k → spec_l04DrawVector.j4 k f (x : Int) b i h = some (l, i', h') := by
    rintro R hR ⟨l, i', h', a1, a2, a3⟩
    exact ⟨l, i', h', a1, a2, fun k hk => (hR k hk).trans a3⟩
  refine main (if o = true then ((spec_l01Below.f b i2 h2 3).bind fun bt225 => (if bt225.1 = 0 then (if l.length < 17592186044416 then (some ((l ++ [0]), bt225.2.1, bt225.2.2)) else (none)) else (if bt225.1 = 1 then ((spec_l01Below.f b bt225.2.1 bt225.2.2 (l.length : Int)).bind fun bt231 => ((spec_Modulus.f f).bind fun t234 => ((spec_l01PickInt.f b bt231.2.1 bt231.2.2 (([(-1), t234] : List Int))).bind fun bt238 => (if 0 ≤ bt231.1 then (if bt231.1 < (l.length : Int) then (some ((l.set (bt231.1 : Int).toNat bt238.1), bt238.2.1, bt238.2.2)) else (none)) else (none))))) else (if bt225.1 = 2 then (some (([] : List Int), bt225.2.1, bt225.2.2)) else (some (l, bt225.2.1, bt225.2.2)))))) else (some (l, i2, h2))) (fun k hk => ?_) ?_
  · obtain ⟨k, rfl⟩ : ∃ m, k = m + 1 := ⟨k - 1, by omega⟩
    simp only [spec_l04DrawVector.j4]
    rw [e0, if_pos (by omega), shl_one x (by omega)]
    unfold spec_l01DrawList.f
    have hl2 := hlist k (by omega)
    rw [show ((0 : Nat) : Int) = 0 from rfl] at hl2
    rw [hl2]
    simp only [bs]
    rw [e2]
    simp only [bs]
  · have hone : 1 ≤ 2 ^ x := Nat.one_le_two_pow
    by_cases c : o = true
    · rw [if_pos c]
      obtain ⟨y, i3, h3, e3, p3, _⟩ := below_dr b hb i2 h2 3 p2
      rw [e3]
      simp only [bs]
      by_cases c0 : y = 0
      · rw [if_pos c0, if_pos (by omega)]
        exact ⟨_, _, _, by simp; omega, p3, rfl⟩
      · rw [if_neg c0]
        by_cases c1 : y = 1
        · rw [if_pos c1]
          obtain ⟨z, i4, h4, e4, p4, q4⟩ := below_dr b hb i3 h3 (l.length : Int) p3
          rw [e4]
          simp only [modulus_f, bs]
          obtain ⟨t, i5, h5, e5, p5, _⟩ := pick_dr b hb i4 h4 ([(-1), md f] : List Int) (by simp) p4
          rw [e5]
          simp only [bs]
          rw [if_pos q4.1, if_pos (q4.2.2 (by omega))]
          exact ⟨_, _, _, by rw [List.length_set]; omega, p5, rfl⟩
        · rw [if_neg c1]
          by_cases c2 : y = 2
          · rw [if_pos c2]
            exact ⟨_, _, _, by simp, p3, rfl⟩
          · rw [if_neg c2]
            exact ⟨_, _, _, by omega, p3, rfl⟩
    · rw [if_neg c]
      exact ⟨_, _, _, by omega, p2, rfl⟩
theorem vec3_dr (b : List Int) (hb : b.length ≤ 140737488351232) (f : Int) (x : Nat) (hx : x ≤ 9) (i h : Int) (hi : 0 ≤ i) : ∃ l i' h', l.length ≤ 600 ∧ 0 ≤ i' ∧ ∀ k, 610 ≤ k → spec_l04DrawVector.j3 k f (x : Int) b i h = some (l, i', h') := by
  obtain ⟨o, i2, h2, e2, p2, _⟩ := once_dr b hb i h 25 hi
  by_cases c : o = true
  · obtain ⟨y, i3, h3, e3, p3, q3⟩ := pick_dr b hb i2 h2 ([0, 5, 9] : List Int) (by decide) p2
    have hy : ∃ z : Nat, y = (z : Int) ∧ z ≤ 9 := by
      simp only [List.mem_cons, List.not_mem_nil, or_false] at q3
      exact ⟨y.toNat, by omega, by omega⟩
    obtain ⟨z, rfl, hz⟩ := hy
    obtain ⟨l, i', h', a1, a2, a3⟩ := vec4_dr b hb f z hz i3 h3 p3
    refine ⟨l, i', h', a1, a2, fun k hk => ?_⟩
    obtain ⟨k, rfl⟩ : ∃ m, k = m + 1 := ⟨k - 1, by omega⟩
    simp only [spec_l04DrawVector.j3]
    rw [e2]
    simp only [bs]
    rw [if_pos c, e3]
    simp only [bs]
    exact a3 k (by omega)
  · obtain ⟨l, i', h', a1, a2, a3⟩ := vec4_dr b hb f x hx i2 h2 p2
    refine ⟨l, i', h', a1, a2, fun k hk => ?_⟩
    obtain ⟨k, rfl⟩ : ∃ m, k = m + 1 := ⟨k - 1, by omega⟩
    simp only [spec_l04DrawVector.j3]
    rw [e2]
    simp only [bs]
    rw [if_neg c]
    exact a3 k (by omega)
theorem vec2_dr (b : List Int) (hb : b.length ≤ 140737488351232) (f x t : Int) (y : Bool) (hy : y = true → ∃ z : Nat, t = (z : Int) ∧ z ≤ 9) (hx : ∃ z : Nat, x = (z : Int) ∧ z ≤ 9) (i h : Int) (hi : 0 ≤ i) : ∃ l i' h', l.length ≤ 600 ∧ 0 ≤ i' ∧ ∀ k, 620 ≤ k → spec_l04DrawVector.j2 k f x t y b i h = some (l, i', h') := by
  by_cases c : y = true
  · obtain ⟨z, rfl, hz⟩ := hy c
    obtain ⟨l, i', h', a1, a2, a3⟩ := vec3_dr b hb f z hz i h hi
    refine ⟨l, i', h', a1, a2, fun k hk => ?_⟩
    obtain ⟨k, rfl⟩ : ∃ m, k = m + 1 := ⟨k - 1, by omega⟩
    simp only [spec_l04DrawVector.j2]
    rw [if_pos c]
    exact a3 k (by omega)
  · obtain ⟨z, rfl, hz⟩ := hx
    obtain ⟨l, i', h', a1, a2, a3⟩ := vec3_dr b hb f z hz i h hi
    refine ⟨l, i', h', a1, a2, fun k hk => ?_⟩
    obtain ⟨k, rfl⟩ : ∃ m, k = m + 1 := ⟨k - 1, by omega⟩
    simp only [spec_l04DrawVector.j2]
    rw [if_neg c]
    exact a3 k (by omega)
theorem vec1_dr (b : List Int) (hb : b.length ≤ 140737488351232) (f : Int) (x : Nat) (hx : x ≤ 8) (i h : Int) (hi : 0 ≤ i) : ∃ l i' h', l.length ≤ 600 ∧ 0 ≤ i' ∧ ∀ k, 700 ≤ k → spec_l04DrawVector.j1 k f (x : Int) b i h = some (l, i', h') := by
  obtain ⟨r, i2, h2, e2, p2, q2⟩ := below_dr b hb i h ((x : Int) + 2) hi
  have q3 := q2.2.2 (by omega)
  have hr : ∃ z : Nat, r = (z : Int) ∧ z ≤ 9 := ⟨r.toNat, by omega, by omega⟩
  obtain ⟨t, ht⟩ : ∃ t, t = (if md f = 0 then (-1 : Int) else tw f) := ⟨_, rfl⟩
  by_cases c : t ≥ 0
  · obtain ⟨l, i', h', a1, a2, a3⟩ := vec2_dr b hb f r t (decide (r > t)) (fun g => ⟨t.toNat, by omega, by have := of_decide_eq_true g; omega⟩) hr i2 h2 p2
    refine ⟨l, i', h', a1, a2, fun k hk => ?_⟩
    obtain ⟨k, rfl⟩ : ∃ m, k = m + 1 := ⟨k - 1, by omega⟩
    simp only [spec_l04DrawVector.j1]
    rw [wrap_id (by omega) (by omega), e2]
    simp only [bs]
    rw [stwo_f f k (by omega), ← ht]
    simp only [bs]
    rw [if_pos c]
    exact a3 k (by omega)
  · obtain ⟨l, i', h', a1, a2, a3⟩ := vec2_dr b hb f r t false (fun g => by cases g) hr i2 h2 p2
    refine ⟨l, i', h', a1, a2, fun k hk => ?_⟩
    obtain ⟨k, rfl⟩ : ∃ m, k = m + 1 := ⟨k - 1, by omega⟩
    simp only [spec_l04DrawVector.j1]
    rw [wrap_id (by omega) (by omega), e2]
    simp only [bs]
    rw [stwo_f f k (by omega), ← ht]
    simp only [bs]
    rw [if_neg c]
    exact a3 k (by omega)
theorem vec0_dr (b code : List Int) (hb : b.length ≤ 140737488351232) (f : Int) (i h : Int) (hi : 0 ≤ i) : ∀ d j : Nat, j + d = 8 → ∃ l i' h', l.length ≤ 600 ∧ 0 ≤ i' ∧ ∀ k, d + 701 ≤ k → spec_l04DrawVector.l0 k f code (j : Int) b i h = some (l, i', h') := by
  intro d
  induction d with
  | zero =>
    intro j hj
    obtain ⟨l, i', h', a1, a2, a3⟩ := vec1_dr b hb f j (by omega) i h hi
    refine ⟨l, i', h', a1, a2, fun k hk => ?_⟩
    obtain ⟨k, rfl⟩ : ∃ m, k = m + 1 := ⟨k - 1, by omega⟩
    simp only [spec_l04DrawVector.l0]
    rw [if_neg (by omega)]
    exact a3 k (by omega)
  | succ d ih =>
    intro j hj
    have e0 : IntKind.u64.wrap (j : Int) = (j : Int) := by
      show (j : Int) % 18446744073709551616 = _
      omega
    by_cases c : shl .i64 4 (j : Int) < (code.length : Int)
    · obtain ⟨l, i', h', a1, a2, a3⟩ := ih (j + 1) (by omega)
      refine ⟨l, i', h', a1, a2, fun k hk => ?_⟩
      obtain ⟨k, rfl⟩ : ∃ m, k = m + 1 := ⟨k - 1, by omega⟩
      simp only [spec_l04DrawVector.l0]
      rw [if_pos (by omega), e0, if_pos (by omega), if_pos c, wrap_next (show j < 8 by omega) (by omega)]
      exact a3 k (by omega)
    · obtain ⟨l, i', h', a1, a2, a3⟩ := vec1_dr b hb f j (by omega) i h hi
      refine ⟨l, i', h', a1, a2, fun k hk => ?_⟩
      obtain ⟨k, rfl⟩ : ∃ m, k = m + 1 := ⟨k - 1, by omega⟩
      simp only [spec_l04DrawVector.l0]
      rw [if_pos (by omega), e0, if_pos (by omega), if_neg c]
      exact a3 k (by omega)
theorem one_ev (b : List Int) (hb : b.length ≤ 140737488351232) : ∃ f v, v.length ≤ 600 ∧ Ev (fun k => spec_l04DrawOne.f k b) (f, v) := by
  obtain ⟨h0, K, hK⟩ := new_ev b hb
  obtain ⟨f, i1, h1, e1, p1, _⟩ := field_dr b hb 0 h0 (by omega)
  obtain ⟨l, i', h', a1, a2, a3⟩ := vec0_dr b b hb f i1 h1 p1 8 0 rfl
  refine ⟨f, l, a1, K + 800, fun k hk => ?_⟩
  have hk' := hK k (by omega)
  have hv := a3 k (by omega)
  rw [show ((0 : Nat) : Int) = 0 from rfl] at hv
  simp only at hk' ⊢
  unfold spec_l04DrawOne.f spec_l04DrawVector.f
  rw [hk']
  simp only [bs]
  rw [e1]
  simp only [bs]
  rw [hv]
  simp only [bs]
theorem copy_f (l : List Int) (hn : l.length ≤ 2000000) (k : Nat) (hk : l.length < k) : spec_l01Copy.f k l = some l := by
  unfold spec_l01Copy.f
  have := append_loop (fun k s i => spec_l01Copy.l0 k l s i) l id 0 [] (by
    intro k s _
    simp only [spec_l01Copy.l0]
    rw [if_neg (by omega)]) (by
    intro k i s h _ hs
    simp only [List.length_nil] at hs
    simp only [spec_l01Copy.l0]
    rw [if_pos (by omega), if_pos (by omega), if_pos (by omega), rd_at l i h, wrap_next h (by omega)]
    rfl) k (by omega)
  simpa using this
theorem bend_dr (b : List Int) (hb : b.length ≤ 140737488351232) (f n : Int) (l : List Int) (hl : l.length ≤ 1000) (i h : Int) (hi : 0 ≤ i) : ∃ o i' h', o.length ≤ l.length + 1 ∧ ∀ k, 1001 ≤ k → spec_l17Bend.f k b i h f l n = some (o, i', h') := by
  obtain ⟨o, i2, h2, e2, p2, _⟩ := once_dr b hb i h n hi
  obtain ⟨y, i3, h3, e3, p3, _⟩ := below_dr b hb i2 h2 3 p2
  have start : ∀ k, 1001 ≤ k → spec_l01Copy.f k l = some l := fun k hk => copy_f l (by omega) k (by omega)
  by_cases c : o = true
  · by_cases c0 : y = 0
    · refine ⟨l ++ [1], i3, h3, by simp, fun k hk => ?_⟩
      unfold spec_l17Bend.f
      rw [start k hk]
      simp only [bs]
      rw [e2]
      simp only [bs]
      rw [if_pos c, e3]
      simp only [bs]
      rw [if_pos c0, if_pos (by omega)]
    · by_cases c1 : y = 1
      · by_cases z : (l.length : Int) > 0
        · refine ⟨l.take (wrap64 ((l.length : Int) - 1)).toNat, i3, h3, by rw [List.length_take]; omega, fun k hk => ?_⟩
          have hw : wrap64 ((l.length : Int) - 1) = (l.length : Int) - 1 := wrap_id (by omega) (by omega)
          unfold spec_l17Bend.f
          rw [start k hk]
          simp only [bs]
          rw [e2]
          simp only [bs]
          rw [if_pos c, e3]
          simp only [bs]
          rw [if_neg c0, if_pos c1, if_pos z, if_pos (by omega), if_pos (by omega)]
        · refine ⟨l, i3, h3, by omega, fun k hk => ?_⟩
          unfold spec_l17Bend.f
          rw [start k hk]
          simp only [bs]
          rw [e2]
          simp only [bs]
          rw [if_pos c, e3]
          simp only [bs]
          rw [if_neg c0, if_pos c1, if_neg z]
      · by_cases c2 : y = 2
        · by_cases z : (l.length : Int) > 0
          · obtain ⟨u, i4, h4, e4, p4, q4⟩ := below_dr b hb i3 h3 (l.length : Int) p3
            obtain ⟨w, i5, h5, e5, p5, _⟩ := elem_dr b hb i4 h4 f p4
            refine ⟨l.set u.toNat w, i5, h5, by rw [List.length_set]; omega, fun k hk => ?_⟩
            unfold spec_l17Bend.f
            rw [start k hk]
            simp only [bs]
            rw [e2]
            simp only [bs]
            rw [if_pos c, e3]
            simp only [bs]
            rw [if_neg c0, if_neg c1, if_pos c2, if_pos z, e4]
            simp only [bs]
            rw [e5]
            simp only [bs]
            rw [if_pos q4.1, if_pos (q4.2.2 (by omega))]
          · refine ⟨l, i3, h3, by omega, fun k hk => ?_⟩
            unfold spec_l17Bend.f
            rw [start k hk]
            simp only [bs]
            rw [e2]
            simp only [bs]
            rw [if_pos c, e3]
            simp only [bs]
            rw [if_neg c0, if_neg c1, if_pos c2, if_neg z]
        · refine ⟨l, i3, h3, by omega, fun k hk => ?_⟩
          unfold spec_l17Bend.f
          rw [start k hk]
          simp only [bs]
          rw [e2]
          simp only [bs]
          rw [if_pos c, e3]
          simp only [bs]
          rw [if_neg c0, if_neg c1, if_neg c2]
  · refine ⟨l, i2, h2, by omega, fun k hk => ?_⟩
    unfold spec_l17Bend.f
    rw [start k hk]
    simp only [bs]
    rw [e2]
    simp only [bs]
    rw [if_neg c]
theorem sforward_all (f : Int) (v : List Int) (hv : v.length ≤ 1048576) : Ev (fun k => spec_Forward.f k f v) (if VecP f v then fwd f v else []) := by
  by_cases c : VecP f v
  · rw [if_pos c]; exact sforward_ev c
  · rw [if_neg c]
    refine ⟨1048700, fun k hk => ?_⟩
    simp only
    unfold spec_Forward.f
    rw [svec_f f v (by omega) k (by omega), decide_eq_false c]
    simp only [bs]
    rw [if_neg (by decide)]
theorem sd2_ev (b : List Int) (hb : b.length ≤ 140737488351232) (f : Int) (v pl : List Int) (hv : v.length ≤ 600) (hp : pl.length ≤ 2000) (i h : Int) (hi : 0 ≤ i) : ∃ out pl', out.length ≤ 700 ∧ Ev (fun k => spec_DrawSpotForward.j2 k f v pl b i h) (f, v, out, pl') := by
  obtain ⟨o, i2, h2, e2, p2, _⟩ := once_dr b hb i h 12 hi
  obtain ⟨K, hK⟩ := sforward_all f v (by omega)
  have hl : (if VecP f v then fwd f v else []).length ≤ 600 := by
    split
    · rw [fwd_length]; exact hv
    · exact Nat.zero_le _
  generalize (if VecP f v then fwd f v else []) = w at hK hl
  obtain ⟨u, i3, h3, hu, eu⟩ := bend_dr b hb f 4 w (by omega) i2 h2 p2
  by_cases c : o = true
  · refine ⟨u, pl ++ [-1], by omega, K + 1010, fun k hk => ?_⟩
    obtain ⟨k, rfl⟩ : ∃ m, k = m + 1 := ⟨k - 1, by omega⟩
    have hk' := hK k (by omega)
    simp only at hk' ⊢
    simp only [spec_DrawSpotForward.j2]
    rw [e2]
    simp only [bs]
    rw [if_pos c, if_pos (by omega), hk']
    simp only [bs]
    rw [eu k (by omega)]
    simp only [bs]
  · refine ⟨u, pl, by omega, K + 1010, fun k hk => ?_⟩
    obtain ⟨k, rfl⟩ : ∃ m, k = m + 1 := ⟨k - 1, by omega⟩
    have hk' := hK k (by omega)
    simp only at hk' ⊢
    simp only [spec_DrawSpotForward.j2]
    rw [e2]
    simp only [bs]
    rw [if_neg c, hk']
    simp only [bs]
    rw [eu k (by omega)]
    simp only [bs]
theorem sd1_ev (b : List Int) (hb : b.length ≤ 140737488351232) (f : Int) (v : List Int) (hv : v.length ≤ 600) (i h : Int) (hi : 0 ≤ i) : ∀ (d j : Nat) (acc : List Int), j + d = v.length → acc.length = j → ∃ out pl', out.length ≤ 700 ∧ Ev (fun k => spec_DrawSpotForward.l1 k f v acc (j : Int) b i h) (f, v, out, pl') := by
  intro d
  induction d with
  | zero =>
    intro j acc hj ha
    obtain ⟨out, pl', e1, e2⟩ := sd2_ev b hb f v acc hv (by omega) i h hi
    refine ⟨out, pl', e1, Ev.step (fun k => ?_) e2⟩
    simp only [spec_DrawSpotForward.l1]
    rw [if_neg (by omega)]
  | succ d ih =>
    intro j acc hj ha
    obtain ⟨out, pl', e1, e2⟩ := ih (j + 1) (acc ++ [(j : Int)]) (by omega) (by simp [ha])
    refine ⟨out, pl', e1, Ev.step (fun k => ?_) e2⟩
    simp only [spec_DrawSpotForward.l1]
    rw [if_pos (by omega), if_pos (by omega), wrap_next (show j < v.length by omega) (by omega)]
theorem sd0_ev (b : List Int) (hb : b.length ≤ 140737488351232) (f : Int) (v : List Int) (hv : v.length ≤ 600) : ∀ (n : Nat) (acc : List Int) (i h : Int), acc.length + n ≤ 100 → 0 ≤ i → ∃ out pl', out.length ≤ 700 ∧ Ev (fun k => spec_DrawSpotForward.l0 k f v acc (n : Int) b i h) (f, v, out, pl') := by
  intro n
  induction n with
  | zero =>
    intro acc i h ha hi
    obtain ⟨o, i2, h2, e2, p2, _⟩ := once_dr b hb i h 2 hi
    by_cases c : o = true
    · obtain ⟨out, pl', a1, a2⟩ := sd1_ev b hb f v hv i2 h2 p2 v.length 0 [] (by omega) rfl
      refine ⟨out, pl', a1, Ev.step (fun k => ?_) a2⟩
      simp only [spec_DrawSpotForward.l0]
      rw [if_neg (by omega), e2]
      simp only [bs]
      rw [if_pos c]
      rfl
    · obtain ⟨out, pl', a1, a2⟩ := sd2_ev b hb f v acc hv (by omega) i2 h2 p2
      refine ⟨out, pl', a1, Ev.step (fun k => ?_) a2⟩
      simp only [spec_DrawSpotForward.l0]
      rw [if_neg (by omega), e2]
      simp only [bs]
      rw [if_neg c]
  | succ n ih =>
    intro acc i h ha hi
    obtain ⟨x, i2, h2, e2, p2, _⟩ := below_dr b hb i h (wrap64 ((v.length : Int) + 1)) hi
    obtain ⟨out, pl', a1, a2⟩ := ih (acc ++ [x]) i2 h2 (by simp; omega) p2
    refine ⟨out, pl', a1, Ev.step (fun k => ?_) a2⟩
    simp only [spec_DrawSpotForward.l0]
    rw [if_pos (by omega), e2]
    simp only [bs]
    rw [if_pos (by omega), wrap_id (x := ((n + 1 : Nat) : Int) - 1) (by omega) (by omega), show ((n + 1 : Nat) : Int) - 1 = (n : Int) by omega]
theorem draw_ev (b : List Int) (hb : b.length ≤ 140737488351232) : ∃ f v out pl, v.length ≤ 600 ∧ out.length ≤ 700 ∧ Ev (fun k => spec_DrawSpotForward.f k b) (f, v, out, pl) := by
  obtain ⟨f, v, hv, K1, hK1⟩ := one_ev b hb
  obtain ⟨h0, K2, hK2⟩ := new_ev b hb
  obtain ⟨x, i1, h1, e1, p1, q1⟩ := below_dr b hb 0 h0 8 (by omega)
  have q2 := q1.2.2 (by omega)
  obtain ⟨n, hn⟩ : ∃ n : Nat, x = (n : Int) := ⟨x.toNat, by omega⟩
  subst hn
  obtain ⟨out, pl, a1, K3, hK3⟩ := sd0_ev b hb f v hv n [] i1 h1 (by simp; omega) p1
  refine ⟨f, v, out, pl, hv, a1, K1 + K2 + K3, fun k hk => ?_⟩
  have r1 := hK1 k (by omega)
  have r2 := hK2 k (by omega)
  have r3 := hK3 k (by omega)
  simp only at r1 r2 r3 ⊢
  unfold spec_DrawSpotForward.f
  rw [r1]
  simp only [bs]
  rw [r2]
  simp only [bs]
  rw [e1]
  simp only [bs]
  exact r3
theorem cp_f (l : List Int) (hn : l.length ≤ 2000000) (k : Nat) (hk : l.length < k) : laws_cp.f k l = some l := by
  unfold laws_cp.f
  have := append_loop (fun k s i => laws_cp.l0 k l s i) l id 0 [] (by
    intro k s _
    simp only [laws_cp.l0]
    rw [if_neg (by omega)]) (by
    intro k i s h _ hs
    simp only [List.length_nil] at hs
    simp only [laws_cp.l0]
    rw [if_pos (by omega), if_pos (by omega), if_pos (by omega), rd_at l i h, wrap_next h (by omega)]
    rfl) k (by omega)
  simpa using this
theorem lawSame_f (a b : List Int) (hn : a.length ≤ 2000000) (k : Nat) (hk : a.length < k) : laws_same.f k a b = some (decide (a = b)) := by
  unfold laws_same.f
  by_cases c : (a.length : Int) = (b.length : Int)
  · rw [if_pos c]
    have key : ∀ (d k i : Nat), i + d = a.length → d < k → laws_same.l0 k a b (i : Int) = some (decide (a.drop i = b.drop i)) := by
      intro d
      induction d with
      | zero =>
        intro k i hi hk
        obtain ⟨k, rfl⟩ : ∃ m, k = m + 1 := ⟨k - 1, by omega⟩
        simp only [laws_same.l0]
        rw [if_neg (by omega), List.drop_eq_nil_of_le (by omega), List.drop_eq_nil_of_le (by omega)]
        rfl
      | succ d ih =>
        intro k i hi hk
        obtain ⟨k, rfl⟩ : ∃ m, k = m + 1 := ⟨k - 1, by omega⟩
        simp only [laws_same.l0]
        rw [if_pos (by omega), if_pos (by omega), if_pos (by omega), rd_at a i (by omega), rd_at b i (by omega), drop_cons a i (by omega), drop_cons b i (by omega)]
        by_cases e : a[i] = b[i]
        · rw [if_pos e, wrap_next (show i < a.length by omega) (by omega), ih k (i + 1) (by omega) (by omega)]
          congr 1
          exact decide_eq_decide.mpr ⟨fun h => by rw [e, h], fun h => (List.cons.inj h).2⟩
        · rw [if_neg e, decide_eq_false (fun h => e (List.cons.inj h).1)]
    have := key a.length k 0 (by omega) hk
    simpa using this
  · rw [if_neg c, decide_eq_false (fun h => c (by rw [h]))]
theorem iForward_ev {f : Int} {v : List Int} (h : VecP f v) (hv : v.length ≤ 1048576) : Ev (fun k => impl_Forward.f k f v) (fwd f v) := by
  obtain ⟨K, hK⟩ := iforward_ev h
  refine ⟨K + 1048700, fun k hk => ?_⟩
  have hk' := hK k (by omega)
  simp only at hk' ⊢
  unfold impl_Forward.f
  rw [ivf_one f v (by omega) k (by omega), if_pos h]
  simp only [bs, if_true]
  rw [hk']
  simp only [bs]
theorem fwd_vec {f : Int} {v : List Int} (h : VecP f v) : VecP f (fwd f v) := by
  have hq := md_pos h.1
  refine ⟨h.1, ⟨?_, ?_⟩, ?_⟩
  · rw [fwd_length]; exact h.2.1.1
  · rw [fwd_length]; exact h.2.1.2
  · unfold fwd
    exact fl_el (fun i _ => emod_range (p := md f) _ (by omega))
theorem spots_iff {f : Int} {v out : List Int} (h : VecP f v) (ho : VecP f out) (e : v.length = out.length) : SpP f v out (fl v.length (fun i => (i : Int))) ↔ out = fwd f v := by
  have hl := vec_len h
  constructor
  · intro g
    refine list_ext (by rw [fwd_length, e]) (fun i hi => ?_)
    have hm : (i : Int) ∈ fl v.length (fun i => (i : Int)) := by
      have := List.getElem_mem (l := fl v.length (fun i => (i : Int))) (n := i) (by rw [fl_length]; omega)
      have e2 : (fl v.length (fun i => (i : Int)))[i]'(by rw [fl_length]; omega) = (i : Int) := by simp [fl]
      rwa [e2] at this
    have := (g.2.2.2.2 _ hm).2.2
    rwa [Int.toNat_natCast] at this
  · rintro rfl
    refine ⟨h, ho, e, by rw [fl_length]; omega, fun x hx => ?_⟩
    obtain ⟨i, hi, rfl⟩ := List.mem_map.1 hx
    have := List.mem_range.1 hi
    exact ⟨by omega, by omega, rfl⟩
theorem spots_ev {f : Int} {v out : List Int} (h : VecP f v) (ho : VecP f out) (e : v.length = out.length) : ∀ d i : Nat, i + d = v.length → Ev (fun k => laws_FnSpots.l0 k f v out (fl i (fun i => (i : Int))) (i : Int)) true := by
  have hl := vec_len h
  have hlo := vec_len ho
  intro d
  induction d with
  | zero =>
    intro i hi
    obtain rfl : i = v.length := by omega
    obtain ⟨K1, h1⟩ := sforward_ev h
    obtain ⟨K2, h2⟩ := iForward_ev h (by omega)
    obtain ⟨K3, h3⟩ := ispot_ev f v (fwd f v) (fl v.length (fun i => (i : Int))) (by omega) (by rw [fwd_length]; omega) (by rw [fl_length]; omega)
    obtain ⟨K4, h4⟩ := ispot_ev f v out (fl v.length (fun i => (i : Int))) (by omega) (by omega) (by rw [fl_length]; omega)
    refine ⟨K1 + K2 + K3 + K4 + 2000, fun k hk => ?_⟩
    obtain ⟨k, rfl⟩ : ∃ m, k = m + 1 := ⟨k - 1, by omega⟩
    have r1 := h1 k (by omega)
    have r2 := h2 k (by omega)
    have r3 := h3 k (by omega)
    have r4 := h4 k (by omega)
    simp only at r1 r2 r3 r4
    have c1 := cp_f v (by omega) k (by omega)
    have c2 := cp_f out (by omega) k (by omega)
    have c3 := cp_f (fl v.length (fun i => (i : Int))) (by rw [fl_length]; omega) k (by rw [fl_length]; omega)
    simp only [laws_FnSpots.l0]
    rw [if_neg (by omega), r1]
    simp only [bs]
    rw [c1]
    simp only [bs]
    rw [r2]
    simp only [bs]
    rw [c3]
    simp only [bs]
    rw [r3, decide_eq_true ((spots_iff h (fwd_vec h) (fwd_length f v).symm).2 rfl)]
    simp only [bs, if_true]
    rw [c2]
    simp only [bs]
    rw [r4]
    simp only [bs]
    rw [lawSame_f out (fwd f v) (by omega) k (by omega)]
    simp only [bs]
    have e4 : decide (SpP f v out (fl v.length (fun i => (i : Int)))) = decide (out = fwd f v) := decide_eq_decide.mpr (spots_iff h ho e)
    rw [e4]
    simp
  | succ d ih =>
    intro i hi
    refine Ev.step (fun k => ?_) (ih (i + 1) (by omega))
    simp only [laws_FnSpots.l0]
    rw [if_pos (by omega), fl_length, if_pos (by omega), fl_snoc i (fun i => (i : Int)), wrap_next (show i < v.length by omega) (by omega)]
theorem FnSpots : laws_FnSpots.Pure := by
  intro code h1 h2 h3
  by_cases c : (code.length : Int) > 1048576
  · refine ⟨0, ?_⟩
    unfold laws_FnSpots.f laws_big.f
    simp only [bs]
    rw [if_pos (decide_eq_true c)]
  obtain ⟨f, v, out, pl, hv, ho, K1, hK1⟩ := draw_ev code (by omega)
  have start : ∀ k, K1 + 2000 ≤ k → laws_FnSpots.f k code = if VecP f v then (if VecP f out then laws_FnSpots.j0 k f v out ((v.length : Int) != (out.length : Int)) else laws_FnSpots.j0 k f v out true) else laws_FnSpots.j0 k f v out true := by
    intro k hk
    have r1 := hK1 k (by omega)
    simp only at r1
    unfold laws_FnSpots.f laws_big.f
    simp only [bs]
    rw [if_neg (by simpa using c), r1]
    simp only [bs]
    rw [svec_f f v (by omega) k (by omega)]
    simp only [bs]
    by_cases g : VecP f v
    · rw [if_pos (decide_eq_true g), if_pos g, svec_f f out (by omega) k (by omega)]
      simp only [bs]
      by_cases g2 : VecP f out
      · rw [if_pos (decide_eq_true g2), if_pos g2]
      · rw [if_neg (by simpa using g2), if_neg g2]
    · rw [if_neg (by simpa using g), if_neg g]
  have skip : ∀ k, laws_FnSpots.j0 (k + 1) f v out true = some true := by
    intro k
    simp only [laws_FnSpots.j0, if_true]
  by_cases g : VecP f v
  · by_cases g2 : VecP f out
    · by_cases e : v.length = out.length
      · obtain ⟨K2, hK2⟩ := spots_ev g g2 e v.length 0 (by omega)
        refine ⟨K1 + K2 + 2001, ?_⟩
        have r2 := hK2 (K1 + K2 + 2000) (by omega)
        rw [start _ (by omega), if_pos g, if_pos g2, show ((v.length : Int) != (out.length : Int)) = false by simp [e]]
        simp only [laws_FnSpots.j0]
        rw [if_neg (by decide)]
        exact r2
      · refine ⟨K1 + 2001, ?_⟩
        rw [start _ (by omega), if_pos g, if_pos g2, show ((v.length : Int) != (out.length : Int)) = true from bne_iff_ne.mpr (by omega)]
        exact skip _
    · refine ⟨K1 + 2001, ?_⟩
      rw [start _ (by omega), if_pos g, if_neg g2]
      exact skip _
  · refine ⟨K1 + 2001, ?_⟩
    rw [start _ (by omega), if_neg g]
    exact skip _

end Go.Proofs.Ytabicblkdgpogaa.Pure
