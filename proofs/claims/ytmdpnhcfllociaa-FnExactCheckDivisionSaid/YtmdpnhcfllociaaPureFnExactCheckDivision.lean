/- CheckDivision of the program and of the reference answer alike for all arguments: quotient and rest are the only ones. -/
import Derived.Test.YtmdpnhcfllociaaQFnExactCheckDivisionx7
import Derived.Test.YtmdpnhcfllociaaPoly
namespace Go.Proofs.Ytmdpnhcfllociaa.Pure
open Go.RowKit Go.Proofs.Ytmdpnhcfllociaa.QFnExactCheckDivision Go.Proofs.YtmdpnhcfllociaaW.PrintWords Go.Proofs.YtmdpnhcfllociaaW.PrintLast Go.Proofs.YtmdpnhcfllociaaW.PrintMore Go.Proofs.Ytmdpnhcfllociaa.Lib
set_option linter.unusedVariables false

theorem toIntS_loop (x0 : List Int) (hn : x0.length ≤ 140737488351232) : ∀ (d k i : Nat) (x3 : List Int), i + d = x0.length → x3.length = x0.length → d < k →
    laws_toIntS.l0 k x0 x3 (i : Int) = some (x3.take i ++ x0.drop i) := by
  intro d
  induction d with
  | zero =>
    intro k i x3 hi h3 hk
    obtain ⟨k, rfl⟩ : ∃ m, k = m + 1 := ⟨k - 1, by omega⟩
    simp only [laws_toIntS.l0]
    rw [if_neg (by omega), List.drop_eq_nil_of_le (by omega), List.take_of_length_le (by omega), List.append_nil]
  | succ d ih =>
    intro k i x3 hi h3 hk
    obtain ⟨k, rfl⟩ : ∃ m, k = m + 1 := ⟨k - 1, by omega⟩
    have hlt : i < x0.length := by omega
    simp only [laws_toIntS.l0]
    rw [if_pos (by omega), if_pos (by omega), if_pos (by omega), rd_at x0 i hlt, wrap_id (x := (i : Int) + 1) (by omega) (by omega), cast_succ,
      ih k (i + 1) _ (by omega) (by simpa using h3) (by omega), drop_cons x0 i hlt]
    simp only [Int.toNat_natCast]
    rw [set_take _ _ _ (by omega), List.append_assoc]
    rfl
theorem toIntS_f (l : List Int) (hn : l.length ≤ 35184372088832) (k : Nat) (hk : l.length < k) : laws_toIntS.f k l = some l := by
  unfold laws_toIntS.f
  rw [if_pos (by omega), if_pos (by omega)]
  have := toIntS_loop l (by omega) l.length k 0 (List.replicate ((l.length : Int) : Int).toNat 0) (by omega) (by simp) hk
  simpa using this
theorem eqIntS_loop (x0 : List Int) (hn : x0.length ≤ 140737488351232) : ∀ (d k i : Nat), i + d = x0.length → d < k → laws_eqIntS.l0 k x0 x0 (i : Int) = some true := by
  intro d
  induction d with
  | zero =>
    intro k i hi hk
    obtain ⟨k, rfl⟩ : ∃ m, k = m + 1 := ⟨k - 1, by omega⟩
    simp only [laws_eqIntS.l0]
    rw [if_neg (by omega)]
  | succ d ih =>
    intro k i hi hk
    obtain ⟨k, rfl⟩ : ∃ m, k = m + 1 := ⟨k - 1, by omega⟩
    simp only [laws_eqIntS.l0, if_true]
    rw [if_pos (by omega), if_pos (by omega), if_pos (by omega), wrap_id (x := (i : Int) + 1) (by omega) (by omega), cast_succ]
    exact ih k (i + 1) (by omega) (by omega)
theorem eqIntS_self (l : List Int) (hn : l.length ≤ 35184372088832) (k : Nat) (hk : l.length < k) : laws_eqIntS.f k l l = some true := by
  unfold laws_eqIntS.f
  rw [if_pos rfl]
  exact eqIntS_loop l (by omega) l.length k 0 (by omega) hk
theorem modulus_f (f : Int) : spec_Modulus.f f = some (md f) := by
  unfold spec_Modulus.f md
  simp only [apply_ite some]
theorem reduce_f (f x : Int) (hp : md f ≠ 0) : spec_Reduce.f f x = some (x % md f) := by
  have h := md_pos hp
  have hr := reduce_int x (md f) (by omega)
  have hx := emod_range x (show 0 < md f by omega)
  unfold spec_Reduce.f
  rw [modulus_f]
  simp only [bs]
  rw [if_neg hp]
  by_cases c : Int.tmod x (md f) < 0
  · rw [if_pos c] at hr ⊢
    rw [hr, wrap_id (by omega) (by omega)]
  · rw [if_neg c] at hr ⊢
    rw [hr]
theorem mul_f (f x y : Int) (hp : md f ≠ 0) : spec_Mul.f f x y = some ((x * y) % md f) := by
  have h := md_pos hp
  have hx := emod_range x (show 0 < md f by omega)
  have hy := emod_range y (show 0 < md f by omega)
  have hm := prod_range h.2 hx hy
  unfold spec_Mul.f
  simp only [modulus_f, bs]
  rw [if_neg hp]
  simp only [reduce_f f _ hp, bs]
  rw [wrap_id (by omega) (by omega), ← Int.mul_emod]
theorem sub_f (f x y : Int) (hp : md f ≠ 0) : spec_Sub.f f x y = some ((x - y) % md f) := by
  have h := md_pos hp
  have hx := emod_range x (show 0 < md f by omega)
  have hy := emod_range y (show 0 < md f by omega)
  unfold spec_Sub.f
  simp only [modulus_f, bs]
  rw [if_neg hp]
  simp only [reduce_f f _ hp, bs]
  rw [wrap_id (by omega) (by omega), ← Int.sub_emod]
theorem in_f (x a b : Int) : spec_l01In.f x a b = some (decide (a ≤ x ∧ x ≤ b)) := by
  unfold spec_l01In.f
  by_cases c : a ≤ x
  · rw [if_pos c]; simp [c]
  · rw [if_neg c]; simp [c]
theorem elements_f (f : Int) (l : List Int) (hn : l.length ≤ 2000000) (k : Nat) (hk : l.length < k) : spec_l03Elements.f k f l = some (decide (md f ≠ 0 ∧ El (md f) l)) := by
  unfold spec_l03Elements.f
  simp only [modulus_f, bs]
  by_cases hp : md f = 0
  · rw [if_pos hp, decide_eq_false (fun h => h.1 hp)]
  · rw [if_neg hp]
    have hq := md_pos hp
    have key := loop_list (fun k (_ : Unit) i => spec_l03Elements.l0 k l (md f) i) l 0 (fun _ _ => True) (fun r _ => decide (El (md f) r)) (by
      intro k s _ _
      simp only [spec_l03Elements.l0]
      rw [if_neg (by omega), decide_eq_true (El.nil _)]) (by
      intro k i s h _ _
      simp only [spec_l03Elements.l0]
      rw [if_pos (by omega), if_pos (by omega), rd_at l i h, wrap_id (x := md f - 1) (by omega) (by omega), in_f]
      simp only [bs]
      by_cases c : 0 ≤ l[i] ∧ l[i] ≤ md f - 1
      · left
        refine ⟨(), ?_, trivial, ?_⟩
        · rw [if_pos (by simpa using c), wrap_next h (by omega)]
        · apply decide_eq_decide.mpr
          constructor
          · intro hh x hx
            exact hh x (List.mem_cons_of_mem _ hx)
          · intro hh x hx
            rcases List.mem_cons.1 hx with rfl | hx
            · omega
            · exact hh x hx
      · right
        rw [if_neg (by simpa using c)]
        rw [decide_eq_false]
        intro hh
        have := hh l[i] List.mem_cons_self
        omega) k () (by omega) trivial
    rw [key]
    congr 1
    exact decide_eq_decide.mpr ⟨fun h => ⟨hp, h⟩, fun h => h.2⟩
theorem fieldOf_f (f : Int) : impl_fieldOf.f f = some (md f, gn f, tw f, decide (md f ≠ 0)) := by
  by_cases c : 0 ≤ f ∧ f ≤ 8
  · rcases nine c.1 c.2 with rfl | rfl | rfl | rfl | rfl | rfl | rfl | rfl | rfl <;> rfl
  · obtain ⟨h1, h2, h3⟩ := md_out c
    unfold impl_fieldOf.f
    rw [h1, h2, h3]
    by_cases c0 : f < 0
    · rw [if_pos c0]; rfl
    · rw [if_neg c0, if_pos (by omega)]; rfl
theorem areElements_f (p g t : Int) (l : List Int) (hn : l.length ≤ 2000000) (k : Nat) (hk : l.length < k) : impl_field_areElements.f k p g t l = some (decide (El p l)) := by
  unfold impl_field_areElements.f
  exact loop_list (fun k (_ : Unit) i => impl_field_areElements.l0 k l (l.length : Int) i p g t) l 0 (fun _ _ => True) (fun r _ => decide (El p r)) (by
    intro k s _ _
    simp only [impl_field_areElements.l0]
    rw [if_neg (by omega), decide_eq_true (El.nil _)]) (by
    intro k i s h _ _
    simp only [impl_field_areElements.l0]
    rw [if_pos (by omega), if_pos (by omega), if_pos (by omega), rd_at l i h]
    by_cases c : l[i] < 0
    · right
      rw [if_pos c, decide_eq_false]
      intro hh
      have := hh l[i] List.mem_cons_self
      omega
    · by_cases c1 : l[i] ≥ p
      · right
        rw [if_neg c, if_pos c1, decide_eq_false]
        intro hh
        have := hh l[i] List.mem_cons_self
        omega
      · left
        refine ⟨(), ?_, trivial, ?_⟩
        · rw [if_neg c, if_neg c1, wrap_next h (by omega)]
        · apply decide_eq_decide.mpr
          constructor
          · intro hh x hx
            exact hh x (List.mem_cons_of_mem _ hx)
          · intro hh x hx
            rcases List.mem_cons.1 hx with rfl | hx
            · omega
            · exact hh x hx) k () (by omega) trivial
theorem equal_f (a b : List Int) (hn : a.length ≤ 2000000) (k : Nat) (hk : a.length < k) : slices_Equal_int_int.f k a b = some (decide (a = b)) := by
  unfold slices_Equal_int_int.f
  by_cases c : (a.length : Int) = (b.length : Int)
  · rw [if_pos c]
    have key : ∀ (d k i : Nat), i + d = a.length → d < k → slices_Equal_int_int.l0 k a b (a.length : Int) (i : Int) = some (decide (a.drop i = b.drop i)) := by
      intro d
      induction d with
      | zero =>
        intro k i hi hk
        obtain ⟨k, rfl⟩ : ∃ m, k = m + 1 := ⟨k - 1, by omega⟩
        simp only [slices_Equal_int_int.l0]
        rw [if_neg (by omega), List.drop_eq_nil_of_le (by omega), List.drop_eq_nil_of_le (by omega)]
        rfl
      | succ d ih =>
        intro k i hi hk
        obtain ⟨k, rfl⟩ : ∃ m, k = m + 1 := ⟨k - 1, by omega⟩
        simp only [slices_Equal_int_int.l0]
        rw [if_pos (by omega), if_pos (by omega), if_pos (by omega), if_pos (by omega), rd_at a i (by omega), rd_at b i (by omega), drop_cons a i (by omega), drop_cons b i (by omega)]
        by_cases e : a[i] = b[i]
        · rw [if_pos e, wrap_next (show i < a.length by omega) (by omega), ih k (i + 1) (by omega) (by omega)]
          congr 1
          exact decide_eq_decide.mpr ⟨fun h => by rw [e, h], fun h => (List.cons.inj h).2⟩
        · rw [if_neg e, decide_eq_false (fun h => e (List.cons.inj h).1)]
    have := key a.length k 0 (by omega) hk
    simpa using this
  · rw [if_neg c, decide_eq_false (fun h => c (by rw [h]))]
theorem power_loop (p : Int) (h2 : 2 ≤ p) (hp : p ≤ 1004535809) : ∀ (m n : Nat), n ≤ m → n ≤ 4611686018427387904 → ∀ (x out : Int), 0 ≤ x ∧ x < p → 0 ≤ out ∧ out < p → Ev (fun k => spec_Power.l0 k p x (n : Int) out) (out * x ^ n % p) := by
  intro m
  induction m with
  | zero =>
    intro n hn _ x out hx ho
    obtain rfl : n = 0 := by omega
    refine Ev.step (f := fun _ => some (out * x ^ 0 % p)) (fun k => ?_) (Ev.now _)
    simp only [spec_Power.l0]
    rw [if_neg (by omega), Int.pow_zero, Int.mul_one, Int.emod_eq_of_lt ho.1 ho.2]
  | succ m ih =>
    intro n hn hmax x out hx ho
    by_cases c : n = 0
    · exact ih n (by omega) hmax x out hx ho
    · have hxx := prod_range hp hx hx
      have hox := prod_range hp ho hx
      have r1 := emod_range (x * x) (show 0 < p by omega)
      have r2 := emod_range (out * x) (show 0 < p by omega)
      have hdiv : wrap64 (Int.tdiv (n : Int) 2) = ((n / 2 : Nat) : Int) := by
        rw [Int.tdiv_eq_ediv_of_nonneg (by omega), wrap_id (by omega) (by omega)]
        rfl
      have hpw := pow_half p x out n
      by_cases o : n % 2 = 1
      · rw [if_pos o] at hpw
        rw [← hpw]
        refine Ev.step (f := fun k => spec_Power.l0 k p (x * x % p) ((n / 2 : Nat) : Int) (out * x % p)) (fun k => ?_) (ih (n / 2) (by omega) (by omega) _ _ r1 r2)
        simp only [spec_Power.l0]
        rw [if_pos (by omega), if_pos (by rw [tmod_nonneg' _ (by omega)]; omega), if_neg (by omega), hdiv, wrap_id (x := x * x) (by omega) (by omega), wrap_id (x := out * x) (by omega) (by omega), tmod_nonneg' _ hxx.1, tmod_nonneg' _ hox.1]
      · rw [if_neg o] at hpw
        rw [← hpw]
        refine Ev.step (f := fun k => spec_Power.l0 k p (x * x % p) ((n / 2 : Nat) : Int) out) (fun k => ?_) (ih (n / 2) (by omega) (by omega) _ _ r1 ho)
        simp only [spec_Power.l0]
        rw [if_pos (by omega), if_neg (by rw [tmod_nonneg' _ (by omega)]; omega), if_neg (by omega), hdiv, wrap_id (x := x * x) (by omega) (by omega), tmod_nonneg' _ hxx.1]
theorem power_ev (f a e : Int) (hp : md f ≠ 0) (he0 : -4611686018427387904 ≤ e) (he1 : e ≤ 4611686018427387904) : Ev (fun k => spec_Power.f k f a e) (powS f a e) := by
  have hq := md_pos hp
  have hr := emod_range a (show 0 < md f by omega)
  have hn := emod_range e (show 0 < md f - 1 by omega)
  have hre := reduce_int e (md f - 1) (by omega)
  unfold powS
  by_cases z : a % md f = 0
  · rw [if_pos z]
    refine ⟨0, fun k _ => ?_⟩
    simp only [spec_Power.f, modulus_f, bs]
    rw [if_neg hp, reduce_f f a hp]
    simp only [bs]
    rw [if_pos z]
    by_cases e0 : e = 0
    · rw [if_pos e0, if_pos e0]
    · rw [if_neg e0, if_neg e0]
      by_cases e1 : e < 0
      · rw [if_pos e1, if_pos e1]
      · rw [if_neg e1, if_neg e1]
  · rw [if_neg z]
    have hl := power_loop (md f) (by omega) hq.2 (e % (md f - 1)).toNat (e % (md f - 1)).toNat (Nat.le_refl _) (by omega) (a % md f) 1 hr ⟨by omega, by omega⟩
    rw [Int.one_mul, Int.toNat_of_nonneg hn.1] at hl
    obtain ⟨K, hK⟩ := hl
    refine ⟨K + 1, fun k hk => ?_⟩
    obtain ⟨k, rfl⟩ : ∃ m, k = m + 1 := ⟨k - 1, by omega⟩
    simp only [spec_Power.f, modulus_f, bs]
    rw [if_neg hp, reduce_f f a hp]
    simp only [bs]
    rw [if_neg z, wrap_id (x := md f - 1) (by omega) (by omega), if_neg (by omega)]
    by_cases c : Int.tmod e (md f - 1) < 0
    · rw [if_pos c] at hre ⊢
      have : -(md f - 1) < Int.tmod e (md f - 1) := by
        have := Int.lt_tmod_of_pos e (show 0 < md f - 1 by omega)
        omega
      rw [wrap_id (x := Int.tmod e (md f - 1) + md f) (by omega) (by omega), wrap_id (by omega) (by omega), show Int.tmod e (md f - 1) + md f - 1 = e % (md f - 1) by omega]
      simp only [spec_Power.j0]
      exact hK k (by omega)
    · rw [if_neg c] at hre ⊢
      rw [hre]
      simp only [spec_Power.j0]
      exact hK k (by omega)
theorem inverse_ev (f a : Int) (hp : md f ≠ 0) (ha : a % md f ≠ 0) : Ev (fun k => spec_Inverse.f k f a) (inv f a) := by
  obtain ⟨K, hK⟩ := power_ev f a (-1) hp (by omega) (by omega)
  rw [powS_inv hp ha] at hK
  refine ⟨K, fun k hk => ?_⟩
  simp only [spec_Inverse.f]
  have := hK k hk
  simp only at this
  rw [this]
  simp only [bs]
theorem copy_f (l : List Int) (hn : l.length ≤ 2000000) (k : Nat) (hk : l.length < k) : spec_l01Copy.f k l = some l := by
  unfold spec_l01Copy.f
  have := append_loop (fun k s i => spec_l01Copy.l0 k l s i) l id 0 [] (by
    intro k s _
    simp only [spec_l01Copy.l0]
    rw [if_neg (by omega)]) (by
    intro k i s h _ hs
    simp only [List.length_nil] at hs
    simp only [spec_l01Copy.l0]
    rw [if_pos (by omega), if_pos (by omega), if_pos (by omega), rd_at l i h, wrap_next h (by omega)]
    rfl) k (by omega)
  simpa using this
theorem cut_f (l : List Int) (hn : l.length ≤ 2000000) (k : Nat) (hk : 2 * l.length + 1 < k) : spec_l03Cut.f k l = some (tr l) := by
  have key : ∀ (n k : Nat), n ≤ l.length → n + l.length + 1 < k → spec_l03Cut.l0 k l (n : Int) = some (l.take (tn l n)) := by
    intro n
    induction n with
    | zero =>
      intro k h hk
      obtain ⟨k, rfl⟩ : ∃ m, k = m + 1 := ⟨k - 1, by omega⟩
      simp only [spec_l03Cut.l0]
      rw [if_neg (by omega), if_pos (by omega), if_pos (by omega), copy_f _ (by simp) _ (by simp; omega)]
      simp only [bs]
      rfl
    | succ n ih =>
      intro k h hk
      obtain ⟨k, rfl⟩ : ∃ m, k = m + 1 := ⟨k - 1, by omega⟩
      have hw : wrap64 (((n + 1 : Nat) : Int) - 1) = (n : Int) := by rw [wrap_id (by omega) (by omega)]; omega
      simp only [spec_l03Cut.l0]
      rw [if_pos (by omega), hw, if_pos (by omega), if_pos (by omega), rd_L]
      by_cases c : L l n = 0
      · rw [if_pos c, ih k (by omega) (by omega)]
        simp only [tn]
        rw [if_pos c]
      · rw [if_neg c, if_pos (by omega), if_pos (by omega), copy_f _ (by simp; omega) _ (by simp; omega)]
        simp only [bs, tn]
        rw [if_neg c, Int.toNat_natCast]
  unfold spec_l03Cut.f tr
  exact key l.length k (by omega) (by omega)
/-- A polynomial over the field. -/
def PolyOk (f : Int) (l : List Int) : Prop := md f ≠ 0 ∧ l.length ≤ 400 ∧ El (md f) l ∧ (l.length ≠ 0 → L l (l.length - 1) ≠ 0)
instance (f : Int) (l : List Int) : Decidable (PolyOk f l) := by unfold PolyOk; exact inferInstance
theorem PolyOk.tr {f : Int} {l : List Int} (h : PolyOk f l) : Tr l := by
  intro j hj
  have := h.2.2.2 (by omega)
  rwa [hj] at this
theorem polyOk_of {f : Int} {l : List Int} (hp : md f ≠ 0) (hl : l.length ≤ 400) (hE : El (md f) l) (ht : Tr l) : PolyOk f l :=
  ⟨hp, hl, hE, fun h => ht (l.length - 1) (by omega)⟩
theorem polyOk_f (f : Int) (l : List Int) (hn : l.length ≤ 2000000) (k : Nat) (hk : l.length < k) : spec_PolyOk.f k f l = some (decide (PolyOk f l)) := by
  unfold spec_PolyOk.f
  by_cases c : (l.length : Int) > 400
  · rw [if_pos c, decide_eq_false (fun h => by have := h.2.1; omega)]
  · rw [if_neg c, elements_f f l hn k hk]
    simp only [bs]
    by_cases d : md f ≠ 0 ∧ El (md f) l
    · rw [if_pos (by simpa using d)]
      by_cases z : (l.length : Int) = 0
      · rw [if_pos z, decide_eq_true ⟨d.1, by omega, d.2, fun h => by omega⟩]
      · have hw : wrap64 ((l.length : Int) - 1) = ((l.length - 1 : Nat) : Int) := by rw [wrap_id (by omega) (by omega)]; omega
        rw [if_neg z, hw, if_pos (by omega), if_pos (by omega), rd_L]
        congr 1
        rw [Bool.eq_iff_iff, bne_iff_ne, decide_eq_true_eq]
        exact ⟨fun h => ⟨d.1, by omega, d.2, fun _ => h⟩, fun h => h.2.2.2 (by omega)⟩
    · rw [if_neg (by simpa using d), decide_eq_false (fun h => d ⟨h.1, h.2.2.1⟩)]
/-- What a division of a by b has come to, n coefficients of the rest to go. -/
structure St (f : Int) (a b : List Int) (n : Nat) (R Q : Nat → Int) : Prop where
  rel : ∀ i, 0 ≤ R i ∧ R i < md f
  qel : ∀ i, 0 ≤ Q i ∧ Q i < md f
  r0 : ∀ i, n ≤ i → R i = 0
  q0 : ∀ i, i + b.length ≤ n → Q i = 0
  qout : ∀ i, a.length ≤ i → Q i = 0
  eq : ∀ m, (cv Q (L b) m + R m) % md f = L a m % md f
/-- A quotient and a rest of a by b. -/
structure Div (f : Int) (a b q r : List Int) : Prop where
  qe : El (md f) q
  re : El (md f) r
  qt : Tr q
  rt : Tr r
  lr : r.length < b.length
  lq : q.length ≤ a.length
  eq : ∀ m, (cv (L q) (L b) m + L r m) % md f = L a m % md f
theorem St.done {f : Int} {a b : List Int} {n : Nat} {R Q : Nat → Int} (h : St f a b n R Q) (hn : n < b.length) (hna : n ≤ a.length) : Div f a b (tr (fl a.length Q)) (tr (fl a.length R)) := by
  have hR : ∀ i, L (tr (fl a.length R)) i = R i := by
    intro i
    rw [L_tr]
    by_cases c : i < a.length
    · rw [L_fl _ _ _ c]
    · rw [L_out _ _ (by rw [fl_length]; omega), h.r0 i (by omega)]
  have hQ : ∀ i, L (tr (fl a.length Q)) i = Q i := by
    intro i
    rw [L_tr]
    by_cases c : i < a.length
    · rw [L_fl _ _ _ c]
    · rw [L_out _ _ (by rw [fl_length]; omega), h.qout i (by omega)]
  have hl : (tr (fl a.length R)).length ≤ n := (tr_Tr _).le (fun i hi => by rw [hR]; exact h.r0 i hi)
  refine ⟨tr_el (fl_el (fun i _ => h.qel i)), tr_el (fl_el (fun i _ => h.rel i)), tr_Tr _, tr_Tr _, by omega, by have := tr_le (fl a.length Q); rwa [fl_length] at this, fun m => ?_⟩
  rw [hR, show L (tr (fl a.length Q)) = Q from funext hQ]
  exact h.eq m
theorem St.next {f : Int} {a b : List Int} {n : Nat} {R Q : Nat → Int} (h : St f a b n R Q) (hp : md f ≠ 0) (hb : 1 ≤ b.length) (hn : b.length ≤ n) (hna : n ≤ a.length) (hl : L b (b.length - 1) % md f ≠ 0) (m : Int) (hm : m = (R (n - 1) * inv f (L b (b.length - 1))) % md f) :
    St f a b (n - 1) (fun i => if n - b.length ≤ i ∧ i < n then (R i - m * L b (i - (n - b.length))) % md f else R i) (fun t => if t = n - b.length then m else Q t) := by
  have hq := md_pos hp
  have hm2 := emod_range (R (n - 1) * inv f (L b (b.length - 1))) (show 0 < md f by omega)
  rw [← hm] at hm2
  refine ⟨fun i => ?_, fun i => ?_, fun i hi => ?_, fun i hi => ?_, fun i hi => ?_, fun i => ?_⟩
  · show 0 ≤ (if n - b.length ≤ i ∧ i < n then (R i - m * L b (i - (n - b.length))) % md f else R i) ∧ (if n - b.length ≤ i ∧ i < n then (R i - m * L b (i - (n - b.length))) % md f else R i) < md f
    split
    · exact emod_range _ (by omega)
    · exact h.rel i
  · show 0 ≤ (if i = n - b.length then m else Q i) ∧ (if i = n - b.length then m else Q i) < md f
    split
    · exact hm2
    · exact h.qel i
  · show (if n - b.length ≤ i ∧ i < n then (R i - m * L b (i - (n - b.length))) % md f else R i) = 0
    by_cases c : i = n - 1
    · subst c
      rw [if_pos ⟨by omega, by omega⟩, show n - 1 - (n - b.length) = b.length - 1 by omega]
      have hi := mul_inv hp hl
      have e : (m * L b (b.length - 1)) % md f = R (n - 1) % md f := by
        rw [hm, Int.mul_emod, Int.emod_emod_of_dvd _ (Int.dvd_refl (md f)), ← Int.mul_emod, Int.mul_assoc, Int.mul_emod, Int.mul_comm (inv f _), hi, Int.mul_one, Int.emod_emod_of_dvd _ (Int.dvd_refl (md f))]
      exact Int.emod_eq_emod_iff_emod_sub_eq_zero.1 e.symm
    · rw [if_neg (by omega)]
      exact h.r0 i (by omega)
  · show (if i = n - b.length then m else Q i) = 0
    rw [if_neg (by omega)]
    exact h.q0 i (by omega)
  · show (if i = n - b.length then m else Q i) = 0
    rw [if_neg (by omega)]
    exact h.qout i hi
  · show (cv (fun t => if t = n - b.length then m else Q t) (L b) i + (if n - b.length ≤ i ∧ i < n then (R i - m * L b (i - (n - b.length))) % md f else R i)) % md f = L a i % md f
    rw [cv_put _ _ _ _ (h.q0 _ (by omega)), ← h.eq i]
    by_cases c : n - b.length ≤ i
    · rw [if_pos c]
      by_cases d : i < n
      · rw [if_pos ⟨c, d⟩, Int.add_emod_emod]
        congr 1
        omega
      · rw [if_neg (by omega), L_out b _ (by omega)]
        simp
    · rw [if_neg c, if_neg (by omega), Int.add_zero]
theorem div_inner (f : Int) (a b : List Int) (hp : md f ≠ 0) (hEb : El (md f) b) (n : Nat) (hn : b.length ≤ n) (hna : n ≤ a.length) (ha : a.length ≤ 1000000) (q : List Int) (i : Int) (m : Int) (R : Nat → Int) (res : List Int × List Int)
    (hr : Ev (fun k => spec_l03DivMod.l1 k f b (fl a.length (fun i => if n - b.length ≤ i ∧ i < n then (R i - m * L b (i - (n - b.length))) % md f else R i)) q i ((n - 1 : Nat) : Int)) res) (hb : 1 ≤ b.length) :
    ∀ d j : Nat, j + d = b.length → Ev (fun k => spec_l03DivMod.l2 k f b (fl a.length (fun i => if n - b.length ≤ i ∧ i < n - b.length + j then (R i - m * L b (i - (n - b.length))) % md f else R i)) q i (n : Int) m (j : Int)) res := by
  intro d
  induction d with
  | zero =>
    intro j hj
    refine Ev.step (f := fun k => spec_l03DivMod.l1 k f b (fl a.length (fun i => if n - b.length ≤ i ∧ i < n then (R i - m * L b (i - (n - b.length))) % md f else R i)) q i ((n - 1 : Nat) : Int)) (fun k => ?_) hr
    simp only [spec_l03DivMod.l2]
    rw [if_neg (by omega), wrap_id (x := (n : Int) - 1) (by omega) (by omega), show n - b.length + j = n by omega, show (n : Int) - 1 = ((n - 1 : Nat) : Int) by omega]
  | succ d ih =>
    intro j hj
    refine Ev.step (f := fun k => spec_l03DivMod.l2 k f b (fl a.length (fun i => if n - b.length ≤ i ∧ i < n - b.length + (j + 1) then (R i - m * L b (i - (n - b.length))) % md f else R i)) q i (n : Int) m ((j + 1 : Nat) : Int)) (fun k => ?_) (ih (j + 1) (by omega))
    have hw : wrap64 (wrap64 ((n : Int) - (b.length : Int)) + (j : Int)) = ((n - b.length + j : Nat) : Int) := by
      rw [wrap_id (x := (n : Int) - (b.length : Int)) (by omega) (by omega), wrap_id (by omega) (by omega)]
      omega
    simp only [spec_l03DivMod.l2]
    rw [if_pos (by omega), hw, if_pos (by omega), if_pos (by rw [fl_length]; omega), if_pos (by omega), mul_f f _ _ hp]
    simp only [bs]
    rw [sub_f f _ _ hp]
    simp only [bs]
    rw [rd_L, rd_L, L_fl _ _ _ (by omega), wrap_id (x := (j : Int) + 1) (by omega) (by omega), cast_succ, fl_set, if_neg (by omega), Int.sub_emod_emod, Int.toNat_natCast]
    have e : fl a.length (fun i => if i = n - b.length + j then (R (n - b.length + j) - m * L b j) % md f else if n - b.length ≤ i ∧ i < n - b.length + j then (R i - m * L b (i - (n - b.length))) % md f else R i)
        = fl a.length (fun i => if n - b.length ≤ i ∧ i < n - b.length + (j + 1) then (R i - m * L b (i - (n - b.length))) % md f else R i) := by
      apply fl_congr
      intro i _
      by_cases c : i = n - b.length + j
      · subst c
        rw [if_pos rfl, if_pos ⟨by omega, by omega⟩, show n - b.length + j - (n - b.length) = j by omega]
      · rw [if_neg c]
        by_cases c2 : n - b.length ≤ i ∧ i < n - b.length + j
        · rw [if_pos c2, if_pos ⟨by omega, by omega⟩]
        · rw [if_neg c2, if_neg (show ¬ (n - b.length ≤ i ∧ i < n - b.length + (j + 1)) by omega)]
    rw [e]
theorem div_outer (f : Int) (a b : List Int) (hp : md f ≠ 0) (hb : 1 ≤ b.length) (hEb : El (md f) b) (hl : L b (b.length - 1) % md f ≠ 0) (ha : a.length ≤ 1000000) :
    ∀ d n : Nat, n ≤ b.length - 1 + d → n ≤ a.length → ∀ R Q : Nat → Int, St f a b n R Q → ∃ q r, Div f a b q r ∧ Ev (fun k => spec_l03DivMod.l1 k f b (fl a.length R) (fl a.length Q) (inv f (L b (b.length - 1))) (n : Int)) (q, r) := by
  intro d
  induction d with
  | zero =>
    intro n hn hna R Q h
    refine ⟨_, _, h.done (by omega) hna, 2 * a.length + 5, fun k hk => ?_⟩
    obtain ⟨k, rfl⟩ : ∃ m, k = m + 1 := ⟨k - 1, by omega⟩
    simp only [spec_l03DivMod.l1]
    rw [if_neg (by omega), cut_f _ (by rw [fl_length]; omega) k (by rw [fl_length]; omega)]
    simp only [bs]
    rw [cut_f _ (by rw [fl_length]; omega) k (by rw [fl_length]; omega)]
    simp only [bs]
  | succ d ih =>
    intro n hn hna R Q h
    by_cases c : n ≤ b.length - 1 + d
    · exact ih n c hna R Q h
    · have hnext := h.next hp hb (by omega) hna hl _ rfl
      obtain ⟨q, r, hd, hev⟩ := ih (n - 1) (by omega) (by omega) _ _ hnext
      refine ⟨q, r, hd, ?_⟩
      have hin := div_inner f a b hp hEb n (by omega) hna ha _ _ _ R (q, r) hev hb b.length 0 (by omega)
      have hw : wrap64 ((n : Int) - 1) = ((n - 1 : Nat) : Int) := by rw [wrap_id (by omega) (by omega)]; omega
      have hw2 : wrap64 ((n : Int) - (b.length : Int)) = ((n - b.length : Nat) : Int) := by rw [wrap_id (by omega) (by omega)]; omega
      refine Ev.step (fun k => ?_) hin
      simp only [spec_l03DivMod.l1]
      rw [if_pos (by omega), hw, if_pos (by omega), if_pos (by rw [fl_length]; omega), mul_f f _ _ hp]
      simp only [bs]
      rw [hw2, if_pos (by omega), if_pos (by rw [fl_length]; omega), rd_L, L_fl _ _ _ (by omega), fl_set, Int.toNat_natCast]
      have e : fl a.length (fun i => if n - b.length ≤ i ∧ i < n - b.length + 0 then (R i - (R (n - 1) * inv f (L b (b.length - 1))) % md f * L b (i - (n - b.length))) % md f else R i) = fl a.length R := fl_congr (fun i _ => by rw [if_neg (by omega)])
      rw [e]
      rfl
theorem l03DivMod_ev (f : Int) (a b : List Int) (hp : md f ≠ 0) (hb : 1 ≤ b.length) (hEa : El (md f) a) (hEb : El (md f) b) (hTb : Tr b) (ha : a.length ≤ 1000000) (hbl : b.length ≤ 1000000) : ∃ q r, Div f a b q r ∧ Ev (fun k => spec_l03DivMod.f k f a b) (q, r) := by
  have hq := md_pos hp
  have hlast : L b (b.length - 1) % md f ≠ 0 := by
    have h1 := hTb (b.length - 1) (by omega)
    have h2 := L_el (show 0 < md f by omega) hEb (b.length - 1)
    rw [Int.emod_eq_of_lt h2.1 h2.2]
    exact h1
  have hst : St f a b a.length (L a) (fun _ => 0) := ⟨fun i => L_el (by omega) hEa i, fun i => ⟨by omega, by omega⟩, fun i hi => L_out a i hi, fun _ _ => rfl, fun _ _ => rfl, fun m => by
    unfold cv
    rw [sumN_zero (fun i _ => by simp)]
    simp⟩
  obtain ⟨q, r, hd, hev⟩ := div_outer f a b hp hb hEb hlast ha a.length a.length (by omega) (by omega) _ _ hst
  refine ⟨q, r, hd, ?_⟩
  have hinv := inverse_ev f (L b (b.length - 1)) hp hlast
  have zeros : ∀ d i : Nat, i + d = a.length → Ev (fun k => spec_l03DivMod.l0 k f a b a (fl i (fun _ => 0)) (i : Int)) (q, r) := by
    intro d
    induction d with
    | zero =>
      intro i hi
      obtain rfl : i = a.length := by omega
      have hw : wrap64 ((b.length : Int) - 1) = ((b.length - 1 : Nat) : Int) := by rw [wrap_id (by omega) (by omega)]; omega
      refine Ev.step (f := fun k => (spec_Inverse.f k f (L b (b.length - 1))).bind fun t151 => spec_l03DivMod.l1 k f b a (fl a.length (fun _ => 0)) t151 (a.length : Int)) (fun k => ?_) ?_
      · simp only [spec_l03DivMod.l0]
        rw [if_neg (by omega), hw, if_pos (by omega), if_pos (by omega), rd_L]
      · rw [fl_L] at hev
        exact Ev.bind hinv hev
    | succ d ih =>
      intro i hi
      refine Ev.step (f := fun k => spec_l03DivMod.l0 k f a b a (fl (i + 1) (fun _ => 0)) ((i + 1 : Nat) : Int)) (fun k => ?_) (ih (i + 1) (by omega))
      simp only [spec_l03DivMod.l0]
      rw [if_pos (by omega), if_pos (by rw [fl_length]; omega), wrap_next (show i < a.length by omega) (by omega), ← fl_snoc]
  obtain ⟨K, hK⟩ := zeros a.length 0 (by omega)
  refine ⟨K + a.length + 1, fun k hk => ?_⟩
  simp only [spec_l03DivMod.f]
  rw [copy_f a (by omega) k (by omega)]
  simp only [bs]
  exact hK k (by omega)
theorem trimmed_ev (l : List Int) (hn : l.length ≤ 2000000) : Ev (fun k => impl_trimmed.f k l) (tr l) := by
  have key : ∀ n : Nat, n ≤ l.length → Ev (fun k => impl_trimmed.l0 k (l.take n)) (l.take (tn l n)) := by
    intro n
    induction n with
    | zero =>
      intro _
      refine Ev.step (f := fun _ => some []) (fun k => ?_) (Ev.now _)
      simp only [impl_trimmed.l0]
      rw [if_neg (by simp)]
      rfl
    | succ n ih =>
      intro h
      have hlen : (l.take (n + 1)).length = n + 1 := by rw [List.length_take]; omega
      have hw : wrap64 (((n + 1 : Nat) : Int) - 1) = (n : Int) := by rw [wrap_id (by omega) (by omega)]; omega
      have hL : L (l.take (n + 1)) n = L l n := by rw [L_take, if_pos (by omega)]
      by_cases c : L l n = 0
      · refine Ev.step (f := fun k => impl_trimmed.l0 k (l.take n)) (fun k => ?_) ?_
        · simp only [impl_trimmed.l0]
          rw [hlen, if_pos (by omega), hw, if_pos (by omega), if_pos (by omega), rd_L, hL, if_pos c, if_pos (by omega), Int.toNat_natCast, List.take_take, show min n (n + 1) = n by omega]
        · simp only [tn]
          rw [if_pos c]
          exact ih (by omega)
      · refine Ev.step (f := fun _ => some (l.take (n + 1))) (fun k => ?_) ?_
        · simp only [impl_trimmed.l0]
          rw [hlen, if_pos (by omega), hw, if_pos (by omega), if_pos (by omega), rd_L, hL, if_neg c]
        · simp only [tn]
          rw [if_neg c]
          exact Ev.now _
  have h := key l.length (Nat.le_refl _)
  rw [List.take_length] at h
  exact h
theorem coefficient_f (l : List Int) (i : Nat) : impl_coefficient.f l (i : Int) = some (L l i) := by
  unfold impl_coefficient.f
  by_cases c : (i : Int) ≥ (l.length : Int)
  · rw [if_pos c, L_out l i (by omega)]
  · rw [if_neg c, if_pos (by omega), if_pos (by omega), rd_L]
theorem fadd_f (p g t x y : Int) (hp : 0 < p) (hp2 : p ≤ 1004535809) (hx : 0 ≤ x ∧ x < p) (hy : 0 ≤ y ∧ y < p) : impl_field_add.f p g t x y = some ((x + y) % p) := by
  unfold impl_field_add.f
  rw [if_neg (by omega), wrap_id (by omega) (by omega), tmod_nonneg' _ (by omega)]
theorem addPoly_ev (p g t : Int) (hp : 0 < p) (hp2 : p ≤ 1004535809) (a b : List Int) (hEa : El p a) (hEb : El p b) (ha : a.length ≤ 1000000) (hb : b.length ≤ 1000000) : Ev (fun k => impl_field_addPoly.f k p g t a b) (addP p a b) := by
  have hmx : mx (a.length : Int) (b.length : Int) = ((max a.length b.length : Nat) : Int) := by unfold mx; split <;> omega
  have key : ∀ d i : Nat, i + d = max a.length b.length → Ev (fun k => impl_field_addPoly.l0 k a b (fl i (fun m => (L a m + L b m) % p)) ((max a.length b.length : Nat) : Int) (i : Int) p g t) (addP p a b) := by
    intro d
    induction d with
    | zero =>
      intro i hi
      obtain rfl : i = max a.length b.length := by omega
      have ht := trimmed_ev (fl (max a.length b.length) (fun m => (L a m + L b m) % p)) (by rw [fl_length]; omega)
      refine Ev.step (f := fun k => (impl_trimmed.f k (fl (max a.length b.length) (fun m => (L a m + L b m) % p))).bind fun t220 => some t220) (fun k => ?_) (Ev.bind ht (Ev.now _))
      simp only [impl_field_addPoly.l0]
      rw [if_neg (by omega)]
    | succ d ih =>
      intro i hi
      have h1 := ih (i + 1) (by omega)
      rw [← fl_snoc] at h1
      refine Ev.step (fun k => ?_) h1
      simp only [impl_field_addPoly.l0]
      rw [if_pos (by omega), coefficient_f, coefficient_f]
      simp only [bs]
      rw [fadd_f p g t _ _ hp hp2 (L_el hp hEa i) (L_el hp hEb i)]
      simp only [bs]
      rw [if_pos (by rw [fl_length]; omega), wrap_id (x := (i : Int) + 1) (by omega) (by omega)]
      rfl
  have h := key (max a.length b.length) 0 (by omega)
  unfold impl_field_addPoly.f
  rw [hmx]
  exact h
/-- The program's product of two polynomials, by rounds. -/
def ip (p : Int) (a b : List Int) (i j m : Nat) : Int := (sumN (if i ≤ m ∧ m < i + j then i + 1 else if m < i then m + 1 else i) (fun t => L a t * L b (m - t))) % p
theorem mul_inner (p g t : Int) (hp : 0 < p) (hp2 : p ≤ 1004535809) (a b : List Int) (hEa : El p a) (hEb : El p b) (ha : a.length ≤ 1000000) (hb : b.length ≤ 1000000) (i : Nat) (hi : i < a.length) (hb1 : 1 ≤ b.length) (r : List Int)
    (hr : Ev (fun k => impl_field_mulPoly.l0 k b (fl (a.length + b.length - 1) (ip p a b (i + 1) 0)) a (a.length : Int) ((i + 1 : Nat) : Int) p g t) r) :
    ∀ d j : Nat, j + d = b.length → Ev (fun k => impl_field_mulPoly.l1 k b (fl (a.length + b.length - 1) (ip p a b i j)) (i : Int) (L a i) a (a.length : Int) (i : Int) b (b.length : Int) (j : Int) p g t) r := by
  intro d
  induction d with
  | zero =>
    intro j hj
    refine Ev.step (f := fun k => impl_field_mulPoly.l0 k b (fl (a.length + b.length - 1) (ip p a b (i + 1) 0)) a (a.length : Int) ((i + 1 : Nat) : Int) p g t) (fun k => ?_) hr
    simp only [impl_field_mulPoly.l1]
    rw [if_neg (by omega), wrap_next hi (by omega)]
    have e : fl (a.length + b.length - 1) (ip p a b i j) = fl (a.length + b.length - 1) (ip p a b (i + 1) 0) := by
      apply fl_congr
      intro m hm
      unfold ip
      by_cases c : i ≤ m
      · by_cases c3 : m < i + j
        · by_cases c2 : m = i
          · subst c2
            rw [if_pos ⟨by omega, by omega⟩, if_neg (by omega), if_pos (by omega)]
          · rw [if_pos ⟨by omega, by omega⟩, if_neg (by omega), if_neg (by omega)]
        · rw [if_neg (by omega), if_neg (by omega), if_neg (by omega), if_neg (by omega)]
          simp only [sumN]
          rw [L_out b (m - i) (by omega)]
          simp
      · rw [if_neg (by omega), if_pos (by omega), if_neg (by omega), if_pos (by omega)]
    rw [e]
  | succ d ih =>
    intro j hj
    refine Ev.step (f := fun k => impl_field_mulPoly.l1 k b (fl (a.length + b.length - 1) (ip p a b i (j + 1))) (i : Int) (L a i) a (a.length : Int) (i : Int) b (b.length : Int) ((j + 1 : Nat) : Int) p g t) (fun k => ?_) (ih (j + 1) (by omega))
    have hw : wrap64 ((i : Int) + (j : Int)) = ((i + j : Nat) : Int) := by rw [wrap_id (by omega) (by omega)]; rfl
    have h1 := L_el hp hEa i
    have h2 := L_el hp hEb j
    have hm := prod_range hp2 h1 h2
    have hs := emod_range (sumN (if i ≤ i + j ∧ i + j < i + j then i + 1 else if i + j < i then i + j + 1 else i) (fun t => L a t * L b (i + j - t))) hp
    simp only [impl_field_mulPoly.l1]
    rw [if_pos (by omega), if_pos (by omega), if_pos (by omega), hw, if_pos (by omega), if_pos (by rw [fl_length]; omega), if_neg (by omega), rd_L, rd_L, L_fl _ _ _ (by omega)]
    rw [wrap_id (x := L a i * L b j) (by omega) (by omega)]
    unfold ip at hs ⊢
    rw [wrap_id (by omega) (by omega), tmod_nonneg' _ (by omega), Int.emod_add_emod, wrap_next (show j < b.length by omega) (by omega), fl_set]
    have e : fl (a.length + b.length - 1) (fun m => if m = ((i + j : Nat) : Int).toNat then (sumN (if i ≤ i + j ∧ i + j < i + j then i + 1 else if i + j < i then i + j + 1 else i) (fun t => L a t * L b (i + j - t)) + L a i * L b j) % p
        else (sumN (if i ≤ m ∧ m < i + j then i + 1 else if m < i then m + 1 else i) (fun t => L a t * L b (m - t))) % p)
        = fl (a.length + b.length - 1) (fun m => (sumN (if i ≤ m ∧ m < i + (j + 1) then i + 1 else if m < i then m + 1 else i) (fun t => L a t * L b (m - t))) % p) := by
      apply fl_congr
      intro m hm
      by_cases c : m = i + j
      · subst c
        rw [if_pos (by omega), if_neg (by omega), if_neg (by omega), if_pos ⟨by omega, by omega⟩]
        simp only [sumN]
        rw [show i + j - i = j by omega]
      · rw [if_neg (by omega)]
        by_cases c2 : i ≤ m ∧ m < i + j
        · rw [if_pos c2, if_pos ⟨by omega, by omega⟩]
        · rw [if_neg c2, if_neg (show ¬ (i ≤ m ∧ m < i + (j + 1)) by omega)]
    rw [e]
theorem mul_outer (p g t : Int) (hp : 0 < p) (hp2 : p ≤ 1004535809) (a b : List Int) (hEa : El p a) (hEb : El p b) (ha : a.length ≤ 1000000) (hb : b.length ≤ 1000000) (ha1 : 1 ≤ a.length) (hb1 : 1 ≤ b.length) :
    ∀ d i : Nat, i + d = a.length → Ev (fun k => impl_field_mulPoly.l0 k b (fl (a.length + b.length - 1) (ip p a b i 0)) a (a.length : Int) (i : Int) p g t) (mulP p a b) := by
  intro d
  induction d with
  | zero =>
    intro i hi
    obtain rfl : i = a.length := by omega
    have e : fl (a.length + b.length - 1) (ip p a b a.length 0) = fl (a.length + b.length - 1) (fun m => cv (L a) (L b) m % p) := by
      apply fl_congr
      intro m hm
      unfold ip cv
      rw [if_neg (by omega)]
      by_cases c : m < a.length
      · rw [if_pos c]
      · rw [if_neg c]
        congr 1
        have : ∀ e : Nat, sumN (a.length + e) (fun t => L a t * L b (m - t)) = sumN a.length (fun t => L a t * L b (m - t)) := by
          intro e
          induction e with
          | zero => rfl
          | succ e ih =>
            rw [show a.length + (e + 1) = a.length + e + 1 by omega]
            simp only [sumN]
            rw [ih, L_out a (a.length + e) (by omega)]
            simp
        rw [show m + 1 = a.length + (m + 1 - a.length) by omega, this]
    have ht := trimmed_ev (fl (a.length + b.length - 1) (fun m => cv (L a) (L b) m % p)) (by rw [fl_length]; omega)
    rw [e]
    unfold mulP
    rw [if_neg (by omega)]
    refine Ev.step (f := fun k => (impl_trimmed.f k (fl (a.length + b.length - 1) (fun m => cv (L a) (L b) m % p))).bind fun t227 => some t227) (fun k => ?_) (Ev.bind ht (Ev.now _))
    simp only [impl_field_mulPoly.l0]
    rw [if_neg (by omega)]
  | succ d ih =>
    intro i hi
    refine Ev.step (fun k => ?_) (mul_inner p g t hp hp2 a b hEa hEb ha hb i (by omega) hb1 _ (ih (i + 1) (by omega)) b.length 0 (by omega))
    simp only [impl_field_mulPoly.l0]
    rw [if_pos (by omega), if_pos (by omega), if_pos (by omega), rd_L]
    rfl
theorem mulPoly_ev (p g t : Int) (hp : 0 < p) (hp2 : p ≤ 1004535809) (a b : List Int) (hEa : El p a) (hEb : El p b) (ha : a.length ≤ 1000000) (hb : b.length ≤ 1000000) : Ev (fun k => impl_field_mulPoly.f k p g t a b) (mulP p a b) := by
  by_cases z : a.length = 0 ∨ b.length = 0
  · have e : mulP p a b = [] := by unfold mulP; rw [if_pos z]
    rw [e]
    refine ⟨1, fun k hk => ?_⟩
    obtain ⟨k, rfl⟩ : ∃ m, k = m + 1 := ⟨k - 1, by omega⟩
    simp only [impl_field_mulPoly.f]
    by_cases z1 : a.length = 0
    · rw [if_pos (by omega)]
      simp only [impl_field_mulPoly.j0, if_true]
    · rw [if_neg (by omega)]
      simp only [impl_field_mulPoly.j0]
      rw [if_pos (beq_iff_eq.mpr (by omega))]
  · obtain ⟨K, hK⟩ := mul_outer p g t hp hp2 a b hEa hEb ha hb (by omega) (by omega) a.length 0 (by omega)
    refine ⟨K + 1, fun k hk => ?_⟩
    obtain ⟨k, rfl⟩ : ∃ m, k = m + 1 := ⟨k - 1, by omega⟩
    have hw : wrap64 (wrap64 ((a.length : Int) + (b.length : Int)) - 1) = ((a.length + b.length - 1 : Nat) : Int) := by
      rw [wrap_id (x := (a.length : Int) + (b.length : Int)) (by omega) (by omega), wrap_id (by omega) (by omega)]
      omega
    simp only [impl_field_mulPoly.f]
    rw [if_neg (by omega)]
    simp only [impl_field_mulPoly.j0]
    rw [if_neg (fun h => by have := beq_iff_eq.mp h; omega), hw, if_pos (by omega), if_pos (by omega), Int.toNat_natCast, fl_zero]
    have e : fl (a.length + b.length - 1) (fun _ => 0) = fl (a.length + b.length - 1) (ip p a b 0 0) := by
      apply fl_congr
      intro m _
      unfold ip
      rw [if_neg (by omega), if_neg (by omega)]
      simp [sumN]
    rw [e]
    exact hK k (by omega)
/-- What a list must be for a polynomial, the field given. -/
def Lok (p : Int) (l : List Int) : Prop := l.length ≤ 400 ∧ El p l ∧ (l.length ≠ 0 → L l (l.length - 1) ≠ 0)
instance (p : Int) (l : List Int) : Decidable (Lok p l) := by unfold Lok; exact inferInstance
theorem rdLL_at (ls : List (List Int)) (i : Nat) (h : i < ls.length) : rd_L2 ls (i : Int) = ls[i] := by simp [rd_L2, List.getD, h]
def AllLok (p : Int) (ls : List (List Int)) : Prop := ∀ l ∈ ls, Lok p l
instance (p : Int) (ls : List (List Int)) : Decidable (AllLok p ls) := List.decidableBAll _ _
theorem AllLok.nil (p : Int) : AllLok p [] := fun l hl => by cases hl
theorem AllLok.cons {p : Int} {l : List Int} {ls : List (List Int)} (h : Lok p l) (hs : AllLok p ls) : AllLok p (l :: ls) := fun x hx => by
  rcases List.mem_cons.1 hx with rfl | hx
  · exact h
  · exact hs x hx
theorem polyField_f (f : Int) (ls : List (List Int)) (hls : ls.length ≤ 100) (K : Nat) (hK : ∀ l ∈ ls, l.length < K) (hK2 : K ≤ 2000000) (k : Nat) (hk : ls.length + K < k) :
    impl_polyField.f k f ls = some (if md f ≠ 0 ∧ AllLok (md f) ls then (md f, gn f, tw f, true) else (0, 0, 0, false)) := by
  unfold impl_polyField.f
  rw [fieldOf_f]
  simp only [bs]
  by_cases hp : md f = 0
  · rw [if_neg (by simpa using hp), if_neg (fun h => h.1 hp)]
  · rw [if_pos (by simpa using hp)]
    have key := loop_list (fun k (_ : Unit) i => impl_polyField.l0 k ls (ls.length : Int) i (md f) (gn f) (tw f)) ls K (fun _ _ => True) (fun r _ => if AllLok (md f) r then (md f, gn f, tw f, true) else (0, 0, 0, false)) (by
      intro k s _ _
      simp only [impl_polyField.l0]
      rw [if_neg (by omega), if_pos (AllLok.nil _)]) (by
      intro k i s h hKk _
      have hlen := hK ls[i] (List.getElem_mem h)
      simp only [impl_polyField.l0]
      rw [if_pos (by omega), if_pos (by omega), if_pos (by omega), rdLL_at ls i h]
      generalize ls[i] = l at hlen
      have no : ∀ hh : ¬ Lok (md f) l, (if AllLok (md f) (l :: ls.drop (i + 1)) then (md f, gn f, tw f, true) else (0, 0, 0, false)) = (0, 0, 0, false) := fun hh => if_neg (fun h => hh (h l List.mem_cons_self))
      have yes : ∀ hh : Lok (md f) l, (if AllLok (md f) (l :: ls.drop (i + 1)) then (md f, gn f, tw f, true) else (0, 0, 0, false)) = (if AllLok (md f) (ls.drop (i + 1)) then (md f, gn f, tw f, true) else (0, 0, 0, false)) := by
        intro hh
        by_cases c : AllLok (md f) (ls.drop (i + 1))
        · rw [if_pos c, if_pos (AllLok.cons hh c)]
        · rw [if_neg c, if_neg (fun h => c (fun x hx => h x (List.mem_cons_of_mem _ hx)))]
      by_cases c1 : (l.length : Int) > 400
      · right
        rw [if_pos c1, no (fun h => by have := h.1; omega)]
      · rw [if_neg c1, areElements_f _ _ _ l (by omega) k (by omega)]
        simp only [bs]
        by_cases c2 : El (md f) l
        · rw [if_pos (by simpa using c2)]
          by_cases c3 : (l.length : Int) > 0
          · have hw : wrap64 ((l.length : Int) - 1) = ((l.length - 1 : Nat) : Int) := by rw [wrap_id (by omega) (by omega)]; omega
            rw [if_pos c3, hw, if_pos (by omega), if_pos (by omega), rd_L]
            by_cases c4 : L l (l.length - 1) = 0
            · right
              rw [if_pos c4, no (fun h => h.2.2 (by omega) c4)]
            · left
              refine ⟨(), ?_, trivial, yes ⟨by omega, c2, fun _ => c4⟩⟩
              rw [if_neg c4, wrap_next h (by omega)]
          · left
            refine ⟨(), ?_, trivial, yes ⟨by omega, c2, fun h => by omega⟩⟩
            rw [if_neg c3, wrap_next h (by omega)]
        · right
          rw [if_neg (by simpa using c2), no (fun h => c2 h.2.1)]) k () (by omega) trivial
    rw [key]
    congr 1
    by_cases c : AllLok (md f) ls
    · rw [if_pos c, if_pos ⟨hp, c⟩]
    · rw [if_neg c, if_neg (fun h => c h.2)]
theorem sameInts_f (a b : List Int) (hn : a.length ≤ 2000000) (k : Nat) (hk : a.length < k) : spec_l16SameInts.f k a b = some (decide (a = b)) := by
  unfold spec_l16SameInts.f
  by_cases c : (a.length : Int) = (b.length : Int)
  · rw [if_pos c]
    have key : ∀ (d k i : Nat), i + d = a.length → d < k → spec_l16SameInts.l0 k a b (i : Int) = some (decide (a.drop i = b.drop i)) := by
      intro d
      induction d with
      | zero =>
        intro k i hi hk
        obtain ⟨k, rfl⟩ : ∃ m, k = m + 1 := ⟨k - 1, by omega⟩
        simp only [spec_l16SameInts.l0]
        rw [if_neg (by omega), List.drop_eq_nil_of_le (by omega), List.drop_eq_nil_of_le (by omega)]
        rfl
      | succ d ih =>
        intro k i hi hk
        obtain ⟨k, rfl⟩ : ∃ m, k = m + 1 := ⟨k - 1, by omega⟩
        simp only [spec_l16SameInts.l0]
        rw [if_pos (by omega), if_pos (by omega), if_pos (by omega), rd_at a i (by omega), rd_at b i (by omega), drop_cons a i (by omega), drop_cons b i (by omega)]
        by_cases e : a[i] = b[i]
        · rw [if_pos e, wrap_next (show i < a.length by omega) (by omega), ih k (i + 1) (by omega) (by omega)]
          congr 1
          exact decide_eq_decide.mpr ⟨fun h => by rw [e, h], fun h => (List.cons.inj h).2⟩
        · rw [if_neg e, decide_eq_false (fun h => e (List.cons.inj h).1)]
    have := key a.length k 0 (by omega) hk
    simpa using this
  · rw [if_neg c, decide_eq_false (fun h => c (by rw [h]))]
/-- What both answer. -/
def CD (f : Int) (a b q r : List Int) : Prop := PolyOk f a ∧ PolyOk f b ∧ PolyOk f q ∧ PolyOk f r ∧ b.length ≠ 0 ∧ r.length < b.length ∧ a = addP (md f) (mulP (md f) b q) r
instance (f : Int) (a b q r : List Int) : Decidable (CD f a b q r) := by unfold CD; exact inferInstance
theorem only_one {f : Int} {a b q r x y : List Int} (ha : PolyOk f a) (hb : PolyOk f b) (hq : PolyOk f q) (hr : PolyOk f r) (h0 : b.length ≠ 0) (hd : Div f a b x y) :
    (x = q ∧ y = r) ↔ (r.length < b.length ∧ a = addP (md f) (mulP (md f) b q) r) := by
  have hm := md_pos ha.1
  have eqn : ∀ i, L (addP (md f) (mulP (md f) b q) r) i = (cv (L q) (L b) i + L r i) % md f := by
    intro i
    rw [L_addP, L_mulP, cv_comm (L b) (L q), Int.emod_add_emod]
  constructor
  · rintro ⟨rfl, rfl⟩
    refine ⟨hd.lr, ha.tr.ext (addP_Tr _ _ _) (fun i => ?_)⟩
    rw [eqn, hd.eq i]
    have := L_el (show 0 < md f by omega) ha.2.2.1 i
    rw [Int.emod_eq_of_lt this.1 this.2]
  · rintro ⟨hlr, hae⟩
    exact div_unique ha.1 (by omega) hb.2.2.1 hb.tr hd.qe hd.re hq.2.2.1 hr.2.2.1 hd.qt hd.rt hq.tr hr.tr hd.lr hlr (fun m => by
      rw [hd.eq m, hae, eqn, Int.emod_emod_of_dvd _ (Int.dvd_refl _)])
theorem spec_ev (f : Int) (a b q r : List Int) (ha : a.length ≤ 1048576) (hb : b.length ≤ 1048576) (hq : q.length ≤ 1048576) (hr : r.length ≤ 1048576) : Ev (fun k => spec_CheckDivision.f k f a b q r) (decide (CD f a b q r)) := by
  by_cases c : PolyOk f a ∧ PolyOk f b ∧ PolyOk f q ∧ PolyOk f r
  · obtain ⟨pa, pb, pq, pr⟩ := c
    by_cases z : b.length = 0
    · refine ⟨1048580, fun k hk => ?_⟩
      obtain ⟨k, rfl⟩ : ∃ m, k = m + 1 := ⟨k - 1, by omega⟩
      simp only [spec_CheckDivision.f]
      simp only [polyOk_f f a (by omega) (k + 1) (by omega), polyOk_f f b (by omega) (k + 1) (by omega), polyOk_f f q (by omega) (k + 1) (by omega), polyOk_f f r (by omega) (k + 1) (by omega), bs, decide_eq_true pa, decide_eq_true pb, decide_eq_true pq, decide_eq_true pr, if_true, Bool.not_true]
      simp only [spec_CheckDivision.j0]
      rw [if_neg (by decide)]
      simp only [spec_DivMod.f]
      simp only [polyOk_f f a (by omega) k (by omega), polyOk_f f b (by omega) k (by omega), bs, decide_eq_true pa, decide_eq_true pb, if_true]
      rw [if_pos (by omega)]
      simp only [bs]
      rw [if_neg (by decide), decide_eq_false (fun h => h.2.2.2.2.1 z)]
    · obtain ⟨x, y, hd, K, hK⟩ := l03DivMod_ev f a b pa.1 (by omega) pa.2.2.1 pb.2.2.1 pb.tr (by have := pa.2.1; omega) (by have := pb.2.1; omega)
      refine ⟨K + 1048580, fun k hk => ?_⟩
      obtain ⟨k, rfl⟩ : ∃ m, k = m + 1 := ⟨k - 1, by omega⟩
      have e := hK k (by omega)
      simp only at e
      have lx := hd.lq
      have ly := hd.lr
      simp only [spec_CheckDivision.f]
      simp only [polyOk_f f a (by omega) (k + 1) (by omega), polyOk_f f b (by omega) (k + 1) (by omega), polyOk_f f q (by omega) (k + 1) (by omega), polyOk_f f r (by omega) (k + 1) (by omega), bs, decide_eq_true pa, decide_eq_true pb, decide_eq_true pq, decide_eq_true pr, if_true, Bool.not_true]
      simp only [spec_CheckDivision.j0]
      rw [if_neg (by decide)]
      simp only [spec_DivMod.f]
      simp only [polyOk_f f a (by omega) k (by omega), polyOk_f f b (by omega) k (by omega), bs, decide_eq_true pa, decide_eq_true pb, if_true]
      rw [if_neg (by omega), e]
      simp only [bs, if_true]
      rw [sameInts_f x q (by omega) k (by omega)]
      simp only [bs]
      have ho := only_one pa pb pq pr z hd
      by_cases e1 : x = q
      · rw [if_pos (by simpa using e1), sameInts_f y r (by omega) k (by omega)]
        simp only [bs]
        congr 1
        exact decide_eq_decide.mpr ⟨fun e2 => ⟨pa, pb, pq, pr, z, ho.1 ⟨e1, e2⟩⟩, fun h => (ho.2 h.2.2.2.2.2).2⟩
      · rw [if_neg (by simpa using e1), decide_eq_false (fun h => e1 (ho.2 h.2.2.2.2.2).1)]
  · refine ⟨1048580, fun k hk => ?_⟩
    obtain ⟨k, rfl⟩ : ∃ m, k = m + 1 := ⟨k - 1, by omega⟩
    rw [decide_eq_false (fun h => c ⟨h.1, h.2.1, h.2.2.1, h.2.2.2.1⟩)]
    simp only [spec_CheckDivision.f]
    simp only [polyOk_f f a (by omega) (k + 1) (by omega), polyOk_f f b (by omega) (k + 1) (by omega), polyOk_f f q (by omega) (k + 1) (by omega), polyOk_f f r (by omega) (k + 1) (by omega), bs]
    simp only [spec_CheckDivision.j0, if_true]
    by_cases pa : PolyOk f a
    · rw [if_pos (by simpa using pa)]
      by_cases pb : PolyOk f b
      · rw [if_pos (by simpa using pb)]
        by_cases pq : PolyOk f q
        · rw [if_pos (by simpa using pq), if_pos]
          have : ¬ PolyOk f r := fun pr => c ⟨pa, pb, pq, pr⟩
          simpa using this
        · rw [if_neg (by simpa using pq)]
      · rw [if_neg (by simpa using pb)]
    · rw [if_neg (by simpa using pa)]
theorem impl_ev (f : Int) (a b q r : List Int) (ha : a.length ≤ 1048576) (hb : b.length ≤ 1048576) (hq : q.length ≤ 1048576) (hr : r.length ≤ 1048576) : Ev (fun k => impl_CheckDivision.f k f a b q r) (decide (CD f a b q r)) := by
  have hpf := polyField_f f [a, b, q, r] (by simp) 1048577 (by
    intro l hl
    simp only [List.mem_cons, List.not_mem_nil, or_false] at hl
    rcases hl with rfl | rfl | rfl | rfl <;> omega) (by omega)
  by_cases c : md f ≠ 0 ∧ AllLok (md f) [a, b, q, r]
  · have pa : PolyOk f a := ⟨c.1, c.2 a (by simp)⟩
    have pb : PolyOk f b := ⟨c.1, c.2 b (by simp)⟩
    have pq : PolyOk f q := ⟨c.1, c.2 q (by simp)⟩
    have pr : PolyOk f r := ⟨c.1, c.2 r (by simp)⟩
    have hm := md_pos c.1
    by_cases z : b.length = 0
    · refine ⟨1048590, fun k hk => ?_⟩
      obtain ⟨k, rfl⟩ : ∃ m, k = m + 1 := ⟨k - 1, by omega⟩
      simp only [impl_CheckDivision.f]
      rw [hpf (k + 1) (by simp; omega), if_pos c]
      simp only [bs, if_true]
      rw [if_pos (by omega)]
      simp only [impl_CheckDivision.j0, if_true]
      rw [decide_eq_false (fun h => h.2.2.2.2.1 z)]
    · by_cases d : r.length < b.length
      · have hmul := mulPoly_ev (md f) (gn f) (tw f) (by omega) hm.2 b q pb.2.2.1 pq.2.2.1 (by have := pb.2.1; omega) (by have := pq.2.1; omega)
        have hadd := addPoly_ev (md f) (gn f) (tw f) (by omega) hm.2 (mulP (md f) b q) r (mulP_el (by omega) b q) pr.2.2.1 (by have := mulP_le (md f) b q; have := pb.2.1; have := pq.2.1; omega) (by have := pr.2.1; omega)
        obtain ⟨K1, h1⟩ := hmul
        obtain ⟨K2, h2⟩ := hadd
        refine ⟨K1 + K2 + 1048590, fun k hk => ?_⟩
        obtain ⟨k, rfl⟩ : ∃ m, k = m + 1 := ⟨k - 1, by omega⟩
        have e1 := h1 k (by omega)
        have e2 := h2 k (by omega)
        simp only at e1 e2
        simp only [impl_CheckDivision.f]
        rw [hpf (k + 1) (by simp; omega), if_pos c]
        simp only [bs, if_true]
        rw [if_neg (by omega)]
        simp only [impl_CheckDivision.j0]
        rw [if_neg (by simp; omega), e1]
        simp only [bs]
        rw [e2]
        simp only [bs]
        rw [equal_f _ _ (by omega) k (by omega)]
        simp only [bs]
        congr 1
        exact decide_eq_decide.mpr ⟨fun h => ⟨pa, pb, pq, pr, z, d, h⟩, fun h => h.2.2.2.2.2.2⟩
      · refine ⟨1048590, fun k hk => ?_⟩
        obtain ⟨k, rfl⟩ : ∃ m, k = m + 1 := ⟨k - 1, by omega⟩
        simp only [impl_CheckDivision.f]
        rw [hpf (k + 1) (by simp; omega), if_pos c]
        simp only [bs, if_true]
        rw [if_neg (by omega)]
        simp only [impl_CheckDivision.j0]
        rw [if_pos (by simp; omega), decide_eq_false (fun h => d h.2.2.2.2.2.1)]
  · refine ⟨1048590, fun k hk => ?_⟩
    obtain ⟨k, rfl⟩ : ∃ m, k = m + 1 := ⟨k - 1, by omega⟩
    simp only [impl_CheckDivision.f]
    rw [hpf (k + 1) (by simp; omega), if_neg c]
    simp only [bs]
    rw [if_neg (by decide)]
    simp only [impl_CheckDivision.j0, if_true]
    rw [decide_eq_false]
    rintro ⟨⟨hp, la⟩, ⟨_, lb⟩, ⟨_, lq⟩, ⟨_, lr⟩, _⟩
    apply c
    refine ⟨hp, fun l hl => ?_⟩
    simp only [List.mem_cons, List.not_mem_nil, or_false] at hl
    rcases hl with rfl | rfl | rfl | rfl
    · exact la
    · exact lb
    · exact lq
    · exact lr
theorem FnExactCheckDivision : laws_FnExactCheckDivision.Pure := by
  intro f a b q r _ _ _ _ _ _ _ _ _ _ _ _ _
  by_cases ca : (a.length : Int) > 1048576
  · exact ⟨0, by unfold laws_FnExactCheckDivision.f; rw [if_pos ca]⟩
  by_cases cb : (b.length : Int) > 1048576
  · exact ⟨0, by unfold laws_FnExactCheckDivision.f; rw [if_neg ca, if_pos cb]⟩
  by_cases cq : (q.length : Int) > 1048576
  · exact ⟨0, by unfold laws_FnExactCheckDivision.f; rw [if_neg ca, if_neg cb, if_pos cq]⟩
  by_cases cr : (r.length : Int) > 1048576
  · exact ⟨0, by unfold laws_FnExactCheckDivision.f; rw [if_neg ca, if_neg cb, if_neg cq, if_pos cr]⟩
  obtain ⟨K1, h1⟩ := spec_ev f a b q r (by omega) (by omega) (by omega) (by omega)
  obtain ⟨K2, h2⟩ := impl_ev f a b q r (by omega) (by omega) (by omega) (by omega)
  refine ⟨K1 + K2 + 1048590, ?_⟩
  have e1 := h1 (K1 + K2 + 1048590) (by omega)
  have e2 := h2 (K1 + K2 + 1048590) (by omega)
  simp only at e1 e2
  unfold laws_FnExactCheckDivision.f
  rw [if_neg ca, if_neg cb, if_neg cq, if_neg cr]
  simp only [toIntS_f a (by omega) _ (show a.length < K1 + K2 + 1048590 by omega), toIntS_f b (by omega) _ (show b.length < K1 + K2 + 1048590 by omega), toIntS_f q (by omega) _ (show q.length < K1 + K2 + 1048590 by omega), toIntS_f r (by omega) _ (show r.length < K1 + K2 + 1048590 by omega), bs, e1, e2,
    eqIntS_self a (by omega) _ (show a.length < K1 + K2 + 1048590 by omega), eqIntS_self b (by omega) _ (show b.length < K1 + K2 + 1048590 by omega), eqIntS_self q (by omega) _ (show q.length < K1 + K2 + 1048590 by omega), eqIntS_self r (by omega) _ (show r.length < K1 + K2 + 1048590 by omega), if_true, bne_self_eq_false, Bool.false_eq_true, if_false]

end Go.Proofs.Ytmdpnhcfllociaa.Pure
