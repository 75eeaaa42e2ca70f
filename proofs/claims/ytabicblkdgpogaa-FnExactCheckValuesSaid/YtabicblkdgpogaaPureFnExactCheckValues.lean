/- CheckValues of the program and of the reference answer alike for all arguments: there is just one polynomial through the points. -/
import Derived.Test.YtabicblkdgpogaaQFnExactCheckValuesx8
import Derived.Test.YtabicblkdgpogaaVFnExactCheckValuesl
namespace Go.Proofs.Ytabicblkdgpogaa.Pure
open Go.RowKit Go.Proofs.Ytabicblkdgpogaa.QFnExactCheckValues Go.Proofs.YtabicblkdgpogaaW.PrintWords Go.Proofs.YtabicblkdgpogaaW.PrintLast Go.Proofs.YtabicblkdgpogaaW.PrintMore Go.Proofs.Ytabicblkdgpogaa.Lib
set_option linter.unusedVariables false

theorem toIntS_loop (x0 : List Int) (hn : x0.length ≤ 140737488351232) : ∀ (d k i : Nat) (x3 : List Int), i + d = x0.length → x3.length = x0.length → d < k →
    laws_toIntS.l0 k x0 x3 (i : Int) = some (x3.take i ++ x0.drop i) := by
  intro d
  induction d with
  | zero =>
    intro k i x3 hi h3 hk
    obtain ⟨k, rfl⟩ : ∃ m, k = m + 1 := ⟨k - 1, by omega⟩
    simp only [laws_toIntS.l0]
    rw [if_neg (by omega), List.drop_eq_nil_of_le (by omega), List.take_of_length_le (by omega), List.append_nil]
  | succ d ih =>
    intro k i x3 hi h3 hk
    obtain ⟨k, rfl⟩ : ∃ m, k = m + 1 := ⟨k - 1, by omega⟩
    have hlt : i < x0.length := by omega
    simp only [laws_toIntS.l0]
    rw [if_pos (by omega), if_pos (by omega), if_pos (by omega), rd_at x0 i hlt, wrap_id (x := (i : Int) + 1) (by omega) (by omega), cast_succ,
      ih k (i + 1) _ (by omega) (by simpa using h3) (by omega), drop_cons x0 i hlt]
    simp only [Int.toNat_natCast]
    rw [set_take _ _ _ (by omega), List.append_assoc]
    rfl
theorem toIntS_f (l : List Int) (hn : l.length ≤ 35184372088832) (k : Nat) (hk : l.length < k) : laws_toIntS.f k l = some l := by
  unfold laws_toIntS.f
  rw [if_pos (by omega), if_pos (by omega)]
  have := toIntS_loop l (by omega) l.length k 0 (List.replicate ((l.length : Int) : Int).toNat 0) (by omega) (by simp) hk
  simpa using this
theorem eqIntS_loop (x0 : List Int) (hn : x0.length ≤ 140737488351232) : ∀ (d k i : Nat), i + d = x0.length → d < k → laws_eqIntS.l0 k x0 x0 (i : Int) = some true := by
  intro d
  induction d with
  | zero =>
    intro k i hi hk
    obtain ⟨k, rfl⟩ : ∃ m, k = m + 1 := ⟨k - 1, by omega⟩
    simp only [laws_eqIntS.l0]
    rw [if_neg (by omega)]
  | succ d ih =>
    intro k i hi hk
    obtain ⟨k, rfl⟩ : ∃ m, k = m + 1 := ⟨k - 1, by omega⟩
    simp only [laws_eqIntS.l0, if_true]
    rw [if_pos (by omega), if_pos (by omega), if_pos (by omega), wrap_id (x := (i : Int) + 1) (by omega) (by omega), cast_succ]
    exact ih k (i + 1) (by omega) (by omega)
theorem eqIntS_self (l : List Int) (hn : l.length ≤ 35184372088832) (k : Nat) (hk : l.length < k) : laws_eqIntS.f k l l = some true := by
  unfold laws_eqIntS.f
  rw [if_pos rfl]
  exact eqIntS_loop l (by omega) l.length k 0 (by omega) hk
theorem modulus_f (f : Int) : spec_Modulus.f f = some (md f) := by
  unfold spec_Modulus.f md
  simp only [apply_ite some]
theorem reduce_f (f x : Int) (hp : md f ≠ 0) : spec_Reduce.f f x = some (x % md f) := by
  have h := md_pos hp
  have hr := reduce_int x (md f) (by omega)
  have hx := emod_range x (show 0 < md f by omega)
  unfold spec_Reduce.f
  rw [modulus_f]
  simp only [bs]
  rw [if_neg hp]
  by_cases c : Int.tmod x (md f) < 0
  · rw [if_pos c] at hr ⊢
    rw [hr, wrap_id (by omega) (by omega)]
  · rw [if_neg c] at hr ⊢
    rw [hr]
theorem mul_f (f x y : Int) (hp : md f ≠ 0) : spec_Mul.f f x y = some ((x * y) % md f) := by
  have h := md_pos hp
  have hx := emod_range x (show 0 < md f by omega)
  have hy := emod_range y (show 0 < md f by omega)
  have hm := prod_range h.2 hx hy
  unfold spec_Mul.f
  simp only [modulus_f, bs]
  rw [if_neg hp]
  simp only [reduce_f f _ hp, bs]
  rw [wrap_id (by omega) (by omega), ← Int.mul_emod]
theorem add_f (f x y : Int) (hp : md f ≠ 0) : spec_Add.f f x y = some ((x + y) % md f) := by
  have h := md_pos hp
  have hx := emod_range x (show 0 < md f by omega)
  have hy := emod_range y (show 0 < md f by omega)
  unfold spec_Add.f
  simp only [modulus_f, bs]
  rw [if_neg hp]
  simp only [reduce_f f _ hp, bs]
  rw [wrap_id (by omega) (by omega), ← Int.add_emod]
theorem sub_f (f x y : Int) (hp : md f ≠ 0) : spec_Sub.f f x y = some ((x - y) % md f) := by
  have h := md_pos hp
  have hx := emod_range x (show 0 < md f by omega)
  have hy := emod_range y (show 0 < md f by omega)
  unfold spec_Sub.f
  simp only [modulus_f, bs]
  rw [if_neg hp]
  simp only [reduce_f f _ hp, bs]
  rw [wrap_id (by omega) (by omega), ← Int.sub_emod]
theorem in_f (x a b : Int) : spec_l01In.f x a b = some (decide (a ≤ x ∧ x ≤ b)) := by
  unfold spec_l01In.f
  by_cases c : a ≤ x
  · rw [if_pos c]; simp [c]
  · rw [if_neg c]; simp [c]
theorem elements_f (f : Int) (l : List Int) (hn : l.length ≤ 2000000) (k : Nat) (hk : l.length < k) : spec_l03Elements.f k f l = some (decide (md f ≠ 0 ∧ El (md f) l)) := by
  unfold spec_l03Elements.f
  simp only [modulus_f, bs]
  by_cases hp : md f = 0
  · rw [if_pos hp, decide_eq_false (fun h => h.1 hp)]
  · rw [if_neg hp]
    have hq := md_pos hp
    have key := loop_list (fun k (_ : Unit) i => spec_l03Elements.l0 k l (md f) i) l 0 (fun _ _ => True) (fun r _ => decide (El (md f) r)) (by
      intro k s _ _
      simp only [spec_l03Elements.l0]
      rw [if_neg (by omega), decide_eq_true (El.nil _)]) (by
      intro k i s h _ _
      simp only [spec_l03Elements.l0]
      rw [if_pos (by omega), if_pos (by omega), rd_at l i h, wrap_id (x := md f - 1) (by omega) (by omega), in_f]
      simp only [bs]
      by_cases c : 0 ≤ l[i] ∧ l[i] ≤ md f - 1
      · left
        refine ⟨(), ?_, trivial, ?_⟩
        · rw [if_pos (by simpa using c), wrap_next h (by omega)]
        · apply decide_eq_decide.mpr
          constructor
          · intro hh x hx
            exact hh x (List.mem_cons_of_mem _ hx)
          · intro hh x hx
            rcases List.mem_cons.1 hx with rfl | hx
            · omega
            · exact hh x hx
      · right
        rw [if_neg (by simpa using c)]
        rw [decide_eq_false]
        intro hh
        have := hh l[i] List.mem_cons_self
        omega) k () (by omega) trivial
    rw [key]
    congr 1
    exact decide_eq_decide.mpr ⟨fun h => ⟨hp, h⟩, fun h => h.2⟩
theorem fieldOf_f (f : Int) : impl_fieldOf.f f = some (md f, gn f, tw f, decide (md f ≠ 0)) := by
  by_cases c : 0 ≤ f ∧ f ≤ 8
  · rcases nine c.1 c.2 with rfl | rfl | rfl | rfl | rfl | rfl | rfl | rfl | rfl <;> rfl
  · obtain ⟨h1, h2, h3⟩ := md_out c
    unfold impl_fieldOf.f
    rw [h1, h2, h3]
    by_cases c0 : f < 0
    · rw [if_pos c0]; rfl
    · rw [if_neg c0, if_pos (by omega)]; rfl
theorem areElements_f (p g t : Int) (l : List Int) (hn : l.length ≤ 2000000) (k : Nat) (hk : l.length < k) : impl_field_areElements.f k p g t l = some (decide (El p l)) := by
  unfold impl_field_areElements.f
  exact loop_list (fun k (_ : Unit) i => impl_field_areElements.l0 k l (l.length : Int) i p g t) l 0 (fun _ _ => True) (fun r _ => decide (El p r)) (by
    intro k s _ _
    simp only [impl_field_areElements.l0]
    rw [if_neg (by omega), decide_eq_true (El.nil _)]) (by
    intro k i s h _ _
    simp only [impl_field_areElements.l0]
    rw [if_pos (by omega), if_pos (by omega), if_pos (by omega), rd_at l i h]
    by_cases c : l[i] < 0
    · right
      rw [if_pos c, decide_eq_false]
      intro hh
      have := hh l[i] List.mem_cons_self
      omega
    · by_cases c1 : l[i] ≥ p
      · right
        rw [if_neg c, if_pos c1, decide_eq_false]
        intro hh
        have := hh l[i] List.mem_cons_self
        omega
      · left
        refine ⟨(), ?_, trivial, ?_⟩
        · rw [if_neg c, if_neg c1, wrap_next h (by omega)]
        · apply decide_eq_decide.mpr
          constructor
          · intro hh x hx
            exact hh x (List.mem_cons_of_mem _ hx)
          · intro hh x hx
            rcases List.mem_cons.1 hx with rfl | hx
            · omega
            · exact hh x hx) k () (by omega) trivial
theorem equal_f (a b : List Int) (hn : a.length ≤ 2000000) (k : Nat) (hk : a.length < k) : slices_Equal_int_int.f k a b = some (decide (a = b)) := by
  unfold slices_Equal_int_int.f
  by_cases c : (a.length : Int) = (b.length : Int)
  · rw [if_pos c]
    have key : ∀ (d k i : Nat), i + d = a.length → d < k → slices_Equal_int_int.l0 k a b (a.length : Int) (i : Int) = some (decide (a.drop i = b.drop i)) := by
      intro d
      induction d with
      | zero =>
        intro k i hi hk
        obtain ⟨k, rfl⟩ : ∃ m, k = m + 1 := ⟨k - 1, by omega⟩
        simp only [slices_Equal_int_int.l0]
        rw [if_neg (by omega), List.drop_eq_nil_of_le (by omega), List.drop_eq_nil_of_le (by omega)]
        rfl
      | succ d ih =>
        intro k i hi hk
        obtain ⟨k, rfl⟩ : ∃ m, k = m + 1 := ⟨k - 1, by omega⟩
        simp only [slices_Equal_int_int.l0]
        rw [if_pos (by omega), if_pos (by omega), if_pos (by omega), if_pos (by omega), rd_at a i (by omega), rd_at b i (by omega), drop_cons a i (by omega), drop_cons b i (by omega)]
        by_cases e : a[i] = b[i]
        · rw [if_pos e, wrap_next (show i < a.length by omega) (by omega), ih k (i + 1) (by omega) (by omega)]
          congr 1
          exact decide_eq_decide.mpr ⟨fun h => by rw [e, h], fun h => (List.cons.inj h).2⟩
        · rw [if_neg e, decide_eq_false (fun h => e (List.cons.inj h).1)]
    have := key a.length k 0 (by omega) hk
    simpa using this
  · rw [if_neg c, decide_eq_false (fun h => c (by rw [h]))]
theorem power_loop (p : Int) (h2 : 2 ≤ p) (hp : p ≤ 1004535809) : ∀ (m n : Nat), n ≤ m → n ≤ 4611686018427387904 → ∀ (x out : Int), 0 ≤ x ∧ x < p → 0 ≤ out ∧ out < p → Ev (fun k => spec_Power.l0 k p x (n : Int) out) (out * x ^ n % p) := by
  intro m
  induction m with
  | zero =>
    intro n hn _ x out hx ho
    obtain rfl : n = 0 := by omega
    refine Ev.step (f := fun _ => some (out * x ^ 0 % p)) (fun k => ?_) (Ev.now _)
    simp only [spec_Power.l0]
    rw [if_neg (by omega), Int.pow_zero, Int.mul_one, Int.emod_eq_of_lt ho.1 ho.2]
  | succ m ih =>
    intro n hn hmax x out hx ho
    by_cases c : n = 0
    · exact ih n (by omega) hmax x out hx ho
    · have hxx := prod_range hp hx hx
      have hox := prod_range hp ho hx
      have r1 := emod_range (x * x) (show 0 < p by omega)
      have r2 := emod_range (out * x) (show 0 < p by omega)
      have hdiv : wrap64 (Int.tdiv (n : Int) 2) = ((n / 2 : Nat) : Int) := by
        rw [Int.tdiv_eq_ediv_of_nonneg (by omega), wrap_id (by omega) (by omega)]
        rfl
      have hpw := pow_half p x out n
      by_cases o : n % 2 = 1
      · rw [if_pos o] at hpw
        rw [← hpw]
        refine Ev.step (f := fun k => spec_Power.l0 k p (x * x % p) ((n / 2 : Nat) : Int) (out * x % p)) (fun k => ?_) (ih (n / 2) (by omega) (by omega) _ _ r1 r2)
        simp only [spec_Power.l0]
        rw [if_pos (by omega), if_pos (by rw [tmod_nonneg' _ (by omega)]; omega), if_neg (by omega), hdiv, wrap_id (x := x * x) (by omega) (by omega), wrap_id (x := out * x) (by omega) (by omega), tmod_nonneg' _ hxx.1, tmod_nonneg' _ hox.1]
      · rw [if_neg o] at hpw
        rw [← hpw]
        refine Ev.step (f := fun k => spec_Power.l0 k p (x * x % p) ((n / 2 : Nat) : Int) out) (fun k => ?_) (ih (n / 2) (by omega) (by omega) _ _ r1 ho)
        simp only [spec_Power.l0]
        rw [if_pos (by omega), if_neg (by rw [tmod_nonneg' _ (by omega)]; omega), if_neg (by omega), hdiv, wrap_id (x := x * x) (by omega) (by omega), tmod_nonneg' _ hxx.1]
theorem power_ev (f a e : Int) (hp : md f ≠ 0) (he0 : -4611686018427387904 ≤ e) (he1 : e ≤ 4611686018427387904) : Ev (fun k => spec_Power.f k f a e) (powS f a e) := by
  have hq := md_pos hp
  have hr := emod_range a (show 0 < md f by omega)
  have hn := emod_range e (show 0 < md f - 1 by omega)
  have hre := reduce_int e (md f - 1) (by omega)
  unfold powS
  by_cases z : a % md f = 0
  · rw [if_pos z]
    refine ⟨0, fun k _ => ?_⟩
    simp only [spec_Power.f, modulus_f, bs]
    rw [if_neg hp, reduce_f f a hp]
    simp only [bs]
    rw [if_pos z]
    by_cases e0 : e = 0
    · rw [if_pos e0, if_pos e0]
    · rw [if_neg e0, if_neg e0]
      by_cases e1 : e < 0
      · rw [if_pos e1, if_pos e1]
      · rw [if_neg e1, if_neg e1]
  · rw [if_neg z]
    have hl := power_loop (md f) (by omega) hq.2 (e % (md f - 1)).toNat (e % (md f - 1)).toNat (Nat.le_refl _) (by omega) (a % md f) 1 hr ⟨by omega, by omega⟩
    rw [Int.one_mul, Int.toNat_of_nonneg hn.1] at hl
    obtain ⟨K, hK⟩ := hl
    refine ⟨K + 1, fun k hk => ?_⟩
    obtain ⟨k, rfl⟩ : ∃ m, k = m + 1 := ⟨k - 1, by omega⟩
    simp only [spec_Power.f, modulus_f, bs]
    rw [if_neg hp, reduce_f f a hp]
    simp only [bs]
    rw [if_neg z, wrap_id (x := md f - 1) (by omega) (by omega), if_neg (by omega)]
    by_cases c : Int.tmod e (md f - 1) < 0
    · rw [if_pos c] at hre ⊢
      have : -(md f - 1) < Int.tmod e (md f - 1) := by
        have := Int.lt_tmod_of_pos e (show 0 < md f - 1 by omega)
        omega
      rw [wrap_id (x := Int.tmod e (md f - 1) + md f) (by omega) (by omega), wrap_id (by omega) (by omega), show Int.tmod e (md f - 1) + md f - 1 = e % (md f - 1) by omega]
      simp only [spec_Power.j0]
      exact hK k (by omega)
    · rw [if_neg c] at hre ⊢
      rw [hre]
      simp only [spec_Power.j0]
      exact hK k (by omega)
theorem inverse_ev (f a : Int) (hp : md f ≠ 0) (ha : a % md f ≠ 0) : Ev (fun k => spec_Inverse.f k f a) (inv f a) := by
  obtain ⟨K, hK⟩ := power_ev f a (-1) hp (by omega) (by omega)
  rw [powS_inv hp ha] at hK
  refine ⟨K, fun k hk => ?_⟩
  simp only [spec_Inverse.f]
  have := hK k hk
  simp only at this
  rw [this]
  simp only [bs]
theorem copy_f (l : List Int) (hn : l.length ≤ 2000000) (k : Nat) (hk : l.length < k) : spec_l01Copy.f k l = some l := by
  unfold spec_l01Copy.f
  have := append_loop (fun k s i => spec_l01Copy.l0 k l s i) l id 0 [] (by
    intro k s _
    simp only [spec_l01Copy.l0]
    rw [if_neg (by omega)]) (by
    intro k i s h _ hs
    simp only [List.length_nil] at hs
    simp only [spec_l01Copy.l0]
    rw [if_pos (by omega), if_pos (by omega), if_pos (by omega), rd_at l i h, wrap_next h (by omega)]
    rfl) k (by omega)
  simpa using this
theorem cut_f (l : List Int) (hn : l.length ≤ 2000000) (k : Nat) (hk : 2 * l.length + 1 < k) : spec_l03Cut.f k l = some (tr l) := by
  have key : ∀ (n k : Nat), n ≤ l.length → n + l.length + 1 < k → spec_l03Cut.l0 k l (n : Int) = some (l.take (tn l n)) := by
    intro n
    induction n with
    | zero =>
      intro k h hk
      obtain ⟨k, rfl⟩ : ∃ m, k = m + 1 := ⟨k - 1, by omega⟩
      simp only [spec_l03Cut.l0]
      rw [if_neg (by omega), if_pos (by omega), if_pos (by omega), copy_f _ (by simp) _ (by simp; omega)]
      simp only [bs]
      rfl
    | succ n ih =>
      intro k h hk
      obtain ⟨k, rfl⟩ : ∃ m, k = m + 1 := ⟨k - 1, by omega⟩
      have hw : wrap64 (((n + 1 : Nat) : Int) - 1) = (n : Int) := by rw [wrap_id (by omega) (by omega)]; omega
      simp only [spec_l03Cut.l0]
      rw [if_pos (by omega), hw, if_pos (by omega), if_pos (by omega), rd_L]
      by_cases c : L l n = 0
      · rw [if_pos c, ih k (by omega) (by omega)]
        simp only [tn]
        rw [if_pos c]
      · rw [if_neg c, if_pos (by omega), if_pos (by omega), copy_f _ (by simp; omega) _ (by simp; omega)]
        simp only [bs, tn]
        rw [if_neg c, Int.toNat_natCast]
  unfold spec_l03Cut.f tr
  exact key l.length k (by omega) (by omega)
/-- A polynomial over the field. -/
def PolyOk (f : Int) (l : List Int) : Prop := md f ≠ 0 ∧ l.length ≤ 400 ∧ El (md f) l ∧ (l.length ≠ 0 → L l (l.length - 1) ≠ 0)
instance (f : Int) (l : List Int) : Decidable (PolyOk f l) := by unfold PolyOk; exact inferInstance
theorem PolyOk.tr {f : Int} {l : List Int} (h : PolyOk f l) : Tr l := by
  intro j hj
  have := h.2.2.2 (by omega)
  rwa [hj] at this
theorem polyOk_of {f : Int} {l : List Int} (hp : md f ≠ 0) (hl : l.length ≤ 400) (hE : El (md f) l) (ht : Tr l) : PolyOk f l :=
  ⟨hp, hl, hE, fun h => ht (l.length - 1) (by omega)⟩
theorem polyOk_f (f : Int) (l : List Int) (hn : l.length ≤ 2000000) (k : Nat) (hk : l.length < k) : spec_PolyOk.f k f l = some (decide (PolyOk f l)) := by
  unfold spec_PolyOk.f
  by_cases c : (l.length : Int) > 400
  · rw [if_pos c, decide_eq_false (fun h => by have := h.2.1; omega)]
  · rw [if_neg c, elements_f f l hn k hk]
    simp only [bs]
    by_cases d : md f ≠ 0 ∧ El (md f) l
    · rw [if_pos (by simpa using d)]
      by_cases z : (l.length : Int) = 0
      · rw [if_pos z, decide_eq_true ⟨d.1, by omega, d.2, fun h => by omega⟩]
      · have hw : wrap64 ((l.length : Int) - 1) = ((l.length - 1 : Nat) : Int) := by rw [wrap_id (by omega) (by omega)]; omega
        rw [if_neg z, hw, if_pos (by omega), if_pos (by omega), rd_L]
        congr 1
        rw [Bool.eq_iff_iff, bne_iff_ne, decide_eq_true_eq]
        exact ⟨fun h => ⟨d.1, by omega, d.2, fun _ => h⟩, fun h => h.2.2.2 (by omega)⟩
    · rw [if_neg (by simpa using d), decide_eq_false (fun h => d ⟨h.1, h.2.2.1⟩)]
/-- The reference's product of two polynomials. -/
theorem sum_cut (a : List Int) (g : Nat → Int) : ∀ e : Nat, sumN (a.length + e) (fun t => L a t * g t) = sumN a.length (fun t => L a t * g t) := by
  intro e
  induction e with
  | zero => rfl
  | succ e ih =>
    rw [show a.length + (e + 1) = a.length + e + 1 by omega]
    simp only [sumN]
    rw [ih, L_out a (a.length + e) (by omega)]
    simp
theorem smul_inner (p : Int) (hp : 0 < p) (hp2 : p ≤ 1004535809) (a b : List Int) (hEa : El p a) (hEb : El p b) (ha : a.length ≤ 1000000) (hb : b.length ≤ 1000000) (m : Nat) (hm : m + 1 < a.length + b.length) (r : List Int)
    (hr : Ev (fun k => spec_l03Mul.l0 k a b p (fl (m + 1) (fun m => cv (L a) (L b) m % p)) ((m + 1 : Nat) : Int)) r) :
    ∀ d j : Nat, j + d = min (m + 1) a.length → Ev (fun k => spec_l03Mul.l1 k a b p (fl m (fun m => cv (L a) (L b) m % p)) (m : Int) (sumN j (fun t => L a t * L b (m - t)) % p) (j : Int)) r := by
  intro d
  induction d with
  | zero =>
    intro j hj
    refine Ev.step (f := fun k => spec_l03Mul.j3 k a b p (fl m (fun m => cv (L a) (L b) m % p)) (m : Int) (sumN j (fun t => L a t * L b (m - t)) % p) (j : Int) false) (fun k => ?_) ?_
    · simp only [spec_l03Mul.l1]
      by_cases c : (j : Int) ≤ (m : Int)
      · rw [if_pos c, decide_eq_false (by omega)]
      · rw [if_neg c]
    · refine Ev.step (fun k => ?_) hr
      simp only [spec_l03Mul.j3]
      rw [if_neg (by decide), fl_length, if_pos (by omega), wrap_next (show m < m + 1 by omega) (by omega)]
      have e : sumN j (fun t => L a t * L b (m - t)) = cv (L a) (L b) m := by
        unfold cv
        by_cases c : a.length ≤ m + 1
        · have := sum_cut a (fun t => L b (m - t)) (m + 1 - a.length)
          rw [show a.length + (m + 1 - a.length) = m + 1 by omega] at this
          rw [this, show j = a.length by omega]
        · rw [show j = m + 1 by omega]
      rw [e, fl_snoc m (fun m => cv (L a) (L b) m % p)]
  | succ d ih =>
    intro j hj
    have h1 := L_el hp hEa j
    have h2 := L_el hp hEb (m - j)
    have hpr := prod_range hp2 h1 h2
    have hs := emod_range (sumN j (fun t => L a t * L b (m - t))) hp
    have hw : wrap64 ((m : Int) - (j : Int)) = ((m - j : Nat) : Int) := by rw [wrap_id (by omega) (by omega)]; omega
    refine Ev.step (f := fun k => spec_l03Mul.j3 k a b p (fl m (fun m => cv (L a) (L b) m % p)) (m : Int) (sumN j (fun t => L a t * L b (m - t)) % p) (j : Int) true) (fun k => ?_) ?_
    · simp only [spec_l03Mul.l1]
      rw [if_pos (by omega), decide_eq_true (by omega)]
    · refine Ev.step (fun k => ?_) (ih (j + 1) (by omega))
      simp only [spec_l03Mul.j3]
      rw [if_pos (by simp), hw]
      by_cases c : m - j < b.length
      · rw [if_pos (by omega), if_pos (by omega), if_pos (by omega), if_pos (by omega), if_neg (by omega), rd_L, rd_L, wrap_id (x := L a j * L b (m - j)) (by omega) (by omega), wrap_id (by omega) (by omega), tmod_nonneg' _ (by omega), Int.emod_add_emod, wrap_next (show j < m + 1 by omega) (by omega)]
        rfl
      · rw [if_neg (by omega), wrap_next (show j < m + 1 by omega) (by omega)]
        have e : sumN (j + 1) (fun t => L a t * L b (m - t)) = sumN j (fun t => L a t * L b (m - t)) := by
          simp only [sumN]
          rw [L_out b (m - j) (by omega)]
          simp
        rw [e]
theorem smul_outer (p : Int) (hp : 0 < p) (hp2 : p ≤ 1004535809) (a b : List Int) (hEa : El p a) (hEb : El p b) (ha : a.length ≤ 1000000) (hb : b.length ≤ 1000000) (ha1 : 1 ≤ a.length) (hb1 : 1 ≤ b.length) :
    ∀ d m : Nat, m + d = a.length + b.length - 1 → Ev (fun k => spec_l03Mul.l0 k a b p (fl m (fun m => cv (L a) (L b) m % p)) (m : Int)) (mulP p a b) := by
  have hw : wrap64 (wrap64 ((a.length : Int) + (b.length : Int)) - 1) = ((a.length + b.length - 1 : Nat) : Int) := by
    rw [wrap_id (x := (a.length : Int) + (b.length : Int)) (by omega) (by omega), wrap_id (by omega) (by omega)]
    omega
  intro d
  induction d with
  | zero =>
    intro m hm
    obtain rfl : m = a.length + b.length - 1 := by omega
    unfold mulP
    rw [if_neg (by omega)]
    refine ⟨4000010, fun k hk => ?_⟩
    obtain ⟨k, rfl⟩ : ∃ m, k = m + 1 := ⟨k - 1, by omega⟩
    simp only [spec_l03Mul.l0]
    rw [hw, if_neg (by omega), cut_f _ (by rw [fl_length]; omega) k (by rw [fl_length]; omega)]
    simp only [bs]
  | succ d ih =>
    intro m hm
    refine Ev.step (fun k => ?_) (smul_inner p hp hp2 a b hEa hEb ha hb m (by omega) _ (ih (m + 1) (by omega)) (min (m + 1) a.length) 0 (by omega))
    simp only [spec_l03Mul.l0]
    rw [hw, if_pos (by omega)]
    simp only [sumN, Int.zero_emod]
    rfl
theorem l03Mul_ev (f : Int) (a b : List Int) (hp : md f ≠ 0) (hEa : El (md f) a) (hEb : El (md f) b) (ha : a.length ≤ 1000000) (hb : b.length ≤ 1000000) : Ev (fun k => spec_l03Mul.f k f a b) (mulP (md f) a b) := by
  have hm := md_pos hp
  by_cases z : a.length = 0 ∨ b.length = 0
  · have e : mulP (md f) a b = [] := by unfold mulP; rw [if_pos z]
    rw [e]
    refine ⟨1, fun k hk => ?_⟩
    obtain ⟨k, rfl⟩ : ∃ m, k = m + 1 := ⟨k - 1, by omega⟩
    simp only [spec_l03Mul.f, modulus_f, bs]
    by_cases z1 : a.length = 0
    · rw [if_pos (by omega)]
      simp only [spec_l03Mul.j0, if_true]
    · rw [if_neg (by omega)]
      simp only [spec_l03Mul.j0]
      rw [if_pos (beq_iff_eq.mpr (by omega))]
  · obtain ⟨K, hK⟩ := smul_outer (md f) (by omega) hm.2 a b hEa hEb ha hb (by omega) (by omega) (a.length + b.length - 1) 0 (by omega)
    refine ⟨K + 1, fun k hk => ?_⟩
    obtain ⟨k, rfl⟩ : ∃ m, k = m + 1 := ⟨k - 1, by omega⟩
    simp only [spec_l03Mul.f, modulus_f, bs]
    rw [if_neg (by omega)]
    simp only [spec_l03Mul.j0]
    rw [if_neg (fun h => by have := beq_iff_eq.mp h; omega)]
    exact hK k (by omega)
/-- The product of two polynomials that aren't nought has no fewer terms than it may have: the numbers are prime. -/
theorem mulP_len {f : Int} (hp : md f ≠ 0) {a b : List Int} (hEa : El (md f) a) (hEb : El (md f) b) (hTa : Tr a) (hTb : Tr b) (ha : 1 ≤ a.length) (hb : 1 ≤ b.length) : (mulP (md f) a b).length = a.length + b.length - 1 := by
  have hm := md_pos hp
  have h1 : (mulP (md f) a b).length ≤ a.length + b.length - 1 := by
    unfold mulP
    rw [if_neg (by omega)]
    have := tr_le (fl (a.length + b.length - 1) (fun m => cv (L a) (L b) m % md f))
    rw [fl_length] at this
    exact this
  have e : cv (L a) (L b) (a.length + b.length - 2) = L a (a.length - 1) * L b (b.length - 1) := by
    unfold cv
    rw [sumN_single (k := a.length - 1) (by omega) (by
      intro i hi hne
      by_cases c : i < a.length - 1
      · rw [L_out b _ (by omega), Int.mul_zero]
      · rw [L_out a i (by omega), Int.zero_mul]), show a.length + b.length - 2 - (a.length - 1) = b.length - 1 by omega]
  have hne : L (mulP (md f) a b) (a.length + b.length - 2) ≠ 0 := by
    rw [L_mulP, e]
    intro h
    have ra := L_el (show 0 < md f by omega) hEa (a.length - 1)
    have rb := L_el (show 0 < md f by omega) hEb (b.length - 1)
    rcases no_zero hp h with h | h
    · rw [Int.emod_eq_of_lt ra.1 ra.2] at h
      exact hTa (a.length - 1) (by omega) h
    · rw [Int.emod_eq_of_lt rb.1 rb.2] at h
      exact hTb (b.length - 1) (by omega) h
  have h2 : a.length + b.length - 2 < (mulP (md f) a b).length := by
    by_cases c : a.length + b.length - 2 < (mulP (md f) a b).length
    · exact c
    · exact absurd (L_out _ _ (by omega)) hne
  omega
/-- A polynomial's value at a place. -/
def evN (p : Int) (a : List Int) (x : Int) (n : Nat) : Int := sumN n (fun i => L a i * x ^ i) % p
def evL (p : Int) (a xs : List Int) : List Int := xs.map (fun x => evN p a x a.length)
/-- The program's value of a polynomial, from the top down. -/
def hs (p : Int) (a : List Int) (x : Int) (j : Nat) : Int := sumN (a.length - j) (fun t => L a (j + t) * x ^ t) % p
theorem hs_step (p : Int) (a : List Int) (x : Int) (j : Nat) (h : j < a.length) : (hs p a x (j + 1) * x + L a j) % p = hs p a x j := by
  unfold hs
  rw [show a.length - j = (a.length - (j + 1)) + 1 by omega, sumN_front]
  rw [Int.pow_zero, Int.mul_one]
  have e : sumN (a.length - (j + 1)) (fun k => L a (j + (k + 1)) * x ^ (k + 1)) = x * sumN (a.length - (j + 1)) (fun t => L a (j + 1 + t) * x ^ t) := by
    rw [← sumN_mul]
    apply sumN_congr
    intro i _
    rw [show j + (i + 1) = j + 1 + i by omega, Int.pow_succ, ← Int.mul_assoc, Int.mul_comm]
  generalize sumN (a.length - (j + 1)) (fun t => L a (j + 1 + t) * x ^ t) = S at e ⊢
  rw [e, Nat.add_zero, Int.mul_comm x, Int.add_comm (L a j), Int.add_emod, Int.mul_emod, Int.emod_emod_of_dvd _ (Int.dvd_refl _), ← Int.mul_emod, ← Int.add_emod]
theorem feval_ev (p g t : Int) (hp : 0 < p) (hp2 : p ≤ 1004535809) (a : List Int) (x : Int) (hE : El p a) (h0 : 0 ≤ x) (h1 : x < p) (hl : a.length ≤ 400) : Ev (fun k => impl_field_eval.f k p g t a x) (evN p a x a.length) := by
  have key : ∀ n : Nat, n ≤ a.length → Ev (fun k => impl_field_eval.l0 k a x (hs p a x n) ((n : Int) - 1) p g t) (evN p a x a.length) := by
    intro n
    induction n with
    | zero =>
      intro _
      have e : evN p a x a.length = hs p a x 0 := by
        unfold evN hs
        simp only [Nat.zero_add, Nat.sub_zero]
      rw [e]
      refine Ev.step (f := fun _ => some (hs p a x 0)) (fun k => ?_) (Ev.now _)
      simp only [impl_field_eval.l0]
      rw [if_neg (by omega)]
    | succ n ih =>
      intro hn
      refine Ev.step (fun k => ?_) (ih (by omega))
      have hr := emod_range (sumN (a.length - (n + 1)) (fun t => L a (n + 1 + t) * x ^ t)) hp
      have ha := L_el hp hE n
      have hm := prod_range hp2 (x := hs p a x (n + 1)) hr ⟨h0, h1⟩
      simp only [impl_field_eval.l0]
      rw [show ((n + 1 : Nat) : Int) - 1 = (n : Int) by omega, if_pos (by omega), if_pos (by omega), if_pos (by omega), if_neg (by omega), rd_L, wrap_id (x := hs p a x (n + 1) * x) (by omega) (by omega), wrap_id (x := hs p a x (n + 1) * x + L a n) (by omega) (by omega), wrap_id (x := (n : Int) - 1) (by omega) (by omega), tmod_nonneg' _ (by omega), hs_step p a x n (by omega)]
  have h := key a.length (Nat.le_refl _)
  have e : hs p a x a.length = 0 := by
    unfold hs
    rw [Nat.sub_self]
    simp [sumN]
  rw [e] at h
  refine Ev.congr (fun k => ?_) h
  simp only [impl_field_eval.f]
  rw [wrap_id (x := (a.length : Int) - 1) (by omega) (by omega)]
theorem fevalMany_loop (p g t : Int) (hp : 0 < p) (hp2 : p ≤ 1004535809) (a xs : List Int) (hE : El p a) (hx : El p xs) (hl : a.length ≤ 400) (hxs : xs.length ≤ 1000000) :
    ∀ (d i : Nat) (s : List Int), i + d = xs.length → s.length = i → Ev (fun k => impl_field_evalMany.l0 k a s xs (xs.length : Int) (i : Int) p g t) (s ++ evL p a (xs.drop i)) := by
  intro d
  induction d with
  | zero =>
    intro i s hi hs
    refine Ev.step (f := fun _ => some s) (fun k => ?_) ?_
    · simp only [impl_field_evalMany.l0]
      rw [if_neg (by omega)]
    · rw [List.drop_eq_nil_of_le (by omega)]
      simp only [evL, List.map_nil, List.append_nil]
      exact Ev.now _
  | succ d ih =>
    intro i s hi hs
    have hr := hx.at i (by omega)
    have h := feval_ev p g t hp hp2 a xs[i] hE hr.1 hr.2 hl
    refine Ev.step (f := fun k => (impl_field_eval.f k p g t a xs[i]).bind fun t215 => if s.length < 17592186044416 then impl_field_evalMany.l0 k a (s ++ [t215]) xs (xs.length : Int) (wrap64 ((i : Int) + 1)) p g t else none) (fun k => ?_) (Ev.bind h ?_)
    · simp only [impl_field_evalMany.l0]
      rw [if_pos (by omega), if_pos (by omega), if_pos (by omega), rd_at xs i (by omega)]
    · have h2 := ih (i + 1) (s ++ [evN p a xs[i] a.length]) (by omega) (by simp [hs])
      rw [drop_cons xs i (by omega)]
      simp only [evL, List.map_cons]
      rw [List.append_assoc] at h2
      refine Ev.congr (fun k => ?_) h2
      rw [if_pos (by omega), wrap_next (show i < xs.length by omega) (by omega)]
theorem fevalMany_ev (p g t : Int) (hp : 0 < p) (hp2 : p ≤ 1004535809) (a xs : List Int) (hE : El p a) (hx : El p xs) (hl : a.length ≤ 400) (hxs : xs.length ≤ 1000000) : Ev (fun k => impl_field_evalMany.f k p g t a xs) (evL p a xs) := by
  have h := fevalMany_loop p g t hp hp2 a xs hE hx hl hxs xs.length 0 [] (by omega) rfl
  rw [List.nil_append, List.drop_zero] at h
  exact h
/-- What a list must be for a polynomial, the field given. -/
def Lok (p : Int) (l : List Int) : Prop := l.length ≤ 400 ∧ El p l ∧ (l.length ≠ 0 → L l (l.length - 1) ≠ 0)
instance (p : Int) (l : List Int) : Decidable (Lok p l) := by unfold Lok; exact inferInstance
theorem rdLL_at (ls : List (List Int)) (i : Nat) (h : i < ls.length) : rd_L2 ls (i : Int) = ls[i] := by simp [rd_L2, List.getD, h]
def AllLok (p : Int) (ls : List (List Int)) : Prop := ∀ l ∈ ls, Lok p l
instance (p : Int) (ls : List (List Int)) : Decidable (AllLok p ls) := List.decidableBAll _ _
theorem AllLok.nil (p : Int) : AllLok p [] := fun l hl => by cases hl
theorem AllLok.cons {p : Int} {l : List Int} {ls : List (List Int)} (h : Lok p l) (hs : AllLok p ls) : AllLok p (l :: ls) := fun x hx => by
  rcases List.mem_cons.1 hx with rfl | hx
  · exact h
  · exact hs x hx
theorem polyField_f (f : Int) (ls : List (List Int)) (hls : ls.length ≤ 100) (K : Nat) (hK : ∀ l ∈ ls, l.length < K) (hK2 : K ≤ 2000000) (k : Nat) (hk : ls.length + K < k) :
    impl_polyField.f k f ls = some (if md f ≠ 0 ∧ AllLok (md f) ls then (md f, gn f, tw f, true) else (0, 0, 0, false)) := by
  unfold impl_polyField.f
  rw [fieldOf_f]
  simp only [bs]
  by_cases hp : md f = 0
  · rw [if_neg (by simpa using hp), if_neg (fun h => h.1 hp)]
  · rw [if_pos (by simpa using hp)]
    have key := loop_list (fun k (_ : Unit) i => impl_polyField.l0 k ls (ls.length : Int) i (md f) (gn f) (tw f)) ls K (fun _ _ => True) (fun r _ => if AllLok (md f) r then (md f, gn f, tw f, true) else (0, 0, 0, false)) (by
      intro k s _ _
      simp only [impl_polyField.l0]
      rw [if_neg (by omega), if_pos (AllLok.nil _)]) (by
      intro k i s h hKk _
      have hlen := hK ls[i] (List.getElem_mem h)
      simp only [impl_polyField.l0]
      rw [if_pos (by omega), if_pos (by omega), if_pos (by omega), rdLL_at ls i h]
      generalize ls[i] = l at hlen
      have no : ∀ hh : ¬ Lok (md f) l, (if AllLok (md f) (l :: ls.drop (i + 1)) then (md f, gn f, tw f, true) else (0, 0, 0, false)) = (0, 0, 0, false) := fun hh => if_neg (fun h => hh (h l List.mem_cons_self))
      have yes : ∀ hh : Lok (md f) l, (if AllLok (md f) (l :: ls.drop (i + 1)) then (md f, gn f, tw f, true) else (0, 0, 0, false)) = (if AllLok (md f) (ls.drop (i + 1)) then (md f, gn f, tw f, true) else (0, 0, 0, false)) := by
        intro hh
        by_cases c : AllLok (md f) (ls.drop (i + 1))
        · rw [if_pos c, if_pos (AllLok.cons hh c)]
        · rw [if_neg c, if_neg (fun h => c (fun x hx => h x (List.mem_cons_of_mem _ hx)))]
      by_cases c1 : (l.length : Int) > 400
      · right
        rw [if_pos c1, no (fun h => by have := h.1; omega)]
      · rw [if_neg c1, areElements_f _ _ _ l (by omega) k (by omega)]
        simp only [bs]
        by_cases c2 : El (md f) l
        · rw [if_pos (by simpa using c2)]
          by_cases c3 : (l.length : Int) > 0
          · have hw : wrap64 ((l.length : Int) - 1) = ((l.length - 1 : Nat) : Int) := by rw [wrap_id (by omega) (by omega)]; omega
            rw [if_pos c3, hw, if_pos (by omega), if_pos (by omega), rd_L]
            by_cases c4 : L l (l.length - 1) = 0
            · right
              rw [if_pos c4, no (fun h => h.2.2 (by omega) c4)]
            · left
              refine ⟨(), ?_, trivial, yes ⟨by omega, c2, fun _ => c4⟩⟩
              rw [if_neg c4, wrap_next h (by omega)]
          · left
            refine ⟨(), ?_, trivial, yes ⟨by omega, c2, fun h => by omega⟩⟩
            rw [if_neg c3, wrap_next h (by omega)]
        · right
          rw [if_neg (by simpa using c2), no (fun h => c2 h.2.1)]) k () (by omega) trivial
    rw [key]
    congr 1
    by_cases c : AllLok (md f) ls
    · rw [if_pos c, if_pos ⟨hp, c⟩]
    · rw [if_neg c, if_neg (fun h => c h.2)]
theorem sameInts_f (a b : List Int) (hn : a.length ≤ 2000000) (k : Nat) (hk : a.length < k) : spec_l16SameInts.f k a b = some (decide (a = b)) := by
  unfold spec_l16SameInts.f
  by_cases c : (a.length : Int) = (b.length : Int)
  · rw [if_pos c]
    have key : ∀ (d k i : Nat), i + d = a.length → d < k → spec_l16SameInts.l0 k a b (i : Int) = some (decide (a.drop i = b.drop i)) := by
      intro d
      induction d with
      | zero =>
        intro k i hi hk
        obtain ⟨k, rfl⟩ : ∃ m, k = m + 1 := ⟨k - 1, by omega⟩
        simp only [spec_l16SameInts.l0]
        rw [if_neg (by omega), List.drop_eq_nil_of_le (by omega), List.drop_eq_nil_of_le (by omega)]
        rfl
      | succ d ih =>
        intro k i hi hk
        obtain ⟨k, rfl⟩ : ∃ m, k = m + 1 := ⟨k - 1, by omega⟩
        simp only [spec_l16SameInts.l0]
        rw [if_pos (by omega), if_pos (by omega), if_pos (by omega), rd_at a i (by omega), rd_at b i (by omega), drop_cons a i (by omega), drop_cons b i (by omega)]
        by_cases e : a[i] = b[i]
        · rw [if_pos e, wrap_next (show i < a.length by omega) (by omega), ih k (i + 1) (by omega) (by omega)]
          congr 1
          exact decide_eq_decide.mpr ⟨fun h => by rw [e, h], fun h => (List.cons.inj h).2⟩
        · rw [if_neg e, decide_eq_false (fun h => e (List.cons.inj h).1)]
    have := key a.length k 0 (by omega) hk
    simpa using this
  · rw [if_neg c, decide_eq_false (fun h => c (by rw [h]))]
/-- Points that differ, from a place on. -/
def disB (l : List Int) : Nat → Nat → Bool
  | 0, _ => true
  | d + 1, i => (!decide (L l i ∈ l.take i)) && disB l d (i + 1)
def PointsOk (f : Int) (l : List Int) : Prop := md f ≠ 0 ∧ 1 ≤ l.length ∧ l.length ≤ 40 ∧ El (md f) l ∧ disB l l.length 0 = true
instance (f : Int) (l : List Int) : Decidable (PointsOk f l) := by unfold PointsOk; exact inferInstance
theorem has_f (l : List Int) (a : Int) (hn : l.length ≤ 2000000) (k : Nat) (hk : l.length < k) : spec_l01Has.f k l a = some (decide (a ∈ l)) := by
  unfold spec_l01Has.f
  exact loop_list (fun k (_ : Unit) i => spec_l01Has.l0 k l a i) l 0 (fun _ _ => True) (fun r _ => decide (a ∈ r)) (by
    intro k s _ _
    simp only [spec_l01Has.l0]
    rw [if_neg (by omega)]
    simp) (by
    intro k i s h _ _
    simp only [spec_l01Has.l0]
    rw [if_pos (by omega), if_pos (by omega), rd_at l i h]
    by_cases c : l[i] = a
    · right
      rw [if_pos c]
      simp [c]
    · left
      refine ⟨(), ?_, trivial, ?_⟩
      · rw [if_neg c, wrap_next h (by omega)]
      · have c' : ¬ a = l[i] := fun e => c e.symm
        rw [decide_eq_decide, List.mem_cons]
        exact ⟨fun h => h.resolve_left c', Or.inr⟩) k () (by omega) trivial
theorem pointsOk_loop (l : List Int) (hn : l.length ≤ 40) : ∀ (d k i : Nat), i + d = l.length → d + 50 < k → spec_PointsOk.l0 k l (i : Int) = some (disB l d i) := by
  intro d
  induction d with
  | zero =>
    intro k i hi hk
    obtain ⟨k, rfl⟩ : ∃ m, k = m + 1 := ⟨k - 1, by omega⟩
    simp only [spec_PointsOk.l0]
    rw [if_neg (by omega)]
    rfl
  | succ d ih =>
    intro k i hi hk
    obtain ⟨k, rfl⟩ : ∃ m, k = m + 1 := ⟨k - 1, by omega⟩
    simp only [spec_PointsOk.l0, disB]
    rw [if_pos (by omega), if_pos (by omega), if_pos (by omega), Int.toNat_natCast, has_f _ _ (by rw [List.length_take]; omega) k (by rw [List.length_take]; omega), rd_L]
    simp only [bs]
    by_cases c : L l i ∈ l.take i
    · rw [if_pos (by simpa using c), decide_eq_true c]
      rfl
    · rw [if_neg (by simpa using c), decide_eq_false c, wrap_next (show i < l.length by omega) (by omega), ih k (i + 1) (by omega) (by omega)]
      rfl
theorem pointsOk_f (f : Int) (l : List Int) (hn : l.length ≤ 2000000) (k : Nat) (hk : l.length + 100 < k) : spec_PointsOk.f k f l = some (decide (PointsOk f l)) := by
  obtain ⟨k, rfl⟩ : ∃ m, k = m + 1 := ⟨k - 1, by omega⟩
  simp only [spec_PointsOk.f]
  rw [in_f]
  simp only [bs]
  by_cases c : 1 ≤ (l.length : Int) ∧ (l.length : Int) ≤ 40
  · rw [if_pos (by simpa using c), elements_f f l hn (k + 1) (by omega)]
    simp only [bs]
    simp only [spec_PointsOk.j0]
    by_cases d : md f ≠ 0 ∧ El (md f) l
    · rw [decide_eq_true d, if_neg (by decide)]
      have := pointsOk_loop l (by omega) l.length k 0 (by omega) (by omega)
      rw [show ((0 : Nat) : Int) = 0 from rfl] at this
      rw [this]
      congr 1
      rw [Bool.eq_iff_iff, decide_eq_true_eq]
      exact ⟨fun h => ⟨d.1, by omega, by omega, d.2, h⟩, fun h => h.2.2.2.2⟩
    · rw [decide_eq_false d, if_pos (by decide), decide_eq_false (fun h => d ⟨h.1, h.2.2.2.1⟩)]
  · rw [if_neg (by simpa using c)]
    simp only [spec_PointsOk.j0, if_true]
    rw [decide_eq_false (fun h => c ⟨by have := h.2.1; omega, by have := h.2.2.1; omega⟩)]
theorem pf_inner (p g t : Int) (l : List Int) (hn : l.length ≤ 40) (i : Nat) (hi : i < l.length) (r : Int × Int × Int × Bool) (k0 : Nat)
    (hr : ∀ k, k0 ≤ k → impl_pointField.l0 k l l (l.length : Int) ((i + 1 : Nat) : Int) p g t = some r) : ∀ (d j k : Nat), j + d = i → k0 + d + 1 ≤ k →
    impl_pointField.l1 k l (L l i) l (l.length : Int) (i : Int) (l.take i) ((l.take i).length : Int) (j : Int) p g t = some (if L l i ∈ (l.take i).drop j then (0, 0, 0, false) else r) := by
  have hlen : (l.take i).length = i := by rw [List.length_take]; omega
  intro d
  induction d with
  | zero =>
    intro j k hj hk
    obtain ⟨k, rfl⟩ : ∃ m, k = m + 1 := ⟨k - 1, by omega⟩
    simp only [impl_pointField.l1]
    rw [if_neg (by omega), wrap_next (show i < l.length by omega) (by omega), hr k (by omega), List.drop_eq_nil_of_le (by omega), if_neg (by simp)]
  | succ d ih =>
    intro j k hj hk
    obtain ⟨k, rfl⟩ : ∃ m, k = m + 1 := ⟨k - 1, by omega⟩
    simp only [impl_pointField.l1]
    rw [if_pos (by omega), if_pos (by omega), if_pos (by omega), rd_at _ j (by omega), drop_cons _ j (by omega)]
    by_cases c : L l i = (l.take i)[j]'(by omega)
    · rw [if_pos c, if_pos (by rw [c]; exact List.mem_cons_self)]
    · rw [if_neg c, wrap_next (show j < i by omega) (by omega), ih (j + 1) k (by omega) (by omega)]
      by_cases c2 : L l i ∈ (l.take i).drop (j + 1)
      · rw [if_pos c2, if_pos (List.mem_cons_of_mem _ c2)]
      · rw [if_neg c2, if_neg (fun h => (List.mem_cons.1 h).elim c c2)]
theorem pf_loop (p g t : Int) (l : List Int) (hn : l.length ≤ 40) : ∀ (d i k : Nat), i + d = l.length → 50 * (d + 1) ≤ k →
    impl_pointField.l0 k l l (l.length : Int) (i : Int) p g t = some (if disB l d i = true then (p, g, t, true) else (0, 0, 0, false)) := by
  intro d
  induction d with
  | zero =>
    intro i k hi hk
    obtain ⟨k, rfl⟩ : ∃ m, k = m + 1 := ⟨k - 1, by omega⟩
    simp only [impl_pointField.l0]
    rw [if_neg (by omega)]
    rfl
  | succ d ih =>
    intro i k hi hk
    obtain ⟨k, rfl⟩ : ∃ m, k = m + 1 := ⟨k - 1, by omega⟩
    simp only [impl_pointField.l0]
    rw [if_pos (by omega), if_pos (by omega), if_pos (by omega), if_pos (by omega), Int.toNat_natCast, rd_L]
    have h := pf_inner p g t l hn i (by omega) _ (50 * (d + 1)) (fun k hk => ih (i + 1) k (by omega) hk) i 0 k (by omega) (by omega)
    rw [show ((0 : Nat) : Int) = 0 from rfl, List.drop_zero] at h
    rw [h]
    congr 1
    by_cases c : L l i ∈ l.take i
    · have e : disB l (d + 1) i = false := by simp [disB, c]
      rw [if_pos c, e]
      rfl
    · have e : disB l (d + 1) i = disB l d (i + 1) := by simp [disB, c]
      rw [if_neg c, e]
theorem pointField_f (f : Int) (l : List Int) (hn : l.length ≤ 2000000) (k : Nat) (hk : l.length + 3000 < k) : impl_pointField.f k f l = some (if PointsOk f l then (md f, gn f, tw f, true) else (0, 0, 0, false)) := by
  obtain ⟨k, rfl⟩ : ∃ m, k = m + 1 := ⟨k - 1, by omega⟩
  simp only [impl_pointField.f]
  rw [fieldOf_f]
  simp only [bs]
  by_cases hp : md f = 0
  · rw [if_neg (by simpa using hp)]
    simp only [impl_pointField.j0, if_true]
    rw [if_neg (fun h => h.1 hp)]
  · rw [if_pos (by simpa using hp)]
    by_cases c1 : (l.length : Int) < 1
    · rw [if_pos c1]
      simp only [impl_pointField.j0, if_true]
      rw [if_neg (fun h => by have := h.2.1; omega)]
    · rw [if_neg c1]
      by_cases c2 : (l.length : Int) > 40
      · rw [if_pos c2]
        simp only [impl_pointField.j0, if_true]
        rw [if_neg (fun h => by have := h.2.2.1; omega)]
      · rw [if_neg c2, areElements_f _ _ _ l (by omega) (k + 1) (by omega)]
        simp only [bs]
        simp only [impl_pointField.j0]
        by_cases c3 : El (md f) l
        · rw [decide_eq_true c3, if_neg (by decide)]
          have := pf_loop (md f) (gn f) (tw f) l (by omega) l.length 0 k (by omega) (by omega)
          rw [show ((0 : Nat) : Int) = 0 from rfl] at this
          rw [this]
          congr 1
          by_cases c4 : disB l l.length 0 = true
          · rw [if_pos c4, if_pos ⟨hp, by omega, by omega, c3, c4⟩]
          · rw [if_neg c4, if_neg (fun h => c4 h.2.2.2.2)]
        · rw [decide_eq_false c3, if_pos (by decide), if_neg (fun h => c3 h.2.2.2.1)]
/-- A polynomial's rest behind its first coefficients, by a place's powers. -/
def Hd (n : Nat) (D : Nat → Int) (z : Int) : Nat → Int
  | 0 => 0
  | d + 1 => D (n - d) + z * Hd n D z d
def Hj (n : Nat) (D : Nat → Int) (z : Int) (j : Nat) : Int := Hd n D z (n + 1 - j)
theorem Hj_step (n : Nat) (D : Nat → Int) (z : Int) (j : Nat) (h : j ≤ n) : Hj n D z j = D j + z * Hj n D z (j + 1) := by
  unfold Hj
  rw [show n + 1 - j = (n - j) + 1 by omega, Hd, show n - (n - j) = j by omega, show n + 1 - (j + 1) = n - j by omega]
theorem Hj_end (n : Nat) (D : Nat → Int) (z : Int) : Hj n D z (n + 1) = 0 := by
  unfold Hj
  rw [Nat.sub_self]
  rfl
theorem Hj_sum (n : Nat) (D : Nat → Int) (z x : Int) : ∀ j : Nat, j ≤ n + 1 → (x - z) * sumN j (fun k => Hj n D z (k + 1) * x ^ k) = Hj n D z j * x ^ j - Hj n D z 0 + sumN j (fun k => D k * x ^ k) := by
  intro j
  induction j with
  | zero => intro _; simp [sumN]
  | succ j ih =>
    intro h
    simp only [sumN]
    rw [Int.mul_add, ih (by omega), Int.pow_succ]
    have e := Hj_step n D z j (by omega)
    generalize Hj n D z (j + 1) = u at e ⊢
    rw [e]
    have a1 : (x - z) * (u * x ^ j) = u * (x ^ j * x) - z * u * x ^ j := by
      rw [Int.sub_mul, Int.mul_left_comm x u, Int.mul_comm x (x ^ j), Int.mul_assoc z u]
    have a2 : (D j + z * u) * x ^ j = D j * x ^ j + z * u * x ^ j := Int.add_mul _ _ _
    rw [a1, a2]
    omega
/-- A polynomial with as many zeros as it has coefficients is nought. -/
theorem roots_zero {f : Int} (hp : md f ≠ 0) : ∀ (n : Nat) (D r : Nat → Int), (∀ i j, i < j → j < n → (r i - r j) % md f ≠ 0) → (∀ i, i < n → sumN n (fun m => D m * r i ^ m) % md f = 0) → ∀ m, m < n → D m % md f = 0 := by
  intro n
  induction n with
  | zero => intro D r _ _ m hm; omega
  | succ n ih =>
    intro D r hd hz m hm
    have hsum := fun x => Hj_sum n D (r n) x (n + 1) (Nat.le_refl _)
    simp only [Hj_end, Int.zero_mul, Int.zero_sub] at hsum
    have h0 : Hj n D (r n) 0 % md f = 0 := by
      have := hsum (r n)
      rw [Int.sub_self, Int.zero_mul] at this
      have e : Hj n D (r n) 0 = sumN (n + 1) (fun k => D k * r n ^ k) := by omega
      rw [e]
      exact hz n (by omega)
    have hq : ∀ k, k < n → Hj n D (r n) (k + 1) % md f = 0 := by
      refine ih (fun k => Hj n D (r n) (k + 1)) r (fun i j h1 h2 => hd i j h1 (by omega)) (fun i hi => ?_)
      have e := hsum (r i)
      have hm0 : ((r i - r n) * sumN (n + 1) (fun k => Hj n D (r n) (k + 1) * r i ^ k)) % md f = 0 := by
        rw [e, Int.add_emod, hz i (by omega), Int.add_zero, Int.emod_emod_of_dvd _ (Int.dvd_refl _), Int.neg_emod_eq_sub_emod (b := md f), Int.sub_emod, h0]
        simp
      rcases no_zero hp hm0 with h | h
      · exact absurd h (hd i n hi (by omega))
      · simp only [sumN] at h
        rw [Hj_end, Int.zero_mul, Int.add_zero] at h
        exact h
    have e := Hj_step n D (r n) m (by omega)
    have h1 : Hj n D (r n) m % md f = 0 := by
      cases m with
      | zero => exact h0
      | succ m => exact hq m (by omega)
    have h2 : Hj n D (r n) (m + 1) % md f = 0 := by
      by_cases c : m = n
      · rw [c, Hj_end]; exact Int.zero_emod _
      · exact hq m (by omega)
    have e2 : D m = Hj n D (r n) m - r n * Hj n D (r n) (m + 1) := by omega
    rw [e2, Int.sub_emod, Int.mul_emod, h1, h2]
    simp
theorem sum_out (a : List Int) (x : Int) (n : Nat) (h : a.length ≤ n) : sumN n (fun m => L a m * x ^ m) = sumN a.length (fun m => L a m * x ^ m) := by
  obtain ⟨e, rfl⟩ : ∃ e, n = a.length + e := ⟨n - a.length, by omega⟩
  induction e with
  | zero => rfl
  | succ e ih =>
    rw [show a.length + (e + 1) = a.length + e + 1 by omega]
    simp only [sumN]
    rw [ih (by omega), L_out a (a.length + e) (by omega), Int.zero_mul, Int.add_zero]
theorem ev_out (p : Int) (a : List Int) (x : Int) (n : Nat) (h : a.length ≤ n) : evN p a x a.length = sumN n (fun m => L a m * x ^ m) % p := by
  rw [sum_out a x n h]
  rfl
/-- Polynomials that are alike at enough places are alike. -/
theorem poly_unique {f : Int} (hp : md f ≠ 0) {a b xs : List Int} (ha : Tr a) (hb : Tr b) (hEa : El (md f) a) (hEb : El (md f) b) (la : a.length ≤ xs.length) (lb : b.length ≤ xs.length)
    (hd : ∀ i j, i < j → j < xs.length → (L xs i - L xs j) % md f ≠ 0) (he : ∀ i, i < xs.length → evN (md f) a (L xs i) a.length = evN (md f) b (L xs i) b.length) : a = b := by
  have hq := md_pos hp
  have hz := roots_zero hp xs.length (fun m => L a m - L b m) (L xs) hd (fun i hi => by
    have e := he i hi
    rw [ev_out _ a _ xs.length la, ev_out _ b _ xs.length lb] at e
    have e2 : sumN xs.length (fun m => (L a m - L b m) * L xs i ^ m) = sumN xs.length (fun m => L a m * L xs i ^ m) - sumN xs.length (fun m => L b m * L xs i ^ m) := by
      rw [← sumN_sub]
      exact sumN_congr (fun m _ => Int.sub_mul _ _ _)
    rw [e2, Int.sub_emod, e, Int.sub_self, Int.zero_emod])
  refine Tr.ext ha hb (fun i => ?_)
  by_cases c : i < xs.length
  · exact el_eq (L_el (by omega) hEa i) (L_el (by omega) hEb i) (hz i c)
  · rw [L_out a i (by omega), L_out b i (by omega)]
theorem cv_lin (A : Nat → Int) (c : Int) (m : Nat) : cv A (L [c, 1]) (m + 1) = A (m + 1) * c + A m := by
  unfold cv
  simp only [sumN]
  rw [sumN_zero (fun t ht => by rw [L_out [c, 1] _ (by simp; omega), Int.mul_zero]), Nat.sub_self, show m + 1 - m = 1 by omega, show L [c, 1] 0 = c from rfl, show L [c, 1] 1 = 1 from rfl]
  omega
theorem cv_lin0 (A : Nat → Int) (c : Int) : cv A (L [c, 1]) 0 = A 0 * c := by
  unfold cv
  simp only [sumN]
  rw [show L [c, 1] (0 - 0) = c from rfl]
  omega
theorem sum_lin (A : Nat → Int) (c x : Int) : ∀ n : Nat, sumN (n + 1) (fun m => cv A (L [c, 1]) m * x ^ m) = c * sumN (n + 1) (fun m => A m * x ^ m) + x * sumN n (fun m => A m * x ^ m) := by
  intro n
  induction n with
  | zero =>
    simp only [sumN]
    rw [cv_lin0, Int.pow_zero, Int.mul_one, Int.mul_one, Int.mul_zero, Int.add_zero, Int.zero_add, Int.zero_add, Int.mul_comm]
  | succ n ih =>
    have e : sumN (n + 1 + 1) (fun m => cv A (L [c, 1]) m * x ^ m) = sumN (n + 1) (fun m => cv A (L [c, 1]) m * x ^ m) + cv A (L [c, 1]) (n + 1) * x ^ (n + 1) := rfl
    have e1 : sumN (n + 1 + 1) (fun m => A m * x ^ m) = sumN (n + 1) (fun m => A m * x ^ m) + A (n + 1) * x ^ (n + 1) := rfl
    have e2 : sumN (n + 1) (fun m => A m * x ^ m) = sumN n (fun m => A m * x ^ m) + A n * x ^ n := rfl
    have t1 : (A (n + 1) * c + A n) * x ^ (n + 1) = c * (A (n + 1) * x ^ (n + 1)) + x * (A n * x ^ n) := by
      rw [Int.add_mul, Int.mul_comm (A (n + 1)) c, Int.mul_assoc c, Int.pow_succ, Int.mul_comm (x ^ n) x, Int.mul_left_comm (A n) x]
    rw [e, ih, cv_lin, e1, t1, Int.mul_add c, e2, Int.mul_add x]
    omega
theorem eml (a b p : Int) : a % p * b % p = a * b % p := by
  rw [Int.mul_emod, Int.emod_emod_of_dvd _ (Int.dvd_refl _), ← Int.mul_emod]
theorem ev_lin (p : Int) (a : List Int) (c x : Int) (ha : 1 ≤ a.length) : evN p (mulP p a [c, 1]) x (mulP p a [c, 1]).length = evN p a x a.length * (c + x) % p := by
  have hl := mulP_le p a [c, 1]
  simp only [List.length_cons, List.length_nil] at hl
  rw [ev_out p _ x (a.length + 2) (by omega)]
  have e : sumN (a.length + 2) (fun m => L (mulP p a [c, 1]) m * x ^ m) % p = sumN (a.length + 2) (fun m => cv (L a) (L [c, 1]) m * x ^ m) % p := by
    refine sumN_emod p (fun m _ => ?_)
    rw [L_mulP, Int.mul_emod, Int.emod_emod_of_dvd _ (Int.dvd_refl _), ← Int.mul_emod]
  rw [e, sum_lin, sum_out a x (a.length + 1 + 1) (by omega), sum_out a x (a.length + 1) (by omega), ← Int.add_mul, Int.mul_comm]
  unfold evN
  exact (eml _ _ _).symm
/-- The product of the differences from a place. -/
def pr (p x : Int) : List Int → Int → Int
  | [], a => a
  | y :: l, a => pr p x l (a * (x - y) % p)
theorem pr_snoc (p x y : Int) : ∀ (l : List Int) (a : Int), pr p x (l ++ [y]) a = pr p x l a * (x - y) % p := by
  intro l
  induction l with
  | nil => intro a; rfl
  | cons z l ih => intro a; exact ih _
theorem pr_zero (p x : Int) : ∀ (l : List Int), pr p x l 0 = 0 := by
  intro l
  induction l with
  | nil => rfl
  | cons z l ih => rw [pr, Int.zero_mul, Int.zero_emod, ih]
theorem pr_mem (p x : Int) : ∀ (l : List Int) (a : Int), x ∈ l → pr p x l a = 0 := by
  intro l
  induction l with
  | nil => intro a h; cases h
  | cons z l ih =>
    intro a h
    rw [pr]
    rcases List.mem_cons.1 h with rfl | h
    · rw [Int.sub_self, Int.mul_zero, Int.zero_emod, pr_zero]
    · exact ih _ h
theorem pr_ne {f : Int} (hp : md f ≠ 0) (x : Int) : ∀ (l : List Int) (a : Int), (∀ y ∈ l, (x - y) % md f ≠ 0) → a % md f ≠ 0 → pr (md f) x l a % md f ≠ 0 := by
  intro l
  induction l with
  | nil => intro a _ h; exact h
  | cons z l ih =>
    intro a h ha
    rw [pr]
    refine ih _ (fun y hy => h y (List.mem_cons_of_mem _ hy)) ?_
    rw [Int.emod_emod_of_dvd _ (Int.dvd_refl _)]
    intro e
    rcases no_zero hp e with e | e
    · exact ha e
    · exact h z List.mem_cons_self e
/-- The polynomial that is nought just at some places. -/
def van (p : Int) : List Int → List Int → List Int
  | acc, [] => acc
  | acc, x :: l => van p (mulP p acc [(0 - x) % p, 1]) l
def Pk (f : Int) (l : List Int) : Prop := El (md f) l ∧ Tr l ∧ 1 ≤ l.length
theorem lin_el {f : Int} (hp : md f ≠ 0) (x : Int) : El (md f) [(0 - x) % md f, 1] := by
  have hq := md_pos hp
  intro y hy
  simp only [List.mem_cons, List.not_mem_nil, or_false] at hy
  rcases hy with rfl | rfl
  · exact emod_range _ (by omega)
  · omega
theorem lin_tr (c : Int) : Tr [c, 1] := by
  intro j hj
  have : j = 1 := by simp at hj; omega
  rw [this]
  show (1 : Int) ≠ 0
  decide
theorem Pk.step {f : Int} (hp : md f ≠ 0) {l : List Int} (h : Pk f l) (x : Int) : Pk f (mulP (md f) l [(0 - x) % md f, 1]) ∧ (mulP (md f) l [(0 - x) % md f, 1]).length = l.length + 1 := by
  have hq := md_pos hp
  have e := mulP_len hp h.1 (lin_el hp x) h.2.1 (lin_tr _) h.2.2 (by simp)
  simp only [List.length_cons, List.length_nil] at e
  exact ⟨⟨mulP_el (by omega) _ _, mulP_Tr _ _ _, by omega⟩, by omega⟩
theorem van_ok {f : Int} (hp : md f ≠ 0) : ∀ (l acc : List Int), Pk f acc → Pk f (van (md f) acc l) ∧ (van (md f) acc l).length = acc.length + l.length ∧ ∀ x, evN (md f) (van (md f) acc l) x (van (md f) acc l).length = pr (md f) x l (evN (md f) acc x acc.length) := by
  intro l
  induction l with
  | nil => intro acc h; exact ⟨h, rfl, fun x => rfl⟩
  | cons z l ih =>
    intro acc h
    have s := h.step hp z
    obtain ⟨h1, h2, h3⟩ := ih _ s.1
    refine ⟨h1, by rw [van, h2, s.2, List.length_cons]; omega, fun x => ?_⟩
    rw [van, h3 x, pr, ev_lin _ acc _ x h.2.2]
    congr 1
    rw [Int.mul_emod, Int.add_emod, Int.emod_emod_of_dvd _ (Int.dvd_refl _), ← Int.add_emod, ← Int.mul_emod]
    congr 2
    omega
theorem van_ev {f : Int} (hp : md f ≠ 0) (l : List Int) (hl : l.length ≤ 100) : ∀ (d i : Nat) (acc : List Int), i + d = l.length → Pk f acc → acc.length + d ≤ 300 → Ev (fun k => spec_l07Vanish.l0 k f l acc (i : Int)) (van (md f) acc (l.drop i)) := by
  intro d
  induction d with
  | zero =>
    intro i acc hi h ha
    rw [List.drop_eq_nil_of_le (by omega)]
    refine Ev.step (f := fun _ => some acc) (fun k => ?_) (Ev.now _)
    simp only [spec_l07Vanish.l0]
    rw [if_neg (by omega)]
  | succ d ih =>
    intro i acc hi h ha
    have s := h.step hp l[i]
    rw [drop_cons l i (by omega), van]
    refine Ev.step (f := fun k => (spec_l03Mul.f k f acc [(0 - l[i]) % md f, 1]).bind fun t => spec_l07Vanish.l0 k f l t ((i + 1 : Nat) : Int)) (fun k => ?_) (Ev.bind (l03Mul_ev f acc [(0 - l[i]) % md f, 1] hp h.1 (lin_el hp _) (by omega) (by simp)) (ih (i + 1) _ (by omega) s.1 (by omega)))
    simp only [spec_l07Vanish.l0]
    rw [if_pos (by omega), if_pos (by omega), rd_at l i (by omega), sub_f f 0 _ hp]
    simp only [bs]
    rw [wrap_next (show i < l.length by omega) (by omega)]
/-- A multiple of a polynomial. -/
def scP (p : Int) (v : List Int) (s : Int) : List Int := tr (fl v.length (fun m => L v m * s % p))
theorem L_scP (p : Int) (v : List Int) (s : Int) (m : Nat) : L (scP p v s) m = L v m * s % p := by
  unfold scP
  rw [L_tr]
  by_cases c : m < v.length
  · rw [L_fl _ _ _ c]
  · rw [L_out _ _ (by rw [fl_length]; omega), L_out v m (by omega), Int.zero_mul, Int.zero_emod]
theorem scP_len (p : Int) (v : List Int) (s : Int) : (scP p v s).length ≤ v.length := by
  have := tr_le (fl v.length (fun m => L v m * s % p))
  rw [fl_length] at this
  exact this
theorem ev_scP (p : Int) (v : List Int) (s x : Int) : evN p (scP p v s) x (scP p v s).length = evN p v x v.length * s % p := by
  rw [ev_out p _ x v.length (scP_len p v s)]
  have e : sumN v.length (fun m => L (scP p v s) m * x ^ m) % p = sumN v.length (fun m => s * (L v m * x ^ m)) % p := by
    refine sumN_emod p (fun m _ => ?_)
    rw [L_scP, Int.mul_emod, Int.emod_emod_of_dvd _ (Int.dvd_refl _), ← Int.mul_emod, Int.mul_comm (L v m) s, Int.mul_assoc]
  rw [e, sumN_mul, Int.mul_comm]
  unfold evN
  exact (eml _ _ _).symm
theorem addP_len (p : Int) (a b : List Int) : (addP p a b).length ≤ max a.length b.length := by
  have := tr_le (fl (max a.length b.length) (fun m => (L a m + L b m) % p))
  rw [fl_length] at this
  exact this
theorem ev_addP (p : Int) (a b : List Int) (x : Int) : evN p (addP p a b) x (addP p a b).length = (evN p a x a.length + evN p b x b.length) % p := by
  have hl := addP_len p a b
  rw [ev_out p _ x (max a.length b.length) hl, ev_out p a x (max a.length b.length) (by omega), ev_out p b x (max a.length b.length) (by omega)]
  have e : sumN (max a.length b.length) (fun m => L (addP p a b) m * x ^ m) % p = sumN (max a.length b.length) (fun m => L a m * x ^ m + L b m * x ^ m) % p := by
    refine sumN_emod p (fun m _ => ?_)
    rw [L_addP, Int.mul_emod, Int.emod_emod_of_dvd _ (Int.dvd_refl _), ← Int.mul_emod, Int.add_mul]
  rw [e, sumN_add, Int.add_emod]
theorem scale_ev {f : Int} (v : List Int) (s : Int) (hv : PolyOk f v) : Ev (fun k => spec_ScalePoly.f k f v s) (scP (md f) v s) := by
  have hp := hv.1
  have hl := hv.2.1
  have key : ∀ d i : Nat, i + d = v.length → Ev (fun k => spec_ScalePoly.l0 k f v s (fl i (fun m => L v m * s % md f)) (i : Int)) (scP (md f) v s) := by
    intro d
    induction d with
    | zero =>
      intro i hi
      obtain rfl : i = v.length := by omega
      refine ⟨2000, fun k hk => ?_⟩
      obtain ⟨k, rfl⟩ : ∃ m, k = m + 1 := ⟨k - 1, by omega⟩
      simp only [spec_ScalePoly.l0]
      rw [if_neg (by omega), cut_f _ (by rw [fl_length]; omega) k (by rw [fl_length]; omega)]
      simp only [bs]
      rfl
    | succ d ih =>
      intro i hi
      refine Ev.step (fun k => ?_) (ih (i + 1) (by omega))
      simp only [spec_ScalePoly.l0]
      rw [if_pos (by omega), if_pos (by omega), rd_L, mul_f f _ _ hp]
      simp only [bs]
      rw [fl_length, if_pos (by omega), fl_snoc i (fun m => L v m * s % md f), wrap_next (show i < v.length by omega) (by omega)]
  obtain ⟨K, hK⟩ := key v.length 0 (by omega)
  refine ⟨K + 500, fun k hk => ?_⟩
  have hk' := hK k (by omega)
  simp only at hk' ⊢
  unfold spec_ScalePoly.f
  rw [polyOk_f f v (by omega) k (by omega), decide_eq_true hv]
  simp only [bs, if_true]
  exact hk'
theorem at_f (l : List Int) (i : Nat) : spec_l03At.f l (i : Int) = some (L l i) := by
  unfold spec_l03At.f
  rw [if_pos (by omega)]
  by_cases c : (i : Int) < (l.length : Int)
  · rw [if_pos c, if_pos (by omega), rd_L]
  · rw [if_neg c, L_out l i (by omega)]
theorem sadd_ev {f : Int} (a b : List Int) (ha : PolyOk f a) (hb : PolyOk f b) : Ev (fun k => spec_AddPoly.f k f a b) (addP (md f) a b) := by
  have hp := ha.1
  have la := ha.2.1
  have lb := hb.2.1
  have key : ∀ d i : Nat, i + d = max a.length b.length → Ev (fun k => spec_AddPoly.l0 k f a b (fl i (fun m => (L a m + L b m) % md f)) (i : Int)) (addP (md f) a b) := by
    intro d
    induction d with
    | zero =>
      intro i hi
      obtain rfl : i = max a.length b.length := by omega
      refine ⟨2000, fun k hk => ?_⟩
      obtain ⟨k, rfl⟩ : ∃ m, k = m + 2 := ⟨k - 2, by omega⟩
      simp only [spec_AddPoly.l0]
      rw [if_neg (by omega), decide_eq_false (by omega)]
      simp only [spec_AddPoly.j2]
      rw [if_neg (by decide), cut_f _ (by rw [fl_length]; omega) k (by rw [fl_length]; omega)]
      simp only [bs]
      rfl
    | succ d ih =>
      intro i hi
      obtain ⟨K, hK⟩ := ih (i + 1) (by omega)
      refine ⟨K + 3, fun k hk => ?_⟩
      obtain ⟨k, rfl⟩ : ∃ m, k = m + 2 := ⟨k - 2, by omega⟩
      have hk' := hK k (by omega)
      simp only at hk' ⊢
      have step : spec_AddPoly.j2 (k + 1) f a b (fl i (fun m => (L a m + L b m) % md f)) (i : Int) true = some (addP (md f) a b) := by
        simp only [spec_AddPoly.j2, if_true]
        rw [at_f, at_f]
        simp only [bs]
        rw [add_f f _ _ hp]
        simp only [bs]
        rw [fl_length, if_pos (by omega), fl_snoc i (fun m => (L a m + L b m) % md f), wrap_next (show i < i + 1 by omega) (by omega)]
        exact hk'
      simp only [spec_AddPoly.l0]
      by_cases c : (i : Int) < (a.length : Int)
      · rw [if_pos c, step]
      · rw [if_neg c, decide_eq_true (by omega), step]
  obtain ⟨K, hK⟩ := key (max a.length b.length) 0 (by omega)
  refine ⟨K + 1000, fun k hk => ?_⟩
  obtain ⟨k, rfl⟩ : ∃ m, k = m + 1 := ⟨k - 1, by omega⟩
  have hk' := hK k (by omega)
  simp only at hk' ⊢
  unfold spec_AddPoly.f
  simp only [bs]
  rw [polyOk_f f a (by omega) (k + 1) (by omega), decide_eq_true ha]
  simp only [bs, if_true]
  rw [polyOk_f f b (by omega) (k + 1) (by omega), decide_eq_true hb]
  simp only [bs]
  simp only [spec_AddPoly.j0]
  rw [if_neg (by decide)]
  exact hk'
/-- The places beside the i-th, of the first j. -/
def oth (xs : List Int) (i : Nat) : Nat → List Int
  | 0 => []
  | j + 1 => if j = i then oth xs i j else oth xs i j ++ [L xs j]
theorem oth_len (xs : List Int) (i : Nat) : ∀ j : Nat, (oth xs i j).length = if i < j then j - 1 else j := by
  intro j
  induction j with
  | zero => rfl
  | succ j ih =>
    rw [oth]
    by_cases c : j = i
    · rw [if_pos c, ih, if_neg (by omega), if_pos (by omega)]; omega
    · rw [if_neg c, List.length_append, ih, List.length_singleton]
      by_cases d : i < j
      · rw [if_pos d, if_pos (by omega)]; omega
      · rw [if_neg d, if_neg (by omega)]
theorem oth_mem (xs : List Int) (i : Nat) : ∀ (j : Nat) (y : Int), y ∈ oth xs i j ↔ ∃ t, t < j ∧ t ≠ i ∧ y = L xs t := by
  intro j
  induction j with
  | zero => intro y; constructor
            · intro h; cases h
            · rintro ⟨t, h, _⟩; omega
  | succ j ih =>
    intro y
    rw [oth]
    by_cases c : j = i
    · rw [if_pos c, ih]
      constructor
      · rintro ⟨t, h1, h2, h3⟩; exact ⟨t, by omega, h2, h3⟩
      · rintro ⟨t, h1, h2, h3⟩; exact ⟨t, by omega, h2, h3⟩
    · rw [if_neg c, List.mem_append, List.mem_singleton, ih]
      constructor
      · rintro (⟨t, h1, h2, h3⟩ | h)
        · exact ⟨t, by omega, h2, h3⟩
        · exact ⟨j, by omega, c, h⟩
      · rintro ⟨t, h1, h2, h3⟩
        by_cases e : t = j
        · right; rw [h3, e]
        · left; exact ⟨t, by omega, h2, h3⟩
/-- Lagrange's sum over the first places. -/
def lag (f : Int) (xs ys : List Int) : Nat → List Int
  | 0 => []
  | i + 1 => addP (md f) (lag f xs ys i) (scP (md f) (van (md f) [1] (oth xs i xs.length)) (L ys i * inv f (pr (md f) (L xs i) (oth xs i xs.length) 1) % md f))
theorem dis_of {l : List Int} : ∀ (d i : Nat), disB l d i = true → ∀ j, i ≤ j → j < i + d → L l j ∉ l.take j := by
  intro d
  induction d with
  | zero => intro i _ j h1 h2; omega
  | succ d ih =>
    intro i h j h1 h2
    rw [disB, Bool.and_eq_true] at h
    by_cases c : j = i
    · rw [c]
      have := h.1
      simpa using this
    · exact ih (i + 1) h.2 j (by omega) (by omega)
theorem mem_take_L (l : List Int) (i j : Nat) (h : i < j) (hj : j ≤ l.length) : L l i ∈ l.take j := by
  rw [L_at l i (by omega)]
  have : (l.take j)[i]'(by rw [List.length_take]; omega) = l[i] := List.getElem_take
  rw [← this]
  exact List.getElem_mem _
theorem points_dis {f : Int} {xs : List Int} (h : PointsOk f xs) : ∀ i j, i < xs.length → j < xs.length → i ≠ j → (L xs i - L xs j) % md f ≠ 0 := by
  have hq := md_pos h.1
  have key : ∀ i j, i < j → j < xs.length → L xs i ≠ L xs j := by
    intro i j hij hj e
    exact dis_of xs.length 0 h.2.2.2.2 j (by omega) (by omega) (e ▸ mem_take_L xs i j hij (by omega))
  intro i j hi hj hne e
  have := el_eq (L_el (by omega) h.2.2.2.1 i) (L_el (by omega) h.2.2.2.1 j) e
  by_cases c : i < j
  · exact key i j c hj this
  · exact key j i (by omega) hi this.symm
theorem one_pk {f : Int} (hp : md f ≠ 0) : Pk f [1] := by
  have hq := md_pos hp
  refine ⟨fun y hy => ?_, fun j hj => ?_, by simp⟩
  · simp only [List.mem_cons, List.not_mem_nil, or_false] at hy
    omega
  · have : j = 0 := by simp at hj; omega
    rw [this]
    show (1 : Int) ≠ 0
    decide
theorem one_ev (p : Int) (hp : 1 < p) (x : Int) : evN p [1] x [(1 : Int)].length = 1 := by
  unfold evN
  show (0 + 1 * x ^ 0) % p = 1
  rw [Int.pow_zero, Int.mul_one, Int.zero_add, Int.emod_eq_of_lt (by omega) hp]
/-- A summand of Lagrange's. -/
theorem term_ok {f : Int} {xs : List Int} (h : PointsOk f xs) (i : Nat) (hi : i < xs.length) (y : Int) (hy : 0 ≤ y ∧ y < md f) :
    PolyOk f (van (md f) [1] (oth xs i xs.length)) ∧ (van (md f) [1] (oth xs i xs.length)).length = xs.length ∧ pr (md f) (L xs i) (oth xs i xs.length) 1 % md f ≠ 0 ∧
    ∀ k, k < xs.length → evN (md f) (scP (md f) (van (md f) [1] (oth xs i xs.length)) (y * inv f (pr (md f) (L xs i) (oth xs i xs.length) 1) % md f)) (L xs k) (scP (md f) (van (md f) [1] (oth xs i xs.length)) (y * inv f (pr (md f) (L xs i) (oth xs i xs.length) 1) % md f)).length = if k = i then y else 0 := by
  have hp := h.1
  have hq := md_pos hp
  have hn := h.2.2.1
  have hd := points_dis h
  obtain ⟨v1, v2, v3⟩ := van_ok hp (oth xs i xs.length) [1] (one_pk hp)
  have hl := oth_len xs i xs.length
  rw [if_pos hi] at hl
  have hlen : (van (md f) [1] (oth xs i xs.length)).length = xs.length := by
    rw [v2, hl]
    show 1 + (xs.length - 1) = xs.length
    omega
  have hne : pr (md f) (L xs i) (oth xs i xs.length) 1 % md f ≠ 0 := by
    refine pr_ne hp _ _ _ (fun z hz => ?_) (by rw [Int.emod_eq_of_lt (by omega) (by omega)]; decide)
    obtain ⟨t, h1, h2, rfl⟩ := (oth_mem xs i xs.length z).1 hz
    exact hd i t hi h1 (Ne.symm h2)
  refine ⟨polyOk_of hp (by omega) v1.1 v1.2.1, hlen, hne, fun k hk => ?_⟩
  rw [ev_scP, v3, one_ev _ (by omega)]
  by_cases c : k = i
  · rw [if_pos c, c]
    have hm := mul_inv hp hne
    generalize pr (md f) (L xs i) (oth xs i xs.length) 1 = u at hm ⊢
    rw [Int.mul_emod, Int.emod_emod_of_dvd _ (Int.dvd_refl _), ← Int.mul_emod, Int.mul_left_comm, Int.mul_emod, hm, Int.mul_one, Int.emod_emod_of_dvd _ (Int.dvd_refl _), Int.emod_eq_of_lt hy.1 hy.2]
  · rw [if_neg c, pr_mem _ _ _ _ ((oth_mem xs i xs.length _).2 ⟨k, hk, c, rfl⟩), Int.zero_mul, Int.zero_emod]
theorem lag_ok {f : Int} {xs ys : List Int} (h : PointsOk f xs) (hE : El (md f) ys) : ∀ i, i ≤ xs.length → (PolyOk f (lag f xs ys i) ∧ (lag f xs ys i).length ≤ xs.length) ∧ ∀ k, k < xs.length → evN (md f) (lag f xs ys i) (L xs k) (lag f xs ys i).length = if k < i then L ys k else 0 := by
  have hp := h.1
  have hq := md_pos hp
  intro i
  induction i with
  | zero =>
    intro _
    refine ⟨⟨polyOk_of hp (by simp [lag]) (El.nil _) (fun j hj => by simp [lag] at hj), by simp [lag]⟩, fun k hk => ?_⟩
    rw [if_neg (by omega)]
    show (0 : Int) % md f = 0
    exact Int.zero_emod _
  | succ i ih =>
    intro hi
    obtain ⟨⟨i1, i2⟩, i3⟩ := ih (by omega)
    have hy := L_el (by omega) hE i
    obtain ⟨t1, t2, _, t4⟩ := term_ok h i (by omega) (L ys i) hy
    have hs := scP_len (md f) (van (md f) [1] (oth xs i xs.length)) (L ys i * inv f (pr (md f) (L xs i) (oth xs i xs.length) 1) % md f)
    have hl := addP_len (md f) (lag f xs ys i) (scP (md f) (van (md f) [1] (oth xs i xs.length)) (L ys i * inv f (pr (md f) (L xs i) (oth xs i xs.length) 1) % md f))
    have hn := h.2.2.1
    refine ⟨⟨polyOk_of hp (by rw [lag]; omega) (addP_el (by omega) _ _) (addP_Tr _ _ _), by rw [lag]; omega⟩, fun k hk => ?_⟩
    rw [lag, ev_addP, i3 k hk, t4 k hk]
    have hyk := L_el (by omega) hE k
    by_cases c : k < i
    · rw [if_pos c, if_neg (by omega), if_pos (by omega), Int.add_zero, Int.emod_eq_of_lt hyk.1 hyk.2]
    · rw [if_neg c]
      by_cases d : k = i
      · rw [if_pos d, if_pos (by omega), Int.zero_add, ← d, Int.emod_eq_of_lt hyk.1 hyk.2]
      · rw [if_neg d, if_neg (by omega), Int.zero_add, Int.zero_emod]
theorem through_in {f : Int} {xs ys : List Int} (h : PointsOk f xs) (hE : El (md f) ys) (hly : ys.length = xs.length) (i : Nat) (hi : i < xs.length) (R : List Int)
    (cont : Ev (fun k => spec_l07Through.l0 k f xs ys (lag f xs ys (i + 1)) ((i + 1 : Nat) : Int)) R) : ∀ d j : Nat, j + d = xs.length → Ev (fun k => spec_l07Through.l1 k f xs ys (lag f xs ys i) (i : Int) (oth xs i j) (pr (md f) (L xs i) (oth xs i j) 1) (j : Int)) R := by
  have hp := h.1
  have hq := md_pos hp
  have hn := h.2.2.1
  intro d
  induction d with
  | zero =>
    intro j hj
    obtain rfl : j = xs.length := by omega
    have hy := L_el (by omega) hE i
    obtain ⟨t1, t2, t3, _⟩ := term_ok h i hi (L ys i) hy
    have hl := oth_len xs i xs.length
    rw [if_pos hi] at hl
    have lg1 := (lag_ok h hE i (by omega)).1.1
    have hs := scP_len (md f) (van (md f) [1] (oth xs i xs.length)) (L ys i * inv f (pr (md f) (L xs i) (oth xs i xs.length) 1) % md f)
    have p2 : PolyOk f (scP (md f) (van (md f) [1] (oth xs i xs.length)) (L ys i * inv f (pr (md f) (L xs i) (oth xs i xs.length) 1) % md f)) := polyOk_of hp (by omega) (tr_el (fl_el (fun _ _ => emod_range _ (by omega)))) (tr_Tr _)
    have e1 := van_ev hp (oth xs i xs.length) (by omega) (oth xs i xs.length).length 0 [1] (by omega) (one_pk hp) (by simp; omega)
    rw [List.drop_zero] at e1
    have e2 := inverse_ev f (pr (md f) (L xs i) (oth xs i xs.length) 1) hp t3
    have e3 := scale_ev (van (md f) [1] (oth xs i xs.length)) (L ys i * inv f (pr (md f) (L xs i) (oth xs i xs.length) 1) % md f) t1
    have e4 := sadd_ev _ _ lg1 p2
    refine Ev.step (f := fun k => (spec_l07Vanish.l0 k f (oth xs i xs.length) [1] ((0 : Nat) : Int)).bind fun t1 => (spec_Inverse.f k f (pr (md f) (L xs i) (oth xs i xs.length) 1)).bind fun t2 => (spec_ScalePoly.f k f t1 (L ys i * t2 % md f)).bind fun t3 => (spec_AddPoly.f k f (lag f xs ys i) t3).bind fun t4 => spec_l07Through.l0 k f xs ys t4 ((i + 1 : Nat) : Int)) (fun k => ?_) (Ev.bind e1 (Ev.bind e2 (Ev.bind e3 (Ev.bind e4 cont))))
    simp only [spec_l07Through.l1, spec_l07Vanish.f]
    rw [if_neg (by omega)]
    congr 1
    funext t1
    rw [if_pos (by omega), if_pos (by omega)]
    congr 1
    funext t2
    rw [rd_L, mul_f f _ _ hp]
    simp only [bs]
    rw [wrap_next hi (by omega)]
  | succ d ih =>
    intro j hj
    by_cases c : j = i
    · have e := ih (j + 1) (by omega)
      rw [oth, if_pos c] at e
      refine Ev.step (fun k => ?_) e
      simp only [spec_l07Through.l1]
      rw [if_pos (by omega), if_pos (by omega), wrap_next (show j < xs.length by omega) (by omega)]
    · have e := ih (j + 1) (by omega)
      rw [oth, if_neg c, pr_snoc] at e
      have hl := oth_len xs i j
      have hl2 : (oth xs i j).length ≤ j := by rw [hl]; split <;> omega
      refine Ev.step (fun k => ?_) e
      simp only [spec_l07Through.l1]
      rw [if_pos (by omega), if_neg (by omega), if_pos (by omega), if_pos (by omega), if_pos (by omega), if_pos (by omega), rd_L, rd_L, sub_f f _ _ hp]
      simp only [bs]
      rw [mul_f f _ _ hp]
      simp only [bs]
      rw [wrap_next (show j < xs.length by omega) (by omega), show pr (md f) (L xs i) (oth xs i j) 1 * ((L xs i - L xs j) % md f) % md f = pr (md f) (L xs i) (oth xs i j) 1 * (L xs i - L xs j) % md f by rw [Int.mul_emod, Int.emod_emod_of_dvd _ (Int.dvd_refl _), ← Int.mul_emod]]
theorem through_ev {f : Int} {xs ys : List Int} (h : PointsOk f xs) (hE : El (md f) ys) (hly : ys.length = xs.length) : ∀ d i : Nat, i + d = xs.length → Ev (fun k => spec_l07Through.l0 k f xs ys (lag f xs ys i) (i : Int)) (lag f xs ys xs.length) := by
  have hn := h.2.2.1
  intro d
  induction d with
  | zero =>
    intro i hi
    obtain rfl : i = xs.length := by omega
    obtain ⟨⟨p1, p2⟩, _⟩ := lag_ok h hE xs.length (Nat.le_refl _)
    have ht : tr (lag f xs ys xs.length) = lag f xs ys xs.length := Tr.ext (tr_Tr _) p1.tr (fun i => L_tr _ i)
    refine ⟨1000, fun k hk => ?_⟩
    obtain ⟨k, rfl⟩ : ∃ m, k = m + 1 := ⟨k - 1, by omega⟩
    simp only [spec_l07Through.l0]
    rw [if_neg (by omega), cut_f _ (by omega) k (by omega), ht]
    simp only [bs]
  | succ d ih =>
    intro i hi
    have := through_in h hE hly i (by omega) _ (ih (i + 1) (by omega)) xs.length 0 (by omega)
    refine Ev.step (fun k => ?_) this
    simp only [spec_l07Through.l0]
    rw [if_pos (by omega)]
    rfl
def CvP (f : Int) (xs ys a : List Int) : Prop := PointsOk f xs ∧ ys.length = xs.length ∧ El (md f) ys ∧ PolyOk f a ∧ lag f xs ys xs.length = a
instance (f : Int) (xs ys a : List Int) : Decidable (CvP f xs ys a) := by unfold CvP; exact inferInstance
theorem scv_ev (f : Int) (xs ys a : List Int) (hx : xs.length ≤ 1048576) (hy : ys.length ≤ 1048576) (ha : a.length ≤ 1048576) : Ev (fun k => spec_CheckValues.f k f xs ys a) (decide (CvP f xs ys a)) := by
  by_cases c : PointsOk f xs ∧ ys.length = xs.length ∧ El (md f) ys
  · obtain ⟨K, hK⟩ := through_ev c.1 c.2.2 c.2.1 xs.length 0 (by omega)
    have lg := (lag_ok c.1 c.2.2 xs.length (Nat.le_refl _)).1
    have hn := c.1.2.2.1
    refine ⟨K + 2097252, fun k hk => ?_⟩
    have hk' : spec_l07Through.l0 k f xs ys [] 0 = some (lag f xs ys xs.length) := hK k (by omega)
    have e : spec_Interpolate.f k f xs ys = some (lag f xs ys xs.length, true) := by
      unfold spec_Interpolate.f spec_l07Through.f
      rw [pointsOk_f f xs (by omega) k (by omega), decide_eq_true c.1]
      simp only [bs, if_true]
      rw [if_pos (by omega), elements_f f ys (by omega) k (by omega), decide_eq_true (show md f ≠ 0 ∧ El (md f) ys from ⟨c.1.1, c.2.2⟩)]
      simp only [bs, if_true]
      rw [hk']
      simp only [bs]
    show spec_CheckValues.f k f xs ys a = _
    unfold spec_CheckValues.f
    rw [e]
    simp only [bs, if_true]
    rw [polyOk_f f a (by omega) k (by omega)]
    simp only [bs]
    by_cases d : PolyOk f a
    · rw [if_pos (decide_eq_true d), sameInts_f _ a (by omega) k (by omega)]
      simp only [bs]
      congr 1
      rw [decide_eq_decide]
      exact ⟨fun g => ⟨c.1, c.2.1, c.2.2, d, g⟩, fun g => g.2.2.2.2⟩
    · rw [if_neg (by rw [decide_eq_false d]; decide), decide_eq_false (fun g => d g.2.2.2.1)]
  · refine ⟨2097252, fun k hk => ?_⟩
    have e : spec_Interpolate.f k f xs ys = some ([], false) := by
      unfold spec_Interpolate.f
      rw [pointsOk_f f xs (by omega) k (by omega)]
      simp only [bs]
      by_cases d : PointsOk f xs
      · rw [if_pos (decide_eq_true d)]
        by_cases h : (ys.length : Int) = (xs.length : Int)
        · rw [if_pos h, elements_f f ys (by omega) k (by omega)]
          simp only [bs]
          rw [decide_eq_false (show ¬ (md f ≠ 0 ∧ El (md f) ys) from fun g => c ⟨d, by omega, g.2⟩), if_neg (by decide)]
        · rw [if_neg h]
      · rw [if_neg (by rw [decide_eq_false d]; decide)]
    show spec_CheckValues.f k f xs ys a = _
    unfold spec_CheckValues.f
    rw [e]
    simp only [bs]
    rw [if_neg (by decide), decide_eq_false (fun g => c ⟨g.1, g.2.1, g.2.2.1⟩)]
theorem evL_len (p : Int) (a xs : List Int) : (evL p a xs).length = xs.length := by unfold evL; exact List.length_map ..
theorem evL_at (p : Int) (a xs : List Int) (i : Nat) (h : i < xs.length) : L (evL p a xs) i = evN p a (L xs i) a.length := by
  rw [L_at _ i (by rw [evL_len]; exact h), L_at xs i h]
  unfold evL
  rw [List.getElem_map]
theorem cv_same (f : Int) (xs ys a : List Int) : CvP f xs ys a ↔ (PointsOk f xs ∧ PolyOk f a) ∧ ys.length = xs.length ∧ a.length ≤ xs.length ∧ evL (md f) a xs = ys := by
  constructor
  · rintro ⟨h1, h2, h3, h4, rfl⟩
    obtain ⟨⟨l1, l2⟩, l3⟩ := lag_ok h1 h3 xs.length (Nat.le_refl _)
    refine ⟨⟨h1, h4⟩, h2, l2, ?_⟩
    refine list_ext (by rw [evL_len, h2]) (fun i hi => ?_)
    rw [evL_len] at hi
    rw [evL_at _ _ _ i hi, l3 i hi, if_pos hi]
  · rintro ⟨⟨h1, h4⟩, h2, h3, h5⟩
    have hq := md_pos h1.1
    have hE : El (md f) ys := by
      rw [← h5]
      intro y hy
      unfold evL at hy
      obtain ⟨x, _, rfl⟩ := List.mem_map.1 hy
      exact emod_range _ (by omega)
    obtain ⟨⟨l1, l2⟩, l3⟩ := lag_ok h1 hE xs.length (Nat.le_refl _)
    refine ⟨h1, h2, hE, h4, ?_⟩
    refine poly_unique h1.1 l1.tr h4.tr l1.2.2.1 h4.2.2.1 l2 h3 (fun i j h hj => points_dis h1 i j (by omega) hj (by omega)) (fun i hi => ?_)
    rw [l3 i hi, if_pos hi, ← evL_at _ _ _ i hi, h5]
theorem icv_ev (f : Int) (xs ys a : List Int) (hx : xs.length ≤ 1048576) (hy : ys.length ≤ 1048576) (ha : a.length ≤ 1048576) : Ev (fun k => impl_CheckValues.f k f xs ys a) (decide (CvP f xs ys a)) := by
  have hlok : AllLok (md f) [a] ↔ Lok (md f) a := ⟨fun g => g a List.mem_cons_self, fun g => AllLok.cons g (AllLok.nil _)⟩
  have pp : ∀ k, 2000000 < k → impl_pointField.f k f xs = some (if PointsOk f xs then (md f, gn f, tw f, true) else (0, 0, 0, false)) := fun k hk => pointField_f f xs (by omega) k (by omega)
  have qq : ∀ k, 2000000 < k → impl_polyField.f k f [a] = some (if md f ≠ 0 ∧ AllLok (md f) [a] then (md f, gn f, tw f, true) else (0, 0, 0, false)) := fun k hk => polyField_f f [a] (by simp) 1048577 (fun l hl => by rw [List.mem_singleton] at hl; rw [hl]; omega) (by omega) k (by simp; omega)
  have no : ∀ k p g t, impl_CheckValues.j0 (k + 1) xs ys a true p g t = some false := by
    intro k p g t
    simp only [impl_CheckValues.j0, if_true]
  by_cases c : PointsOk f xs ∧ PolyOk f a
  · have hq := md_pos c.1.1
    have hn := c.1.2.2.1
    have d : md f ≠ 0 ∧ AllLok (md f) [a] := ⟨c.1.1, hlok.2 c.2.2⟩
    obtain ⟨K, hK⟩ := fevalMany_ev (md f) (gn f) (tw f) (by omega) hq.2 a xs c.2.2.2.1 c.1.2.2.2.1 c.2.2.1 (by omega)
    refine ⟨K + 2097252, fun k hk => ?_⟩
    obtain ⟨k, rfl⟩ : ∃ m, k = m + 1 := ⟨k - 1, by omega⟩
    have hk' : impl_field_evalMany.f k (md f) (gn f) (tw f) a xs = some (evL (md f) a xs) := hK k (by omega)
    simp only [impl_CheckValues.f]
    rw [pp (k + 1) (by omega), qq (k + 1) (by omega), if_pos c.1, if_pos d]
    simp only [bs, if_true]
    by_cases h : (ys.length : Int) = (xs.length : Int)
    · rw [if_pos h]
      by_cases g : (a.length : Int) > (xs.length : Int)
      · rw [decide_eq_true g, no, decide_eq_false (fun q => by have := ((cv_same f xs ys a).1 q).2.2.1; omega)]
      · rw [decide_eq_false g]
        simp only [impl_CheckValues.j0]
        rw [if_neg (by decide), hk']
        simp only [bs]
        rw [equal_f _ ys (by rw [evL_len]; omega) k (by rw [evL_len]; omega)]
        simp only [bs]
        congr 1
        rw [decide_eq_decide, cv_same]
        exact ⟨fun q => ⟨c, by omega, by omega, q⟩, fun q => q.2.2.2⟩
    · rw [if_neg h, no, decide_eq_false (fun q => h (by have := q.2.1; omega))]
  · refine ⟨2097252, fun k hk => ?_⟩
    obtain ⟨k, rfl⟩ : ∃ m, k = m + 1 := ⟨k - 1, by omega⟩
    simp only [impl_CheckValues.f]
    rw [pp (k + 1) (by omega), qq (k + 1) (by omega), decide_eq_false (fun q => c ((cv_same f xs ys a).1 q).1)]
    simp only [bs]
    by_cases d : PointsOk f xs
    · have e : ¬ (md f ≠ 0 ∧ AllLok (md f) [a]) := fun q => c ⟨d, q.1, hlok.1 q.2⟩
      rw [if_pos d, if_neg e]
      simp only [if_true]
      rw [if_neg (by decide), no]
    · rw [if_neg d, if_neg (by decide), no]
theorem FnExactCheckValues : laws_FnExactCheckValues.Pure := by
  intro f v out pl _ _ _ _ _ _ _ _ _ _
  by_cases ca : (v.length : Int) > 1048576
  · exact ⟨0, by unfold laws_FnExactCheckValues.f; rw [if_pos ca]⟩
  by_cases cb : (out.length : Int) > 1048576
  · exact ⟨0, by unfold laws_FnExactCheckValues.f; rw [if_neg ca, if_pos cb]⟩
  by_cases cc : (pl.length : Int) > 1048576
  · exact ⟨0, by unfold laws_FnExactCheckValues.f; rw [if_neg ca, if_neg cb, if_pos cc]⟩
  obtain ⟨K1, h1⟩ := scv_ev f v out pl (by omega) (by omega) (by omega)
  obtain ⟨K2, h2⟩ := icv_ev f v out pl (by omega) (by omega) (by omega)
  obtain ⟨K, hK⟩ : ∃ K, K = K1 + K2 + 1048700 := ⟨_, rfl⟩
  have E1 := h1 K (by omega)
  have E2 := h2 K (by omega)
  simp only at E1 E2
  have Ta : laws_toIntS.f K v = some v := toIntS_f v (by omega) K (by omega)
  have Tb : laws_toIntS.f K out = some out := toIntS_f out (by omega) K (by omega)
  have Tc : laws_toIntS.f K pl = some pl := toIntS_f pl (by omega) K (by omega)
  have Qa : laws_eqIntS.f K v v = some true := eqIntS_self v (by omega) K (by omega)
  have Qb : laws_eqIntS.f K out out = some true := eqIntS_self out (by omega) K (by omega)
  have Qc : laws_eqIntS.f K pl pl = some true := eqIntS_self pl (by omega) K (by omega)
  refine ⟨K, ?_⟩
  unfold laws_FnExactCheckValues.f
  rw [if_neg ca, if_neg cb, if_neg cc]
  simp only [Ta, Tb, Tc, bs]
  rw [E1]
  simp only [bs]
  rw [E2]
  simp only [bs]
  rw [if_neg (by simp)]
  simp only [Qa, Qb, Qc, bs, if_true]

end Go.Proofs.Ytabicblkdgpogaa.Pure
