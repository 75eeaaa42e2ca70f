/- CheckCert of the program and of the reference answer alike for all arguments. -/
import Derived.Test.YtabicblkdgpogaaQFnExactCheckCertx9
import Derived.Test.YtabicblkdgpogaaVFnExactCheckCertl
namespace Go.Proofs.Ytabicblkdgpogaa.Pure
open Go.RowKit Go.Proofs.Ytabicblkdgpogaa.QFnExactCheckCert Go.Proofs.YtabicblkdgpogaaW.PrintWords Go.Proofs.YtabicblkdgpogaaW.PrintLast Go.Proofs.YtabicblkdgpogaaW.PrintMore Go.Proofs.Ytabicblkdgpogaa.Lib
set_option linter.unusedVariables false

theorem toIntS_loop (x0 : List Int) (hn : x0.length ≤ 140737488351232) : ∀ (d k i : Nat) (x3 : List Int), i + d = x0.length → x3.length = x0.length → d < k →
    laws_toIntS.l0 k x0 x3 (i : Int) = some (x3.take i ++ x0.drop i) := by
  intro d
  induction d with
  | zero =>
    intro k i x3 hi h3 hk
    obtain ⟨k, rfl⟩ : ∃ m, k = m + 1 := ⟨k - 1, by omega⟩
    simp only [laws_toIntS.l0]
    rw [if_neg (by omega), List.drop_eq_nil_of_le (by omega), List.take_of_length_le (by omega), List.append_nil]
  | succ d ih =>
    intro k i x3 hi h3 hk
    obtain ⟨k, rfl⟩ : ∃ m, k = m + 1 := ⟨k - 1, by omega⟩
    have hlt : i < x0.length := by omega
    simp only [laws_toIntS.l0]
    rw [if_pos (by omega), if_pos (by omega), if_pos (by omega), rd_at x0 i hlt, wrap_id (x := (i : Int) + 1) (by omega) (by omega), cast_succ,
      ih k (i + 1) _ (by omega) (by simpa using h3) (by omega), drop_cons x0 i hlt]
    simp only [Int.toNat_natCast]
    rw [set_take _ _ _ (by omega), List.append_assoc]
    rfl
theorem toIntS_f (l : List Int) (hn : l.length ≤ 35184372088832) (k : Nat) (hk : l.length < k) : laws_toIntS.f k l = some l := by
  unfold laws_toIntS.f
  rw [if_pos (by omega), if_pos (by omega)]
  have := toIntS_loop l (by omega) l.length k 0 (List.replicate ((l.length : Int) : Int).toNat 0) (by omega) (by simp) hk
  simpa using this
theorem eqIntS_loop (x0 : List Int) (hn : x0.length ≤ 140737488351232) : ∀ (d k i : Nat), i + d = x0.length → d < k → laws_eqIntS.l0 k x0 x0 (i : Int) = some true := by
  intro d
  induction d with
  | zero =>
    intro k i hi hk
    obtain ⟨k, rfl⟩ : ∃ m, k = m + 1 := ⟨k - 1, by omega⟩
    simp only [laws_eqIntS.l0]
    rw [if_neg (by omega)]
  | succ d ih =>
    intro k i hi hk
    obtain ⟨k, rfl⟩ : ∃ m, k = m + 1 := ⟨k - 1, by omega⟩
    simp only [laws_eqIntS.l0, if_true]
    rw [if_pos (by omega), if_pos (by omega), if_pos (by omega), wrap_id (x := (i : Int) + 1) (by omega) (by omega), cast_succ]
    exact ih k (i + 1) (by omega) (by omega)
theorem eqIntS_self (l : List Int) (hn : l.length ≤ 35184372088832) (k : Nat) (hk : l.length < k) : laws_eqIntS.f k l l = some true := by
  unfold laws_eqIntS.f
  rw [if_pos rfl]
  exact eqIntS_loop l (by omega) l.length k 0 (by omega) hk
theorem modulus_f (f : Int) : spec_Modulus.f f = some (md f) := by
  unfold spec_Modulus.f md
  simp only [apply_ite some]
theorem reduce_f (f x : Int) (hp : md f ≠ 0) : spec_Reduce.f f x = some (x % md f) := by
  have h := md_pos hp
  have hr := reduce_int x (md f) (by omega)
  have hx := emod_range x (show 0 < md f by omega)
  unfold spec_Reduce.f
  rw [modulus_f]
  simp only [bs]
  rw [if_neg hp]
  by_cases c : Int.tmod x (md f) < 0
  · rw [if_pos c] at hr ⊢
    rw [hr, wrap_id (by omega) (by omega)]
  · rw [if_neg c] at hr ⊢
    rw [hr]
theorem mul_f (f x y : Int) (hp : md f ≠ 0) : spec_Mul.f f x y = some ((x * y) % md f) := by
  have h := md_pos hp
  have hx := emod_range x (show 0 < md f by omega)
  have hy := emod_range y (show 0 < md f by omega)
  have hm := prod_range h.2 hx hy
  unfold spec_Mul.f
  simp only [modulus_f, bs]
  rw [if_neg hp]
  simp only [reduce_f f _ hp, bs]
  rw [wrap_id (by omega) (by omega), ← Int.mul_emod]
theorem add_f (f x y : Int) (hp : md f ≠ 0) : spec_Add.f f x y = some ((x + y) % md f) := by
  have h := md_pos hp
  have hx := emod_range x (show 0 < md f by omega)
  have hy := emod_range y (show 0 < md f by omega)
  unfold spec_Add.f
  simp only [modulus_f, bs]
  rw [if_neg hp]
  simp only [reduce_f f _ hp, bs]
  rw [wrap_id (by omega) (by omega), ← Int.add_emod]
theorem in_f (x a b : Int) : spec_l01In.f x a b = some (decide (a ≤ x ∧ x ≤ b)) := by
  unfold spec_l01In.f
  by_cases c : a ≤ x
  · rw [if_pos c]; simp [c]
  · rw [if_neg c]; simp [c]
theorem elements_f (f : Int) (l : List Int) (hn : l.length ≤ 2000000) (k : Nat) (hk : l.length < k) : spec_l03Elements.f k f l = some (decide (md f ≠ 0 ∧ El (md f) l)) := by
  unfold spec_l03Elements.f
  simp only [modulus_f, bs]
  by_cases hp : md f = 0
  · rw [if_pos hp, decide_eq_false (fun h => h.1 hp)]
  · rw [if_neg hp]
    have hq := md_pos hp
    have key := loop_list (fun k (_ : Unit) i => spec_l03Elements.l0 k l (md f) i) l 0 (fun _ _ => True) (fun r _ => decide (El (md f) r)) (by
      intro k s _ _
      simp only [spec_l03Elements.l0]
      rw [if_neg (by omega), decide_eq_true (El.nil _)]) (by
      intro k i s h _ _
      simp only [spec_l03Elements.l0]
      rw [if_pos (by omega), if_pos (by omega), rd_at l i h, wrap_id (x := md f - 1) (by omega) (by omega), in_f]
      simp only [bs]
      by_cases c : 0 ≤ l[i] ∧ l[i] ≤ md f - 1
      · left
        refine ⟨(), ?_, trivial, ?_⟩
        · rw [if_pos (by simpa using c), wrap_next h (by omega)]
        · apply decide_eq_decide.mpr
          constructor
          · intro hh x hx
            exact hh x (List.mem_cons_of_mem _ hx)
          · intro hh x hx
            rcases List.mem_cons.1 hx with rfl | hx
            · omega
            · exact hh x hx
      · right
        rw [if_neg (by simpa using c)]
        rw [decide_eq_false]
        intro hh
        have := hh l[i] List.mem_cons_self
        omega) k () (by omega) trivial
    rw [key]
    congr 1
    exact decide_eq_decide.mpr ⟨fun h => ⟨hp, h⟩, fun h => h.2⟩
theorem fieldOf_f (f : Int) : impl_fieldOf.f f = some (md f, gn f, tw f, decide (md f ≠ 0)) := by
  by_cases c : 0 ≤ f ∧ f ≤ 8
  · rcases nine c.1 c.2 with rfl | rfl | rfl | rfl | rfl | rfl | rfl | rfl | rfl <;> rfl
  · obtain ⟨h1, h2, h3⟩ := md_out c
    unfold impl_fieldOf.f
    rw [h1, h2, h3]
    by_cases c0 : f < 0
    · rw [if_pos c0]; rfl
    · rw [if_neg c0, if_pos (by omega)]; rfl
theorem areElements_f (p g t : Int) (l : List Int) (hn : l.length ≤ 2000000) (k : Nat) (hk : l.length < k) : impl_field_areElements.f k p g t l = some (decide (El p l)) := by
  unfold impl_field_areElements.f
  exact loop_list (fun k (_ : Unit) i => impl_field_areElements.l0 k l (l.length : Int) i p g t) l 0 (fun _ _ => True) (fun r _ => decide (El p r)) (by
    intro k s _ _
    simp only [impl_field_areElements.l0]
    rw [if_neg (by omega), decide_eq_true (El.nil _)]) (by
    intro k i s h _ _
    simp only [impl_field_areElements.l0]
    rw [if_pos (by omega), if_pos (by omega), if_pos (by omega), rd_at l i h]
    by_cases c : l[i] < 0
    · right
      rw [if_pos c, decide_eq_false]
      intro hh
      have := hh l[i] List.mem_cons_self
      omega
    · by_cases c1 : l[i] ≥ p
      · right
        rw [if_neg c, if_pos c1, decide_eq_false]
        intro hh
        have := hh l[i] List.mem_cons_self
        omega
      · left
        refine ⟨(), ?_, trivial, ?_⟩
        · rw [if_neg c, if_neg c1, wrap_next h (by omega)]
        · apply decide_eq_decide.mpr
          constructor
          · intro hh x hx
            exact hh x (List.mem_cons_of_mem _ hx)
          · intro hh x hx
            rcases List.mem_cons.1 hx with rfl | hx
            · omega
            · exact hh x hx) k () (by omega) trivial
theorem equal_f (a b : List Int) (hn : a.length ≤ 2000000) (k : Nat) (hk : a.length < k) : slices_Equal_int_int.f k a b = some (decide (a = b)) := by
  unfold slices_Equal_int_int.f
  by_cases c : (a.length : Int) = (b.length : Int)
  · rw [if_pos c]
    have key : ∀ (d k i : Nat), i + d = a.length → d < k → slices_Equal_int_int.l0 k a b (a.length : Int) (i : Int) = some (decide (a.drop i = b.drop i)) := by
      intro d
      induction d with
      | zero =>
        intro k i hi hk
        obtain ⟨k, rfl⟩ : ∃ m, k = m + 1 := ⟨k - 1, by omega⟩
        simp only [slices_Equal_int_int.l0]
        rw [if_neg (by omega), List.drop_eq_nil_of_le (by omega), List.drop_eq_nil_of_le (by omega)]
        rfl
      | succ d ih =>
        intro k i hi hk
        obtain ⟨k, rfl⟩ : ∃ m, k = m + 1 := ⟨k - 1, by omega⟩
        simp only [slices_Equal_int_int.l0]
        rw [if_pos (by omega), if_pos (by omega), if_pos (by omega), if_pos (by omega), rd_at a i (by omega), rd_at b i (by omega), drop_cons a i (by omega), drop_cons b i (by omega)]
        by_cases e : a[i] = b[i]
        · rw [if_pos e, wrap_next (show i < a.length by omega) (by omega), ih k (i + 1) (by omega) (by omega)]
          congr 1
          exact decide_eq_decide.mpr ⟨fun h => by rw [e, h], fun h => (List.cons.inj h).2⟩
        · rw [if_neg e, decide_eq_false (fun h => e (List.cons.inj h).1)]
    have := key a.length k 0 (by omega) hk
    simpa using this
  · rw [if_neg c, decide_eq_false (fun h => c (by rw [h]))]
theorem power_loop (p : Int) (h2 : 2 ≤ p) (hp : p ≤ 1004535809) : ∀ (m n : Nat), n ≤ m → n ≤ 4611686018427387904 → ∀ (x out : Int), 0 ≤ x ∧ x < p → 0 ≤ out ∧ out < p → Ev (fun k => spec_Power.l0 k p x (n : Int) out) (out * x ^ n % p) := by
  intro m
  induction m with
  | zero =>
    intro n hn _ x out hx ho
    obtain rfl : n = 0 := by omega
    refine Ev.step (f := fun _ => some (out * x ^ 0 % p)) (fun k => ?_) (Ev.now _)
    simp only [spec_Power.l0]
    rw [if_neg (by omega), Int.pow_zero, Int.mul_one, Int.emod_eq_of_lt ho.1 ho.2]
  | succ m ih =>
    intro n hn hmax x out hx ho
    by_cases c : n = 0
    · exact ih n (by omega) hmax x out hx ho
    · have hxx := prod_range hp hx hx
      have hox := prod_range hp ho hx
      have r1 := emod_range (x * x) (show 0 < p by omega)
      have r2 := emod_range (out * x) (show 0 < p by omega)
      have hdiv : wrap64 (Int.tdiv (n : Int) 2) = ((n / 2 : Nat) : Int) := by
        rw [Int.tdiv_eq_ediv_of_nonneg (by omega), wrap_id (by omega) (by omega)]
        rfl
      have hpw := pow_half p x out n
      by_cases o : n % 2 = 1
      · rw [if_pos o] at hpw
        rw [← hpw]
        refine Ev.step (f := fun k => spec_Power.l0 k p (x * x % p) ((n / 2 : Nat) : Int) (out * x % p)) (fun k => ?_) (ih (n / 2) (by omega) (by omega) _ _ r1 r2)
        simp only [spec_Power.l0]
        rw [if_pos (by omega), if_pos (by rw [tmod_nonneg' _ (by omega)]; omega), if_neg (by omega), hdiv, wrap_id (x := x * x) (by omega) (by omega), wrap_id (x := out * x) (by omega) (by omega), tmod_nonneg' _ hxx.1, tmod_nonneg' _ hox.1]
      · rw [if_neg o] at hpw
        rw [← hpw]
        refine Ev.step (f := fun k => spec_Power.l0 k p (x * x % p) ((n / 2 : Nat) : Int) out) (fun k => ?_) (ih (n / 2) (by omega) (by omega) _ _ r1 ho)
        simp only [spec_Power.l0]
        rw [if_pos (by omega), if_neg (by rw [tmod_nonneg' _ (by omega)]; omega), if_neg (by omega), hdiv, wrap_id (x := x * x) (by omega) (by omega), tmod_nonneg' _ hxx.1]
theorem power_ev (f a e : Int) (hp : md f ≠ 0) (he0 : -4611686018427387904 ≤ e) (he1 : e ≤ 4611686018427387904) : Ev (fun k => spec_Power.f k f a e) (powS f a e) := by
  have hq := md_pos hp
  have hr := emod_range a (show 0 < md f by omega)
  have hn := emod_range e (show 0 < md f - 1 by omega)
  have hre := reduce_int e (md f - 1) (by omega)
  unfold powS
  by_cases z : a % md f = 0
  · rw [if_pos z]
    refine ⟨0, fun k _ => ?_⟩
    simp only [spec_Power.f, modulus_f, bs]
    rw [if_neg hp, reduce_f f a hp]
    simp only [bs]
    rw [if_pos z]
    by_cases e0 : e = 0
    · rw [if_pos e0, if_pos e0]
    · rw [if_neg e0, if_neg e0]
      by_cases e1 : e < 0
      · rw [if_pos e1, if_pos e1]
      · rw [if_neg e1, if_neg e1]
  · rw [if_neg z]
    have hl := power_loop (md f) (by omega) hq.2 (e % (md f - 1)).toNat (e % (md f - 1)).toNat (Nat.le_refl _) (by omega) (a % md f) 1 hr ⟨by omega, by omega⟩
    rw [Int.one_mul, Int.toNat_of_nonneg hn.1] at hl
    obtain ⟨K, hK⟩ := hl
    refine ⟨K + 1, fun k hk => ?_⟩
    obtain ⟨k, rfl⟩ : ∃ m, k = m + 1 := ⟨k - 1, by omega⟩
    simp only [spec_Power.f, modulus_f, bs]
    rw [if_neg hp, reduce_f f a hp]
    simp only [bs]
    rw [if_neg z, wrap_id (x := md f - 1) (by omega) (by omega), if_neg (by omega)]
    by_cases c : Int.tmod e (md f - 1) < 0
    · rw [if_pos c] at hre ⊢
      have : -(md f - 1) < Int.tmod e (md f - 1) := by
        have := Int.lt_tmod_of_pos e (show 0 < md f - 1 by omega)
        omega
      rw [wrap_id (x := Int.tmod e (md f - 1) + md f) (by omega) (by omega), wrap_id (by omega) (by omega), show Int.tmod e (md f - 1) + md f - 1 = e % (md f - 1) by omega]
      simp only [spec_Power.j0]
      exact hK k (by omega)
    · rw [if_neg c] at hre ⊢
      rw [hre]
      simp only [spec_Power.j0]
      exact hK k (by omega)
/-- A polynomial over the field. -/
def PolyOk (f : Int) (l : List Int) : Prop := md f ≠ 0 ∧ l.length ≤ 400 ∧ El (md f) l ∧ (l.length ≠ 0 → L l (l.length - 1) ≠ 0)
instance (f : Int) (l : List Int) : Decidable (PolyOk f l) := by unfold PolyOk; exact inferInstance
theorem PolyOk.tr {f : Int} {l : List Int} (h : PolyOk f l) : Tr l := by
  intro j hj
  have := h.2.2.2 (by omega)
  rwa [hj] at this
theorem polyOk_of {f : Int} {l : List Int} (hp : md f ≠ 0) (hl : l.length ≤ 400) (hE : El (md f) l) (ht : Tr l) : PolyOk f l :=
  ⟨hp, hl, hE, fun h => ht (l.length - 1) (by omega)⟩
theorem polyOk_f (f : Int) (l : List Int) (hn : l.length ≤ 2000000) (k : Nat) (hk : l.length < k) : spec_PolyOk.f k f l = some (decide (PolyOk f l)) := by
  unfold spec_PolyOk.f
  by_cases c : (l.length : Int) > 400
  · rw [if_pos c, decide_eq_false (fun h => by have := h.2.1; omega)]
  · rw [if_neg c, elements_f f l hn k hk]
    simp only [bs]
    by_cases d : md f ≠ 0 ∧ El (md f) l
    · rw [if_pos (by simpa using d)]
      by_cases z : (l.length : Int) = 0
      · rw [if_pos z, decide_eq_true ⟨d.1, by omega, d.2, fun h => by omega⟩]
      · have hw : wrap64 ((l.length : Int) - 1) = ((l.length - 1 : Nat) : Int) := by rw [wrap_id (by omega) (by omega)]; omega
        rw [if_neg z, hw, if_pos (by omega), if_pos (by omega), rd_L]
        congr 1
        rw [Bool.eq_iff_iff, bne_iff_ne, decide_eq_true_eq]
        exact ⟨fun h => ⟨d.1, by omega, d.2, fun _ => h⟩, fun h => h.2.2.2 (by omega)⟩
    · rw [if_neg (by simpa using d), decide_eq_false (fun h => d ⟨h.1, h.2.2.1⟩)]
/-- A polynomial's value at a place. -/
def evN (p : Int) (a : List Int) (x : Int) (n : Nat) : Int := sumN n (fun i => L a i * x ^ i) % p
def evL (p : Int) (a xs : List Int) : List Int := xs.map (fun x => evN p a x a.length)
theorem powS_nonneg {f x : Int} (hp : md f ≠ 0) (h0 : 0 ≤ x) (h1 : x < md f) (n : Nat) : powS f x (n : Int) = x ^ n % md f := by
  have hm := md_pos hp
  unfold powS
  rw [Int.emod_eq_of_lt h0 h1]
  by_cases z : x = 0
  · subst z
    rw [if_pos rfl]
    cases n with
    | zero => rw [if_pos (by omega), Int.pow_zero, Int.emod_eq_of_lt (by omega) (by omega)]
    | succ n => rw [if_neg (by omega), if_neg (by omega), Int.pow_succ, Int.mul_zero, Int.zero_emod]
  · rw [if_neg z]
    have hf := fermat_int hp h0 (by rw [Int.emod_eq_of_lt h0 h1]; exact z)
    obtain ⟨q, hq⟩ : ∃ q : Nat, q = (md f).toNat - 1 := ⟨_, rfl⟩
    rw [← hq] at hf
    have e : ((n : Int) % (md f - 1)).toNat = n % q := by
      have : md f - 1 = (q : Int) := by omega
      rw [this]
      rfl
    rw [e]
    have h2 : x ^ n = (x ^ q) ^ (n / q) * x ^ (n % q) := by
      rw [← Int.pow_mul, ← Int.pow_add, Nat.div_add_mod]
    rw [h2, Int.mul_emod, ← pow_emod (x ^ q) (md f) (n / q), hf]
    have : ∀ k : Nat, (1 : Int) ^ k = 1 := by
      intro k
      exact Int.one_pow
    rw [this, Int.emod_eq_of_lt (show (0 : Int) ≤ 1 by omega) (show 1 < md f by omega), Int.one_mul, Int.emod_emod_of_dvd _ (Int.dvd_refl _)]
theorem evalPoly_loop (f : Int) (a : List Int) (x : Int) (hp : md f ≠ 0) (hE : El (md f) a) (h0 : 0 ≤ x) (h1 : x < md f) (hl : a.length ≤ 400) :
    ∀ d i : Nat, i + d = a.length → Ev (fun k => spec_EvalPoly.l0 k f a x (evN (md f) a x i) (i : Int)) (evN (md f) a x a.length) := by
  intro d
  induction d with
  | zero =>
    intro i hi
    obtain rfl : i = a.length := by omega
    refine Ev.step (f := fun _ => some (evN (md f) a x a.length)) (fun k => ?_) (Ev.now _)
    simp only [spec_EvalPoly.l0]
    rw [if_neg (by omega)]
  | succ d ih =>
    intro i hi
    have hpw := power_ev f x (i : Int) hp (by omega) (by omega)
    rw [powS_nonneg hp h0 h1] at hpw
    refine Ev.step (f := fun k => (spec_Power.f k f x (i : Int)).bind fun t => (spec_Mul.f f (rd a (i : Int)) t).bind fun t166 => (spec_Add.f f (evN (md f) a x i) t166).bind fun t167 => spec_EvalPoly.l0 k f a x t167 (wrap64 ((i : Int) + 1))) (fun k => ?_) (Ev.bind hpw ?_)
    · simp only [spec_EvalPoly.l0]
      rw [if_pos (by omega), if_pos (by omega)]
    · refine Ev.congr (fun k => ?_) (ih (i + 1) (by omega))
      rw [rd_L, mul_f f _ _ hp]
      simp only [bs]
      rw [add_f f _ _ hp]
      simp only [bs]
      rw [wrap_next (show i < a.length by omega) (by omega)]
      have e : (evN (md f) a x i + L a i * (x ^ i % md f) % md f) % md f = evN (md f) a x (i + 1) := by
        unfold evN
        simp only [sumN]
        rw [Int.mul_emod (L a i) (x ^ i % md f), Int.emod_emod_of_dvd _ (Int.dvd_refl _), ← Int.mul_emod, ← Int.add_emod]
      rw [e]
theorem evalPoly_ev (f : Int) (a : List Int) (x : Int) (pa : PolyOk f a) (h0 : 0 ≤ x) (h1 : x < md f) : Ev (fun k => spec_EvalPoly.f k f a x) (evN (md f) a x a.length) := by
  obtain ⟨K, hK⟩ := evalPoly_loop f a x pa.1 pa.2.2.1 h0 h1 pa.2.1 a.length 0 (by omega)
  have la := pa.2.1
  refine ⟨K + 500, fun k hk => ?_⟩
  simp only [spec_EvalPoly.f]
  simp only [polyOk_f f a (by omega) k (by omega), bs, decide_eq_true pa, if_true]
  have := hK k (by omega)
  simp only at this
  rw [← this]
  congr 1
theorem evalMany_loop (f : Int) (a xs y : List Int) (pa : PolyOk f a) (hx : El (md f) xs) (hxs : xs.length ≤ 40) :
    ∀ (d i : Nat) (s : List Int), i + d = xs.length → s.length = i → Ev (fun k => spec_EvalMany.l0 k f a xs s (i : Int)) (s ++ evL (md f) a (xs.drop i)) := by
  intro d
  induction d with
  | zero =>
    intro i s hi hs
    refine Ev.step (f := fun _ => some s) (fun k => ?_) ?_
    · simp only [spec_EvalMany.l0]
      rw [if_neg (by omega)]
    · rw [List.drop_eq_nil_of_le (by omega)]
      simp only [evL, List.map_nil, List.append_nil]
      exact Ev.now _
  | succ d ih =>
    intro i s hi hs
    have hr := hx.at i (by omega)
    have h := evalPoly_ev f a xs[i] pa hr.1 hr.2
    refine Ev.step (f := fun k => (spec_EvalPoly.f k f a xs[i]).bind fun t => if s.length < 17592186044416 then spec_EvalMany.l0 k f a xs (s ++ [t]) (wrap64 ((i : Int) + 1)) else none) (fun k => ?_) (Ev.bind h ?_)
    · simp only [spec_EvalMany.l0]
      rw [if_pos (by omega), if_pos (by omega), rd_at xs i (by omega)]
    · have h2 := ih (i + 1) (s ++ [evN (md f) a xs[i] a.length]) (by omega) (by simp [hs])
      rw [drop_cons xs i (by omega)]
      simp only [evL, List.map_cons]
      rw [List.append_assoc] at h2
      refine Ev.congr (fun k => ?_) h2
      rw [if_pos (by omega), wrap_next (show i < xs.length by omega) (by omega)]
theorem evalMany_ev (f : Int) (a xs : List Int) (pa : PolyOk f a) (hx : El (md f) xs) (hxs : xs.length ≤ 40) : Ev (fun k => spec_EvalMany.f k f a xs) (evL (md f) a xs) := by
  obtain ⟨K, hK⟩ := evalMany_loop f a xs [] pa hx hxs xs.length 0 [] (by omega) rfl
  have la := pa.2.1
  refine ⟨K + 500, fun k hk => ?_⟩
  obtain ⟨k, rfl⟩ : ∃ m, k = m + 1 := ⟨k - 1, by omega⟩
  simp only [spec_EvalMany.f]
  simp only [polyOk_f f a (by omega) (k + 1) (by omega), bs, decide_eq_true pa, if_true]
  rw [if_neg (by omega), elements_f f xs (by omega) (k + 1) (by omega)]
  simp only [bs]
  rw [decide_eq_true ⟨pa.1, hx⟩]
  simp only [spec_EvalMany.j0, Bool.not_true]
  rw [if_neg (by decide)]
  have := hK k (by omega)
  simpa using this
/-- The program's value of a polynomial, from the top down. -/
def hs (p : Int) (a : List Int) (x : Int) (j : Nat) : Int := sumN (a.length - j) (fun t => L a (j + t) * x ^ t) % p
theorem hs_step (p : Int) (a : List Int) (x : Int) (j : Nat) (h : j < a.length) : (hs p a x (j + 1) * x + L a j) % p = hs p a x j := by
  unfold hs
  rw [show a.length - j = (a.length - (j + 1)) + 1 by omega, sumN_front]
  rw [Int.pow_zero, Int.mul_one]
  have e : sumN (a.length - (j + 1)) (fun k => L a (j + (k + 1)) * x ^ (k + 1)) = x * sumN (a.length - (j + 1)) (fun t => L a (j + 1 + t) * x ^ t) := by
    rw [← sumN_mul]
    apply sumN_congr
    intro i _
    rw [show j + (i + 1) = j + 1 + i by omega, Int.pow_succ, ← Int.mul_assoc, Int.mul_comm]
  generalize sumN (a.length - (j + 1)) (fun t => L a (j + 1 + t) * x ^ t) = S at e ⊢
  rw [e, Nat.add_zero, Int.mul_comm x, Int.add_comm (L a j), Int.add_emod, Int.mul_emod, Int.emod_emod_of_dvd _ (Int.dvd_refl _), ← Int.mul_emod, ← Int.add_emod]
theorem feval_ev (p g t : Int) (hp : 0 < p) (hp2 : p ≤ 1004535809) (a : List Int) (x : Int) (hE : El p a) (h0 : 0 ≤ x) (h1 : x < p) (hl : a.length ≤ 400) : Ev (fun k => impl_field_eval.f k p g t a x) (evN p a x a.length) := by
  have key : ∀ n : Nat, n ≤ a.length → Ev (fun k => impl_field_eval.l0 k a x (hs p a x n) ((n : Int) - 1) p g t) (evN p a x a.length) := by
    intro n
    induction n with
    | zero =>
      intro _
      have e : evN p a x a.length = hs p a x 0 := by
        unfold evN hs
        simp only [Nat.zero_add, Nat.sub_zero]
      rw [e]
      refine Ev.step (f := fun _ => some (hs p a x 0)) (fun k => ?_) (Ev.now _)
      simp only [impl_field_eval.l0]
      rw [if_neg (by omega)]
    | succ n ih =>
      intro hn
      refine Ev.step (fun k => ?_) (ih (by omega))
      have hr := emod_range (sumN (a.length - (n + 1)) (fun t => L a (n + 1 + t) * x ^ t)) hp
      have ha := L_el hp hE n
      have hm := prod_range hp2 (x := hs p a x (n + 1)) hr ⟨h0, h1⟩
      simp only [impl_field_eval.l0]
      rw [show ((n + 1 : Nat) : Int) - 1 = (n : Int) by omega, if_pos (by omega), if_pos (by omega), if_pos (by omega), if_neg (by omega), rd_L, wrap_id (x := hs p a x (n + 1) * x) (by omega) (by omega), wrap_id (x := hs p a x (n + 1) * x + L a n) (by omega) (by omega), wrap_id (x := (n : Int) - 1) (by omega) (by omega), tmod_nonneg' _ (by omega), hs_step p a x n (by omega)]
  have h := key a.length (Nat.le_refl _)
  have e : hs p a x a.length = 0 := by
    unfold hs
    rw [Nat.sub_self]
    simp [sumN]
  rw [e] at h
  refine Ev.congr (fun k => ?_) h
  simp only [impl_field_eval.f]
  rw [wrap_id (x := (a.length : Int) - 1) (by omega) (by omega)]
theorem fevalMany_loop (p g t : Int) (hp : 0 < p) (hp2 : p ≤ 1004535809) (a xs : List Int) (hE : El p a) (hx : El p xs) (hl : a.length ≤ 400) (hxs : xs.length ≤ 1000000) :
    ∀ (d i : Nat) (s : List Int), i + d = xs.length → s.length = i → Ev (fun k => impl_field_evalMany.l0 k a s xs (xs.length : Int) (i : Int) p g t) (s ++ evL p a (xs.drop i)) := by
  intro d
  induction d with
  | zero =>
    intro i s hi hs
    refine Ev.step (f := fun _ => some s) (fun k => ?_) ?_
    · simp only [impl_field_evalMany.l0]
      rw [if_neg (by omega)]
    · rw [List.drop_eq_nil_of_le (by omega)]
      simp only [evL, List.map_nil, List.append_nil]
      exact Ev.now _
  | succ d ih =>
    intro i s hi hs
    have hr := hx.at i (by omega)
    have h := feval_ev p g t hp hp2 a xs[i] hE hr.1 hr.2 hl
    refine Ev.step (f := fun k => (impl_field_eval.f k p g t a xs[i]).bind fun t215 => if s.length < 17592186044416 then impl_field_evalMany.l0 k a (s ++ [t215]) xs (xs.length : Int) (wrap64 ((i : Int) + 1)) p g t else none) (fun k => ?_) (Ev.bind h ?_)
    · simp only [impl_field_evalMany.l0]
      rw [if_pos (by omega), if_pos (by omega), if_pos (by omega), rd_at xs i (by omega)]
    · have h2 := ih (i + 1) (s ++ [evN p a xs[i] a.length]) (by omega) (by simp [hs])
      rw [drop_cons xs i (by omega)]
      simp only [evL, List.map_cons]
      rw [List.append_assoc] at h2
      refine Ev.congr (fun k => ?_) h2
      rw [if_pos (by omega), wrap_next (show i < xs.length by omega) (by omega)]
theorem fevalMany_ev (p g t : Int) (hp : 0 < p) (hp2 : p ≤ 1004535809) (a xs : List Int) (hE : El p a) (hx : El p xs) (hl : a.length ≤ 400) (hxs : xs.length ≤ 1000000) : Ev (fun k => impl_field_evalMany.f k p g t a xs) (evL p a xs) := by
  have h := fevalMany_loop p g t hp hp2 a xs hE hx hl hxs xs.length 0 [] (by omega) rfl
  rw [List.nil_append, List.drop_zero] at h
  exact h
/-- What a list must be for a polynomial, the field given. -/
def Lok (p : Int) (l : List Int) : Prop := l.length ≤ 400 ∧ El p l ∧ (l.length ≠ 0 → L l (l.length - 1) ≠ 0)
instance (p : Int) (l : List Int) : Decidable (Lok p l) := by unfold Lok; exact inferInstance
theorem rdLL_at (ls : List (List Int)) (i : Nat) (h : i < ls.length) : rd_L2 ls (i : Int) = ls[i] := by simp [rd_L2, List.getD, h]
def AllLok (p : Int) (ls : List (List Int)) : Prop := ∀ l ∈ ls, Lok p l
instance (p : Int) (ls : List (List Int)) : Decidable (AllLok p ls) := List.decidableBAll _ _
theorem AllLok.nil (p : Int) : AllLok p [] := fun l hl => by cases hl
theorem AllLok.cons {p : Int} {l : List Int} {ls : List (List Int)} (h : Lok p l) (hs : AllLok p ls) : AllLok p (l :: ls) := fun x hx => by
  rcases List.mem_cons.1 hx with rfl | hx
  · exact h
  · exact hs x hx
theorem polyField_f (f : Int) (ls : List (List Int)) (hls : ls.length ≤ 100) (K : Nat) (hK : ∀ l ∈ ls, l.length < K) (hK2 : K ≤ 2000000) (k : Nat) (hk : ls.length + K < k) :
    impl_polyField.f k f ls = some (if md f ≠ 0 ∧ AllLok (md f) ls then (md f, gn f, tw f, true) else (0, 0, 0, false)) := by
  unfold impl_polyField.f
  rw [fieldOf_f]
  simp only [bs]
  by_cases hp : md f = 0
  · rw [if_neg (by simpa using hp), if_neg (fun h => h.1 hp)]
  · rw [if_pos (by simpa using hp)]
    have key := loop_list (fun k (_ : Unit) i => impl_polyField.l0 k ls (ls.length : Int) i (md f) (gn f) (tw f)) ls K (fun _ _ => True) (fun r _ => if AllLok (md f) r then (md f, gn f, tw f, true) else (0, 0, 0, false)) (by
      intro k s _ _
      simp only [impl_polyField.l0]
      rw [if_neg (by omega), if_pos (AllLok.nil _)]) (by
      intro k i s h hKk _
      have hlen := hK ls[i] (List.getElem_mem h)
      simp only [impl_polyField.l0]
      rw [if_pos (by omega), if_pos (by omega), if_pos (by omega), rdLL_at ls i h]
      generalize ls[i] = l at hlen
      have no : ∀ hh : ¬ Lok (md f) l, (if AllLok (md f) (l :: ls.drop (i + 1)) then (md f, gn f, tw f, true) else (0, 0, 0, false)) = (0, 0, 0, false) := fun hh => if_neg (fun h => hh (h l List.mem_cons_self))
      have yes : ∀ hh : Lok (md f) l, (if AllLok (md f) (l :: ls.drop (i + 1)) then (md f, gn f, tw f, true) else (0, 0, 0, false)) = (if AllLok (md f) (ls.drop (i + 1)) then (md f, gn f, tw f, true) else (0, 0, 0, false)) := by
        intro hh
        by_cases c : AllLok (md f) (ls.drop (i + 1))
        · rw [if_pos c, if_pos (AllLok.cons hh c)]
        · rw [if_neg c, if_neg (fun h => c (fun x hx => h x (List.mem_cons_of_mem _ hx)))]
      by_cases c1 : (l.length : Int) > 400
      · right
        rw [if_pos c1, no (fun h => by have := h.1; omega)]
      · rw [if_neg c1, areElements_f _ _ _ l (by omega) k (by omega)]
        simp only [bs]
        by_cases c2 : El (md f) l
        · rw [if_pos (by simpa using c2)]
          by_cases c3 : (l.length : Int) > 0
          · have hw : wrap64 ((l.length : Int) - 1) = ((l.length - 1 : Nat) : Int) := by rw [wrap_id (by omega) (by omega)]; omega
            rw [if_pos c3, hw, if_pos (by omega), if_pos (by omega), rd_L]
            by_cases c4 : L l (l.length - 1) = 0
            · right
              rw [if_pos c4, no (fun h => h.2.2 (by omega) c4)]
            · left
              refine ⟨(), ?_, trivial, yes ⟨by omega, c2, fun _ => c4⟩⟩
              rw [if_neg c4, wrap_next h (by omega)]
          · left
            refine ⟨(), ?_, trivial, yes ⟨by omega, c2, fun h => by omega⟩⟩
            rw [if_neg c3, wrap_next h (by omega)]
        · right
          rw [if_neg (by simpa using c2), no (fun h => c2 h.2.1)]) k () (by omega) trivial
    rw [key]
    congr 1
    by_cases c : AllLok (md f) ls
    · rw [if_pos c, if_pos ⟨hp, c⟩]
    · rw [if_neg c, if_neg (fun h => c h.2)]
theorem sameInts_f (a b : List Int) (hn : a.length ≤ 2000000) (k : Nat) (hk : a.length < k) : spec_l16SameInts.f k a b = some (decide (a = b)) := by
  unfold spec_l16SameInts.f
  by_cases c : (a.length : Int) = (b.length : Int)
  · rw [if_pos c]
    have key : ∀ (d k i : Nat), i + d = a.length → d < k → spec_l16SameInts.l0 k a b (i : Int) = some (decide (a.drop i = b.drop i)) := by
      intro d
      induction d with
      | zero =>
        intro k i hi hk
        obtain ⟨k, rfl⟩ : ∃ m, k = m + 1 := ⟨k - 1, by omega⟩
        simp only [spec_l16SameInts.l0]
        rw [if_neg (by omega), List.drop_eq_nil_of_le (by omega), List.drop_eq_nil_of_le (by omega)]
        rfl
      | succ d ih =>
        intro k i hi hk
        obtain ⟨k, rfl⟩ : ∃ m, k = m + 1 := ⟨k - 1, by omega⟩
        simp only [spec_l16SameInts.l0]
        rw [if_pos (by omega), if_pos (by omega), if_pos (by omega), rd_at a i (by omega), rd_at b i (by omega), drop_cons a i (by omega), drop_cons b i (by omega)]
        by_cases e : a[i] = b[i]
        · rw [if_pos e, wrap_next (show i < a.length by omega) (by omega), ih k (i + 1) (by omega) (by omega)]
          congr 1
          exact decide_eq_decide.mpr ⟨fun h => by rw [e, h], fun h => (List.cons.inj h).2⟩
        · rw [if_neg e, decide_eq_false (fun h => e (List.cons.inj h).1)]
    have := key a.length k 0 (by omega) hk
    simpa using this
  · rw [if_neg c, decide_eq_false (fun h => c (by rw [h]))]
/-- Points that differ, from a place on. -/
def disB (l : List Int) : Nat → Nat → Bool
  | 0, _ => true
  | d + 1, i => (!decide (L l i ∈ l.take i)) && disB l d (i + 1)
def PointsOk (f : Int) (l : List Int) : Prop := md f ≠ 0 ∧ 1 ≤ l.length ∧ l.length ≤ 40 ∧ El (md f) l ∧ disB l l.length 0 = true
instance (f : Int) (l : List Int) : Decidable (PointsOk f l) := by unfold PointsOk; exact inferInstance
theorem has_f (l : List Int) (a : Int) (hn : l.length ≤ 2000000) (k : Nat) (hk : l.length < k) : spec_l01Has.f k l a = some (decide (a ∈ l)) := by
  unfold spec_l01Has.f
  exact loop_list (fun k (_ : Unit) i => spec_l01Has.l0 k l a i) l 0 (fun _ _ => True) (fun r _ => decide (a ∈ r)) (by
    intro k s _ _
    simp only [spec_l01Has.l0]
    rw [if_neg (by omega)]
    simp) (by
    intro k i s h _ _
    simp only [spec_l01Has.l0]
    rw [if_pos (by omega), if_pos (by omega), rd_at l i h]
    by_cases c : l[i] = a
    · right
      rw [if_pos c]
      simp [c]
    · left
      refine ⟨(), ?_, trivial, ?_⟩
      · rw [if_neg c, wrap_next h (by omega)]
      · have c' : ¬ a = l[i] := fun e => c e.symm
        rw [decide_eq_decide, List.mem_cons]
        exact ⟨fun h => h.resolve_left c', Or.inr⟩) k () (by omega) trivial
theorem pointsOk_loop (l : List Int) (hn : l.length ≤ 40) : ∀ (d k i : Nat), i + d = l.length → d + 50 < k → spec_PointsOk.l0 k l (i : Int) = some (disB l d i) := by
  intro d
  induction d with
  | zero =>
    intro k i hi hk
    obtain ⟨k, rfl⟩ : ∃ m, k = m + 1 := ⟨k - 1, by omega⟩
    simp only [spec_PointsOk.l0]
    rw [if_neg (by omega)]
    rfl
  | succ d ih =>
    intro k i hi hk
    obtain ⟨k, rfl⟩ : ∃ m, k = m + 1 := ⟨k - 1, by omega⟩
    simp only [spec_PointsOk.l0, disB]
    rw [if_pos (by omega), if_pos (by omega), if_pos (by omega), Int.toNat_natCast, has_f _ _ (by rw [List.length_take]; omega) k (by rw [List.length_take]; omega), rd_L]
    simp only [bs]
    by_cases c : L l i ∈ l.take i
    · rw [if_pos (by simpa using c), decide_eq_true c]
      rfl
    · rw [if_neg (by simpa using c), decide_eq_false c, wrap_next (show i < l.length by omega) (by omega), ih k (i + 1) (by omega) (by omega)]
      rfl
theorem pointsOk_f (f : Int) (l : List Int) (hn : l.length ≤ 2000000) (k : Nat) (hk : l.length + 100 < k) : spec_PointsOk.f k f l = some (decide (PointsOk f l)) := by
  obtain ⟨k, rfl⟩ : ∃ m, k = m + 1 := ⟨k - 1, by omega⟩
  simp only [spec_PointsOk.f]
  rw [in_f]
  simp only [bs]
  by_cases c : 1 ≤ (l.length : Int) ∧ (l.length : Int) ≤ 40
  · rw [if_pos (by simpa using c), elements_f f l hn (k + 1) (by omega)]
    simp only [bs]
    simp only [spec_PointsOk.j0]
    by_cases d : md f ≠ 0 ∧ El (md f) l
    · rw [decide_eq_true d, if_neg (by decide)]
      have := pointsOk_loop l (by omega) l.length k 0 (by omega) (by omega)
      rw [show ((0 : Nat) : Int) = 0 from rfl] at this
      rw [this]
      congr 1
      rw [Bool.eq_iff_iff, decide_eq_true_eq]
      exact ⟨fun h => ⟨d.1, by omega, by omega, d.2, h⟩, fun h => h.2.2.2.2⟩
    · rw [decide_eq_false d, if_pos (by decide), decide_eq_false (fun h => d ⟨h.1, h.2.2.2.1⟩)]
  · rw [if_neg (by simpa using c)]
    simp only [spec_PointsOk.j0, if_true]
    rw [decide_eq_false (fun h => c ⟨by have := h.2.1; omega, by have := h.2.2.1; omega⟩)]
theorem pf_inner (p g t : Int) (l : List Int) (hn : l.length ≤ 40) (i : Nat) (hi : i < l.length) (r : Int × Int × Int × Bool) (k0 : Nat)
    (hr : ∀ k, k0 ≤ k → impl_pointField.l0 k l l (l.length : Int) ((i + 1 : Nat) : Int) p g t = some r) : ∀ (d j k : Nat), j + d = i → k0 + d + 1 ≤ k →
    impl_pointField.l1 k l (L l i) l (l.length : Int) (i : Int) (l.take i) ((l.take i).length : Int) (j : Int) p g t = some (if L l i ∈ (l.take i).drop j then (0, 0, 0, false) else r) := by
  have hlen : (l.take i).length = i := by rw [List.length_take]; omega
  intro d
  induction d with
  | zero =>
    intro j k hj hk
    obtain ⟨k, rfl⟩ : ∃ m, k = m + 1 := ⟨k - 1, by omega⟩
    simp only [impl_pointField.l1]
    rw [if_neg (by omega), wrap_next (show i < l.length by omega) (by omega), hr k (by omega), List.drop_eq_nil_of_le (by omega), if_neg (by simp)]
  | succ d ih =>
    intro j k hj hk
    obtain ⟨k, rfl⟩ : ∃ m, k = m + 1 := ⟨k - 1, by omega⟩
    simp only [impl_pointField.l1]
    rw [if_pos (by omega), if_pos (by omega), if_pos (by omega), rd_at _ j (by omega), drop_cons _ j (by omega)]
    by_cases c : L l i = (l.take i)[j]'(by omega)
    · rw [if_pos c, if_pos (by rw [c]; exact List.mem_cons_self)]
    · rw [if_neg c, wrap_next (show j < i by omega) (by omega), ih (j + 1) k (by omega) (by omega)]
      by_cases c2 : L l i ∈ (l.take i).drop (j + 1)
      · rw [if_pos c2, if_pos (List.mem_cons_of_mem _ c2)]
      · rw [if_neg c2, if_neg (fun h => (List.mem_cons.1 h).elim c c2)]
theorem pf_loop (p g t : Int) (l : List Int) (hn : l.length ≤ 40) : ∀ (d i k : Nat), i + d = l.length → 50 * (d + 1) ≤ k →
    impl_pointField.l0 k l l (l.length : Int) (i : Int) p g t = some (if disB l d i = true then (p, g, t, true) else (0, 0, 0, false)) := by
  intro d
  induction d with
  | zero =>
    intro i k hi hk
    obtain ⟨k, rfl⟩ : ∃ m, k = m + 1 := ⟨k - 1, by omega⟩
    simp only [impl_pointField.l0]
    rw [if_neg (by omega)]
    rfl
  | succ d ih =>
    intro i k hi hk
    obtain ⟨k, rfl⟩ : ∃ m, k = m + 1 := ⟨k - 1, by omega⟩
    simp only [impl_pointField.l0]
    rw [if_pos (by omega), if_pos (by omega), if_pos (by omega), if_pos (by omega), Int.toNat_natCast, rd_L]
    have h := pf_inner p g t l hn i (by omega) _ (50 * (d + 1)) (fun k hk => ih (i + 1) k (by omega) hk) i 0 k (by omega) (by omega)
    rw [show ((0 : Nat) : Int) = 0 from rfl, List.drop_zero] at h
    rw [h]
    congr 1
    by_cases c : L l i ∈ l.take i
    · have e : disB l (d + 1) i = false := by simp [disB, c]
      rw [if_pos c, e]
      rfl
    · have e : disB l (d + 1) i = disB l d (i + 1) := by simp [disB, c]
      rw [if_neg c, e]
theorem pointField_f (f : Int) (l : List Int) (hn : l.length ≤ 2000000) (k : Nat) (hk : l.length + 3000 < k) : impl_pointField.f k f l = some (if PointsOk f l then (md f, gn f, tw f, true) else (0, 0, 0, false)) := by
  obtain ⟨k, rfl⟩ : ∃ m, k = m + 1 := ⟨k - 1, by omega⟩
  simp only [impl_pointField.f]
  rw [fieldOf_f]
  simp only [bs]
  by_cases hp : md f = 0
  · rw [if_neg (by simpa using hp)]
    simp only [impl_pointField.j0, if_true]
    rw [if_neg (fun h => h.1 hp)]
  · rw [if_pos (by simpa using hp)]
    by_cases c1 : (l.length : Int) < 1
    · rw [if_pos c1]
      simp only [impl_pointField.j0, if_true]
      rw [if_neg (fun h => by have := h.2.1; omega)]
    · rw [if_neg c1]
      by_cases c2 : (l.length : Int) > 40
      · rw [if_pos c2]
        simp only [impl_pointField.j0, if_true]
        rw [if_neg (fun h => by have := h.2.2.1; omega)]
      · rw [if_neg c2, areElements_f _ _ _ l (by omega) (k + 1) (by omega)]
        simp only [bs]
        simp only [impl_pointField.j0]
        by_cases c3 : El (md f) l
        · rw [decide_eq_true c3, if_neg (by decide)]
          have := pf_loop (md f) (gn f) (tw f) l (by omega) l.length 0 k (by omega) (by omega)
          rw [show ((0 : Nat) : Int) = 0 from rfl] at this
          rw [this]
          congr 1
          by_cases c4 : disB l l.length 0 = true
          · rw [if_pos c4, if_pos ⟨hp, by omega, by omega, c3, c4⟩]
          · rw [if_neg c4, if_neg (fun h => c4 h.2.2.2.2)]
        · rw [decide_eq_false c3, if_pos (by decide), if_neg (fun h => c3 h.2.2.2.1)]
/-- How many points are wanted. -/
def need (a b c : List Int) : Nat := max c.length (if a.length = 0 ∨ b.length = 0 then 0 else a.length + b.length - 1)
/-- What both answer. -/
def CC (f : Int) (a b c x y z : List Int) : Prop := PolyOk f a ∧ PolyOk f b ∧ PolyOk f c ∧ PointsOk f x ∧ need a b c ≤ x.length ∧ evL (md f) a x = y ∧ evL (md f) b x = z ∧ fl x.length (fun i => L y i * L z i % md f) = evL (md f) c x
instance (f : Int) (a b c x y z : List Int) : Decidable (CC f a b c x y z) := by unfold CC; exact inferInstance
theorem evL_length (p : Int) (a x : List Int) : (evL p a x).length = x.length := by simp [evL]
theorem evL_el {p : Int} (hp : 0 < p) (a x : List Int) : El p (evL p a x) := by
  intro v hv
  simp only [evL, List.mem_map] at hv
  obtain ⟨u, _, rfl⟩ := hv
  exact emod_range _ hp
theorem length_f (a b : List Int) (ha : a.length ≤ 1048576) (hb : b.length ≤ 1048576) : spec_l17Length.f a b = some (if a.length = 0 ∨ b.length = 0 then 0 else ((a.length + b.length - 1 : Nat) : Int)) := by
  have hw : wrap64 (wrap64 ((a.length : Int) + (b.length : Int)) - 1) = (a.length : Int) + (b.length : Int) - 1 := by
    rw [wrap_id (x := (a.length : Int) + (b.length : Int)) (by omega) (by omega), wrap_id (by omega) (by omega)]
  unfold spec_l17Length.f
  by_cases z1 : (a.length : Int) = 0
  · rw [if_pos z1, if_pos (by omega)]
  · rw [if_neg z1]
    by_cases z2 : (b.length : Int) = 0
    · rw [if_pos z2, if_pos (by omega)]
    · rw [if_neg z2, hw, if_neg (by omega)]
      congr 1
      omega
theorem prod_loop (f : Int) (u v w : List Int) (hp : md f ≠ 0) (n : Nat) (hn : n ≤ 40) (hu : u.length = n) (hv : v.length = n) (hw : w.length = n) : ∀ (d i k : Nat), i + d = n → d < k →
    spec_CheckCert.l0 k f u v w (i : Int) = some (decide (∀ j, j < n → i ≤ j → L u j * L v j % md f = L w j)) := by
  intro d
  induction d with
  | zero =>
    intro i k hi hk
    obtain ⟨k, rfl⟩ : ∃ m, k = m + 1 := ⟨k - 1, by omega⟩
    simp only [spec_CheckCert.l0]
    rw [if_neg (by omega), decide_eq_true (fun j h1 h2 => by omega)]
  | succ d ih =>
    intro i k hi hk
    obtain ⟨k, rfl⟩ : ∃ m, k = m + 1 := ⟨k - 1, by omega⟩
    simp only [spec_CheckCert.l0]
    rw [if_pos (by omega), if_pos (by omega), if_pos (by omega), if_pos (by omega), rd_L, rd_L, rd_L, mul_f f _ _ hp]
    simp only [bs]
    by_cases c : L u i * L v i % md f = L w i
    · rw [if_pos c, wrap_next (show i < n by omega) (by omega), ih (i + 1) k (by omega) (by omega)]
      congr 1
      rw [decide_eq_decide]
      refine ⟨fun h j h1 h2 => ?_, fun h j h1 h2 => h j h1 (by omega)⟩
      by_cases e : j = i
      · rw [e]; exact c
      · exact h j h1 (by omega)
    · rw [if_neg c, decide_eq_false (fun h => c (h i (by omega) (by omega)))]
theorem pointwise_f (p g t : Int) (hp : 0 < p) (hp2 : p ≤ 1004535809) (u v : List Int) (n : Nat) (hn : n ≤ 40) (hu : u.length = n) (hv : v.length = n) (hEu : El p u) (hEv : El p v) (k : Nat) (hk : n < k) :
    impl_field_pointwise.f k p g t u v = some (fl n (fun i => L u i * L v i % p)) := by
  have key : ∀ (d i k : Nat), i + d = n → d < k → impl_field_pointwise.l0 k v (fl i (fun i => L u i * L v i % p)) u (u.length : Int) (i : Int) p g t = some (fl n (fun i => L u i * L v i % p)) := by
    intro d
    induction d with
    | zero =>
      intro i k hi hk
      obtain ⟨k, rfl⟩ : ∃ m, k = m + 1 := ⟨k - 1, by omega⟩
      obtain rfl : i = n := by omega
      simp only [impl_field_pointwise.l0]
      rw [if_neg (by omega)]
    | succ d ih =>
      intro i k hi hk
      obtain ⟨k, rfl⟩ : ∃ m, k = m + 1 := ⟨k - 1, by omega⟩
      have hm := prod_range hp2 (L_el hp hEu i) (L_el hp hEv i)
      simp only [impl_field_pointwise.l0, impl_field_mul.f]
      rw [if_pos (by omega), if_pos (by omega), if_pos (by omega), if_pos (by omega), if_neg (by omega), rd_L, rd_L]
      simp only [bs]
      rw [fl_length, if_pos (by omega), wrap_id (x := L u i * L v i) (by omega) (by omega), tmod_nonneg' _ hm.1, wrap_next (show i < n by omega) (by omega), fl_snoc i (fun i => L u i * L v i % p)]
      exact ih (i + 1) k (by omega) (by omega)
  exact key n 0 k (by omega) hk
theorem need_le {a b c : List Int} {n : Nat} : need a b c ≤ n ↔ ¬ ((n : Int) < (c.length : Int)) ∧ ¬ ((n : Int) < (if a.length = 0 ∨ b.length = 0 then (0 : Int) else ((a.length + b.length - 1 : Nat) : Int))) := by
  unfold need
  by_cases z : a.length = 0 ∨ b.length = 0
  · rw [if_pos z, if_pos z]
    omega
  · rw [if_neg z, if_neg z]
    omega
theorem need_mx (a b c : List Int) : (need a b c : Int) = if a.length = 0 ∨ b.length = 0 then (c.length : Int) else mx (c.length : Int) ((a.length : Int) + (b.length : Int) - 1) := by
  unfold need mx
  by_cases z : a.length = 0 ∨ b.length = 0
  · rw [if_pos z, if_pos z, Nat.max_zero]
  · rw [if_neg z, if_neg z]
    by_cases y : (c.length : Int) < (a.length : Int) + (b.length : Int) - 1
    · rw [if_pos y, Nat.max_eq_right (by omega)]
      omega
    · rw [if_neg y, Nat.max_eq_left (by omega)]
theorem both_len {a b : List Int} (h1 : (a.length : Int) > 0) (h2 : (b.length : Int) > 0) : ¬ (a.length = 0 ∨ b.length = 0) := by omega
theorem none_a {a b : List Int} (h1 : ¬ (a.length : Int) > 0) : a.length = 0 ∨ b.length = 0 := by omega
theorem none_b {a b : List Int} (h1 : ¬ (b.length : Int) > 0) : a.length = 0 ∨ b.length = 0 := by omega
theorem fl_eq {n : Nat} {g : Nat → Int} {w : List Int} (hw : w.length = n) : fl n g = w ↔ ∀ j, j < n → 0 ≤ j → g j = L w j := by
  constructor
  · intro h j hj _
    rw [← h, L_fl n g j hj]
  · intro h
    refine list_ext (by rw [fl_length, hw]) (fun i hi => ?_)
    rw [fl_length] at hi
    rw [L_fl n g i hi]
    exact h i hi (Nat.zero_le _)
theorem spec_ev (f : Int) (a b c x y z : List Int) (ha : a.length ≤ 1048576) (hb : b.length ≤ 1048576) (hc : c.length ≤ 1048576) (hx : x.length ≤ 1048576) : Ev (fun k => spec_CheckCert.f k f a b c x y z) (decide (CC f a b c x y z)) := by
  by_cases o : PolyOk f a ∧ PolyOk f b ∧ PolyOk f c ∧ PointsOk f x
  · obtain ⟨pa, pb, pc, px⟩ := o
    obtain ⟨K1, h1⟩ := evalMany_ev f a x pa px.2.2.2.1 px.2.2.1
    obtain ⟨K2, h2⟩ := evalMany_ev f b x pb px.2.2.2.1 px.2.2.1
    obtain ⟨K3, h3⟩ := evalMany_ev f c x pc px.2.2.2.1 px.2.2.1
    have hl := px.2.2.1
    refine ⟨K1 + K2 + K3 + 1048700, fun k hk => ?_⟩
    obtain ⟨k, rfl⟩ : ∃ m, k = m + 4 := ⟨k - 4, by omega⟩
    have e1 := h1 (k + 2) (by omega)
    have e2 := h2 (k + 2) (by omega)
    have e3 := h3 (k + 2) (by omega)
    simp only at e1 e2 e3
    have hnd := need_le (a := a) (b := b) (c := c) (n := x.length)
    show spec_CheckCert.f (k + 4) f a b c x y z = _
    simp only [spec_CheckCert.f]
    simp only [polyOk_f f a (by omega) (k + 4) (by omega), polyOk_f f b (by omega) (k + 4) (by omega), polyOk_f f c (by omega) (k + 4) (by omega), pointsOk_f f x (by omega) (k + 4) (by omega), bs, decide_eq_true pa, decide_eq_true pb, decide_eq_true pc, decide_eq_true px, if_true, Bool.not_true]
    simp only [spec_CheckCert.j0]
    rw [if_neg (by decide)]
    by_cases n1 : (x.length : Int) < (c.length : Int)
    · rw [if_pos n1]
      simp only [spec_CheckCert.j1, if_true]
      rw [decide_eq_false (fun h => (hnd.1 h.2.2.2.2.1).1 n1)]
    · rw [if_neg n1, length_f a b ha hb]
      simp only [bs]
      by_cases n2 : (x.length : Int) < (if a.length = 0 ∨ b.length = 0 then (0 : Int) else ((a.length + b.length - 1 : Nat) : Int))
      · rw [decide_eq_true n2]
        simp only [spec_CheckCert.j1, if_true]
        rw [decide_eq_false (fun h => (hnd.1 h.2.2.2.2.1).2 n2)]
      · rw [decide_eq_false n2]
        simp only [spec_CheckCert.j1]
        rw [if_neg (by decide), e1]
        simp only [bs]
        rw [e2]
        simp only [bs]
        rw [e3]
        simp only [bs]
        rw [sameInts_f _ y (by rw [evL_length]; omega) (k + 2) (by rw [evL_length]; omega)]
        simp only [bs]
        by_cases m1 : evL (md f) a x = y
        · rw [if_pos (by simpa using m1), sameInts_f _ z (by rw [evL_length]; omega) (k + 2) (by rw [evL_length]; omega)]
          simp only [bs]
          by_cases m2 : evL (md f) b x = z
          · rw [decide_eq_true m2]
            simp only [spec_CheckCert.j2]
            rw [if_neg (by decide)]
            have := prod_loop f (evL (md f) a x) (evL (md f) b x) (evL (md f) c x) pa.1 x.length hl (evL_length _ _ _) (evL_length _ _ _) (evL_length _ _ _) x.length 0 (k + 1) (by omega) (by omega)
            rw [show ((0 : Nat) : Int) = 0 from rfl] at this
            rw [this, m1, m2]
            congr 1
            rw [decide_eq_decide, ← fl_eq (evL_length _ _ _)]
            exact ⟨fun h => ⟨pa, pb, pc, px, hnd.2 ⟨n1, n2⟩, m1, m2, h⟩, fun h => h.2.2.2.2.2.2.2⟩
          · rw [decide_eq_false m2]
            simp only [spec_CheckCert.j2]
            rw [if_pos (by decide), decide_eq_false (fun h => m2 h.2.2.2.2.2.2.1)]
        · rw [if_neg (by simpa using m1)]
          simp only [spec_CheckCert.j2, if_true]
          rw [decide_eq_false (fun h => m1 h.2.2.2.2.2.1)]
  · refine ⟨1048700, fun k hk => ?_⟩
    obtain ⟨k, rfl⟩ : ∃ m, k = m + 1 := ⟨k - 1, by omega⟩
    rw [decide_eq_false (fun h => o ⟨h.1, h.2.1, h.2.2.1, h.2.2.2.1⟩)]
    show spec_CheckCert.f (k + 1) f a b c x y z = _
    simp only [spec_CheckCert.f]
    simp only [polyOk_f f a (by omega) (k + 1) (by omega), polyOk_f f b (by omega) (k + 1) (by omega), polyOk_f f c (by omega) (k + 1) (by omega), pointsOk_f f x (by omega) (k + 1) (by omega), bs]
    simp only [spec_CheckCert.j0, if_true]
    by_cases pa : PolyOk f a
    · rw [if_pos (by simpa using pa)]
      by_cases pb : PolyOk f b
      · rw [if_pos (by simpa using pb)]
        by_cases pc : PolyOk f c
        · rw [if_pos (by simpa using pc), if_pos]
          have : ¬ PointsOk f x := fun px => o ⟨pa, pb, pc, px⟩
          simpa using this
        · rw [if_neg (by simpa using pc)]
      · rw [if_neg (by simpa using pb)]
    · rw [if_neg (by simpa using pa)]
theorem impl_ev (f : Int) (a b c x y z : List Int) (ha : a.length ≤ 1048576) (hb : b.length ≤ 1048576) (hc : c.length ≤ 1048576) (hx : x.length ≤ 1048576) (hy : y.length ≤ 1048576) (hz : z.length ≤ 1048576) : Ev (fun k => impl_CheckCert.f k f a b c x y z) (decide (CC f a b c x y z)) := by
  have hpf := polyField_f f [a, b, c] (by simp) 1048577 (by
    intro l hl
    simp only [List.mem_cons, List.not_mem_nil, or_false] at hl
    rcases hl with rfl | rfl | rfl <;> omega) (by omega)
  by_cases q : md f ≠ 0 ∧ AllLok (md f) [a, b, c]
  · have pa : PolyOk f a := ⟨q.1, q.2 a (by simp)⟩
    have pb : PolyOk f b := ⟨q.1, q.2 b (by simp)⟩
    have pc : PolyOk f c := ⟨q.1, q.2 c (by simp)⟩
    have hm := md_pos q.1
    by_cases px : PointsOk f x
    · have hl := px.2.2.1
      obtain ⟨K1, h1⟩ := fevalMany_ev (md f) (gn f) (tw f) (by omega) hm.2 a x pa.2.2.1 px.2.2.2.1 pa.2.1 (by omega)
      obtain ⟨K2, h2⟩ := fevalMany_ev (md f) (gn f) (tw f) (by omega) hm.2 b x pb.2.2.1 px.2.2.2.1 pb.2.1 (by omega)
      obtain ⟨K3, h3⟩ := fevalMany_ev (md f) (gn f) (tw f) (by omega) hm.2 c x pc.2.2.1 px.2.2.2.1 pc.2.1 (by omega)
      have la := pa.2.1
      have lb := pb.2.1
      have lc := pc.2.1
      have hnd := need_le (a := a) (b := b) (c := c) (n := x.length)
      refine ⟨K1 + K2 + K3 + 1052700, fun k hk => ?_⟩
      obtain ⟨k, rfl⟩ : ∃ m, k = m + 4 := ⟨k - 4, by omega⟩
      have e1 := h1 (k + 1) (by omega)
      have e2 := h2 (k + 1) (by omega)
      have e3 := h3 k (by omega)
      simp only at e1 e2 e3
      have hw : wrap64 (wrap64 ((a.length : Int) + (b.length : Int)) - 1) = (a.length : Int) + (b.length : Int) - 1 := by
        rw [wrap_id (x := (a.length : Int) + (b.length : Int)) (by omega) (by omega), wrap_id (by omega) (by omega)]
      have key : impl_CheckCert.f (k + 4) f a b c x y z = impl_CheckCert.j2 (k + 2) a b c (need a b c : Int) x y z (md f) (gn f) (tw f) := by
        simp only [impl_CheckCert.f]
        rw [hpf (k + 4) (by simp; omega), if_pos q]
        simp only [bs, if_true]
        rw [pointField_f f x (by omega) (k + 4) (by omega), if_pos px]
        simp only [bs]
        simp only [impl_CheckCert.j0]
        rw [if_neg (by decide)]
        have hnc := need_mx a b c
        by_cases z1 : (a.length : Int) > 0
        · rw [if_pos z1]
          simp only [impl_CheckCert.j1]
          by_cases z2 : (b.length : Int) > 0
          · rw [if_pos (by simpa using z2), hw, hnc, if_neg (both_len z1 z2)]
          · rw [if_neg (by simpa using z2), hnc, if_pos (none_b z2)]
        · rw [if_neg z1]
          simp only [impl_CheckCert.j1]
          rw [if_neg (by decide), hnc, if_pos (none_a z1)]
      show impl_CheckCert.f (k + 4) f a b c x y z = _
      rw [key]
      simp only [impl_CheckCert.j2]
      by_cases n1 : (x.length : Int) < (need a b c : Int)
      · rw [if_pos n1]
        simp only [impl_CheckCert.j3, if_true]
        rw [decide_eq_false (fun h => by have := h.2.2.2.2.1; omega)]
      · rw [if_neg n1, e1]
        simp only [bs]
        rw [equal_f y _ (by omega) (k + 1) (by omega)]
        simp only [bs]
        by_cases m1 : y = evL (md f) a x
        · rw [if_pos (by simpa using m1), e2]
          simp only [bs]
          rw [equal_f z _ (by omega) (k + 1) (by omega)]
          simp only [bs]
          by_cases m2 : z = evL (md f) b x
          · rw [decide_eq_true m2]
            simp only [impl_CheckCert.j3]
            rw [if_neg (by decide), pointwise_f (md f) (gn f) (tw f) (by omega) hm.2 y z x.length hl (by rw [m1, evL_length]) (by rw [m2, evL_length]) (by rw [m1]; exact evL_el (by omega) _ _) (by rw [m2]; exact evL_el (by omega) _ _) k (by omega)]
            simp only [bs]
            rw [e3]
            simp only [bs]
            rw [equal_f _ _ (by rw [fl_length]; omega) k (by rw [fl_length]; omega)]
            simp only [bs]
            congr 1
            rw [decide_eq_decide]
            exact ⟨fun h => ⟨pa, pb, pc, px, by omega, m1.symm, m2.symm, h⟩, fun h => h.2.2.2.2.2.2.2⟩
          · rw [decide_eq_false m2]
            simp only [impl_CheckCert.j3]
            rw [if_pos (by decide), decide_eq_false (fun h => m2 h.2.2.2.2.2.2.1.symm)]
        · rw [if_neg (by simpa using m1)]
          simp only [impl_CheckCert.j3, if_true]
          rw [decide_eq_false (fun h => m1 h.2.2.2.2.2.1.symm)]
    · refine ⟨1052700, fun k hk => ?_⟩
      obtain ⟨k, rfl⟩ : ∃ m, k = m + 1 := ⟨k - 1, by omega⟩
      show impl_CheckCert.f (k + 1) f a b c x y z = _
      simp only [impl_CheckCert.f]
      rw [hpf (k + 1) (by simp; omega), if_pos q]
      simp only [bs, if_true]
      rw [pointField_f f x (by omega) (k + 1) (by omega), if_neg px]
      simp only [bs]
      simp only [impl_CheckCert.j0]
      rw [if_pos (by decide), decide_eq_false (fun h => px h.2.2.2.1)]
  · refine ⟨1052700, fun k hk => ?_⟩
    obtain ⟨k, rfl⟩ : ∃ m, k = m + 1 := ⟨k - 1, by omega⟩
    show impl_CheckCert.f (k + 1) f a b c x y z = _
    simp only [impl_CheckCert.f]
    rw [hpf (k + 1) (by simp; omega), if_neg q]
    simp only [bs]
    rw [pointField_f f x (by omega) (k + 1) (by omega)]
    simp only [bs]
    rw [if_neg (by decide)]
    simp only [impl_CheckCert.j0, if_true]
    rw [decide_eq_false]
    rintro ⟨⟨hp, qa⟩, ⟨_, qb⟩, ⟨_, qc⟩, _⟩
    apply q
    refine ⟨hp, fun l hl => ?_⟩
    simp only [List.mem_cons, List.not_mem_nil, or_false] at hl
    rcases hl with rfl | rfl | rfl
    · exact qa
    · exact qb
    · exact qc
theorem szCert_f (x y z : List Int) (hx : x.length ≤ maxLen) (hy : y.length ≤ maxLen) (hz : z.length ≤ maxLen) : laws_szCert.f x y z 1048576 = some (if x.length + y.length + z.length ≤ 1048576 then 1048576 - (x.length : Int) - y.length - z.length else -1) := by
  unfold maxLen at hx hy hz
  unfold laws_szCert.f laws_szIntS.f
  rw [wrap_id (x := 1048576 - (x.length : Int)) (by omega) (by omega)]
  by_cases c : (1048576 : Int) - x.length < 0
  · rw [if_pos c, if_neg (by omega)]
    simp only [bs]
    rw [if_pos (by omega)]
  · rw [if_neg c]
    simp only [bs]
    rw [if_neg c, wrap_id (by omega) (by omega)]
    by_cases c2 : (1048576 : Int) - x.length - y.length < 0
    · rw [if_pos c2, if_neg (by omega)]
      simp only [bs]
      rw [if_pos (by omega)]
    · rw [if_neg c2]
      simp only [bs]
      rw [if_neg c2, wrap_id (by omega) (by omega)]
      by_cases c3 : (1048576 : Int) - x.length - y.length - z.length < 0
      · rw [if_pos c3, if_neg (by omega)]
        simp only [bs]
        rw [if_pos (by omega)]
      · rw [if_neg c3, if_pos (by omega)]
        simp only [bs]
        rw [if_neg c3]
theorem toCert_f (x y z : List Int) (hx : x.length ≤ 1048576) (hy : y.length ≤ 1048576) (hz : z.length ≤ 1048576) (k : Nat) (hk : 1048577 < k) : laws_toCert.f k x y z = some (x, y, z) := by
  simp only [laws_toCert.f, toIntS_f x (by omega) k (by omega), toIntS_f y (by omega) k (by omega), toIntS_f z (by omega) k (by omega), bs]
theorem eqCert_self (x y z : List Int) (hx : x.length ≤ 1048576) (hy : y.length ≤ 1048576) (hz : z.length ≤ 1048576) (k : Nat) (hk : 1048577 < k) : laws_eqCert.f k x y z x y z = some true := by
  simp only [laws_eqCert.f, eqIntS_self x (by omega) k (by omega), eqIntS_self y (by omega) k (by omega), eqIntS_self z (by omega) k (by omega), bs, if_true]
theorem FnExactCheckCert : laws_FnExactCheckCert.Pure := by
  intro f a b c x y z _ _ _ _ hw
  obtain ⟨⟨wx, _⟩, ⟨wy, _⟩, ⟨wz, _⟩⟩ := hw
  by_cases ca : (a.length : Int) > 1048576
  · exact ⟨0, by unfold laws_FnExactCheckCert.f; rw [if_pos ca]⟩
  by_cases cb : (b.length : Int) > 1048576
  · exact ⟨0, by unfold laws_FnExactCheckCert.f; rw [if_neg ca, if_pos cb]⟩
  by_cases cc : (c.length : Int) > 1048576
  · exact ⟨0, by unfold laws_FnExactCheckCert.f; rw [if_neg ca, if_neg cb, if_pos cc]⟩
  by_cases cs : x.length + y.length + z.length ≤ 1048576
  case neg =>
    refine ⟨0, ?_⟩
    unfold laws_FnExactCheckCert.f
    rw [if_neg ca, if_neg cb, if_neg cc, szCert_f x y z wx wy wz, if_neg cs]
    simp only [bs]
    rw [if_pos (by decide)]
  have la : a.length ≤ 1048576 := by omega
  have lb : b.length ≤ 1048576 := by omega
  have lc : c.length ≤ 1048576 := by omega
  have lx : x.length ≤ 1048576 := by omega
  have ly : y.length ≤ 1048576 := by omega
  have lz : z.length ≤ 1048576 := by omega
  obtain ⟨K1, h1⟩ := spec_ev f a b c x y z la lb lc lx
  obtain ⟨K2, h2⟩ := impl_ev f a b c x y z la lb lc lx ly lz
  obtain ⟨K, hK⟩ : ∃ K, K = K1 + K2 + 1048700 := ⟨_, rfl⟩
  have E1 := h1 K (by omega)
  have E2 := h2 K (by omega)
  simp only at E1 E2
  have Ta : laws_toIntS.f K a = some a := toIntS_f a (by omega) K (by omega)
  have Tb : laws_toIntS.f K b = some b := toIntS_f b (by omega) K (by omega)
  have Tc : laws_toIntS.f K c = some c := toIntS_f c (by omega) K (by omega)
  have Qa : laws_eqIntS.f K a a = some true := eqIntS_self a (by omega) K (by omega)
  have Qb : laws_eqIntS.f K b b = some true := eqIntS_self b (by omega) K (by omega)
  have Qc : laws_eqIntS.f K c c = some true := eqIntS_self c (by omega) K (by omega)
  have C := eqCert_self x y z lx ly lz K (by omega)
  have U := toCert_f x y z lx ly lz K (by omega)
  refine ⟨K, ?_⟩
  unfold laws_FnExactCheckCert.f
  rw [if_neg ca, if_neg cb, if_neg cc, szCert_f x y z wx wy wz, if_pos cs]
  simp only [bs]
  rw [if_neg (by omega)]
  simp only [Ta, Tb, Tc, U, bs]
  rw [E1]
  simp only [bs]
  rw [E2]
  simp only [bs]
  rw [if_neg (by simp)]
  simp only [Qa, Qb, Qc, C, bs, if_true]

end Go.Proofs.Ytabicblkdgpogaa.Pure
