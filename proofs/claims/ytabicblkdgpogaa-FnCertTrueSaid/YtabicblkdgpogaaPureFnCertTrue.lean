/- A product that MakeCert and CheckCert certify is MulPoly, and no other polynomial is taken with that certificate. -/
import Derived.Test.YtabicblkdgpogaaQFnCertTruex15
import Derived.Test.YtabicblkdgpogaaVFnCertTruel
namespace Go.Proofs.Ytabicblkdgpogaa.Pure
open Go.RowKit Go.Proofs.Ytabicblkdgpogaa.QFnCertTrue Go.Proofs.YtabicblkdgpogaaW.PrintWords Go.Proofs.YtabicblkdgpogaaW.PrintLast Go.Proofs.YtabicblkdgpogaaW.PrintMore Go.Proofs.Ytabicblkdgpogaa.Lib
set_option linter.unusedVariables false

theorem modulus_f (f : Int) : spec_Modulus.f f = some (md f) := by
  unfold spec_Modulus.f md
  simp only [apply_ite some]
theorem reduce_f (f x : Int) (hp : md f ≠ 0) : spec_Reduce.f f x = some (x % md f) := by
  have h := md_pos hp
  have hr := reduce_int x (md f) (by omega)
  have hx := emod_range x (show 0 < md f by omega)
  unfold spec_Reduce.f
  rw [modulus_f]
  simp only [bs]
  rw [if_neg hp]
  by_cases c : Int.tmod x (md f) < 0
  · rw [if_pos c] at hr ⊢
    rw [hr, wrap_id (by omega) (by omega)]
  · rw [if_neg c] at hr ⊢
    rw [hr]
theorem mul_f (f x y : Int) (hp : md f ≠ 0) : spec_Mul.f f x y = some ((x * y) % md f) := by
  have h := md_pos hp
  have hx := emod_range x (show 0 < md f by omega)
  have hy := emod_range y (show 0 < md f by omega)
  have hm := prod_range h.2 hx hy
  unfold spec_Mul.f
  simp only [modulus_f, bs]
  rw [if_neg hp]
  simp only [reduce_f f _ hp, bs]
  rw [wrap_id (by omega) (by omega), ← Int.mul_emod]
theorem add_f (f x y : Int) (hp : md f ≠ 0) : spec_Add.f f x y = some ((x + y) % md f) := by
  have h := md_pos hp
  have hx := emod_range x (show 0 < md f by omega)
  have hy := emod_range y (show 0 < md f by omega)
  unfold spec_Add.f
  simp only [modulus_f, bs]
  rw [if_neg hp]
  simp only [reduce_f f _ hp, bs]
  rw [wrap_id (by omega) (by omega), ← Int.add_emod]
theorem in_f (x a b : Int) : spec_l01In.f x a b = some (decide (a ≤ x ∧ x ≤ b)) := by
  unfold spec_l01In.f
  by_cases c : a ≤ x
  · rw [if_pos c]; simp [c]
  · rw [if_neg c]; simp [c]
theorem elements_f (f : Int) (l : List Int) (hn : l.length ≤ 2000000) (k : Nat) (hk : l.length < k) : spec_l03Elements.f k f l = some (decide (md f ≠ 0 ∧ El (md f) l)) := by
  unfold spec_l03Elements.f
  simp only [modulus_f, bs]
  by_cases hp : md f = 0
  · rw [if_pos hp, decide_eq_false (fun h => h.1 hp)]
  · rw [if_neg hp]
    have hq := md_pos hp
    have key := loop_list (fun k (_ : Unit) i => spec_l03Elements.l0 k l (md f) i) l 0 (fun _ _ => True) (fun r _ => decide (El (md f) r)) (by
      intro k s _ _
      simp only [spec_l03Elements.l0]
      rw [if_neg (by omega), decide_eq_true (El.nil _)]) (by
      intro k i s h _ _
      simp only [spec_l03Elements.l0]
      rw [if_pos (by omega), if_pos (by omega), rd_at l i h, wrap_id (x := md f - 1) (by omega) (by omega), in_f]
      simp only [bs]
      by_cases c : 0 ≤ l[i] ∧ l[i] ≤ md f - 1
      · left
        refine ⟨(), ?_, trivial, ?_⟩
        · rw [if_pos (by simpa using c), wrap_next h (by omega)]
        · apply decide_eq_decide.mpr
          constructor
          · intro hh x hx
            exact hh x (List.mem_cons_of_mem _ hx)
          · intro hh x hx
            rcases List.mem_cons.1 hx with rfl | hx
            · omega
            · exact hh x hx
      · right
        rw [if_neg (by simpa using c)]
        rw [decide_eq_false]
        intro hh
        have := hh l[i] List.mem_cons_self
        omega) k () (by omega) trivial
    rw [key]
    congr 1
    exact decide_eq_decide.mpr ⟨fun h => ⟨hp, h⟩, fun h => h.2⟩
theorem fieldOf_f (f : Int) : impl_fieldOf.f f = some (md f, gn f, tw f, decide (md f ≠ 0)) := by
  by_cases c : 0 ≤ f ∧ f ≤ 8
  · rcases nine c.1 c.2 with rfl | rfl | rfl | rfl | rfl | rfl | rfl | rfl | rfl <;> rfl
  · obtain ⟨h1, h2, h3⟩ := md_out c
    unfold impl_fieldOf.f
    rw [h1, h2, h3]
    by_cases c0 : f < 0
    · rw [if_pos c0]; rfl
    · rw [if_neg c0, if_pos (by omega)]; rfl
theorem areElements_f (p g t : Int) (l : List Int) (hn : l.length ≤ 2000000) (k : Nat) (hk : l.length < k) : impl_field_areElements.f k p g t l = some (decide (El p l)) := by
  unfold impl_field_areElements.f
  exact loop_list (fun k (_ : Unit) i => impl_field_areElements.l0 k l (l.length : Int) i p g t) l 0 (fun _ _ => True) (fun r _ => decide (El p r)) (by
    intro k s _ _
    simp only [impl_field_areElements.l0]
    rw [if_neg (by omega), decide_eq_true (El.nil _)]) (by
    intro k i s h _ _
    simp only [impl_field_areElements.l0]
    rw [if_pos (by omega), if_pos (by omega), if_pos (by omega), rd_at l i h]
    by_cases c : l[i] < 0
    · right
      rw [if_pos c, decide_eq_false]
      intro hh
      have := hh l[i] List.mem_cons_self
      omega
    · by_cases c1 : l[i] ≥ p
      · right
        rw [if_neg c, if_pos c1, decide_eq_false]
        intro hh
        have := hh l[i] List.mem_cons_self
        omega
      · left
        refine ⟨(), ?_, trivial, ?_⟩
        · rw [if_neg c, if_neg c1, wrap_next h (by omega)]
        · apply decide_eq_decide.mpr
          constructor
          · intro hh x hx
            exact hh x (List.mem_cons_of_mem _ hx)
          · intro hh x hx
            rcases List.mem_cons.1 hx with rfl | hx
            · omega
            · exact hh x hx) k () (by omega) trivial
theorem equal_f (a b : List Int) (hn : a.length ≤ 2000000) (k : Nat) (hk : a.length < k) : slices_Equal_int_int.f k a b = some (decide (a = b)) := by
  unfold slices_Equal_int_int.f
  by_cases c : (a.length : Int) = (b.length : Int)
  · rw [if_pos c]
    have key : ∀ (d k i : Nat), i + d = a.length → d < k → slices_Equal_int_int.l0 k a b (a.length : Int) (i : Int) = some (decide (a.drop i = b.drop i)) := by
      intro d
      induction d with
      | zero =>
        intro k i hi hk
        obtain ⟨k, rfl⟩ : ∃ m, k = m + 1 := ⟨k - 1, by omega⟩
        simp only [slices_Equal_int_int.l0]
        rw [if_neg (by omega), List.drop_eq_nil_of_le (by omega), List.drop_eq_nil_of_le (by omega)]
        rfl
      | succ d ih =>
        intro k i hi hk
        obtain ⟨k, rfl⟩ : ∃ m, k = m + 1 := ⟨k - 1, by omega⟩
        simp only [slices_Equal_int_int.l0]
        rw [if_pos (by omega), if_pos (by omega), if_pos (by omega), if_pos (by omega), rd_at a i (by omega), rd_at b i (by omega), drop_cons a i (by omega), drop_cons b i (by omega)]
        by_cases e : a[i] = b[i]
        · rw [if_pos e, wrap_next (show i < a.length by omega) (by omega), ih k (i + 1) (by omega) (by omega)]
          congr 1
          exact decide_eq_decide.mpr ⟨fun h => by rw [e, h], fun h => (List.cons.inj h).2⟩
        · rw [if_neg e, decide_eq_false (fun h => e (List.cons.inj h).1)]
    have := key a.length k 0 (by omega) hk
    simpa using this
  · rw [if_neg c, decide_eq_false (fun h => c (by rw [h]))]
theorem power_loop (p : Int) (h2 : 2 ≤ p) (hp : p ≤ 1004535809) : ∀ (m n : Nat), n ≤ m → n ≤ 4611686018427387904 → ∀ (x out : Int), 0 ≤ x ∧ x < p → 0 ≤ out ∧ out < p → Ev (fun k => spec_Power.l0 k p x (n : Int) out) (out * x ^ n % p) := by
  intro m
  induction m with
  | zero =>
    intro n hn _ x out hx ho
    obtain rfl : n = 0 := by omega
    refine Ev.step (f := fun _ => some (out * x ^ 0 % p)) (fun k => ?_) (Ev.now _)
    simp only [spec_Power.l0]
    rw [if_neg (by omega), Int.pow_zero, Int.mul_one, Int.emod_eq_of_lt ho.1 ho.2]
  | succ m ih =>
    intro n hn hmax x out hx ho
    by_cases c : n = 0
    · exact ih n (by omega) hmax x out hx ho
    · have hxx := prod_range hp hx hx
      have hox := prod_range hp ho hx
      have r1 := emod_range (x * x) (show 0 < p by omega)
      have r2 := emod_range (out * x) (show 0 < p by omega)
      have hdiv : wrap64 (Int.tdiv (n : Int) 2) = ((n / 2 : Nat) : Int) := by
        rw [Int.tdiv_eq_ediv_of_nonneg (by omega), wrap_id (by omega) (by omega)]
        rfl
      have hpw := pow_half p x out n
      by_cases o : n % 2 = 1
      · rw [if_pos o] at hpw
        rw [← hpw]
        refine Ev.step (f := fun k => spec_Power.l0 k p (x * x % p) ((n / 2 : Nat) : Int) (out * x % p)) (fun k => ?_) (ih (n / 2) (by omega) (by omega) _ _ r1 r2)
        simp only [spec_Power.l0]
        rw [if_pos (by omega), if_pos (by rw [tmod_nonneg' _ (by omega)]; omega), if_neg (by omega), hdiv, wrap_id (x := x * x) (by omega) (by omega), wrap_id (x := out * x) (by omega) (by omega), tmod_nonneg' _ hxx.1, tmod_nonneg' _ hox.1]
      · rw [if_neg o] at hpw
        rw [← hpw]
        refine Ev.step (f := fun k => spec_Power.l0 k p (x * x % p) ((n / 2 : Nat) : Int) out) (fun k => ?_) (ih (n / 2) (by omega) (by omega) _ _ r1 ho)
        simp only [spec_Power.l0]
        rw [if_pos (by omega), if_neg (by rw [tmod_nonneg' _ (by omega)]; omega), if_neg (by omega), hdiv, wrap_id (x := x * x) (by omega) (by omega), tmod_nonneg' _ hxx.1]
theorem power_ev (f a e : Int) (hp : md f ≠ 0) (he0 : -4611686018427387904 ≤ e) (he1 : e ≤ 4611686018427387904) : Ev (fun k => spec_Power.f k f a e) (powS f a e) := by
  have hq := md_pos hp
  have hr := emod_range a (show 0 < md f by omega)
  have hn := emod_range e (show 0 < md f - 1 by omega)
  have hre := reduce_int e (md f - 1) (by omega)
  unfold powS
  by_cases z : a % md f = 0
  · rw [if_pos z]
    refine ⟨0, fun k _ => ?_⟩
    simp only [spec_Power.f, modulus_f, bs]
    rw [if_neg hp, reduce_f f a hp]
    simp only [bs]
    rw [if_pos z]
    by_cases e0 : e = 0
    · rw [if_pos e0, if_pos e0]
    · rw [if_neg e0, if_neg e0]
      by_cases e1 : e < 0
      · rw [if_pos e1, if_pos e1]
      · rw [if_neg e1, if_neg e1]
  · rw [if_neg z]
    have hl := power_loop (md f) (by omega) hq.2 (e % (md f - 1)).toNat (e % (md f - 1)).toNat (Nat.le_refl _) (by omega) (a % md f) 1 hr ⟨by omega, by omega⟩
    rw [Int.one_mul, Int.toNat_of_nonneg hn.1] at hl
    obtain ⟨K, hK⟩ := hl
    refine ⟨K + 1, fun k hk => ?_⟩
    obtain ⟨k, rfl⟩ : ∃ m, k = m + 1 := ⟨k - 1, by omega⟩
    simp only [spec_Power.f, modulus_f, bs]
    rw [if_neg hp, reduce_f f a hp]
    simp only [bs]
    rw [if_neg z, wrap_id (x := md f - 1) (by omega) (by omega), if_neg (by omega)]
    by_cases c : Int.tmod e (md f - 1) < 0
    · rw [if_pos c] at hre ⊢
      have : -(md f - 1) < Int.tmod e (md f - 1) := by
        have := Int.lt_tmod_of_pos e (show 0 < md f - 1 by omega)
        omega
      rw [wrap_id (x := Int.tmod e (md f - 1) + md f) (by omega) (by omega), wrap_id (by omega) (by omega), show Int.tmod e (md f - 1) + md f - 1 = e % (md f - 1) by omega]
      simp only [spec_Power.j0]
      exact hK k (by omega)
    · rw [if_neg c] at hre ⊢
      rw [hre]
      simp only [spec_Power.j0]
      exact hK k (by omega)
theorem copy_f (l : List Int) (hn : l.length ≤ 2000000) (k : Nat) (hk : l.length < k) : spec_l01Copy.f k l = some l := by
  unfold spec_l01Copy.f
  have := append_loop (fun k s i => spec_l01Copy.l0 k l s i) l id 0 [] (by
    intro k s _
    simp only [spec_l01Copy.l0]
    rw [if_neg (by omega)]) (by
    intro k i s h _ hs
    simp only [List.length_nil] at hs
    simp only [spec_l01Copy.l0]
    rw [if_pos (by omega), if_pos (by omega), if_pos (by omega), rd_at l i h, wrap_next h (by omega)]
    rfl) k (by omega)
  simpa using this
theorem cut_f (l : List Int) (hn : l.length ≤ 2000000) (k : Nat) (hk : 2 * l.length + 1 < k) : spec_l03Cut.f k l = some (tr l) := by
  have key : ∀ (n k : Nat), n ≤ l.length → n + l.length + 1 < k → spec_l03Cut.l0 k l (n : Int) = some (l.take (tn l n)) := by
    intro n
    induction n with
    | zero =>
      intro k h hk
      obtain ⟨k, rfl⟩ : ∃ m, k = m + 1 := ⟨k - 1, by omega⟩
      simp only [spec_l03Cut.l0]
      rw [if_neg (by omega), if_pos (by omega), if_pos (by omega), copy_f _ (by simp) _ (by simp; omega)]
      simp only [bs]
      rfl
    | succ n ih =>
      intro k h hk
      obtain ⟨k, rfl⟩ : ∃ m, k = m + 1 := ⟨k - 1, by omega⟩
      have hw : wrap64 (((n + 1 : Nat) : Int) - 1) = (n : Int) := by rw [wrap_id (by omega) (by omega)]; omega
      simp only [spec_l03Cut.l0]
      rw [if_pos (by omega), hw, if_pos (by omega), if_pos (by omega), rd_L]
      by_cases c : L l n = 0
      · rw [if_pos c, ih k (by omega) (by omega)]
        simp only [tn]
        rw [if_pos c]
      · rw [if_neg c, if_pos (by omega), if_pos (by omega), copy_f _ (by simp; omega) _ (by simp; omega)]
        simp only [bs, tn]
        rw [if_neg c, Int.toNat_natCast]
  unfold spec_l03Cut.f tr
  exact key l.length k (by omega) (by omega)
/-- A polynomial over the field. -/
def PolyOk (f : Int) (l : List Int) : Prop := md f ≠ 0 ∧ l.length ≤ 400 ∧ El (md f) l ∧ (l.length ≠ 0 → L l (l.length - 1) ≠ 0)
instance (f : Int) (l : List Int) : Decidable (PolyOk f l) := by unfold PolyOk; exact inferInstance
theorem PolyOk.tr {f : Int} {l : List Int} (h : PolyOk f l) : Tr l := by
  intro j hj
  have := h.2.2.2 (by omega)
  rwa [hj] at this
theorem polyOk_of {f : Int} {l : List Int} (hp : md f ≠ 0) (hl : l.length ≤ 400) (hE : El (md f) l) (ht : Tr l) : PolyOk f l :=
  ⟨hp, hl, hE, fun h => ht (l.length - 1) (by omega)⟩
theorem polyOk_f (f : Int) (l : List Int) (hn : l.length ≤ 2000000) (k : Nat) (hk : l.length < k) : spec_PolyOk.f k f l = some (decide (PolyOk f l)) := by
  unfold spec_PolyOk.f
  by_cases c : (l.length : Int) > 400
  · rw [if_pos c, decide_eq_false (fun h => by have := h.2.1; omega)]
  · rw [if_neg c, elements_f f l hn k hk]
    simp only [bs]
    by_cases d : md f ≠ 0 ∧ El (md f) l
    · rw [if_pos (by simpa using d)]
      by_cases z : (l.length : Int) = 0
      · rw [if_pos z, decide_eq_true ⟨d.1, by omega, d.2, fun h => by omega⟩]
      · have hw : wrap64 ((l.length : Int) - 1) = ((l.length - 1 : Nat) : Int) := by rw [wrap_id (by omega) (by omega)]; omega
        rw [if_neg z, hw, if_pos (by omega), if_pos (by omega), rd_L]
        congr 1
        rw [Bool.eq_iff_iff, bne_iff_ne, decide_eq_true_eq]
        exact ⟨fun h => ⟨d.1, by omega, d.2, fun _ => h⟩, fun h => h.2.2.2 (by omega)⟩
    · rw [if_neg (by simpa using d), decide_eq_false (fun h => d ⟨h.1, h.2.2.1⟩)]
/-- The reference's product of two polynomials. -/
theorem sum_cut (a : List Int) (g : Nat → Int) : ∀ e : Nat, sumN (a.length + e) (fun t => L a t * g t) = sumN a.length (fun t => L a t * g t) := by
  intro e
  induction e with
  | zero => rfl
  | succ e ih =>
    rw [show a.length + (e + 1) = a.length + e + 1 by omega]
    simp only [sumN]
    rw [ih, L_out a (a.length + e) (by omega)]
    simp
theorem smul_inner (p : Int) (hp : 0 < p) (hp2 : p ≤ 1004535809) (a b : List Int) (hEa : El p a) (hEb : El p b) (ha : a.length ≤ 1000000) (hb : b.length ≤ 1000000) (m : Nat) (hm : m + 1 < a.length + b.length) (r : List Int)
    (hr : Ev (fun k => spec_l03Mul.l0 k a b p (fl (m + 1) (fun m => cv (L a) (L b) m % p)) ((m + 1 : Nat) : Int)) r) :
    ∀ d j : Nat, j + d = min (m + 1) a.length → Ev (fun k => spec_l03Mul.l1 k a b p (fl m (fun m => cv (L a) (L b) m % p)) (m : Int) (sumN j (fun t => L a t * L b (m - t)) % p) (j : Int)) r := by
  intro d
  induction d with
  | zero =>
    intro j hj
    refine Ev.step (f := fun k => spec_l03Mul.j3 k a b p (fl m (fun m => cv (L a) (L b) m % p)) (m : Int) (sumN j (fun t => L a t * L b (m - t)) % p) (j : Int) false) (fun k => ?_) ?_
    · simp only [spec_l03Mul.l1]
      by_cases c : (j : Int) ≤ (m : Int)
      · rw [if_pos c, decide_eq_false (by omega)]
      · rw [if_neg c]
    · refine Ev.step (fun k => ?_) hr
      simp only [spec_l03Mul.j3]
      rw [if_neg (by decide), fl_length, if_pos (by omega), wrap_next (show m < m + 1 by omega) (by omega)]
      have e : sumN j (fun t => L a t * L b (m - t)) = cv (L a) (L b) m := by
        unfold cv
        by_cases c : a.length ≤ m + 1
        · have := sum_cut a (fun t => L b (m - t)) (m + 1 - a.length)
          rw [show a.length + (m + 1 - a.length) = m + 1 by omega] at this
          rw [this, show j = a.length by omega]
        · rw [show j = m + 1 by omega]
      rw [e, fl_snoc m (fun m => cv (L a) (L b) m % p)]
  | succ d ih =>
    intro j hj
    have h1 := L_el hp hEa j
    have h2 := L_el hp hEb (m - j)
    have hpr := prod_range hp2 h1 h2
    have hs := emod_range (sumN j (fun t => L a t * L b (m - t))) hp
    have hw : wrap64 ((m : Int) - (j : Int)) = ((m - j : Nat) : Int) := by rw [wrap_id (by omega) (by omega)]; omega
    refine Ev.step (f := fun k => spec_l03Mul.j3 k a b p (fl m (fun m => cv (L a) (L b) m % p)) (m : Int) (sumN j (fun t => L a t * L b (m - t)) % p) (j : Int) true) (fun k => ?_) ?_
    · simp only [spec_l03Mul.l1]
      rw [if_pos (by omega), decide_eq_true (by omega)]
    · refine Ev.step (fun k => ?_) (ih (j + 1) (by omega))
      simp only [spec_l03Mul.j3]
      rw [if_pos (by simp), hw]
      by_cases c : m - j < b.length
      · rw [if_pos (by omega), if_pos (by omega), if_pos (by omega), if_pos (by omega), if_neg (by omega), rd_L, rd_L, wrap_id (x := L a j * L b (m - j)) (by omega) (by omega), wrap_id (by omega) (by omega), tmod_nonneg' _ (by omega), Int.emod_add_emod, wrap_next (show j < m + 1 by omega) (by omega)]
        rfl
      · rw [if_neg (by omega), wrap_next (show j < m + 1 by omega) (by omega)]
        have e : sumN (j + 1) (fun t => L a t * L b (m - t)) = sumN j (fun t => L a t * L b (m - t)) := by
          simp only [sumN]
          rw [L_out b (m - j) (by omega)]
          simp
        rw [e]
theorem smul_outer (p : Int) (hp : 0 < p) (hp2 : p ≤ 1004535809) (a b : List Int) (hEa : El p a) (hEb : El p b) (ha : a.length ≤ 1000000) (hb : b.length ≤ 1000000) (ha1 : 1 ≤ a.length) (hb1 : 1 ≤ b.length) :
    ∀ d m : Nat, m + d = a.length + b.length - 1 → Ev (fun k => spec_l03Mul.l0 k a b p (fl m (fun m => cv (L a) (L b) m % p)) (m : Int)) (mulP p a b) := by
  have hw : wrap64 (wrap64 ((a.length : Int) + (b.length : Int)) - 1) = ((a.length + b.length - 1 : Nat) : Int) := by
    rw [wrap_id (x := (a.length : Int) + (b.length : Int)) (by omega) (by omega), wrap_id (by omega) (by omega)]
    omega
  intro d
  induction d with
  | zero =>
    intro m hm
    obtain rfl : m = a.length + b.length - 1 := by omega
    unfold mulP
    rw [if_neg (by omega)]
    refine ⟨4000010, fun k hk => ?_⟩
    obtain ⟨k, rfl⟩ : ∃ m, k = m + 1 := ⟨k - 1, by omega⟩
    simp only [spec_l03Mul.l0]
    rw [hw, if_neg (by omega), cut_f _ (by rw [fl_length]; omega) k (by rw [fl_length]; omega)]
    simp only [bs]
  | succ d ih =>
    intro m hm
    refine Ev.step (fun k => ?_) (smul_inner p hp hp2 a b hEa hEb ha hb m (by omega) _ (ih (m + 1) (by omega)) (min (m + 1) a.length) 0 (by omega))
    simp only [spec_l03Mul.l0]
    rw [hw, if_pos (by omega)]
    simp only [sumN, Int.zero_emod]
    rfl
theorem l03Mul_ev (f : Int) (a b : List Int) (hp : md f ≠ 0) (hEa : El (md f) a) (hEb : El (md f) b) (ha : a.length ≤ 1000000) (hb : b.length ≤ 1000000) : Ev (fun k => spec_l03Mul.f k f a b) (mulP (md f) a b) := by
  have hm := md_pos hp
  by_cases z : a.length = 0 ∨ b.length = 0
  · have e : mulP (md f) a b = [] := by unfold mulP; rw [if_pos z]
    rw [e]
    refine ⟨1, fun k hk => ?_⟩
    obtain ⟨k, rfl⟩ : ∃ m, k = m + 1 := ⟨k - 1, by omega⟩
    simp only [spec_l03Mul.f, modulus_f, bs]
    by_cases z1 : a.length = 0
    · rw [if_pos (by omega)]
      simp only [spec_l03Mul.j0, if_true]
    · rw [if_neg (by omega)]
      simp only [spec_l03Mul.j0]
      rw [if_pos (beq_iff_eq.mpr (by omega))]
  · obtain ⟨K, hK⟩ := smul_outer (md f) (by omega) hm.2 a b hEa hEb ha hb (by omega) (by omega) (a.length + b.length - 1) 0 (by omega)
    refine ⟨K + 1, fun k hk => ?_⟩
    obtain ⟨k, rfl⟩ : ∃ m, k = m + 1 := ⟨k - 1, by omega⟩
    simp only [spec_l03Mul.f, modulus_f, bs]
    rw [if_neg (by omega)]
    simp only [spec_l03Mul.j0]
    rw [if_neg (fun h => by have := beq_iff_eq.mp h; omega)]
    exact hK k (by omega)
/-- What the reference's product answers. -/
def SM (f : Int) (a b : List Int) : Prop := PolyOk f a ∧ PolyOk f b ∧ ¬ (0 < a.length ∧ 0 < b.length ∧ 401 < a.length + b.length)
instance (f : Int) (a b : List Int) : Decidable (SM f a b) := by unfold SM; exact inferInstance
theorem specMulPoly_ev (f : Int) (a b : List Int) (ha : a.length ≤ 1048576) (hb : b.length ≤ 1048576) : Ev (fun k => spec_MulPoly.f k f a b) (if SM f a b then (mulP (md f) a b, true) else ([], false)) := by
  by_cases c : PolyOk f a ∧ PolyOk f b
  · obtain ⟨pa, pb⟩ := c
    obtain ⟨K, hK⟩ := l03Mul_ev f a b pa.1 pa.2.2.1 pb.2.2.1 (by have := pa.2.1; omega) (by have := pb.2.1; omega)
    have la := pa.2.1
    have lb := pb.2.1
    refine ⟨K + 1048590, fun k hk => ?_⟩
    obtain ⟨k, rfl⟩ : ∃ m, k = m + 1 := ⟨k - 1, by omega⟩
    have e := hK k (by omega)
    simp only at e
    simp only [spec_MulPoly.f]
    simp only [polyOk_f f a (by omega) (k + 1) (by omega), polyOk_f f b (by omega) (k + 1) (by omega), bs, decide_eq_true pa, decide_eq_true pb, if_true, Bool.not_true]
    simp only [spec_MulPoly.j0]
    rw [if_neg (by decide)]
    have hw : wrap64 (wrap64 ((a.length : Int) + (b.length : Int)) - 1) = (a.length : Int) + (b.length : Int) - 1 := by
      rw [wrap_id (x := (a.length : Int) + (b.length : Int)) (by omega) (by omega), wrap_id (by omega) (by omega)]
    rw [hw, e]
    simp only [bs]
    by_cases z1 : (a.length : Int) > 0
    · rw [if_pos z1]
      by_cases z2 : (b.length : Int) > 0
      · rw [if_pos z2]
        by_cases z3 : (a.length : Int) + (b.length : Int) - 1 > 400
        · rw [if_pos z3, if_neg (fun h => h.2.2 ⟨by omega, by omega, by omega⟩)]
        · rw [if_neg z3, if_pos ⟨pa, pb, fun h => by omega⟩]
      · rw [if_neg z2, if_pos ⟨pa, pb, fun h => by omega⟩]
    · rw [if_neg z1, if_pos ⟨pa, pb, fun h => by omega⟩]
  · rw [if_neg (fun h => c ⟨h.1, h.2.1⟩)]
    refine ⟨1048590, fun k hk => ?_⟩
    obtain ⟨k, rfl⟩ : ∃ m, k = m + 1 := ⟨k - 1, by omega⟩
    simp only [spec_MulPoly.f]
    simp only [polyOk_f f a (by omega) (k + 1) (by omega), polyOk_f f b (by omega) (k + 1) (by omega), bs]
    by_cases pa : PolyOk f a
    · have pb : ¬ PolyOk f b := fun h => c ⟨pa, h⟩
      rw [if_pos (by simpa using pa), decide_eq_false pb]
      simp only [spec_MulPoly.j0, Bool.not_false, if_true]
    · rw [if_neg (by simpa using pa)]
      simp only [spec_MulPoly.j0, if_true]
/-- The product of two polynomials that aren't nought has no fewer terms than it may have: the numbers are prime. -/
theorem mulP_len {f : Int} (hp : md f ≠ 0) {a b : List Int} (hEa : El (md f) a) (hEb : El (md f) b) (hTa : Tr a) (hTb : Tr b) (ha : 1 ≤ a.length) (hb : 1 ≤ b.length) : (mulP (md f) a b).length = a.length + b.length - 1 := by
  have hm := md_pos hp
  have h1 : (mulP (md f) a b).length ≤ a.length + b.length - 1 := by
    unfold mulP
    rw [if_neg (by omega)]
    have := tr_le (fl (a.length + b.length - 1) (fun m => cv (L a) (L b) m % md f))
    rw [fl_length] at this
    exact this
  have e : cv (L a) (L b) (a.length + b.length - 2) = L a (a.length - 1) * L b (b.length - 1) := by
    unfold cv
    rw [sumN_single (k := a.length - 1) (by omega) (by
      intro i hi hne
      by_cases c : i < a.length - 1
      · rw [L_out b _ (by omega), Int.mul_zero]
      · rw [L_out a i (by omega), Int.zero_mul]), show a.length + b.length - 2 - (a.length - 1) = b.length - 1 by omega]
  have hne : L (mulP (md f) a b) (a.length + b.length - 2) ≠ 0 := by
    rw [L_mulP, e]
    intro h
    have ra := L_el (show 0 < md f by omega) hEa (a.length - 1)
    have rb := L_el (show 0 < md f by omega) hEb (b.length - 1)
    rcases no_zero hp h with h | h
    · rw [Int.emod_eq_of_lt ra.1 ra.2] at h
      exact hTa (a.length - 1) (by omega) h
    · rw [Int.emod_eq_of_lt rb.1 rb.2] at h
      exact hTb (b.length - 1) (by omega) h
  have h2 : a.length + b.length - 2 < (mulP (md f) a b).length := by
    by_cases c : a.length + b.length - 2 < (mulP (md f) a b).length
    · exact c
    · exact absurd (L_out _ _ (by omega)) hne
  omega
/-- A polynomial's value at a place. -/
def evN (p : Int) (a : List Int) (x : Int) (n : Nat) : Int := sumN n (fun i => L a i * x ^ i) % p
def evL (p : Int) (a xs : List Int) : List Int := xs.map (fun x => evN p a x a.length)
theorem powS_nonneg {f x : Int} (hp : md f ≠ 0) (h0 : 0 ≤ x) (h1 : x < md f) (n : Nat) : powS f x (n : Int) = x ^ n % md f := by
  have hm := md_pos hp
  unfold powS
  rw [Int.emod_eq_of_lt h0 h1]
  by_cases z : x = 0
  · subst z
    rw [if_pos rfl]
    cases n with
    | zero => rw [if_pos (by omega), Int.pow_zero, Int.emod_eq_of_lt (by omega) (by omega)]
    | succ n => rw [if_neg (by omega), if_neg (by omega), Int.pow_succ, Int.mul_zero, Int.zero_emod]
  · rw [if_neg z]
    have hf := fermat_int hp h0 (by rw [Int.emod_eq_of_lt h0 h1]; exact z)
    obtain ⟨q, hq⟩ : ∃ q : Nat, q = (md f).toNat - 1 := ⟨_, rfl⟩
    rw [← hq] at hf
    have e : ((n : Int) % (md f - 1)).toNat = n % q := by
      have : md f - 1 = (q : Int) := by omega
      rw [this]
      rfl
    rw [e]
    have h2 : x ^ n = (x ^ q) ^ (n / q) * x ^ (n % q) := by
      rw [← Int.pow_mul, ← Int.pow_add, Nat.div_add_mod]
    rw [h2, Int.mul_emod, ← pow_emod (x ^ q) (md f) (n / q), hf]
    have : ∀ k : Nat, (1 : Int) ^ k = 1 := by
      intro k
      exact Int.one_pow
    rw [this, Int.emod_eq_of_lt (show (0 : Int) ≤ 1 by omega) (show 1 < md f by omega), Int.one_mul, Int.emod_emod_of_dvd _ (Int.dvd_refl _)]
theorem evalPoly_loop (f : Int) (a : List Int) (x : Int) (hp : md f ≠ 0) (hE : El (md f) a) (h0 : 0 ≤ x) (h1 : x < md f) (hl : a.length ≤ 400) :
    ∀ d i : Nat, i + d = a.length → Ev (fun k => spec_EvalPoly.l0 k f a x (evN (md f) a x i) (i : Int)) (evN (md f) a x a.length) := by
  intro d
  induction d with
  | zero =>
    intro i hi
    obtain rfl : i = a.length := by omega
    refine Ev.step (f := fun _ => some (evN (md f) a x a.length)) (fun k => ?_) (Ev.now _)
    simp only [spec_EvalPoly.l0]
    rw [if_neg (by omega)]
  | succ d ih =>
    intro i hi
    have hpw := power_ev f x (i : Int) hp (by omega) (by omega)
    rw [powS_nonneg hp h0 h1] at hpw
    refine Ev.step (f := fun k => (spec_Power.f k f x (i : Int)).bind fun t => (spec_Mul.f f (rd a (i : Int)) t).bind fun t166 => (spec_Add.f f (evN (md f) a x i) t166).bind fun t167 => spec_EvalPoly.l0 k f a x t167 (wrap64 ((i : Int) + 1))) (fun k => ?_) (Ev.bind hpw ?_)
    · simp only [spec_EvalPoly.l0]
      rw [if_pos (by omega), if_pos (by omega)]
    · refine Ev.congr (fun k => ?_) (ih (i + 1) (by omega))
      rw [rd_L, mul_f f _ _ hp]
      simp only [bs]
      rw [add_f f _ _ hp]
      simp only [bs]
      rw [wrap_next (show i < a.length by omega) (by omega)]
      have e : (evN (md f) a x i + L a i * (x ^ i % md f) % md f) % md f = evN (md f) a x (i + 1) := by
        unfold evN
        simp only [sumN]
        rw [Int.mul_emod (L a i) (x ^ i % md f), Int.emod_emod_of_dvd _ (Int.dvd_refl _), ← Int.mul_emod, ← Int.add_emod]
      rw [e]
theorem evalPoly_ev (f : Int) (a : List Int) (x : Int) (pa : PolyOk f a) (h0 : 0 ≤ x) (h1 : x < md f) : Ev (fun k => spec_EvalPoly.f k f a x) (evN (md f) a x a.length) := by
  obtain ⟨K, hK⟩ := evalPoly_loop f a x pa.1 pa.2.2.1 h0 h1 pa.2.1 a.length 0 (by omega)
  have la := pa.2.1
  refine ⟨K + 500, fun k hk => ?_⟩
  simp only [spec_EvalPoly.f]
  simp only [polyOk_f f a (by omega) k (by omega), bs, decide_eq_true pa, if_true]
  have := hK k (by omega)
  simp only at this
  rw [← this]
  congr 1
theorem evalMany_loop (f : Int) (a xs y : List Int) (pa : PolyOk f a) (hx : El (md f) xs) (hxs : xs.length ≤ 40) :
    ∀ (d i : Nat) (s : List Int), i + d = xs.length → s.length = i → Ev (fun k => spec_EvalMany.l0 k f a xs s (i : Int)) (s ++ evL (md f) a (xs.drop i)) := by
  intro d
  induction d with
  | zero =>
    intro i s hi hs
    refine Ev.step (f := fun _ => some s) (fun k => ?_) ?_
    · simp only [spec_EvalMany.l0]
      rw [if_neg (by omega)]
    · rw [List.drop_eq_nil_of_le (by omega)]
      simp only [evL, List.map_nil, List.append_nil]
      exact Ev.now _
  | succ d ih =>
    intro i s hi hs
    have hr := hx.at i (by omega)
    have h := evalPoly_ev f a xs[i] pa hr.1 hr.2
    refine Ev.step (f := fun k => (spec_EvalPoly.f k f a xs[i]).bind fun t => if s.length < 17592186044416 then spec_EvalMany.l0 k f a xs (s ++ [t]) (wrap64 ((i : Int) + 1)) else none) (fun k => ?_) (Ev.bind h ?_)
    · simp only [spec_EvalMany.l0]
      rw [if_pos (by omega), if_pos (by omega), rd_at xs i (by omega)]
    · have h2 := ih (i + 1) (s ++ [evN (md f) a xs[i] a.length]) (by omega) (by simp [hs])
      rw [drop_cons xs i (by omega)]
      simp only [evL, List.map_cons]
      rw [List.append_assoc] at h2
      refine Ev.congr (fun k => ?_) h2
      rw [if_pos (by omega), wrap_next (show i < xs.length by omega) (by omega)]
theorem evalMany_ev (f : Int) (a xs : List Int) (pa : PolyOk f a) (hx : El (md f) xs) (hxs : xs.length ≤ 40) : Ev (fun k => spec_EvalMany.f k f a xs) (evL (md f) a xs) := by
  obtain ⟨K, hK⟩ := evalMany_loop f a xs [] pa hx hxs xs.length 0 [] (by omega) rfl
  have la := pa.2.1
  refine ⟨K + 500, fun k hk => ?_⟩
  obtain ⟨k, rfl⟩ : ∃ m, k = m + 1 := ⟨k - 1, by omega⟩
  simp only [spec_EvalMany.f]
  simp only [polyOk_f f a (by omega) (k + 1) (by omega), bs, decide_eq_true pa, if_true]
  rw [if_neg (by omega), elements_f f xs (by omega) (k + 1) (by omega)]
  simp only [bs]
  rw [decide_eq_true ⟨pa.1, hx⟩]
  simp only [spec_EvalMany.j0, Bool.not_true]
  rw [if_neg (by decide)]
  have := hK k (by omega)
  simpa using this
/-- The program's value of a polynomial, from the top down. -/
def hs (p : Int) (a : List Int) (x : Int) (j : Nat) : Int := sumN (a.length - j) (fun t => L a (j + t) * x ^ t) % p
theorem hs_step (p : Int) (a : List Int) (x : Int) (j : Nat) (h : j < a.length) : (hs p a x (j + 1) * x + L a j) % p = hs p a x j := by
  unfold hs
  rw [show a.length - j = (a.length - (j + 1)) + 1 by omega, sumN_front]
  rw [Int.pow_zero, Int.mul_one]
  have e : sumN (a.length - (j + 1)) (fun k => L a (j + (k + 1)) * x ^ (k + 1)) = x * sumN (a.length - (j + 1)) (fun t => L a (j + 1 + t) * x ^ t) := by
    rw [← sumN_mul]
    apply sumN_congr
    intro i _
    rw [show j + (i + 1) = j + 1 + i by omega, Int.pow_succ, ← Int.mul_assoc, Int.mul_comm]
  generalize sumN (a.length - (j + 1)) (fun t => L a (j + 1 + t) * x ^ t) = S at e ⊢
  rw [e, Nat.add_zero, Int.mul_comm x, Int.add_comm (L a j), Int.add_emod, Int.mul_emod, Int.emod_emod_of_dvd _ (Int.dvd_refl _), ← Int.mul_emod, ← Int.add_emod]
theorem feval_ev (p g t : Int) (hp : 0 < p) (hp2 : p ≤ 1004535809) (a : List Int) (x : Int) (hE : El p a) (h0 : 0 ≤ x) (h1 : x < p) (hl : a.length ≤ 400) : Ev (fun k => impl_field_eval.f k p g t a x) (evN p a x a.length) := by
  have key : ∀ n : Nat, n ≤ a.length → Ev (fun k => impl_field_eval.l0 k a x (hs p a x n) ((n : Int) - 1) p g t) (evN p a x a.length) := by
    intro n
    induction n with
    | zero =>
      intro _
      have e : evN p a x a.length = hs p a x 0 := by
        unfold evN hs
        simp only [Nat.zero_add, Nat.sub_zero]
      rw [e]
      refine Ev.step (f := fun _ => some (hs p a x 0)) (fun k => ?_) (Ev.now _)
      simp only [impl_field_eval.l0]
      rw [if_neg (by omega)]
    | succ n ih =>
      intro hn
      refine Ev.step (fun k => ?_) (ih (by omega))
      have hr := emod_range (sumN (a.length - (n + 1)) (fun t => L a (n + 1 + t) * x ^ t)) hp
      have ha := L_el hp hE n
      have hm := prod_range hp2 (x := hs p a x (n + 1)) hr ⟨h0, h1⟩
      simp only [impl_field_eval.l0]
      rw [show ((n + 1 : Nat) : Int) - 1 = (n : Int) by omega, if_pos (by omega), if_pos (by omega), if_pos (by omega), if_neg (by omega), rd_L, wrap_id (x := hs p a x (n + 1) * x) (by omega) (by omega), wrap_id (x := hs p a x (n + 1) * x + L a n) (by omega) (by omega), wrap_id (x := (n : Int) - 1) (by omega) (by omega), tmod_nonneg' _ (by omega), hs_step p a x n (by omega)]
  have h := key a.length (Nat.le_refl _)
  have e : hs p a x a.length = 0 := by
    unfold hs
    rw [Nat.sub_self]
    simp [sumN]
  rw [e] at h
  refine Ev.congr (fun k => ?_) h
  simp only [impl_field_eval.f]
  rw [wrap_id (x := (a.length : Int) - 1) (by omega) (by omega)]
theorem fevalMany_loop (p g t : Int) (hp : 0 < p) (hp2 : p ≤ 1004535809) (a xs : List Int) (hE : El p a) (hx : El p xs) (hl : a.length ≤ 400) (hxs : xs.length ≤ 1000000) :
    ∀ (d i : Nat) (s : List Int), i + d = xs.length → s.length = i → Ev (fun k => impl_field_evalMany.l0 k a s xs (xs.length : Int) (i : Int) p g t) (s ++ evL p a (xs.drop i)) := by
  intro d
  induction d with
  | zero =>
    intro i s hi hs
    refine Ev.step (f := fun _ => some s) (fun k => ?_) ?_
    · simp only [impl_field_evalMany.l0]
      rw [if_neg (by omega)]
    · rw [List.drop_eq_nil_of_le (by omega)]
      simp only [evL, List.map_nil, List.append_nil]
      exact Ev.now _
  | succ d ih =>
    intro i s hi hs
    have hr := hx.at i (by omega)
    have h := feval_ev p g t hp hp2 a xs[i] hE hr.1 hr.2 hl
    refine Ev.step (f := fun k => (impl_field_eval.f k p g t a xs[i]).bind fun t215 => if s.length < 17592186044416 then impl_field_evalMany.l0 k a (s ++ [t215]) xs (xs.length : Int) (wrap64 ((i : Int) + 1)) p g t else none) (fun k => ?_) (Ev.bind h ?_)
    · simp only [impl_field_evalMany.l0]
      rw [if_pos (by omega), if_pos (by omega), if_pos (by omega), rd_at xs i (by omega)]
    · have h2 := ih (i + 1) (s ++ [evN p a xs[i] a.length]) (by omega) (by simp [hs])
      rw [drop_cons xs i (by omega)]
      simp only [evL, List.map_cons]
      rw [List.append_assoc] at h2
      refine Ev.congr (fun k => ?_) h2
      rw [if_pos (by omega), wrap_next (show i < xs.length by omega) (by omega)]
theorem fevalMany_ev (p g t : Int) (hp : 0 < p) (hp2 : p ≤ 1004535809) (a xs : List Int) (hE : El p a) (hx : El p xs) (hl : a.length ≤ 400) (hxs : xs.length ≤ 1000000) : Ev (fun k => impl_field_evalMany.f k p g t a xs) (evL p a xs) := by
  have h := fevalMany_loop p g t hp hp2 a xs hE hx hl hxs xs.length 0 [] (by omega) rfl
  rw [List.nil_append, List.drop_zero] at h
  exact h
theorem trimmed_ev (l : List Int) (hn : l.length ≤ 2000000) : Ev (fun k => impl_trimmed.f k l) (tr l) := by
  have key : ∀ n : Nat, n ≤ l.length → Ev (fun k => impl_trimmed.l0 k (l.take n)) (l.take (tn l n)) := by
    intro n
    induction n with
    | zero =>
      intro _
      refine Ev.step (f := fun _ => some []) (fun k => ?_) (Ev.now _)
      simp only [impl_trimmed.l0]
      rw [if_neg (by simp)]
      rfl
    | succ n ih =>
      intro h
      have hlen : (l.take (n + 1)).length = n + 1 := by rw [List.length_take]; omega
      have hw : wrap64 (((n + 1 : Nat) : Int) - 1) = (n : Int) := by rw [wrap_id (by omega) (by omega)]; omega
      have hL : L (l.take (n + 1)) n = L l n := by rw [L_take, if_pos (by omega)]
      by_cases c : L l n = 0
      · refine Ev.step (f := fun k => impl_trimmed.l0 k (l.take n)) (fun k => ?_) ?_
        · simp only [impl_trimmed.l0]
          rw [hlen, if_pos (by omega), hw, if_pos (by omega), if_pos (by omega), rd_L, hL, if_pos c, if_pos (by omega), Int.toNat_natCast, List.take_take, show min n (n + 1) = n by omega]
        · simp only [tn]
          rw [if_pos c]
          exact ih (by omega)
      · refine Ev.step (f := fun _ => some (l.take (n + 1))) (fun k => ?_) ?_
        · simp only [impl_trimmed.l0]
          rw [hlen, if_pos (by omega), hw, if_pos (by omega), if_pos (by omega), rd_L, hL, if_neg c]
        · simp only [tn]
          rw [if_neg c]
          exact Ev.now _
  have h := key l.length (Nat.le_refl _)
  rw [List.take_length] at h
  exact h
/-- The program's product of two polynomials, by rounds. -/
def ip (p : Int) (a b : List Int) (i j m : Nat) : Int := (sumN (if i ≤ m ∧ m < i + j then i + 1 else if m < i then m + 1 else i) (fun t => L a t * L b (m - t))) % p
theorem mul_inner (p g t : Int) (hp : 0 < p) (hp2 : p ≤ 1004535809) (a b : List Int) (hEa : El p a) (hEb : El p b) (ha : a.length ≤ 1000000) (hb : b.length ≤ 1000000) (i : Nat) (hi : i < a.length) (hb1 : 1 ≤ b.length) (r : List Int)
    (hr : Ev (fun k => impl_field_mulPoly.l0 k b (fl (a.length + b.length - 1) (ip p a b (i + 1) 0)) a (a.length : Int) ((i + 1 : Nat) : Int) p g t) r) :
    ∀ d j : Nat, j + d = b.length → Ev (fun k => impl_field_mulPoly.l1 k b (fl (a.length + b.length - 1) (ip p a b i j)) (i : Int) (L a i) a (a.length : Int) (i : Int) b (b.length : Int) (j : Int) p g t) r := by
  intro d
  induction d with
  | zero =>
    intro j hj
    refine Ev.step (f := fun k => impl_field_mulPoly.l0 k b (fl (a.length + b.length - 1) (ip p a b (i + 1) 0)) a (a.length : Int) ((i + 1 : Nat) : Int) p g t) (fun k => ?_) hr
    simp only [impl_field_mulPoly.l1]
    rw [if_neg (by omega), wrap_next hi (by omega)]
    have e : fl (a.length + b.length - 1) (ip p a b i j) = fl (a.length + b.length - 1) (ip p a b (i + 1) 0) := by
      apply fl_congr
      intro m hm
      unfold ip
      by_cases c : i ≤ m
      · by_cases c3 : m < i + j
        · by_cases c2 : m = i
          · subst c2
            rw [if_pos ⟨by omega, by omega⟩, if_neg (by omega), if_pos (by omega)]
          · rw [if_pos ⟨by omega, by omega⟩, if_neg (by omega), if_neg (by omega)]
        · rw [if_neg (by omega), if_neg (by omega), if_neg (by omega), if_neg (by omega)]
          simp only [sumN]
          rw [L_out b (m - i) (by omega)]
          simp
      · rw [if_neg (by omega), if_pos (by omega), if_neg (by omega), if_pos (by omega)]
    rw [e]
  | succ d ih =>
    intro j hj
    refine Ev.step (f := fun k => impl_field_mulPoly.l1 k b (fl (a.length + b.length - 1) (ip p a b i (j + 1))) (i : Int) (L a i) a (a.length : Int) (i : Int) b (b.length : Int) ((j + 1 : Nat) : Int) p g t) (fun k => ?_) (ih (j + 1) (by omega))
    have hw : wrap64 ((i : Int) + (j : Int)) = ((i + j : Nat) : Int) := by rw [wrap_id (by omega) (by omega)]; rfl
    have h1 := L_el hp hEa i
    have h2 := L_el hp hEb j
    have hm := prod_range hp2 h1 h2
    have hs := emod_range (sumN (if i ≤ i + j ∧ i + j < i + j then i + 1 else if i + j < i then i + j + 1 else i) (fun t => L a t * L b (i + j - t))) hp
    simp only [impl_field_mulPoly.l1]
    rw [if_pos (by omega), if_pos (by omega), if_pos (by omega), hw, if_pos (by omega), if_pos (by rw [fl_length]; omega), if_neg (by omega), rd_L, rd_L, L_fl _ _ _ (by omega)]
    rw [wrap_id (x := L a i * L b j) (by omega) (by omega)]
    unfold ip at hs ⊢
    rw [wrap_id (by omega) (by omega), tmod_nonneg' _ (by omega), Int.emod_add_emod, wrap_next (show j < b.length by omega) (by omega), fl_set]
    have e : fl (a.length + b.length - 1) (fun m => if m = ((i + j : Nat) : Int).toNat then (sumN (if i ≤ i + j ∧ i + j < i + j then i + 1 else if i + j < i then i + j + 1 else i) (fun t => L a t * L b (i + j - t)) + L a i * L b j) % p
        else (sumN (if i ≤ m ∧ m < i + j then i + 1 else if m < i then m + 1 else i) (fun t => L a t * L b (m - t))) % p)
        = fl (a.length + b.length - 1) (fun m => (sumN (if i ≤ m ∧ m < i + (j + 1) then i + 1 else if m < i then m + 1 else i) (fun t => L a t * L b (m - t))) % p) := by
      apply fl_congr
      intro m hm
      by_cases c : m = i + j
      · subst c
        rw [if_pos (by omega), if_neg (by omega), if_neg (by omega), if_pos ⟨by omega, by omega⟩]
        simp only [sumN]
        rw [show i + j - i = j by omega]
      · rw [if_neg (by omega)]
        by_cases c2 : i ≤ m ∧ m < i + j
        · rw [if_pos c2, if_pos ⟨by omega, by omega⟩]
        · rw [if_neg c2, if_neg (show ¬ (i ≤ m ∧ m < i + (j + 1)) by omega)]
    rw [e]
theorem mul_outer (p g t : Int) (hp : 0 < p) (hp2 : p ≤ 1004535809) (a b : List Int) (hEa : El p a) (hEb : El p b) (ha : a.length ≤ 1000000) (hb : b.length ≤ 1000000) (ha1 : 1 ≤ a.length) (hb1 : 1 ≤ b.length) :
    ∀ d i : Nat, i + d = a.length → Ev (fun k => impl_field_mulPoly.l0 k b (fl (a.length + b.length - 1) (ip p a b i 0)) a (a.length : Int) (i : Int) p g t) (mulP p a b) := by
  intro d
  induction d with
  | zero =>
    intro i hi
    obtain rfl : i = a.length := by omega
    have e : fl (a.length + b.length - 1) (ip p a b a.length 0) = fl (a.length + b.length - 1) (fun m => cv (L a) (L b) m % p) := by
      apply fl_congr
      intro m hm
      unfold ip cv
      rw [if_neg (by omega)]
      by_cases c : m < a.length
      · rw [if_pos c]
      · rw [if_neg c]
        congr 1
        have : ∀ e : Nat, sumN (a.length + e) (fun t => L a t * L b (m - t)) = sumN a.length (fun t => L a t * L b (m - t)) := by
          intro e
          induction e with
          | zero => rfl
          | succ e ih =>
            rw [show a.length + (e + 1) = a.length + e + 1 by omega]
            simp only [sumN]
            rw [ih, L_out a (a.length + e) (by omega)]
            simp
        rw [show m + 1 = a.length + (m + 1 - a.length) by omega, this]
    have ht := trimmed_ev (fl (a.length + b.length - 1) (fun m => cv (L a) (L b) m % p)) (by rw [fl_length]; omega)
    rw [e]
    unfold mulP
    rw [if_neg (by omega)]
    refine Ev.step (f := fun k => (impl_trimmed.f k (fl (a.length + b.length - 1) (fun m => cv (L a) (L b) m % p))).bind fun t227 => some t227) (fun k => ?_) (Ev.bind ht (Ev.now _))
    simp only [impl_field_mulPoly.l0]
    rw [if_neg (by omega)]
  | succ d ih =>
    intro i hi
    refine Ev.step (fun k => ?_) (mul_inner p g t hp hp2 a b hEa hEb ha hb i (by omega) hb1 _ (ih (i + 1) (by omega)) b.length 0 (by omega))
    simp only [impl_field_mulPoly.l0]
    rw [if_pos (by omega), if_pos (by omega), if_pos (by omega), rd_L]
    rfl
theorem mulPoly_ev (p g t : Int) (hp : 0 < p) (hp2 : p ≤ 1004535809) (a b : List Int) (hEa : El p a) (hEb : El p b) (ha : a.length ≤ 1000000) (hb : b.length ≤ 1000000) : Ev (fun k => impl_field_mulPoly.f k p g t a b) (mulP p a b) := by
  by_cases z : a.length = 0 ∨ b.length = 0
  · have e : mulP p a b = [] := by unfold mulP; rw [if_pos z]
    rw [e]
    refine ⟨1, fun k hk => ?_⟩
    obtain ⟨k, rfl⟩ : ∃ m, k = m + 1 := ⟨k - 1, by omega⟩
    simp only [impl_field_mulPoly.f]
    by_cases z1 : a.length = 0
    · rw [if_pos (by omega)]
      simp only [impl_field_mulPoly.j0, if_true]
    · rw [if_neg (by omega)]
      simp only [impl_field_mulPoly.j0]
      rw [if_pos (beq_iff_eq.mpr (by omega))]
  · obtain ⟨K, hK⟩ := mul_outer p g t hp hp2 a b hEa hEb ha hb (by omega) (by omega) a.length 0 (by omega)
    refine ⟨K + 1, fun k hk => ?_⟩
    obtain ⟨k, rfl⟩ : ∃ m, k = m + 1 := ⟨k - 1, by omega⟩
    have hw : wrap64 (wrap64 ((a.length : Int) + (b.length : Int)) - 1) = ((a.length + b.length - 1 : Nat) : Int) := by
      rw [wrap_id (x := (a.length : Int) + (b.length : Int)) (by omega) (by omega), wrap_id (by omega) (by omega)]
      omega
    simp only [impl_field_mulPoly.f]
    rw [if_neg (by omega)]
    simp only [impl_field_mulPoly.j0]
    rw [if_neg (fun h => by have := beq_iff_eq.mp h; omega), hw, if_pos (by omega), if_pos (by omega), Int.toNat_natCast, fl_zero]
    have e : fl (a.length + b.length - 1) (fun _ => 0) = fl (a.length + b.length - 1) (ip p a b 0 0) := by
      apply fl_congr
      intro m _
      unfold ip
      rw [if_neg (by omega), if_neg (by omega)]
      simp [sumN]
    rw [e]
    exact hK k (by omega)
/-- What a list must be for a polynomial, the field given. -/
def Lok (p : Int) (l : List Int) : Prop := l.length ≤ 400 ∧ El p l ∧ (l.length ≠ 0 → L l (l.length - 1) ≠ 0)
instance (p : Int) (l : List Int) : Decidable (Lok p l) := by unfold Lok; exact inferInstance
theorem rdLL_at (ls : List (List Int)) (i : Nat) (h : i < ls.length) : rd_L2 ls (i : Int) = ls[i] := by simp [rd_L2, List.getD, h]
def AllLok (p : Int) (ls : List (List Int)) : Prop := ∀ l ∈ ls, Lok p l
instance (p : Int) (ls : List (List Int)) : Decidable (AllLok p ls) := List.decidableBAll _ _
theorem AllLok.nil (p : Int) : AllLok p [] := fun l hl => by cases hl
theorem AllLok.cons {p : Int} {l : List Int} {ls : List (List Int)} (h : Lok p l) (hs : AllLok p ls) : AllLok p (l :: ls) := fun x hx => by
  rcases List.mem_cons.1 hx with rfl | hx
  · exact h
  · exact hs x hx
theorem polyField_f (f : Int) (ls : List (List Int)) (hls : ls.length ≤ 100) (K : Nat) (hK : ∀ l ∈ ls, l.length < K) (hK2 : K ≤ 2000000) (k : Nat) (hk : ls.length + K < k) :
    impl_polyField.f k f ls = some (if md f ≠ 0 ∧ AllLok (md f) ls then (md f, gn f, tw f, true) else (0, 0, 0, false)) := by
  unfold impl_polyField.f
  rw [fieldOf_f]
  simp only [bs]
  by_cases hp : md f = 0
  · rw [if_neg (by simpa using hp), if_neg (fun h => h.1 hp)]
  · rw [if_pos (by simpa using hp)]
    have key := loop_list (fun k (_ : Unit) i => impl_polyField.l0 k ls (ls.length : Int) i (md f) (gn f) (tw f)) ls K (fun _ _ => True) (fun r _ => if AllLok (md f) r then (md f, gn f, tw f, true) else (0, 0, 0, false)) (by
      intro k s _ _
      simp only [impl_polyField.l0]
      rw [if_neg (by omega), if_pos (AllLok.nil _)]) (by
      intro k i s h hKk _
      have hlen := hK ls[i] (List.getElem_mem h)
      simp only [impl_polyField.l0]
      rw [if_pos (by omega), if_pos (by omega), if_pos (by omega), rdLL_at ls i h]
      generalize ls[i] = l at hlen
      have no : ∀ hh : ¬ Lok (md f) l, (if AllLok (md f) (l :: ls.drop (i + 1)) then (md f, gn f, tw f, true) else (0, 0, 0, false)) = (0, 0, 0, false) := fun hh => if_neg (fun h => hh (h l List.mem_cons_self))
      have yes : ∀ hh : Lok (md f) l, (if AllLok (md f) (l :: ls.drop (i + 1)) then (md f, gn f, tw f, true) else (0, 0, 0, false)) = (if AllLok (md f) (ls.drop (i + 1)) then (md f, gn f, tw f, true) else (0, 0, 0, false)) := by
        intro hh
        by_cases c : AllLok (md f) (ls.drop (i + 1))
        · rw [if_pos c, if_pos (AllLok.cons hh c)]
        · rw [if_neg c, if_neg (fun h => c (fun x hx => h x (List.mem_cons_of_mem _ hx)))]
      by_cases c1 : (l.length : Int) > 400
      · right
        rw [if_pos c1, no (fun h => by have := h.1; omega)]
      · rw [if_neg c1, areElements_f _ _ _ l (by omega) k (by omega)]
        simp only [bs]
        by_cases c2 : El (md f) l
        · rw [if_pos (by simpa using c2)]
          by_cases c3 : (l.length : Int) > 0
          · have hw : wrap64 ((l.length : Int) - 1) = ((l.length - 1 : Nat) : Int) := by rw [wrap_id (by omega) (by omega)]; omega
            rw [if_pos c3, hw, if_pos (by omega), if_pos (by omega), rd_L]
            by_cases c4 : L l (l.length - 1) = 0
            · right
              rw [if_pos c4, no (fun h => h.2.2 (by omega) c4)]
            · left
              refine ⟨(), ?_, trivial, yes ⟨by omega, c2, fun _ => c4⟩⟩
              rw [if_neg c4, wrap_next h (by omega)]
          · left
            refine ⟨(), ?_, trivial, yes ⟨by omega, c2, fun h => by omega⟩⟩
            rw [if_neg c3, wrap_next h (by omega)]
        · right
          rw [if_neg (by simpa using c2), no (fun h => c2 h.2.1)]) k () (by omega) trivial
    rw [key]
    congr 1
    by_cases c : AllLok (md f) ls
    · rw [if_pos c, if_pos ⟨hp, c⟩]
    · rw [if_neg c, if_neg (fun h => c h.2)]
/-- Points that differ, from a place on. -/
def disB (l : List Int) : Nat → Nat → Bool
  | 0, _ => true
  | d + 1, i => (!decide (L l i ∈ l.take i)) && disB l d (i + 1)
def PointsOk (f : Int) (l : List Int) : Prop := md f ≠ 0 ∧ 1 ≤ l.length ∧ l.length ≤ 40 ∧ El (md f) l ∧ disB l l.length 0 = true
instance (f : Int) (l : List Int) : Decidable (PointsOk f l) := by unfold PointsOk; exact inferInstance
theorem pf_inner (p g t : Int) (l : List Int) (hn : l.length ≤ 40) (i : Nat) (hi : i < l.length) (r : Int × Int × Int × Bool) (k0 : Nat)
    (hr : ∀ k, k0 ≤ k → impl_pointField.l0 k l l (l.length : Int) ((i + 1 : Nat) : Int) p g t = some r) : ∀ (d j k : Nat), j + d = i → k0 + d + 1 ≤ k →
    impl_pointField.l1 k l (L l i) l (l.length : Int) (i : Int) (l.take i) ((l.take i).length : Int) (j : Int) p g t = some (if L l i ∈ (l.take i).drop j then (0, 0, 0, false) else r) := by
  have hlen : (l.take i).length = i := by rw [List.length_take]; omega
  intro d
  induction d with
  | zero =>
    intro j k hj hk
    obtain ⟨k, rfl⟩ : ∃ m, k = m + 1 := ⟨k - 1, by omega⟩
    simp only [impl_pointField.l1]
    rw [if_neg (by omega), wrap_next (show i < l.length by omega) (by omega), hr k (by omega), List.drop_eq_nil_of_le (by omega), if_neg (by simp)]
  | succ d ih =>
    intro j k hj hk
    obtain ⟨k, rfl⟩ : ∃ m, k = m + 1 := ⟨k - 1, by omega⟩
    simp only [impl_pointField.l1]
    rw [if_pos (by omega), if_pos (by omega), if_pos (by omega), rd_at _ j (by omega), drop_cons _ j (by omega)]
    by_cases c : L l i = (l.take i)[j]'(by omega)
    · rw [if_pos c, if_pos (by rw [c]; exact List.mem_cons_self)]
    · rw [if_neg c, wrap_next (show j < i by omega) (by omega), ih (j + 1) k (by omega) (by omega)]
      by_cases c2 : L l i ∈ (l.take i).drop (j + 1)
      · rw [if_pos c2, if_pos (List.mem_cons_of_mem _ c2)]
      · rw [if_neg c2, if_neg (fun h => (List.mem_cons.1 h).elim c c2)]
theorem pf_loop (p g t : Int) (l : List Int) (hn : l.length ≤ 40) : ∀ (d i k : Nat), i + d = l.length → 50 * (d + 1) ≤ k →
    impl_pointField.l0 k l l (l.length : Int) (i : Int) p g t = some (if disB l d i = true then (p, g, t, true) else (0, 0, 0, false)) := by
  intro d
  induction d with
  | zero =>
    intro i k hi hk
    obtain ⟨k, rfl⟩ : ∃ m, k = m + 1 := ⟨k - 1, by omega⟩
    simp only [impl_pointField.l0]
    rw [if_neg (by omega)]
    rfl
  | succ d ih =>
    intro i k hi hk
    obtain ⟨k, rfl⟩ : ∃ m, k = m + 1 := ⟨k - 1, by omega⟩
    simp only [impl_pointField.l0]
    rw [if_pos (by omega), if_pos (by omega), if_pos (by omega), if_pos (by omega), Int.toNat_natCast, rd_L]
    have h := pf_inner p g t l hn i (by omega) _ (50 * (d + 1)) (fun k hk => ih (i + 1) k (by omega) hk) i 0 k (by omega) (by omega)
    rw [show ((0 : Nat) : Int) = 0 from rfl, List.drop_zero] at h
    rw [h]
    congr 1
    by_cases c : L l i ∈ l.take i
    · have e : disB l (d + 1) i = false := by simp [disB, c]
      rw [if_pos c, e]
      rfl
    · have e : disB l (d + 1) i = disB l d (i + 1) := by simp [disB, c]
      rw [if_neg c, e]
theorem pointField_f (f : Int) (l : List Int) (hn : l.length ≤ 2000000) (k : Nat) (hk : l.length + 3000 < k) : impl_pointField.f k f l = some (if PointsOk f l then (md f, gn f, tw f, true) else (0, 0, 0, false)) := by
  obtain ⟨k, rfl⟩ : ∃ m, k = m + 1 := ⟨k - 1, by omega⟩
  simp only [impl_pointField.f]
  rw [fieldOf_f]
  simp only [bs]
  by_cases hp : md f = 0
  · rw [if_neg (by simpa using hp)]
    simp only [impl_pointField.j0, if_true]
    rw [if_neg (fun h => h.1 hp)]
  · rw [if_pos (by simpa using hp)]
    by_cases c1 : (l.length : Int) < 1
    · rw [if_pos c1]
      simp only [impl_pointField.j0, if_true]
      rw [if_neg (fun h => by have := h.2.1; omega)]
    · rw [if_neg c1]
      by_cases c2 : (l.length : Int) > 40
      · rw [if_pos c2]
        simp only [impl_pointField.j0, if_true]
        rw [if_neg (fun h => by have := h.2.2.1; omega)]
      · rw [if_neg c2, areElements_f _ _ _ l (by omega) (k + 1) (by omega)]
        simp only [bs]
        simp only [impl_pointField.j0]
        by_cases c3 : El (md f) l
        · rw [decide_eq_true c3, if_neg (by decide)]
          have := pf_loop (md f) (gn f) (tw f) l (by omega) l.length 0 k (by omega) (by omega)
          rw [show ((0 : Nat) : Int) = 0 from rfl] at this
          rw [this]
          congr 1
          by_cases c4 : disB l l.length 0 = true
          · rw [if_pos c4, if_pos ⟨hp, by omega, by omega, c3, c4⟩]
          · rw [if_neg c4, if_neg (fun h => c4 h.2.2.2.2)]
        · rw [decide_eq_false c3, if_pos (by decide), if_neg (fun h => c3 h.2.2.2.1)]
/-- How many places. -/
def np (a b : List Int) : Nat := if a.length = 0 ∨ b.length = 0 then 1 else a.length + b.length - 1
def pl (n : Nat) : List Int := fl n (fun i => (i : Int))
def MC (f : Int) (a b : List Int) : Prop := PolyOk f a ∧ PolyOk f b ∧ np a b ≤ 40 ∧ (np a b : Int) ≤ md f
instance (f : Int) (a b : List Int) : Decidable (MC f a b) := by unfold MC; exact inferInstance
/-- What both answer. -/
def mc (f : Int) (a b : List Int) : List Int × List Int × List Int × Bool :=
  if MC f a b then (pl (np a b), evL (md f) a (pl (np a b)), evL (md f) b (pl (np a b)), true) else ([], [], [], false)
theorem pl_length (n : Nat) : (pl n).length = n := fl_length _ _
theorem pl_el {n : Nat} {p : Int} (h : (n : Int) ≤ p) : El p (pl n) := fl_el (fun i hi => by omega)
theorem pl_snoc (n : Nat) : pl n ++ [(n : Int)] = pl (n + 1) := fl_snoc n (fun i => (i : Int))
theorem length_f (a b : List Int) (ha : a.length ≤ 1048576) (hb : b.length ≤ 1048576) : spec_l17Length.f a b = some (if a.length = 0 ∨ b.length = 0 then 0 else ((a.length + b.length - 1 : Nat) : Int)) := by
  have hw : wrap64 (wrap64 ((a.length : Int) + (b.length : Int)) - 1) = (a.length : Int) + (b.length : Int) - 1 := by
    rw [wrap_id (x := (a.length : Int) + (b.length : Int)) (by omega) (by omega), wrap_id (by omega) (by omega)]
  unfold spec_l17Length.f
  by_cases z1 : (a.length : Int) = 0
  · rw [if_pos z1, if_pos (by omega)]
  · rw [if_neg z1]
    by_cases z2 : (b.length : Int) = 0
    · rw [if_pos z2, if_pos (by omega)]
    · rw [if_neg z2, hw, if_neg (by omega)]
      congr 1
      omega
theorem sloop_ev (f : Int) (a b : List Int) (n : Nat) (pa : PolyOk f a) (pb : PolyOk f b) (hn : n ≤ 40) (hp : (n : Int) ≤ md f) :
    ∀ d i : Nat, i + d = n → Ev (fun k => spec_MakeCert.l0 k f a b (n : Int) (pl i) (i : Int)) (pl n, evL (md f) a (pl n), evL (md f) b (pl n), true) := by
  intro d
  induction d with
  | zero =>
    intro i hi
    obtain rfl : i = n := by omega
    have h1 := evalMany_ev f a (pl i) pa (pl_el hp) (by rw [pl_length]; exact hn)
    have h2 := evalMany_ev f b (pl i) pb (pl_el hp) (by rw [pl_length]; exact hn)
    refine Ev.step (f := fun k => (spec_EvalMany.f k f a (pl i)).bind fun t191 => (spec_EvalMany.f k f b (pl i)).bind fun t194 => some (pl i, t191, t194, true)) (fun k => ?_) (Ev.bind h1 (Ev.bind h2 (Ev.now _)))
    simp only [spec_MakeCert.l0]
    rw [if_neg (by omega)]
  | succ d ih =>
    intro i hi
    refine Ev.step (fun k => ?_) (ih (i + 1) (by omega))
    simp only [spec_MakeCert.l0]
    rw [if_pos (by omega), pl_length, if_pos (by omega), pl_snoc, wrap_next (show i < n by omega) (by omega)]
theorem iloop_ev (p g t : Int) (hp : 0 < p) (hp2 : p ≤ 1004535809) (a b : List Int) (n : Nat) (hEa : El p a) (hEb : El p b) (la : a.length ≤ 400) (lb : b.length ≤ 400) (hn : n ≤ 40) (hnp : (n : Int) ≤ p) :
    ∀ d i : Nat, i + d = n → Ev (fun k => impl_MakeCert.l0 k a b (pl i) (n : Int) (i : Int) p g t) (pl n, evL p a (pl n), evL p b (pl n), true) := by
  intro d
  induction d with
  | zero =>
    intro i hi
    obtain rfl : i = n := by omega
    have h1 := fevalMany_ev p g t hp hp2 a (pl i) hEa (pl_el hnp) la (by rw [pl_length]; omega)
    have h2 := fevalMany_ev p g t hp hp2 b (pl i) hEb (pl_el hnp) lb (by rw [pl_length]; omega)
    refine Ev.step (f := fun k => (impl_field_evalMany.f k p g t a (pl i)).bind fun t254 => (impl_field_evalMany.f k p g t b (pl i)).bind fun t257 => some (pl i, t254, t257, true)) (fun k => ?_) (Ev.bind h1 (Ev.bind h2 (Ev.now _)))
    simp only [impl_MakeCert.l0]
    rw [if_neg (by omega)]
  | succ d ih =>
    intro i hi
    refine Ev.step (fun k => ?_) (ih (i + 1) (by omega))
    simp only [impl_MakeCert.l0]
    rw [if_pos (by omega), pl_length, if_pos (by omega), pl_snoc, wrap_next (show i < n by omega) (by omega)]
theorem mspec_ev (f : Int) (a b : List Int) (ha : a.length ≤ 1048576) (hb : b.length ≤ 1048576) : Ev (fun k => spec_MakeCert.f k f a b) (mc f a b) := by
  obtain ⟨K1, h1⟩ := specMulPoly_ev f a b ha hb
  have hlen := length_f a b ha hb
  have hnp : (np a b : Int) = if (if a.length = 0 ∨ b.length = 0 then (0 : Int) else ((a.length + b.length - 1 : Nat) : Int)) = 0 then 1 else (if a.length = 0 ∨ b.length = 0 then (0 : Int) else ((a.length + b.length - 1 : Nat) : Int)) := by
    unfold np
    by_cases z : a.length = 0 ∨ b.length = 0
    · rw [if_pos z, if_pos z]; rfl
    · rw [if_neg z, if_neg z, if_neg (by omega)]
  have key : ∀ k, spec_MakeCert.f k f a b = (spec_MulPoly.f k f a b).bind fun bt => spec_MakeCert.j0 k f a b bt.2 (np a b : Int) := by
    intro k
    simp only [spec_MakeCert.f]
    congr 1
    funext bt
    rw [hlen]
    simp only [bs]
    rw [hnp]
    by_cases z : (if a.length = 0 ∨ b.length = 0 then (0 : Int) else ((a.length + b.length - 1 : Nat) : Int)) = 0
    · rw [if_pos z, if_pos z]
    · rw [if_neg z, if_neg z]
  have empty : ∀ k, spec_MakeCert.j1 (k + 1) f a b (np a b : Int) true = some ([], [], [], false) := by
    intro k
    simp only [spec_MakeCert.j1, if_true]
  by_cases c : MC f a b
  · obtain ⟨pa, pb, hn, hp⟩ := c
    obtain ⟨K2, h2⟩ := sloop_ev f a b (np a b) pa pb hn hp (np a b) 0 (by omega)
    refine ⟨K1 + K2 + 10, fun k hk => ?_⟩
    obtain ⟨k, rfl⟩ : ∃ m, k = m + 2 := ⟨k - 2, by omega⟩
    have sm : SM f a b := ⟨pa, pb, fun h => by
      unfold np at hn
      rw [if_neg (by omega)] at hn
      omega⟩
    have e := h1 (k + 2) (by omega)
    simp only at e
    show spec_MakeCert.f (k + 2) f a b = some (mc f a b)
    rw [key, e, if_pos sm]
    simp only [bs]
    simp only [spec_MakeCert.j0, if_true]
    rw [if_neg (by omega)]
    simp only [modulus_f, bs]
    simp only [spec_MakeCert.j1]
    rw [if_neg (by simp; omega)]
    unfold mc
    rw [if_pos ⟨pa, pb, hn, hp⟩]
    exact h2 k (by omega)
  · unfold mc
    rw [if_neg c]
    refine ⟨K1 + 10, fun k hk => ?_⟩
    obtain ⟨k, rfl⟩ : ∃ m, k = m + 2 := ⟨k - 2, by omega⟩
    have e := h1 (k + 2) (by omega)
    simp only at e
    show spec_MakeCert.f (k + 2) f a b = some ([], [], [], false)
    rw [key, e]
    simp only [bs]
    by_cases sm : SM f a b
    · rw [if_pos sm]
      simp only [spec_MakeCert.j0, if_true]
      by_cases c2 : (np a b : Int) > 40
      · rw [if_pos c2, empty]
      · rw [if_neg c2]
        simp only [modulus_f, bs]
        rw [decide_eq_true (show (np a b : Int) > md f from Decidable.byContradiction fun h => c ⟨sm.1, sm.2.1, by omega, by omega⟩), empty]
    · rw [if_neg sm]
      simp only [spec_MakeCert.j0]
      rw [if_neg (by decide), empty]
theorem mimpl_ev (f : Int) (a b : List Int) (ha : a.length ≤ 1048576) (hb : b.length ≤ 1048576) : Ev (fun k => impl_MakeCert.f k f a b) (mc f a b) := by
  have hpf := polyField_f f [a, b] (by simp) 1048577 (by
    intro l hl
    simp only [List.mem_cons, List.not_mem_nil, or_false] at hl
    rcases hl with rfl | rfl <;> omega) (by omega)
  by_cases c : md f ≠ 0 ∧ AllLok (md f) [a, b]
  · have pa : PolyOk f a := ⟨c.1, c.2 a (by simp)⟩
    have pb : PolyOk f b := ⟨c.1, c.2 b (by simp)⟩
    have hm := md_pos c.1
    have la := pa.2.1
    have lb := pb.2.1
    obtain ⟨K1, h1⟩ := mulPoly_ev (md f) (gn f) (tw f) (by omega) hm.2 a b pa.2.2.1 pb.2.2.1 (by omega) (by omega)
    have hx : mx ((mulP (md f) a b).length : Int) 1 = (np a b : Int) := by
      unfold mx np
      by_cases z : a.length = 0 ∨ b.length = 0
      · have e : mulP (md f) a b = [] := by unfold mulP; rw [if_pos z]
        rw [e, if_pos z, if_pos (by simp)]
        rfl
      · rw [mulP_len c.1 pa.2.2.1 pb.2.2.1 pa.tr pb.tr (by omega) (by omega), if_neg z, if_neg (by omega)]
    have key : ∀ k, K1 + 1048590 ≤ k → impl_MakeCert.f k f a b = if (np a b : Int) > 40 then impl_MakeCert.j0 k a b (np a b : Int) true (md f) (gn f) (tw f) else impl_MakeCert.j0 k a b (np a b : Int) (decide ((np a b : Int) > md f)) (md f) (gn f) (tw f) := by
      intro k hk
      have e := h1 k (by omega)
      simp only at e
      simp only [impl_MakeCert.f]
      rw [hpf k (by simp; omega), if_pos c]
      simp only [bs, if_true]
      rw [e]
      simp only [bs]
      rw [hx]
    by_cases d : MC f a b
    · obtain ⟨_, _, hn, hp⟩ := d
      obtain ⟨K2, h2⟩ := iloop_ev (md f) (gn f) (tw f) (by omega) hm.2 a b (np a b) pa.2.2.1 pb.2.2.1 la lb hn hp (np a b) 0 (by omega)
      refine ⟨K1 + K2 + 1048600, fun k hk => ?_⟩
      obtain ⟨k, rfl⟩ : ∃ m, k = m + 1 := ⟨k - 1, by omega⟩
      show impl_MakeCert.f (k + 1) f a b = some (mc f a b)
      rw [key (k + 1) (by omega), if_neg (by omega)]
      simp only [impl_MakeCert.j0]
      rw [if_neg (by simp; omega)]
      unfold mc
      rw [if_pos ⟨pa, pb, hn, hp⟩]
      exact h2 k (by omega)
    · refine ⟨K1 + 1048600, fun k hk => ?_⟩
      obtain ⟨k, rfl⟩ : ∃ m, k = m + 1 := ⟨k - 1, by omega⟩
      show impl_MakeCert.f (k + 1) f a b = some (mc f a b)
      unfold mc
      rw [key (k + 1) (by omega), if_neg d]
      by_cases c2 : (np a b : Int) > 40
      · rw [if_pos c2]
        simp only [impl_MakeCert.j0, if_true]
      · rw [if_neg c2, decide_eq_true (show (np a b : Int) > md f from Decidable.byContradiction fun h => d ⟨pa, pb, by omega, by omega⟩)]
        simp only [impl_MakeCert.j0, if_true]
  · refine ⟨1048590, fun k hk => ?_⟩
    simp only [impl_MakeCert.f]
    rw [hpf k (by simp; omega), if_neg c]
    simp only [bs]
    rw [if_neg (by decide)]
    unfold mc
    rw [if_neg]
    rintro ⟨⟨hp, qa⟩, ⟨_, qb⟩, _⟩
    apply c
    refine ⟨hp, fun l hl => ?_⟩
    simp only [List.mem_cons, List.not_mem_nil, or_false] at hl
    rcases hl with rfl | rfl
    · exact qa
    · exact qb
theorem mc_len (f : Int) (a b : List Int) : (mc f a b).1.length ≤ 40 ∧ (mc f a b).2.1.length ≤ 40 ∧ (mc f a b).2.2.1.length ≤ 40 := by
  unfold mc
  by_cases c : MC f a b
  · rw [if_pos c]
    simp only [evL, List.length_map, pl_length]
    exact ⟨c.2.2.1, c.2.2.1, c.2.2.1⟩
  · rw [if_neg c]
    simp
/-- How many points are wanted. -/
def need (a b c : List Int) : Nat := max c.length (if a.length = 0 ∨ b.length = 0 then 0 else a.length + b.length - 1)
/-- What both answer. -/
def CC (f : Int) (a b c x y z : List Int) : Prop := PolyOk f a ∧ PolyOk f b ∧ PolyOk f c ∧ PointsOk f x ∧ need a b c ≤ x.length ∧ evL (md f) a x = y ∧ evL (md f) b x = z ∧ fl x.length (fun i => L y i * L z i % md f) = evL (md f) c x
instance (f : Int) (a b c x y z : List Int) : Decidable (CC f a b c x y z) := by unfold CC; exact inferInstance
theorem evL_length (p : Int) (a x : List Int) : (evL p a x).length = x.length := by simp [evL]
theorem evL_el {p : Int} (hp : 0 < p) (a x : List Int) : El p (evL p a x) := by
  intro v hv
  simp only [evL, List.mem_map] at hv
  obtain ⟨u, _, rfl⟩ := hv
  exact emod_range _ hp
theorem pointwise_f (p g t : Int) (hp : 0 < p) (hp2 : p ≤ 1004535809) (u v : List Int) (n : Nat) (hn : n ≤ 40) (hu : u.length = n) (hv : v.length = n) (hEu : El p u) (hEv : El p v) (k : Nat) (hk : n < k) :
    impl_field_pointwise.f k p g t u v = some (fl n (fun i => L u i * L v i % p)) := by
  have key : ∀ (d i k : Nat), i + d = n → d < k → impl_field_pointwise.l0 k v (fl i (fun i => L u i * L v i % p)) u (u.length : Int) (i : Int) p g t = some (fl n (fun i => L u i * L v i % p)) := by
    intro d
    induction d with
    | zero =>
      intro i k hi hk
      obtain ⟨k, rfl⟩ : ∃ m, k = m + 1 := ⟨k - 1, by omega⟩
      obtain rfl : i = n := by omega
      simp only [impl_field_pointwise.l0]
      rw [if_neg (by omega)]
    | succ d ih =>
      intro i k hi hk
      obtain ⟨k, rfl⟩ : ∃ m, k = m + 1 := ⟨k - 1, by omega⟩
      have hm := prod_range hp2 (L_el hp hEu i) (L_el hp hEv i)
      simp only [impl_field_pointwise.l0, impl_field_mul.f]
      rw [if_pos (by omega), if_pos (by omega), if_pos (by omega), if_pos (by omega), if_neg (by omega), rd_L, rd_L]
      simp only [bs]
      rw [fl_length, if_pos (by omega), wrap_id (x := L u i * L v i) (by omega) (by omega), tmod_nonneg' _ hm.1, wrap_next (show i < n by omega) (by omega), fl_snoc i (fun i => L u i * L v i % p)]
      exact ih (i + 1) k (by omega) (by omega)
  exact key n 0 k (by omega) hk
theorem need_le {a b c : List Int} {n : Nat} : need a b c ≤ n ↔ ¬ ((n : Int) < (c.length : Int)) ∧ ¬ ((n : Int) < (if a.length = 0 ∨ b.length = 0 then (0 : Int) else ((a.length + b.length - 1 : Nat) : Int))) := by
  unfold need
  by_cases z : a.length = 0 ∨ b.length = 0
  · rw [if_pos z, if_pos z]
    omega
  · rw [if_neg z, if_neg z]
    omega
theorem need_mx (a b c : List Int) : (need a b c : Int) = if a.length = 0 ∨ b.length = 0 then (c.length : Int) else mx (c.length : Int) ((a.length : Int) + (b.length : Int) - 1) := by
  unfold need mx
  by_cases z : a.length = 0 ∨ b.length = 0
  · rw [if_pos z, if_pos z, Nat.max_zero]
  · rw [if_neg z, if_neg z]
    by_cases y : (c.length : Int) < (a.length : Int) + (b.length : Int) - 1
    · rw [if_pos y, Nat.max_eq_right (by omega)]
      omega
    · rw [if_neg y, Nat.max_eq_left (by omega)]
theorem both_len {a b : List Int} (h1 : (a.length : Int) > 0) (h2 : (b.length : Int) > 0) : ¬ (a.length = 0 ∨ b.length = 0) := by omega
theorem none_a {a b : List Int} (h1 : ¬ (a.length : Int) > 0) : a.length = 0 ∨ b.length = 0 := by omega
theorem none_b {a b : List Int} (h1 : ¬ (b.length : Int) > 0) : a.length = 0 ∨ b.length = 0 := by omega
theorem fl_eq {n : Nat} {g : Nat → Int} {w : List Int} (hw : w.length = n) : fl n g = w ↔ ∀ j, j < n → 0 ≤ j → g j = L w j := by
  constructor
  · intro h j hj _
    rw [← h, L_fl n g j hj]
  · intro h
    refine list_ext (by rw [fl_length, hw]) (fun i hi => ?_)
    rw [fl_length] at hi
    rw [L_fl n g i hi]
    exact h i hi (Nat.zero_le _)
theorem cimpl_ev (f : Int) (a b c x y z : List Int) (ha : a.length ≤ 1048576) (hb : b.length ≤ 1048576) (hc : c.length ≤ 1048576) (hx : x.length ≤ 1048576) (hy : y.length ≤ 1048576) (hz : z.length ≤ 1048576) : Ev (fun k => impl_CheckCert.f k f a b c x y z) (decide (CC f a b c x y z)) := by
  have hpf := polyField_f f [a, b, c] (by simp) 1048577 (by
    intro l hl
    simp only [List.mem_cons, List.not_mem_nil, or_false] at hl
    rcases hl with rfl | rfl | rfl <;> omega) (by omega)
  by_cases q : md f ≠ 0 ∧ AllLok (md f) [a, b, c]
  · have pa : PolyOk f a := ⟨q.1, q.2 a (by simp)⟩
    have pb : PolyOk f b := ⟨q.1, q.2 b (by simp)⟩
    have pc : PolyOk f c := ⟨q.1, q.2 c (by simp)⟩
    have hm := md_pos q.1
    by_cases px : PointsOk f x
    · have hl := px.2.2.1
      obtain ⟨K1, h1⟩ := fevalMany_ev (md f) (gn f) (tw f) (by omega) hm.2 a x pa.2.2.1 px.2.2.2.1 pa.2.1 (by omega)
      obtain ⟨K2, h2⟩ := fevalMany_ev (md f) (gn f) (tw f) (by omega) hm.2 b x pb.2.2.1 px.2.2.2.1 pb.2.1 (by omega)
      obtain ⟨K3, h3⟩ := fevalMany_ev (md f) (gn f) (tw f) (by omega) hm.2 c x pc.2.2.1 px.2.2.2.1 pc.2.1 (by omega)
      have la := pa.2.1
      have lb := pb.2.1
      have lc := pc.2.1
      have hnd := need_le (a := a) (b := b) (c := c) (n := x.length)
      refine ⟨K1 + K2 + K3 + 1052700, fun k hk => ?_⟩
      obtain ⟨k, rfl⟩ : ∃ m, k = m + 4 := ⟨k - 4, by omega⟩
      have e1 := h1 (k + 1) (by omega)
      have e2 := h2 (k + 1) (by omega)
      have e3 := h3 k (by omega)
      simp only at e1 e2 e3
      have hw : wrap64 (wrap64 ((a.length : Int) + (b.length : Int)) - 1) = (a.length : Int) + (b.length : Int) - 1 := by
        rw [wrap_id (x := (a.length : Int) + (b.length : Int)) (by omega) (by omega), wrap_id (by omega) (by omega)]
      have key : impl_CheckCert.f (k + 4) f a b c x y z = impl_CheckCert.j2 (k + 2) a b c (need a b c : Int) x y z (md f) (gn f) (tw f) := by
        simp only [impl_CheckCert.f]
        rw [hpf (k + 4) (by simp; omega), if_pos q]
        simp only [bs, if_true]
        rw [pointField_f f x (by omega) (k + 4) (by omega), if_pos px]
        simp only [bs]
        simp only [impl_CheckCert.j0]
        rw [if_neg (by decide)]
        have hnc := need_mx a b c
        by_cases z1 : (a.length : Int) > 0
        · rw [if_pos z1]
          simp only [impl_CheckCert.j1]
          by_cases z2 : (b.length : Int) > 0
          · rw [if_pos (by simpa using z2), hw, hnc, if_neg (both_len z1 z2)]
          · rw [if_neg (by simpa using z2), hnc, if_pos (none_b z2)]
        · rw [if_neg z1]
          simp only [impl_CheckCert.j1]
          rw [if_neg (by decide), hnc, if_pos (none_a z1)]
      show impl_CheckCert.f (k + 4) f a b c x y z = _
      rw [key]
      simp only [impl_CheckCert.j2]
      by_cases n1 : (x.length : Int) < (need a b c : Int)
      · rw [if_pos n1]
        simp only [impl_CheckCert.j3, if_true]
        rw [decide_eq_false (fun h => by have := h.2.2.2.2.1; omega)]
      · rw [if_neg n1, e1]
        simp only [bs]
        rw [equal_f y _ (by omega) (k + 1) (by omega)]
        simp only [bs]
        by_cases m1 : y = evL (md f) a x
        · rw [if_pos (by simpa using m1), e2]
          simp only [bs]
          rw [equal_f z _ (by omega) (k + 1) (by omega)]
          simp only [bs]
          by_cases m2 : z = evL (md f) b x
          · rw [decide_eq_true m2]
            simp only [impl_CheckCert.j3]
            rw [if_neg (by decide), pointwise_f (md f) (gn f) (tw f) (by omega) hm.2 y z x.length hl (by rw [m1, evL_length]) (by rw [m2, evL_length]) (by rw [m1]; exact evL_el (by omega) _ _) (by rw [m2]; exact evL_el (by omega) _ _) k (by omega)]
            simp only [bs]
            rw [e3]
            simp only [bs]
            rw [equal_f _ _ (by rw [fl_length]; omega) k (by rw [fl_length]; omega)]
            simp only [bs]
            congr 1
            rw [decide_eq_decide]
            exact ⟨fun h => ⟨pa, pb, pc, px, by omega, m1.symm, m2.symm, h⟩, fun h => h.2.2.2.2.2.2.2⟩
          · rw [decide_eq_false m2]
            simp only [impl_CheckCert.j3]
            rw [if_pos (by decide), decide_eq_false (fun h => m2 h.2.2.2.2.2.2.1.symm)]
        · rw [if_neg (by simpa using m1)]
          simp only [impl_CheckCert.j3, if_true]
          rw [decide_eq_false (fun h => m1 h.2.2.2.2.2.1.symm)]
    · refine ⟨1052700, fun k hk => ?_⟩
      obtain ⟨k, rfl⟩ : ∃ m, k = m + 1 := ⟨k - 1, by omega⟩
      show impl_CheckCert.f (k + 1) f a b c x y z = _
      simp only [impl_CheckCert.f]
      rw [hpf (k + 1) (by simp; omega), if_pos q]
      simp only [bs, if_true]
      rw [pointField_f f x (by omega) (k + 1) (by omega), if_neg px]
      simp only [bs]
      simp only [impl_CheckCert.j0]
      rw [if_pos (by decide), decide_eq_false (fun h => px h.2.2.2.1)]
  · refine ⟨1052700, fun k hk => ?_⟩
    obtain ⟨k, rfl⟩ : ∃ m, k = m + 1 := ⟨k - 1, by omega⟩
    show impl_CheckCert.f (k + 1) f a b c x y z = _
    simp only [impl_CheckCert.f]
    rw [hpf (k + 1) (by simp; omega), if_neg q]
    simp only [bs]
    rw [pointField_f f x (by omega) (k + 1) (by omega)]
    simp only [bs]
    rw [if_neg (by decide)]
    simp only [impl_CheckCert.j0, if_true]
    rw [decide_eq_false]
    rintro ⟨⟨hp, qa⟩, ⟨_, qb⟩, ⟨_, qc⟩, _⟩
    apply q
    refine ⟨hp, fun l hl => ?_⟩
    simp only [List.mem_cons, List.not_mem_nil, or_false] at hl
    rcases hl with rfl | rfl | rfl
    · exact qa
    · exact qb
    · exact qc
theorem cp_f (l : List Int) (hn : l.length ≤ 2000000) (k : Nat) (hk : l.length < k) : laws_cp.f k l = some l := by
  unfold laws_cp.f
  have := append_loop (fun k s i => laws_cp.l0 k l s i) l id 0 [] (by
    intro k s _
    simp only [laws_cp.l0]
    rw [if_neg (by omega)]) (by
    intro k i s h _ hs
    simp only [List.length_nil] at hs
    simp only [laws_cp.l0]
    rw [if_pos (by omega), if_pos (by omega), if_pos (by omega), rd_at l i h, wrap_next h (by omega)]
    rfl) k (by omega)
  simpa using this
theorem lawSame_f (a b : List Int) (hn : a.length ≤ 2000000) (k : Nat) (hk : a.length < k) : laws_same.f k a b = some (decide (a = b)) := by
  unfold laws_same.f
  by_cases c : (a.length : Int) = (b.length : Int)
  · rw [if_pos c]
    have key : ∀ (d k i : Nat), i + d = a.length → d < k → laws_same.l0 k a b (i : Int) = some (decide (a.drop i = b.drop i)) := by
      intro d
      induction d with
      | zero =>
        intro k i hi hk
        obtain ⟨k, rfl⟩ : ∃ m, k = m + 1 := ⟨k - 1, by omega⟩
        simp only [laws_same.l0]
        rw [if_neg (by omega), List.drop_eq_nil_of_le (by omega), List.drop_eq_nil_of_le (by omega)]
        rfl
      | succ d ih =>
        intro k i hi hk
        obtain ⟨k, rfl⟩ : ∃ m, k = m + 1 := ⟨k - 1, by omega⟩
        simp only [laws_same.l0]
        rw [if_pos (by omega), if_pos (by omega), if_pos (by omega), rd_at a i (by omega), rd_at b i (by omega), drop_cons a i (by omega), drop_cons b i (by omega)]
        by_cases e : a[i] = b[i]
        · rw [if_pos e, wrap_next (show i < a.length by omega) (by omega), ih k (i + 1) (by omega) (by omega)]
          congr 1
          exact decide_eq_decide.mpr ⟨fun h => by rw [e, h], fun h => (List.cons.inj h).2⟩
        · rw [if_neg e, decide_eq_false (fun h => e (List.cons.inj h).1)]
    have := key a.length k 0 (by omega) hk
    simpa using this
  · rw [if_neg c, decide_eq_false (fun h => c (by rw [h]))]
/-- A polynomial's rest behind its first coefficients, by a place's powers. -/
def Hd (n : Nat) (D : Nat → Int) (z : Int) : Nat → Int
  | 0 => 0
  | d + 1 => D (n - d) + z * Hd n D z d
def Hj (n : Nat) (D : Nat → Int) (z : Int) (j : Nat) : Int := Hd n D z (n + 1 - j)
theorem Hj_step (n : Nat) (D : Nat → Int) (z : Int) (j : Nat) (h : j ≤ n) : Hj n D z j = D j + z * Hj n D z (j + 1) := by
  unfold Hj
  rw [show n + 1 - j = (n - j) + 1 by omega, Hd, show n - (n - j) = j by omega, show n + 1 - (j + 1) = n - j by omega]
theorem Hj_end (n : Nat) (D : Nat → Int) (z : Int) : Hj n D z (n + 1) = 0 := by
  unfold Hj
  rw [Nat.sub_self]
  rfl
theorem Hj_sum (n : Nat) (D : Nat → Int) (z x : Int) : ∀ j : Nat, j ≤ n + 1 → (x - z) * sumN j (fun k => Hj n D z (k + 1) * x ^ k) = Hj n D z j * x ^ j - Hj n D z 0 + sumN j (fun k => D k * x ^ k) := by
  intro j
  induction j with
  | zero => intro _; simp [sumN]
  | succ j ih =>
    intro h
    simp only [sumN]
    rw [Int.mul_add, ih (by omega), Int.pow_succ]
    have e := Hj_step n D z j (by omega)
    generalize Hj n D z (j + 1) = u at e ⊢
    rw [e]
    have a1 : (x - z) * (u * x ^ j) = u * (x ^ j * x) - z * u * x ^ j := by
      rw [Int.sub_mul, Int.mul_left_comm x u, Int.mul_comm x (x ^ j), Int.mul_assoc z u]
    have a2 : (D j + z * u) * x ^ j = D j * x ^ j + z * u * x ^ j := Int.add_mul _ _ _
    rw [a1, a2]
    omega
/-- A polynomial with as many zeros as it has coefficients is nought. -/
theorem roots_zero {f : Int} (hp : md f ≠ 0) : ∀ (n : Nat) (D r : Nat → Int), (∀ i j, i < j → j < n → (r i - r j) % md f ≠ 0) → (∀ i, i < n → sumN n (fun m => D m * r i ^ m) % md f = 0) → ∀ m, m < n → D m % md f = 0 := by
  intro n
  induction n with
  | zero => intro D r _ _ m hm; omega
  | succ n ih =>
    intro D r hd hz m hm
    have hsum := fun x => Hj_sum n D (r n) x (n + 1) (Nat.le_refl _)
    simp only [Hj_end, Int.zero_mul, Int.zero_sub] at hsum
    have h0 : Hj n D (r n) 0 % md f = 0 := by
      have := hsum (r n)
      rw [Int.sub_self, Int.zero_mul] at this
      have e : Hj n D (r n) 0 = sumN (n + 1) (fun k => D k * r n ^ k) := by omega
      rw [e]
      exact hz n (by omega)
    have hq : ∀ k, k < n → Hj n D (r n) (k + 1) % md f = 0 := by
      refine ih (fun k => Hj n D (r n) (k + 1)) r (fun i j h1 h2 => hd i j h1 (by omega)) (fun i hi => ?_)
      have e := hsum (r i)
      have hm0 : ((r i - r n) * sumN (n + 1) (fun k => Hj n D (r n) (k + 1) * r i ^ k)) % md f = 0 := by
        rw [e, Int.add_emod, hz i (by omega), Int.add_zero, Int.emod_emod_of_dvd _ (Int.dvd_refl _), Int.neg_emod_eq_sub_emod (b := md f), Int.sub_emod, h0]
        simp
      rcases no_zero hp hm0 with h | h
      · exact absurd h (hd i n hi (by omega))
      · simp only [sumN] at h
        rw [Hj_end, Int.zero_mul, Int.add_zero] at h
        exact h
    have e := Hj_step n D (r n) m (by omega)
    have h1 : Hj n D (r n) m % md f = 0 := by
      cases m with
      | zero => exact h0
      | succ m => exact hq m (by omega)
    have h2 : Hj n D (r n) (m + 1) % md f = 0 := by
      by_cases c : m = n
      · rw [c, Hj_end]; exact Int.zero_emod _
      · exact hq m (by omega)
    have e2 : D m = Hj n D (r n) m - r n * Hj n D (r n) (m + 1) := by omega
    rw [e2, Int.sub_emod, Int.mul_emod, h1, h2]
    simp
theorem sum_out (a : List Int) (x : Int) (n : Nat) (h : a.length ≤ n) : sumN n (fun m => L a m * x ^ m) = sumN a.length (fun m => L a m * x ^ m) := by
  obtain ⟨e, rfl⟩ : ∃ e, n = a.length + e := ⟨n - a.length, by omega⟩
  induction e with
  | zero => rfl
  | succ e ih =>
    rw [show a.length + (e + 1) = a.length + e + 1 by omega]
    simp only [sumN]
    rw [ih (by omega), L_out a (a.length + e) (by omega), Int.zero_mul, Int.add_zero]
theorem ev_out (p : Int) (a : List Int) (x : Int) (n : Nat) (h : a.length ≤ n) : evN p a x a.length = sumN n (fun m => L a m * x ^ m) % p := by
  rw [sum_out a x n h]
  rfl
/-- Polynomials that are alike at enough places are alike. -/
theorem poly_unique {f : Int} (hp : md f ≠ 0) {a b xs : List Int} (ha : Tr a) (hb : Tr b) (hEa : El (md f) a) (hEb : El (md f) b) (la : a.length ≤ xs.length) (lb : b.length ≤ xs.length)
    (hd : ∀ i j, i < j → j < xs.length → (L xs i - L xs j) % md f ≠ 0) (he : ∀ i, i < xs.length → evN (md f) a (L xs i) a.length = evN (md f) b (L xs i) b.length) : a = b := by
  have hq := md_pos hp
  have hz := roots_zero hp xs.length (fun m => L a m - L b m) (L xs) hd (fun i hi => by
    have e := he i hi
    rw [ev_out _ a _ xs.length la, ev_out _ b _ xs.length lb] at e
    have e2 : sumN xs.length (fun m => (L a m - L b m) * L xs i ^ m) = sumN xs.length (fun m => L a m * L xs i ^ m) - sumN xs.length (fun m => L b m * L xs i ^ m) := by
      rw [← sumN_sub]
      exact sumN_congr (fun m _ => Int.sub_mul _ _ _)
    rw [e2, Int.sub_emod, e, Int.sub_self, Int.zero_emod])
  refine Tr.ext ha hb (fun i => ?_)
  by_cases c : i < xs.length
  · exact el_eq (L_el (by omega) hEa i) (L_el (by omega) hEb i) (hz i c)
  · rw [L_out a i (by omega), L_out b i (by omega)]
theorem sum_shift (B : Nat → Int) (x : Int) (t : Nat) : ∀ M : Nat, t ≤ M → sumN M (fun m => (if t ≤ m then B (m - t) else 0) * x ^ m) = x ^ t * sumN (M - t) (fun s => B s * x ^ s) := by
  intro M
  induction M with
  | zero =>
    intro h
    obtain rfl : t = 0 := by omega
    simp [sumN]
  | succ M ih =>
    intro h
    simp only [sumN]
    by_cases c : t ≤ M
    · rw [ih c, if_pos c, show M + 1 - t = (M - t) + 1 by omega]
      simp only [sumN]
      rw [Int.mul_add, Int.mul_left_comm (x ^ t), ← Int.pow_add, show t + (M - t) = M by omega]
    · have e : t = M + 1 := by omega
      rw [if_neg c, Int.zero_mul, Int.add_zero, sumN_zero (fun i hi => by rw [if_neg (by omega), Int.zero_mul]), e, Nat.sub_self]
      simp [sumN]
theorem sum_swap (g : Nat → Nat → Int) (n : Nat) : ∀ M : Nat, sumN M (fun m => sumN n (fun t => g t m)) = sumN n (fun t => sumN M (fun m => g t m)) := by
  intro M
  induction M with
  | zero => simp only [sumN]; exact (sumN_zero (fun _ _ => rfl)).symm
  | succ M ih =>
    simp only [sumN]
    rw [ih, ← sumN_add]
theorem cv_full (a : List Int) (B : Nat → Int) (m : Nat) : cv (L a) B m = sumN a.length (fun t => L a t * (if t ≤ m then B (m - t) else 0)) := by
  unfold cv
  have e1 : sumN (m + 1) (fun t => L a t * B (m - t)) = sumN (m + 1) (fun t => L a t * (if t ≤ m then B (m - t) else 0)) := sumN_congr (fun t ht => by rw [if_pos (by omega)])
  rw [e1]
  by_cases c : a.length ≤ m + 1
  · have := sum_cut a (fun t => if t ≤ m then B (m - t) else 0) (m + 1 - a.length)
    rw [show a.length + (m + 1 - a.length) = m + 1 by omega] at this
    exact this
  · obtain ⟨e, he⟩ : ∃ e, a.length = m + 1 + e := ⟨a.length - (m + 1), by omega⟩
    rw [he]
    clear c he e1
    induction e with
    | zero => rfl
    | succ e ih =>
      rw [ih, show m + 1 + (e + 1) = m + 1 + e + 1 by omega]
      simp only [sumN]
      rw [if_neg (by omega), Int.mul_zero, Int.add_zero]
theorem sum_prod (a b : List Int) (x : Int) : sumN (a.length + b.length) (fun m => cv (L a) (L b) m * x ^ m) = sumN a.length (fun m => L a m * x ^ m) * sumN b.length (fun m => L b m * x ^ m) := by
  have e : sumN (a.length + b.length) (fun m => cv (L a) (L b) m * x ^ m) = sumN (a.length + b.length) (fun m => sumN a.length (fun t => L a t * ((if t ≤ m then L b (m - t) else 0) * x ^ m))) := by
    refine sumN_congr (fun m _ => ?_)
    rw [cv_full, Int.mul_comm, ← sumN_mul]
    exact sumN_congr (fun t _ => by rw [Int.mul_comm, Int.mul_assoc])
  rw [e, sum_swap (fun t m => L a t * ((if t ≤ m then L b (m - t) else 0) * x ^ m)) a.length]
  have e2 : sumN a.length (fun t => sumN (a.length + b.length) (fun m => L a t * ((if t ≤ m then L b (m - t) else 0) * x ^ m))) = sumN a.length (fun t => sumN b.length (fun m => L b m * x ^ m) * (L a t * x ^ t)) := by
    refine sumN_congr (fun t ht => ?_)
    rw [sumN_mul, sum_shift (L b) x t _ (by omega), sum_out b x (a.length + b.length - t) (by omega), ← Int.mul_assoc, Int.mul_comm]
  rw [e2, sumN_mul, Int.mul_comm]
/-- The value of a product. -/
theorem ev_mulP (p : Int) (a b : List Int) (x : Int) : evN p (mulP p a b) x (mulP p a b).length = evN p a x a.length * evN p b x b.length % p := by
  rw [ev_out p _ x (a.length + b.length) (mulP_le p a b)]
  have e : sumN (a.length + b.length) (fun m => L (mulP p a b) m * x ^ m) % p = sumN (a.length + b.length) (fun m => cv (L a) (L b) m * x ^ m) % p := by
    refine sumN_emod p (fun m _ => ?_)
    rw [L_mulP, Int.mul_emod, Int.emod_emod_of_dvd _ (Int.dvd_refl _), ← Int.mul_emod]
  rw [e, sum_prod]
  exact Int.mul_emod _ _ _
/-- What a draw from a reader of bytes answers: a value of which P holds, and the reader's place and state behind it. -/
def Dr {α : Type} (r : Option (α × Int × Int)) (P : α → Prop) : Prop := ∃ x i h, r = some (x, i, h) ∧ 0 ≤ i ∧ P x
theorem and255 (x : Int) : 0 ≤ Go.bits .and .i64 x 255 ∧ Go.bits .and .i64 x 255 ≤ 255 := by
  have h : (Go.bits .and .i64 x 255) = IntKind.i64.wrap (((BitVec.ofInt 64 x) &&& (BitVec.ofInt 64 255)).toNat : Int) := rfl
  have hb : ((BitVec.ofInt 64 x) &&& (BitVec.ofInt 64 255)).toNat ≤ 255 := by
    rw [BitVec.toNat_and]
    exact Nat.and_le_right
  rw [h]
  generalize ((BitVec.ofInt 64 x) &&& (BitVec.ofInt 64 255)).toNat = m at hb
  unfold IntKind.wrap
  have e : (m : Int) % 2 ^ IntKind.i64.bits = m := by
    show (m : Int) % 2 ^ 64 = m
    omega
  have e2 : ¬ ((m : Int) ≥ 2 ^ (IntKind.i64.bits - 1)) := by
    show ¬ ((m : Int) ≥ 2 ^ 63)
    omega
  simp only [e]
  simp [e2]
  omega
theorem byte_dr (b : List Int) (hb : b.length ≤ 140737488351232) (i h : Int) (hi : 0 ≤ i) : Dr (spec_l01Byte.f b i h) (fun x => 0 ≤ x ∧ x ≤ 255) := by
  unfold spec_l01Byte.f
  by_cases c : i < (b.length : Int)
  · rw [if_pos c, if_pos hi]
    exact ⟨_, _, _, rfl, by rw [wrap_id (by omega) (by omega)]; omega, and255 _⟩
  · rw [if_neg c]
    exact ⟨_, _, _, rfl, hi, and255 _⟩
theorem below_dr (b : List Int) (hb : b.length ≤ 140737488351232) (i h n : Int) (hi : 0 ≤ i) : Dr (spec_l01Below.f b i h n) (fun x => 0 ≤ x ∧ (n ≤ 0 → x = 0) ∧ (0 < n → x < n)) := by
  unfold spec_l01Below.f
  by_cases c : n ≤ 0
  · rw [if_pos c]
    exact ⟨_, _, _, rfl, hi, by omega⟩
  · rw [if_neg c]
    obtain ⟨x, i1, h1, e1, p1, q1⟩ := byte_dr b hb i h hi
    rw [e1]
    by_cases c1 : n ≤ 256
    · rw [if_pos c1]
      simp only [bs]
      rw [if_neg (by omega)]
      refine ⟨_, _, _, rfl, p1, ?_⟩
      rw [Int.tmod_eq_emod_of_nonneg (by omega)]
      have := Int.emod_nonneg x (show n ≠ 0 by omega)
      have := Int.emod_lt_of_pos x (show 0 < n by omega)
      omega
    · rw [if_neg c1]
      simp only [bs]
      obtain ⟨y, i2, h2, e2, p2, q2⟩ := byte_dr b hb i1 h1 p1
      rw [e2]
      simp only [bs]
      obtain ⟨z, i3, h3, e3, p3, q3⟩ := byte_dr b hb i2 h2 p2
      rw [e3]
      simp only [bs]
      rw [if_neg (by omega)]
      refine ⟨_, _, _, rfl, p3, ?_⟩
      rw [wrap_id (x := x * 65536) (by omega) (by omega), wrap_id (x := y * 256) (by omega) (by omega), wrap_id (x := x * 65536 + y * 256) (by omega) (by omega), wrap_id (x := x * 65536 + y * 256 + z) (by omega) (by omega),
        Int.tmod_eq_emod_of_nonneg (by omega)]
      have := Int.emod_nonneg (x * 65536 + y * 256 + z) (show n ≠ 0 by omega)
      have := Int.emod_lt_of_pos (x * 65536 + y * 256 + z) (show 0 < n by omega)
      omega
theorem new_ev (b : List Int) (hb : b.length ≤ 140737488351232) : ∃ h, Ev (fun k => spec_l01New.f k b) (b, 0, h) := by
  have key : ∀ (d i : Nat) (x3 : Int), i + d = b.length → ∃ h, ∀ k, d < k → spec_l01New.l0 k b x3 (i : Int) = some (b, 0, h) := by
    intro d
    induction d with
    | zero =>
      intro i x3 hi
      refine ⟨x3, fun k hk => ?_⟩
      obtain ⟨k, rfl⟩ : ∃ m, k = m + 1 := ⟨k - 1, by omega⟩
      simp only [spec_l01New.l0]
      rw [if_neg (by omega)]
    | succ d ih =>
      intro i x3 hi
      by_cases c : (i : Int) < 4000
      · obtain ⟨h, hh⟩ := ih (i + 1) (Go.bits .and .i64 (wrap64 ((wrap64 ((wrap64 (x3 * 149)) + (wrap64 (rd b (i : Int))))) + 11)) 1073741823) (by omega)
        refine ⟨h, fun k hk => ?_⟩
        obtain ⟨k, rfl⟩ : ∃ m, k = m + 1 := ⟨k - 1, by omega⟩
        simp only [spec_l01New.l0]
        rw [if_pos (by omega), if_pos c, if_pos (by omega), wrap_id (x := (i : Int) + 1) (by omega) (by omega), cast_succ]
        exact hh k (by omega)
      · refine ⟨x3, fun k hk => ?_⟩
        obtain ⟨k, rfl⟩ : ∃ m, k = m + 1 := ⟨k - 1, by omega⟩
        simp only [spec_l01New.l0]
        rw [if_pos (by omega), if_neg c]
  obtain ⟨h, hh⟩ := key b.length 0 (wrap64 (710710 + (b.length : Int))) (by omega)
  exact ⟨h, ev_of_lt b.length (fun k hk => hh k hk)⟩
theorem once_dr (b : List Int) (hb : b.length ≤ 140737488351232) (i h n : Int) (hi : 0 ≤ i) : Dr (spec_l01Once.f b i h n) (fun _ => True) := by
  obtain ⟨x, i1, h1, e, p, _⟩ := below_dr b hb i h n hi
  unfold spec_l01Once.f
  rw [e]
  exact ⟨_, _, _, rfl, p, trivial⟩
theorem pick_dr (b : List Int) (hb : b.length ≤ 140737488351232) (i h : Int) (l : List Int) (hl : 0 < l.length) (hi : 0 ≤ i) : Dr (spec_l01PickInt.f b i h l) (fun x => x ∈ l) := by
  obtain ⟨x, i1, h1, e, p, q⟩ := below_dr b hb i h (l.length : Int) hi
  have q2 := q.2.2 (by omega)
  unfold spec_l01PickInt.f
  rw [e]
  simp only [bs]
  rw [if_pos q.1, if_pos q2]
  exact ⟨_, _, _, rfl, p, rd_mem l x q.1 q2⟩
theorem field_dr (b : List Int) (hb : b.length ≤ 140737488351232) (i h : Int) (hi : 0 ≤ i) : Dr (spec_l01DrawField.f b i h) (fun _ => True) := by
  obtain ⟨x, i1, h1, e, p, _⟩ := once_dr b hb i h 20 hi
  unfold spec_l01DrawField.f
  rw [e]
  simp only [bs]
  by_cases c : x = true
  · rw [if_pos c]
    obtain ⟨y, i2, h2, e2, p2, _⟩ := pick_dr b hb i1 h1 ([(-1), 9, 100] : List Int) (by decide) p
    rw [e2]
    exact ⟨_, _, _, rfl, p2, trivial⟩
  · rw [if_neg c]
    obtain ⟨y, i2, h2, e2, p2, _⟩ := below_dr b hb i1 h1 9 p
    rw [e2]
    exact ⟨_, _, _, rfl, p2, trivial⟩
theorem elem_dr (b : List Int) (hb : b.length ≤ 140737488351232) (i h f : Int) (hi : 0 ≤ i) : Dr (spec_l01DrawElement.f b i h f) (fun _ => True) := by
  unfold spec_l01DrawElement.f
  simp only [modulus_f, bs]
  by_cases c : md f = 0
  · rw [if_pos c]
    obtain ⟨y, i2, h2, e2, p2, _⟩ := below_dr b hb i h 50 hi
    rw [e2]
    exact ⟨_, _, _, rfl, p2, trivial⟩
  · rw [if_neg c]
    obtain ⟨x, i1, h1, e, p, _⟩ := below_dr b hb i h 6 hi
    rw [e]
    simp only [bs]
    by_cases c0 : x = 0
    · rw [if_pos c0]
      obtain ⟨y, i2, h2, e2, p2, _⟩ := below_dr b hb i1 h1 3 p
      rw [e2]
      exact ⟨_, _, _, rfl, p2, trivial⟩
    · rw [if_neg c0]
      by_cases c1 : x = 1
      · rw [if_pos c1]
        obtain ⟨y, i2, h2, e2, p2, _⟩ := below_dr b hb i1 h1 3 p
        rw [e2]
        exact ⟨_, _, _, rfl, p2, trivial⟩
      · rw [if_neg c1]
        by_cases c2 : x = 2
        · rw [if_pos c2]
          obtain ⟨y, i2, h2, e2, p2, _⟩ := below_dr b hb i1 h1 16777216 p
          rw [e2]
          simp only [bs]
          obtain ⟨z, i3, h3, e3, p3, _⟩ := below_dr b hb i2 h2 256 p2
          rw [e3]
          exact ⟨_, _, _, rfl, p3, trivial⟩
        · rw [if_neg c2]
          obtain ⟨y, i2, h2, e2, p2, _⟩ := below_dr b hb i1 h1 30 p
          rw [e2]
          exact ⟨_, _, _, rfl, p2, trivial⟩
theorem list_dr (b : List Int) (hb : b.length ≤ 140737488351232) (f : Int) (n : Nat) (hn : n ≤ 1000) : ∀ (d j : Nat) (acc : List Int) (i h : Int), j + d = n → acc.length = j → 0 ≤ i →
    ∃ l i' h', l.length = n ∧ 0 ≤ i' ∧ ∀ k, d < k → spec_l01DrawList.l0 k f (n : Int) acc (j : Int) b i h = some (l, i', h') := by
  intro d
  induction d with
  | zero =>
    intro j acc i h hj ha hi
    refine ⟨acc, i, h, by omega, hi, fun k hk => ?_⟩
    obtain ⟨k, rfl⟩ : ∃ m, k = m + 1 := ⟨k - 1, by omega⟩
    simp only [spec_l01DrawList.l0]
    rw [if_neg (by omega)]
  | succ d ih =>
    intro j acc i h hj ha hi
    obtain ⟨x, i1, h1, e, p, _⟩ := elem_dr b hb i h f hi
    obtain ⟨l, i', h', e1, e2, e3⟩ := ih (j + 1) (acc ++ [x]) i1 h1 (by omega) (by simp [ha]) p
    refine ⟨l, i', h', e1, e2, fun k hk => ?_⟩
    obtain ⟨k, rfl⟩ : ∃ m, k = m + 1 := ⟨k - 1, by omega⟩
    simp only [spec_l01DrawList.l0]
    rw [if_pos (by omega), e]
    simp only [bs]
    rw [if_pos (by omega), wrap_next (show j < n by omega) (by omega)]
    exact e3 k (by omega)
theorem bend_dr (b : List Int) (hb : b.length ≤ 140737488351232) (f n : Int) (l : List Int) (hl : l.length ≤ 1000) (i h : Int) (hi : 0 ≤ i) : ∃ o i' h', o.length ≤ l.length + 1 ∧ 0 ≤ i' ∧ ∀ k, 1001 ≤ k → spec_l17Bend.f k b i h f l n = some (o, i', h') := by
  obtain ⟨o, i2, h2, e2, p2, _⟩ := once_dr b hb i h n hi
  obtain ⟨y, i3, h3, e3, p3, _⟩ := below_dr b hb i2 h2 3 p2
  have start : ∀ k, 1001 ≤ k → spec_l01Copy.f k l = some l := fun k hk => copy_f l (by omega) k (by omega)
  by_cases c : o = true
  · by_cases c0 : y = 0
    · refine ⟨l ++ [1], i3, h3, by simp, p3, fun k hk => ?_⟩
      unfold spec_l17Bend.f
      rw [start k hk]
      simp only [bs]
      rw [e2]
      simp only [bs]
      rw [if_pos c, e3]
      simp only [bs]
      rw [if_pos c0, if_pos (by omega)]
    · by_cases c1 : y = 1
      · by_cases z : (l.length : Int) > 0
        · refine ⟨l.take (wrap64 ((l.length : Int) - 1)).toNat, i3, h3, by rw [List.length_take]; omega, p3, fun k hk => ?_⟩
          have hw : wrap64 ((l.length : Int) - 1) = (l.length : Int) - 1 := wrap_id (by omega) (by omega)
          unfold spec_l17Bend.f
          rw [start k hk]
          simp only [bs]
          rw [e2]
          simp only [bs]
          rw [if_pos c, e3]
          simp only [bs]
          rw [if_neg c0, if_pos c1, if_pos z, if_pos (by omega), if_pos (by omega)]
        · refine ⟨l, i3, h3, by omega, p3, fun k hk => ?_⟩
          unfold spec_l17Bend.f
          rw [start k hk]
          simp only [bs]
          rw [e2]
          simp only [bs]
          rw [if_pos c, e3]
          simp only [bs]
          rw [if_neg c0, if_pos c1, if_neg z]
      · by_cases c2 : y = 2
        · by_cases z : (l.length : Int) > 0
          · obtain ⟨u, i4, h4, e4, p4, q4⟩ := below_dr b hb i3 h3 (l.length : Int) p3
            obtain ⟨w, i5, h5, e5, p5, _⟩ := elem_dr b hb i4 h4 f p4
            refine ⟨l.set u.toNat w, i5, h5, by rw [List.length_set]; omega, p5, fun k hk => ?_⟩
            unfold spec_l17Bend.f
            rw [start k hk]
            simp only [bs]
            rw [e2]
            simp only [bs]
            rw [if_pos c, e3]
            simp only [bs]
            rw [if_neg c0, if_neg c1, if_pos c2, if_pos z, e4]
            simp only [bs]
            rw [e5]
            simp only [bs]
            rw [if_pos q4.1, if_pos (q4.2.2 (by omega))]
          · refine ⟨l, i3, h3, by omega, p3, fun k hk => ?_⟩
            unfold spec_l17Bend.f
            rw [start k hk]
            simp only [bs]
            rw [e2]
            simp only [bs]
            rw [if_pos c, e3]
            simp only [bs]
            rw [if_neg c0, if_neg c1, if_pos c2, if_neg z]
        · refine ⟨l, i3, h3, by omega, p3, fun k hk => ?_⟩
          unfold spec_l17Bend.f
          rw [start k hk]
          simp only [bs]
          rw [e2]
          simp only [bs]
          rw [if_pos c, e3]
          simp only [bs]
          rw [if_neg c0, if_neg c1, if_neg c2]
  · refine ⟨l, i2, h2, by omega, p2, fun k hk => ?_⟩
    unfold spec_l17Bend.f
    rw [start k hk]
    simp only [bs]
    rw [e2]
    simp only [bs]
    rw [if_neg c]
theorem polyj_dr (b : List Int) (hb : b.length ≤ 140737488351232) (f : Int) (x7 : List Int) (hx : x7.length ≤ 40) (i h : Int) (hi : 0 ≤ i) : ∃ l i' h', l.length ≤ 40 ∧ 0 ≤ i' ∧ ∀ k, 2 ≤ k → spec_l03DrawPoly.j0 k f x7 b i h = some (l, i', h') := by
  obtain ⟨o, i2, h2, e2, p2, _⟩ := once_dr b hb i h 25 hi
  have none_ : (o = true → ¬ (x7.length : Int) > 0) → ∃ l i' h', l.length ≤ 40 ∧ 0 ≤ i' ∧ ∀ k, 2 ≤ k → spec_l03DrawPoly.j0 k f x7 b i h = some (l, i', h') := by
    intro g
    refine ⟨x7, i2, h2, hx, p2, fun k hk => ?_⟩
    obtain ⟨k, rfl⟩ : ∃ m, k = m + 2 := ⟨k - 2, by omega⟩
    simp only [spec_l03DrawPoly.j0]
    rw [e2]
    simp only [bs]
    by_cases c : o = true
    · rw [if_pos c, decide_eq_false (g c)]
      simp only [spec_l03DrawPoly.j1]
      rw [if_neg (by decide)]
    · rw [if_neg c]
      simp only [spec_l03DrawPoly.j1]
      rw [if_neg (by decide)]
  by_cases c : o = true
  · by_cases d : (x7.length : Int) > 0
    · obtain ⟨t, i3, h3, e3, p3, _⟩ := pick_dr b hb i2 h2 ([0, (-1), md f] : List Int) (by simp) p2
      have hw : wrap64 ((x7.length : Int) - 1) = (x7.length : Int) - 1 := wrap_id (by omega) (by omega)
      refine ⟨x7.set ((x7.length : Int) - 1).toNat t, i3, h3, by rw [List.length_set]; exact hx, p3, fun k hk => ?_⟩
      obtain ⟨k, rfl⟩ : ∃ m, k = m + 2 := ⟨k - 2, by omega⟩
      simp only [spec_l03DrawPoly.j0]
      rw [e2]
      simp only [bs]
      rw [if_pos c, decide_eq_true d]
      simp only [spec_l03DrawPoly.j1, if_true]
      simp only [modulus_f, bs]
      rw [e3]
      simp only [bs]
      rw [hw, if_pos (by omega), if_pos (by omega)]
    · exact none_ (fun _ => d)
  · exact none_ (fun g => absurd g c)
theorem dlist_dr (b : List Int) (hb : b.length ≤ 140737488351232) (f : Int) (n : Nat) (hn : n ≤ 1000) (i h : Int) (hi : 0 ≤ i) : ∃ l i' h', l.length = n ∧ 0 ≤ i' ∧ ∀ k, n < k → spec_l01DrawList.f k b i h f (n : Int) = some (l, i', h') := by
  obtain ⟨l, i', h', e1, e2, e3⟩ := list_dr b hb f n hn n 0 [] i h (by omega) rfl hi
  exact ⟨l, i', h', e1, e2, fun k hk => e3 k hk⟩
theorem poly_dr (b : List Int) (hb : b.length ≤ 140737488351232) (f : Int) (n : Nat) (hn : n ≤ 40) (i h : Int) (hi : 0 ≤ i) : ∃ l i' h', l.length ≤ 40 ∧ 0 ≤ i' ∧ ∀ k, 1000 ≤ k → spec_l03DrawPoly.f k b i h f (n : Int) = some (l, i', h') := by
  obtain ⟨l, i1, h1, e1, p1, a1⟩ := dlist_dr b hb f n (by omega) i h hi
  by_cases c : md f > 0
  · have ht := tr_le l
    obtain ⟨l', i', h', e2, p2, a2⟩ := polyj_dr b hb f (tr l) (by omega) i1 h1 p1
    refine ⟨l', i', h', e2, p2, fun k hk => ?_⟩
    unfold spec_l03DrawPoly.f
    rw [a1 k (by omega)]
    simp only [modulus_f, bs]
    rw [if_pos c, cut_f l (by omega) k (by omega)]
    simp only [bs]
    exact a2 k (by omega)
  · obtain ⟨l', i', h', e2, p2, a2⟩ := polyj_dr b hb f l (by omega) i1 h1 p1
    refine ⟨l', i', h', e2, p2, fun k hk => ?_⟩
    unfold spec_l03DrawPoly.f
    rw [a1 k (by omega)]
    simp only [modulus_f, bs]
    rw [if_neg c]
    exact a2 k (by omega)
theorem below_nat (b : List Int) (hb : b.length ≤ 140737488351232) (i h n : Int) (hi : 0 ≤ i) (hn : n ≤ 40) : ∃ (x : Nat) (i' h' : Int), x ≤ 40 ∧ 0 ≤ i' ∧ spec_l01Below.f b i h n = some ((x : Int), i', h') := by
  obtain ⟨x, i1, h1, e1, p1, q1⟩ := below_dr b hb i h n hi
  refine ⟨x.toNat, i1, h1, ?_, p1, by rw [e1, Int.toNat_of_nonneg q1.1]⟩
  by_cases c : n ≤ 0
  · have := q1.2.1 c; omega
  · have := q1.2.2 (by omega); omega
theorem twoj_ev (b : List Int) (hb : b.length ≤ 140737488351232) (f : Int) (x y : List Int) (hx : x.length ≤ 40) (hy : y.length ≤ 40) (o : Bool) (ho : o = true → PolyOk f x ∧ PolyOk f y) (i h : Int) (hi : 0 ≤ i) : ∃ x' y', x'.length ≤ 80 ∧ y'.length ≤ 80 ∧ Ev (fun k => spec_l03DrawTwo.j0 k f x y o b i h) (f, x', y') := by
  by_cases c : o = true
  · obtain ⟨n, i1, h1, q1, p1, e1⟩ := below_nat b hb i h 8 hi (by omega)
    obtain ⟨s, i2, h2, q2, p2, e2⟩ := poly_dr b hb f n q1 i1 h1 p1
    by_cases d : PolyOk f s
    · obtain ⟨gx, gy⟩ := ho c
      obtain ⟨K1, hK1⟩ := l03Mul_ev f x s d.1 gx.2.2.1 d.2.2.1 (by omega) (by omega)
      obtain ⟨K2, hK2⟩ := l03Mul_ev f y s d.1 gy.2.2.1 d.2.2.1 (by omega) (by omega)
      have m1 := mulP_le (md f) x s
      have m2 := mulP_le (md f) y s
      refine ⟨mulP (md f) x s, mulP (md f) y s, by omega, by omega, K1 + K2 + 2000, fun k hk => ?_⟩
      obtain ⟨k, rfl⟩ : ∃ m, k = m + 1 := ⟨k - 1, by omega⟩
      have r1 := hK1 k (by omega)
      have r2 := hK2 k (by omega)
      simp only at r1 r2
      simp only [spec_l03DrawTwo.j0]
      rw [if_pos c, e1]
      simp only [bs]
      rw [e2 k (by omega)]
      simp only [bs]
      rw [polyOk_f f s (by omega) k (by omega), decide_eq_true d]
      simp only [bs, if_true]
      rw [r1]
      simp only [bs]
      rw [r2]
      simp only [bs]
    · refine ⟨x, y, by omega, by omega, 2000, fun k hk => ?_⟩
      obtain ⟨k, rfl⟩ : ∃ m, k = m + 1 := ⟨k - 1, by omega⟩
      simp only [spec_l03DrawTwo.j0]
      rw [if_pos c, e1]
      simp only [bs]
      rw [e2 k (by omega)]
      simp only [bs]
      rw [polyOk_f f s (by omega) k (by omega), decide_eq_false d]
      simp only [bs]
      rw [if_neg (by decide)]
  · refine ⟨x, y, by omega, by omega, 1, fun k hk => ?_⟩
    obtain ⟨k, rfl⟩ : ∃ m, k = m + 1 := ⟨k - 1, by omega⟩
    simp only [spec_l03DrawTwo.j0]
    rw [if_neg c]
theorem size_f (b : List Int) (hb : b.length ≤ 140737488351232) (n : Int) (hn : n ≤ 40) : ∃ s : Int, s ≤ 40 ∧ spec_l01Size.f b n = some s := by
  unfold spec_l01Size.f
  by_cases c : wrap64 (2 + wrap64 ((b.length : Int) / 16)) > n
  · rw [if_pos c]; exact ⟨n, hn, rfl⟩
  · rw [if_neg c]; exact ⟨_, by omega, rfl⟩
theorem two_ev (b : List Int) (hb : b.length ≤ 140737488351232) (n : Int) (hn : n ≤ 40) : ∃ f x y, x.length ≤ 80 ∧ y.length ≤ 80 ∧ Ev (fun k => spec_l03DrawTwo.f k b n) (f, x, y) := by
  obtain ⟨h0, K0, hK0⟩ := new_ev b hb
  obtain ⟨f, i1, h1, e1, p1, _⟩ := field_dr b hb 0 h0 (by omega)
  obtain ⟨s, hs, es⟩ := size_f b hb n hn
  obtain ⟨n2, i2, h2, q2, p2, e2⟩ := below_nat b hb i1 h1 s p1 hs
  obtain ⟨x, i3, h3, q3, p3, e3⟩ := poly_dr b hb f n2 q2 i2 h2 p2
  obtain ⟨n4, i4, h4, q4, p4, e4⟩ := below_nat b hb i3 h3 s p3 hs
  obtain ⟨y, i5, h5, q5, p5, e5⟩ := poly_dr b hb f n4 q4 i4 h4 p4
  obtain ⟨o, i6, h6, e6, p6, _⟩ := once_dr b hb i5 h5 4 p5
  obtain ⟨x', y', a1, a2, K1, hK1⟩ := twoj_ev b hb f x y q3 q5 (o && decide (PolyOk f x) && decide (PolyOk f y)) (fun g => by
    simp only [Bool.and_eq_true, decide_eq_true_eq] at g
    exact ⟨g.1.2, g.2⟩) i6 h6 p6
  refine ⟨f, x', y', a1, a2, K0 + K1 + 2000, fun k hk => ?_⟩
  have r0 := hK0 k (by omega)
  have r1 := hK1 k (by omega)
  simp only at r0 r1
  show spec_l03DrawTwo.f k b n = _
  unfold spec_l03DrawTwo.f
  rw [r0]
  simp only [bs]
  rw [e1]
  simp only [bs]
  rw [es]
  simp only [bs]
  rw [e2]
  simp only [bs]
  rw [e3 k (by omega)]
  simp only [bs]
  rw [e4]
  simp only [bs]
  rw [e5 k (by omega)]
  simp only [bs]
  rw [e6]
  simp only [bs]
  by_cases c : o = true
  · rw [c] at r1
    rw [if_pos c, polyOk_f f x (by omega) k (by omega)]
    simp only [bs]
    by_cases d : PolyOk f x
    · rw [decide_eq_true d] at r1 ⊢
      rw [if_pos rfl, polyOk_f f y (by omega) k (by omega)]
      simp only [bs]
      exact r1
    · rw [decide_eq_false d] at r1 ⊢
      rw [if_neg (by decide)]
      exact r1
  · rw [if_neg c]
    have c' : o = false := by simpa using c
    rw [c'] at r1
    exact r1
theorem many_any (f : Int) (a xs : List Int) (ha : a.length ≤ 1048576) (hx : xs.length ≤ 1048576) : ∃ r, Ev (fun k => spec_EvalMany.f k f a xs) r := by
  have no : ∀ k s, spec_EvalMany.j0 (k + 1) f a xs s true = some [] := by
    intro k s
    simp only [spec_EvalMany.j0, if_true]
  by_cases p : PolyOk f a
  · by_cases q : (xs.length : Int) > 40
    · refine ⟨[], 1048700, fun k hk => ?_⟩
      obtain ⟨k, rfl⟩ : ∃ m, k = m + 1 := ⟨k - 1, by omega⟩
      simp only [spec_EvalMany.f]
      simp only [polyOk_f f a (by omega) (k + 1) (by omega), bs, decide_eq_true p, if_true]
      rw [if_pos q, no]
    · by_cases e : El (md f) xs
      · exact ⟨_, evalMany_ev f a xs p e (by omega)⟩
      · refine ⟨[], 1048700, fun k hk => ?_⟩
        obtain ⟨k, rfl⟩ : ∃ m, k = m + 1 := ⟨k - 1, by omega⟩
        simp only [spec_EvalMany.f]
        simp only [polyOk_f f a (by omega) (k + 1) (by omega), bs, decide_eq_true p, if_true]
        rw [if_neg q, elements_f f xs (by omega) (k + 1) (by omega), decide_eq_false (fun g => e g.2)]
        simp only [bs, Bool.not_false]
        rw [no]
  · refine ⟨[], 1048700, fun k hk => ?_⟩
    obtain ⟨k, rfl⟩ : ∃ m, k = m + 1 := ⟨k - 1, by omega⟩
    simp only [spec_EvalMany.f]
    simp only [polyOk_f f a (by omega) (k + 1) (by omega), bs, decide_eq_false p]
    rw [if_neg (by decide), no]
theorem dm_ev (b : List Int) (hb : b.length ≤ 140737488351232) : ∃ f x y, x.length ≤ 80 ∧ y.length ≤ 80 ∧ Ev (fun k => spec_DrawMakeCert.f k b) (f, x, y) := by
  obtain ⟨f, x, y, hx, hy, K1, hK1⟩ := two_ev b hb 30 (by omega)
  obtain ⟨h0, K0, hK0⟩ := new_ev b hb
  obtain ⟨o, i1, h1, e1, p1, _⟩ := once_dr b hb 0 h0 8 (by omega)
  obtain ⟨u, i2, h2, q2, p2, e2⟩ := dlist_dr b hb 0 9 (by omega) i1 h1 p1
  obtain ⟨n, i3, h3, q3, p3, e3⟩ := below_nat b hb i2 h2 2 p2 (by omega)
  obtain ⟨v, i4, h4, q4, p4, e4⟩ := dlist_dr b hb 0 (9 + n) (by omega) i3 h3 p3
  have t1 := tr_le u
  have t2 := tr_le v
  by_cases c : o = true
  · refine ⟨0, tr u, tr v, by omega, by omega, K0 + K1 + 2000, fun k hk => ?_⟩
    have r1 := hK1 k (by omega)
    have r0 := hK0 k (by omega)
    have r2 := e2 k (by omega)
    have r4 := e4 k (by omega)
    simp only at r0 r1
    show spec_DrawMakeCert.f k b = _
    unfold spec_DrawMakeCert.f
    rw [r1]
    simp only [bs]
    rw [r0]
    simp only [bs]
    rw [e1]
    simp only [bs]
    rw [if_pos c, show (9 : Int) = ((9 : Nat) : Int) from rfl, r2]
    simp only [bs]
    rw [cut_f u (by omega) k (by omega)]
    simp only [bs]
    rw [e3]
    simp only [bs]
    rw [wrap_id (x := ((9 : Nat) : Int) + (n : Int)) (by omega) (by omega), show ((9 : Nat) : Int) + (n : Int) = ((9 + n : Nat) : Int) by omega, r4]
    simp only [bs]
    rw [cut_f v (by omega) k (by omega)]
    simp only [bs]
  · refine ⟨f, x, y, hx, hy, K0 + K1 + 2000, fun k hk => ?_⟩
    have r1 := hK1 k (by omega)
    have r0 := hK0 k (by omega)
    simp only at r0 r1
    show spec_DrawMakeCert.f k b = _
    unfold spec_DrawMakeCert.f
    rw [r1]
    simp only [bs]
    rw [r0]
    simp only [bs]
    rw [e1]
    simp only [bs]
    rw [if_neg c]
theorem dc_ev (code : List Int) (hb : code.length ≤ 140737488351232) : ∃ f a b c x y z, a.length ≤ 80 ∧ b.length ≤ 80 ∧ c.length ≤ 400 ∧ Ev (fun k => spec_DrawCheckCert.f k code) (f, a, b, c, x, y, z) := by
  obtain ⟨f, a, b, ha, hb2, K1, hK1⟩ := dm_ev code hb
  obtain ⟨h0, K0, hK0⟩ := new_ev code hb
  obtain ⟨K2, hK2⟩ := mspec_ev f a b (by omega) (by omega)
  obtain ⟨l1, l2, l3⟩ := mc_len f a b
  generalize mc f a b = r at hK2 l1 l2 l3
  obtain ⟨x, y, z, ok⟩ := r
  simp only at l1 l2 l3
  obtain ⟨K3, hK3⟩ := specMulPoly_ev f a b (by omega) (by omega)
  have lm : (if SM f a b then (mulP (md f) a b, true) else ([], false)).1.length ≤ 160 := by
    split
    · have := mulP_le (md f) a b
      show (mulP (md f) a b).length ≤ 160
      omega
    · exact Nat.zero_le _
  generalize (if SM f a b then (mulP (md f) a b, true) else ([], false)) = r at hK3 lm
  obtain ⟨m, fine⟩ := r
  simp only at lm
  obtain ⟨x1, i1, h1, q1, p1, e1⟩ := bend_dr code hb f 12 x (by omega) 0 h0 (by omega)
  obtain ⟨y1, i2, h2, q2, p2, e2⟩ := bend_dr code hb f 12 y (by omega) i1 h1 p1
  obtain ⟨z1, i3, h3, q3, p3, e3⟩ := bend_dr code hb f 12 z (by omega) i2 h2 p2
  obtain ⟨o, i4, h4, e4, p4, _⟩ := once_dr code hb i3 h3 6 p3
  by_cases c : o = true
  · obtain ⟨w, i5, h5, e5, p5, _⟩ := elem_dr code hb i4 h4 f p4
    obtain ⟨y2, K4, hK4⟩ := many_any f a (x1 ++ [w]) (by omega) (by simp; omega)
    obtain ⟨z2, K5, hK5⟩ := many_any f b (x1 ++ [w]) (by omega) (by simp; omega)
    obtain ⟨m1, i6, h6, q6, p6, e6⟩ := bend_dr code hb f 6 m (by omega) i5 h5 p5
    refine ⟨f, a, b, m1, x1 ++ [w], y2, z2, ha, hb2, by omega, K0 + K1 + K2 + K3 + K4 + K5 + 2000, fun k hk => ?_⟩
    have r0 := hK0 k (by omega)
    have r1 := hK1 k (by omega)
    have r2 := hK2 k (by omega)
    have r3 := hK3 k (by omega)
    have r4 := hK4 k (by omega)
    have r5 := hK5 k (by omega)
    simp only at r0 r1 r2 r3 r4 r5
    show spec_DrawCheckCert.f k code = _
    unfold spec_DrawCheckCert.f
    rw [r1]
    simp only [bs]
    rw [r0]
    simp only [bs]
    rw [r2]
    simp only [bs]
    rw [r3]
    simp only [bs]
    rw [e1 k (by omega)]
    simp only [bs]
    rw [e2 k (by omega)]
    simp only [bs]
    rw [e3 k (by omega)]
    simp only [bs]
    rw [e4]
    simp only [bs]
    rw [if_pos c, e5]
    simp only [bs]
    rw [if_pos (by omega), r4]
    simp only [bs]
    rw [r5]
    simp only [bs]
    rw [e6 k (by omega)]
    simp only [bs]
  · obtain ⟨m1, i6, h6, q6, p6, e6⟩ := bend_dr code hb f 6 m (by omega) i4 h4 p4
    refine ⟨f, a, b, m1, x1, y1, z1, ha, hb2, by omega, K0 + K1 + K2 + K3 + 2000, fun k hk => ?_⟩
    have r0 := hK0 k (by omega)
    have r1 := hK1 k (by omega)
    have r2 := hK2 k (by omega)
    have r3 := hK3 k (by omega)
    simp only at r0 r1 r2 r3
    show spec_DrawCheckCert.f k code = _
    unfold spec_DrawCheckCert.f
    rw [r1]
    simp only [bs]
    rw [r0]
    simp only [bs]
    rw [r2]
    simp only [bs]
    rw [r3]
    simp only [bs]
    rw [e1 k (by omega)]
    simp only [bs]
    rw [e2 k (by omega)]
    simp only [bs]
    rw [e3 k (by omega)]
    simp only [bs]
    rw [e4]
    simp only [bs]
    rw [if_neg c, e6 k (by omega)]
    simp only [bs]
theorem disB_of (l : List Int) (h : ∀ i j, i < j → j < l.length → L l i ≠ L l j) : ∀ d i, i + d = l.length → disB l d i = true := by
  intro d
  induction d with
  | zero => intro i _; rfl
  | succ d ih =>
    intro i hi
    rw [disB, ih (i + 1) (by omega), Bool.and_true]
    have : ¬ L l i ∈ l.take i := by
      intro g
      obtain ⟨j, hj, e⟩ := List.mem_iff_getElem.1 g
      rw [List.length_take] at hj
      rw [List.getElem_take, ← L_at l j (by omega)] at e
      exact h j i (by omega) (by omega) e
    simp [this]
theorem pl_points {f : Int} {n : Nat} (hp : md f ≠ 0) (h1 : 1 ≤ n) (h40 : n ≤ 40) (hn : (n : Int) ≤ md f) : PointsOk f (pl n) := by
  refine ⟨hp, by rw [pl_length]; exact h1, by rw [pl_length]; exact h40, pl_el hn, ?_⟩
  refine disB_of (pl n) (fun i j hij hj => ?_) _ 0 (by omega)
  rw [pl_length] at hj
  unfold pl
  rw [L_fl _ _ i (by omega), L_fl _ _ j hj]
  omega
theorem pl_dis {f : Int} {n : Nat} (hp : md f ≠ 0) (hn : (n : Int) ≤ md f) (i j : Nat) (hij : i < j) (hj : j < (pl n).length) : (L (pl n) i - L (pl n) j) % md f ≠ 0 := by
  have hq := md_pos hp
  rw [pl_length] at hj
  intro e
  have := el_eq (L_el (by omega) (pl_el hn) i) (L_el (by omega) (pl_el hn) j) e
  unfold pl at this
  rw [L_fl _ _ i (by omega), L_fl _ _ j hj] at this
  omega
theorem evL_at (p : Int) (a xs : List Int) (i : Nat) (h : i < xs.length) : L (evL p a xs) i = evN p a (L xs i) a.length := by
  rw [L_at _ i (by rw [evL_length]; exact h), L_at xs i h]
  unfold evL
  rw [List.getElem_map]
/-- What the certificate says of a polynomial: that it is the product. -/
theorem cc_same {f : Int} {a b c : List Int} (h : MC f a b) (hc : PolyOk f c) : CC f a b c (pl (np a b)) (evL (md f) a (pl (np a b))) (evL (md f) b (pl (np a b))) ↔ c = mulP (md f) a b := by
  obtain ⟨pa, pb, h40, hn⟩ := h
  have hp := pa.1
  have hq := md_pos hp
  have h1 : 1 ≤ np a b := by unfold np; split <;> omega
  have hm : (mulP (md f) a b).length ≤ np a b := by
    unfold np
    by_cases z : a.length = 0 ∨ b.length = 0
    · have e : mulP (md f) a b = [] := by unfold mulP; rw [if_pos z]
      rw [e]; exact Nat.zero_le _
    · rw [if_neg z, mulP_len hp pa.2.2.1 pb.2.2.1 pa.tr pb.tr (by omega) (by omega)]
      exact Nat.le_refl _
  have hneed : ∀ d : List Int, need a b d ≤ np a b ↔ d.length ≤ np a b := by
    intro d
    unfold need np
    by_cases z : a.length = 0 ∨ b.length = 0
    · rw [if_pos z, if_pos z]; omega
    · rw [if_neg z, if_neg z]; omega
  have hval : ∀ d : List Int, fl (pl (np a b)).length (fun i => L (evL (md f) a (pl (np a b))) i * L (evL (md f) b (pl (np a b))) i % md f) = evL (md f) d (pl (np a b)) ↔ ∀ i, i < (pl (np a b)).length → evN (md f) (mulP (md f) a b) (L (pl (np a b)) i) (mulP (md f) a b).length = evN (md f) d (L (pl (np a b)) i) d.length := by
    intro d
    constructor
    · intro e i hi
      rw [ev_mulP, ← evL_at _ a _ i hi, ← evL_at _ b _ i hi, ← evL_at _ d _ i hi, ← e, L_fl _ _ i hi]
    · intro e
      refine list_ext (by rw [fl_length, evL_length]) (fun i hi => ?_)
      rw [fl_length] at hi
      rw [L_fl _ _ i hi, evL_at _ a _ i hi, evL_at _ b _ i hi, evL_at _ d _ i hi, ← e i hi, ev_mulP]
  constructor
  · rintro ⟨_, _, _, _, g1, _, _, g2⟩
    rw [pl_length] at g1
    have g3 := (hneed c).1 g1
    exact (poly_unique hp (mulP_Tr _ _ _) hc.tr (mulP_el (by omega) _ _) hc.2.2.1 (xs := pl (np a b)) (by rw [pl_length]; exact hm) (by rw [pl_length]; exact g3) (pl_dis hp hn) ((hval c).1 g2)).symm
  · intro e
    refine ⟨pa, pb, hc, pl_points hp h1 h40 hn, ?_, rfl, rfl, ?_⟩
    · rw [pl_length]
      refine (hneed c).2 ?_
      rw [e]; exact hm
    · refine (hval c).2 (fun i hi => ?_)
      rw [e]
theorem mul_ok {f : Int} {a b : List Int} (h : MC f a b) : PolyOk f (mulP (md f) a b) := by
  obtain ⟨pa, pb, h40, hn⟩ := h
  have hp := pa.1
  have hq := md_pos hp
  have hm : (mulP (md f) a b).length ≤ 400 := by
    unfold np at h40
    by_cases z : a.length = 0 ∨ b.length = 0
    · have e : mulP (md f) a b = [] := by unfold mulP; rw [if_pos z]
      rw [e]; exact Nat.zero_le _
    · rw [if_neg z] at h40
      rw [mulP_len hp pa.2.2.1 pb.2.2.1 pa.tr pb.tr (by omega) (by omega)]
      omega
  exact polyOk_of hp hm (mulP_el (by omega) _ _) (mulP_Tr _ _ _)
theorem FnCertTrue : laws_FnCertTrue.Pure := by
  intro code hl _ _
  have hb : code.length ≤ 140737488351232 := by unfold maxLen at hl; omega
  obtain ⟨f, a, b, c, x, y, z, la, lb, lc, K1, hK1⟩ := dc_ev code hb
  obtain ⟨K2, hK2⟩ := mspec_ev f a b (by omega) (by omega)
  obtain ⟨K3, hK3⟩ := mimpl_ev f a b (by omega) (by omega)
  by_cases big : (code.length : Int) > 1048576
  · refine ⟨0, ?_⟩
    unfold laws_FnCertTrue.f laws_big.f
    rw [decide_eq_true big]
    simp only [bs, if_true]
  have start : ∀ k, K1 + K2 + 2000 ≤ k → laws_FnCertTrue.f k code = if (mc f a b).2.2.2 = true then laws_FnCertTrue.j0 k f a b c (!(decide (PolyOk f c))) (mc f a b).1 (mc f a b).2.1 (mc f a b).2.2.1 else laws_FnCertTrue.j0 k f a b c true (mc f a b).1 (mc f a b).2.1 (mc f a b).2.2.1 := by
    intro k hk
    have r1 := hK1 k (by omega)
    have r2 := hK2 k (by omega)
    simp only at r1 r2
    unfold laws_FnCertTrue.f laws_big.f
    rw [decide_eq_false big]
    simp only [bs]
    rw [if_neg (by decide), r1]
    simp only [bs]
    rw [r2]
    simp only [bs]
    rw [polyOk_f f c (by omega) k (by omega)]
    simp only [bs]
  have out : ∀ k u v w, laws_FnCertTrue.j0 (k + 1) f a b c true u v w = some true := by
    intro k u v w
    simp only [laws_FnCertTrue.j0, if_true]
  by_cases h : MC f a b
  · by_cases hc : PolyOk f c
    · have hmok := mul_ok h
      have hlm := hmok.2.1
      obtain ⟨x', hx'⟩ : ∃ x', x' = pl (np a b) := ⟨_, rfl⟩
      obtain ⟨y', hy'⟩ : ∃ y', y' = evL (md f) a (pl (np a b)) := ⟨_, rfl⟩
      obtain ⟨z', hz'⟩ : ∃ z', z' = evL (md f) b (pl (np a b)) := ⟨_, rfl⟩
      obtain ⟨m, hm⟩ : ∃ m, m = mulP (md f) a b := ⟨_, rfl⟩
      have hmc : mc f a b = (x', y', z', true) := by unfold mc; rw [if_pos h, hx', hy', hz']
      have lx : x'.length ≤ 40 := by rw [hx', pl_length]; exact h.2.2.1
      have ly : y'.length ≤ 40 := by rw [hy', evL_length, pl_length]; exact h.2.2.1
      have lz : z'.length ≤ 40 := by rw [hz', evL_length, pl_length]; exact h.2.2.1
      have lm : m.length ≤ 400 := by rw [hm]; exact hlm
      have sm : SM f a b := ⟨h.1, h.2.1, fun g => by
        have := h.2.2.1
        unfold np at this
        rw [if_neg (by omega)] at this
        omega⟩
      obtain ⟨K4, hK4⟩ := specMulPoly_ev f a b (by omega) (by omega)
      rw [if_pos sm, ← hm] at hK4
      obtain ⟨K5, hK5⟩ := cimpl_ev f a b m x' y' z' (by omega) (by omega) (by omega) (by omega) (by omega) (by omega)
      obtain ⟨K6, hK6⟩ := cimpl_ev f a b c x' y' z' (by omega) (by omega) (by omega) (by omega) (by omega) (by omega)
      have d1 : CC f a b m x' y' z' := by rw [hx', hy', hz']; exact (cc_same h (hm ▸ hmok)).2 hm
      have d2 : CC f a b c x' y' z' ↔ c = m := by rw [hx', hy', hz', hm]; exact cc_same h hc
      rw [decide_eq_true d1] at hK5
      have d3 : decide (CC f a b c x' y' z') = decide (c = m) := decide_eq_decide.2 d2
      rw [d3] at hK6
      rw [hmc] at hK3
      refine ⟨K1 + K2 + K3 + K4 + K5 + K6 + 2002, ?_⟩
      obtain ⟨k, hk⟩ : ∃ k, k = K1 + K2 + K3 + K4 + K5 + K6 + 2000 := ⟨_, rfl⟩
      rw [show K1 + K2 + K3 + K4 + K5 + K6 + 2002 = k + 2 by omega, start (k + 2) (by omega), hmc]
      simp only [if_true]
      rw [decide_eq_true hc]
      have s3 := hK3 (k + 1) (by omega)
      have s4 := hK4 (k + 1) (by omega)
      have s5 := hK5 (k + 1) (by omega)
      have s6 := hK6 k (by omega)
      simp only at s3 s4 s5 s6
      simp only [laws_FnCertTrue.j0]
      rw [if_neg (by decide), cp_f a (by omega) (k + 1) (by omega)]
      simp only [bs]
      rw [cp_f b (by omega) (k + 1) (by omega)]
      simp only [bs]
      rw [s3]
      simp only [bs]
      rw [s4]
      simp only [bs, if_true]
      rw [lawSame_f x' x' (by omega) (k + 1) (by omega), decide_eq_true rfl]
      simp only [bs, if_true]
      rw [cp_f m (by omega) (k + 1) (by omega)]
      simp only [bs]
      rw [s5]
      simp only [bs]
      simp only [laws_FnCertTrue.j1]
      rw [if_neg (by decide), cp_f a (by omega) k (by omega)]
      simp only [bs]
      rw [cp_f b (by omega) k (by omega)]
      simp only [bs]
      rw [cp_f c (by omega) k (by omega)]
      simp only [bs]
      rw [s6]
      simp only [bs]
      rw [lawSame_f c m (by omega) k (by omega)]
      simp only [bs, beq_self_eq_true]
    · refine ⟨K1 + K2 + 2001, ?_⟩
      rw [start _ (by omega), decide_eq_false hc]
      split
      · exact out _ _ _ _
      · exact out _ _ _ _
  · refine ⟨K1 + K2 + 2001, ?_⟩
    have hmc : mc f a b = ([], [], [], false) := by unfold mc; rw [if_neg h]
    rw [start _ (by omega), hmc]
    simp only []
    rw [if_neg (by decide)]
    exact out _ _ _ _

end Go.Proofs.Ytabicblkdgpogaa.Pure
