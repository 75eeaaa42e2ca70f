/- MakeCert of the program and of the reference answer alike for all arguments: the places, and the values of both polynomials there. -/
import Derived.Test.YtabicblkdgpogaaQFnExactMakeCertx9
import Derived.Test.YtabicblkdgpogaaVFnExactMakeCertl
namespace Go.Proofs.Ytabicblkdgpogaa.Pure
open Go.RowKit Go.Proofs.Ytabicblkdgpogaa.QFnExactMakeCert Go.Proofs.YtabicblkdgpogaaW.PrintWords Go.Proofs.YtabicblkdgpogaaW.PrintLast Go.Proofs.YtabicblkdgpogaaW.PrintMore Go.Proofs.Ytabicblkdgpogaa.Lib
set_option linter.unusedVariables false

theorem toIntS_loop (x0 : List Int) (hn : x0.length ≤ 140737488351232) : ∀ (d k i : Nat) (x3 : List Int), i + d = x0.length → x3.length = x0.length → d < k →
    laws_toIntS.l0 k x0 x3 (i : Int) = some (x3.take i ++ x0.drop i) := by
  intro d
  induction d with
  | zero =>
    intro k i x3 hi h3 hk
    obtain ⟨k, rfl⟩ : ∃ m, k = m + 1 := ⟨k - 1, by omega⟩
    simp only [laws_toIntS.l0]
    rw [if_neg (by omega), List.drop_eq_nil_of_le (by omega), List.take_of_length_le (by omega), List.append_nil]
  | succ d ih =>
    intro k i x3 hi h3 hk
    obtain ⟨k, rfl⟩ : ∃ m, k = m + 1 := ⟨k - 1, by omega⟩
    have hlt : i < x0.length := by omega
    simp only [laws_toIntS.l0]
    rw [if_pos (by omega), if_pos (by omega), if_pos (by omega), rd_at x0 i hlt, wrap_id (x := (i : Int) + 1) (by omega) (by omega), cast_succ,
      ih k (i + 1) _ (by omega) (by simpa using h3) (by omega), drop_cons x0 i hlt]
    simp only [Int.toNat_natCast]
    rw [set_take _ _ _ (by omega), List.append_assoc]
    rfl
theorem toIntS_f (l : List Int) (hn : l.length ≤ 35184372088832) (k : Nat) (hk : l.length < k) : laws_toIntS.f k l = some l := by
  unfold laws_toIntS.f
  rw [if_pos (by omega), if_pos (by omega)]
  have := toIntS_loop l (by omega) l.length k 0 (List.replicate ((l.length : Int) : Int).toNat 0) (by omega) (by simp) hk
  simpa using this
theorem eqIntS_loop (x0 : List Int) (hn : x0.length ≤ 140737488351232) : ∀ (d k i : Nat), i + d = x0.length → d < k → laws_eqIntS.l0 k x0 x0 (i : Int) = some true := by
  intro d
  induction d with
  | zero =>
    intro k i hi hk
    obtain ⟨k, rfl⟩ : ∃ m, k = m + 1 := ⟨k - 1, by omega⟩
    simp only [laws_eqIntS.l0]
    rw [if_neg (by omega)]
  | succ d ih =>
    intro k i hi hk
    obtain ⟨k, rfl⟩ : ∃ m, k = m + 1 := ⟨k - 1, by omega⟩
    simp only [laws_eqIntS.l0, if_true]
    rw [if_pos (by omega), if_pos (by omega), if_pos (by omega), wrap_id (x := (i : Int) + 1) (by omega) (by omega), cast_succ]
    exact ih k (i + 1) (by omega) (by omega)
theorem eqIntS_self (l : List Int) (hn : l.length ≤ 35184372088832) (k : Nat) (hk : l.length < k) : laws_eqIntS.f k l l = some true := by
  unfold laws_eqIntS.f
  rw [if_pos rfl]
  exact eqIntS_loop l (by omega) l.length k 0 (by omega) hk
/-- So many whole numbers, counted from one on. -/
def markI (a : Int) : Nat → List Int
  | 0 => []
  | n + 1 => a :: markI (a + 1) n
theorem markI_length (n : Nat) : ∀ a, (markI a n).length = n := by
  induction n with
  | zero => intro a; rfl
  | succ n ih => intro a; simp [markI, ih]
theorem markI_loop (n : Nat) (hn : n ≤ 2000000) : ∀ (d k i : Nat) (x0 : List Int) (x1 : Int), i + d = n → x0.length = n → d < k → 0 ≤ x1 → x1 ≤ 8000000 + i →
    laws_markIntS.l0 k x0 x1 (i : Int) = some (x1 + d, x0.take i ++ markI x1 d) := by
  intro d
  induction d with
  | zero =>
    intro k i x0 x1 hi hl hk h0 h1
    obtain ⟨k, rfl⟩ : ∃ m, k = m + 1 := ⟨k - 1, by omega⟩
    simp only [laws_markIntS.l0]
    rw [if_neg (by omega), List.take_of_length_le (by omega)]
    simp [markI]
  | succ d ih =>
    intro k i x0 x1 hi hl hk h0 h1
    obtain ⟨k, rfl⟩ : ∃ m, k = m + 1 := ⟨k - 1, by omega⟩
    simp only [laws_markIntS.l0]
    rw [if_pos (by omega), if_pos (by omega), wrap_next (show i < n by omega) (by omega), wrap_id (x := x1 + 1) (by omega) (by omega), ih k (i + 1) _ _ (by omega) (by simpa using hl) (by omega) (by omega) (by omega)]
    simp only [Int.toNat_natCast]
    rw [set_take _ _ _ (by omega), List.append_assoc]
    simp only [markI, List.singleton_append]
    rw [show x1 + 1 + (d : Int) = x1 + ((d + 1 : Nat) : Int) by omega]
theorem markI_f (l : List Int) (a : Int) (hn : l.length ≤ 2000000) (h0 : 0 ≤ a) (h1 : a ≤ 8000000) (k : Nat) (hk : l.length < k) : laws_markIntS.f k l a = some (a + l.length, markI a l.length) := by
  unfold laws_markIntS.f
  have := markI_loop l.length hn l.length k 0 l a (by omega) rfl hk h0 (by omega)
  simpa using this
theorem heldI_loop (x0 : List Int) (hn : x0.length ≤ 2000000) : ∀ (d k i : Nat) (x1 : Int), i + d = x0.length → x0.drop i = markI x1 d → d < k → 0 ≤ x1 → x1 ≤ 8000000 + i →
    laws_heldIntS.l0 k x0 x1 (i : Int) = some (x1 + d) := by
  intro d
  induction d with
  | zero =>
    intro k i x1 hi hl hk h0 h1
    obtain ⟨k, rfl⟩ : ∃ m, k = m + 1 := ⟨k - 1, by omega⟩
    simp only [laws_heldIntS.l0]
    rw [if_neg (by omega)]
    simp
  | succ d ih =>
    intro k i x1 hi hl hk h0 h1
    obtain ⟨k, rfl⟩ : ∃ m, k = m + 1 := ⟨k - 1, by omega⟩
    rw [drop_cons x0 i (by omega)] at hl
    simp only [markI, List.cons.injEq] at hl
    simp only [laws_heldIntS.l0]
    rw [if_pos (by omega), if_pos (by omega), rd_at x0 i (by omega), if_pos hl.1, wrap_next (show i < x0.length by omega) (by omega), wrap_id (x := x1 + 1) (by omega) (by omega), ih k (i + 1) _ (by omega) hl.2 (by omega) (by omega) (by omega),
      show x1 + 1 + (d : Int) = x1 + ((d + 1 : Nat) : Int) by omega]
theorem heldI_f (a : Int) (n : Nat) (hn : n ≤ 2000000) (h0 : 0 ≤ a) (h1 : a ≤ 8000000) (k : Nat) (hk : n < k) : laws_heldIntS.f k (markI a n) a = some (a + n) := by
  unfold laws_heldIntS.f
  have := heldI_loop (markI a n) (by rw [markI_length]; exact hn) n k 0 a (by rw [markI_length]; omega) rfl hk h0 (by omega)
  simpa using this
theorem modulus_f (f : Int) : spec_Modulus.f f = some (md f) := by
  unfold spec_Modulus.f md
  simp only [apply_ite some]
theorem reduce_f (f x : Int) (hp : md f ≠ 0) : spec_Reduce.f f x = some (x % md f) := by
  have h := md_pos hp
  have hr := reduce_int x (md f) (by omega)
  have hx := emod_range x (show 0 < md f by omega)
  unfold spec_Reduce.f
  rw [modulus_f]
  simp only [bs]
  rw [if_neg hp]
  by_cases c : Int.tmod x (md f) < 0
  · rw [if_pos c] at hr ⊢
    rw [hr, wrap_id (by omega) (by omega)]
  · rw [if_neg c] at hr ⊢
    rw [hr]
theorem mul_f (f x y : Int) (hp : md f ≠ 0) : spec_Mul.f f x y = some ((x * y) % md f) := by
  have h := md_pos hp
  have hx := emod_range x (show 0 < md f by omega)
  have hy := emod_range y (show 0 < md f by omega)
  have hm := prod_range h.2 hx hy
  unfold spec_Mul.f
  simp only [modulus_f, bs]
  rw [if_neg hp]
  simp only [reduce_f f _ hp, bs]
  rw [wrap_id (by omega) (by omega), ← Int.mul_emod]
theorem add_f (f x y : Int) (hp : md f ≠ 0) : spec_Add.f f x y = some ((x + y) % md f) := by
  have h := md_pos hp
  have hx := emod_range x (show 0 < md f by omega)
  have hy := emod_range y (show 0 < md f by omega)
  unfold spec_Add.f
  simp only [modulus_f, bs]
  rw [if_neg hp]
  simp only [reduce_f f _ hp, bs]
  rw [wrap_id (by omega) (by omega), ← Int.add_emod]
theorem in_f (x a b : Int) : spec_l01In.f x a b = some (decide (a ≤ x ∧ x ≤ b)) := by
  unfold spec_l01In.f
  by_cases c : a ≤ x
  · rw [if_pos c]; simp [c]
  · rw [if_neg c]; simp [c]
theorem elements_f (f : Int) (l : List Int) (hn : l.length ≤ 2000000) (k : Nat) (hk : l.length < k) : spec_l03Elements.f k f l = some (decide (md f ≠ 0 ∧ El (md f) l)) := by
  unfold spec_l03Elements.f
  simp only [modulus_f, bs]
  by_cases hp : md f = 0
  · rw [if_pos hp, decide_eq_false (fun h => h.1 hp)]
  · rw [if_neg hp]
    have hq := md_pos hp
    have key := loop_list (fun k (_ : Unit) i => spec_l03Elements.l0 k l (md f) i) l 0 (fun _ _ => True) (fun r _ => decide (El (md f) r)) (by
      intro k s _ _
      simp only [spec_l03Elements.l0]
      rw [if_neg (by omega), decide_eq_true (El.nil _)]) (by
      intro k i s h _ _
      simp only [spec_l03Elements.l0]
      rw [if_pos (by omega), if_pos (by omega), rd_at l i h, wrap_id (x := md f - 1) (by omega) (by omega), in_f]
      simp only [bs]
      by_cases c : 0 ≤ l[i] ∧ l[i] ≤ md f - 1
      · left
        refine ⟨(), ?_, trivial, ?_⟩
        · rw [if_pos (by simpa using c), wrap_next h (by omega)]
        · apply decide_eq_decide.mpr
          constructor
          · intro hh x hx
            exact hh x (List.mem_cons_of_mem _ hx)
          · intro hh x hx
            rcases List.mem_cons.1 hx with rfl | hx
            · omega
            · exact hh x hx
      · right
        rw [if_neg (by simpa using c)]
        rw [decide_eq_false]
        intro hh
        have := hh l[i] List.mem_cons_self
        omega) k () (by omega) trivial
    rw [key]
    congr 1
    exact decide_eq_decide.mpr ⟨fun h => ⟨hp, h⟩, fun h => h.2⟩
theorem fieldOf_f (f : Int) : impl_fieldOf.f f = some (md f, gn f, tw f, decide (md f ≠ 0)) := by
  by_cases c : 0 ≤ f ∧ f ≤ 8
  · rcases nine c.1 c.2 with rfl | rfl | rfl | rfl | rfl | rfl | rfl | rfl | rfl <;> rfl
  · obtain ⟨h1, h2, h3⟩ := md_out c
    unfold impl_fieldOf.f
    rw [h1, h2, h3]
    by_cases c0 : f < 0
    · rw [if_pos c0]; rfl
    · rw [if_neg c0, if_pos (by omega)]; rfl
theorem areElements_f (p g t : Int) (l : List Int) (hn : l.length ≤ 2000000) (k : Nat) (hk : l.length < k) : impl_field_areElements.f k p g t l = some (decide (El p l)) := by
  unfold impl_field_areElements.f
  exact loop_list (fun k (_ : Unit) i => impl_field_areElements.l0 k l (l.length : Int) i p g t) l 0 (fun _ _ => True) (fun r _ => decide (El p r)) (by
    intro k s _ _
    simp only [impl_field_areElements.l0]
    rw [if_neg (by omega), decide_eq_true (El.nil _)]) (by
    intro k i s h _ _
    simp only [impl_field_areElements.l0]
    rw [if_pos (by omega), if_pos (by omega), if_pos (by omega), rd_at l i h]
    by_cases c : l[i] < 0
    · right
      rw [if_pos c, decide_eq_false]
      intro hh
      have := hh l[i] List.mem_cons_self
      omega
    · by_cases c1 : l[i] ≥ p
      · right
        rw [if_neg c, if_pos c1, decide_eq_false]
        intro hh
        have := hh l[i] List.mem_cons_self
        omega
      · left
        refine ⟨(), ?_, trivial, ?_⟩
        · rw [if_neg c, if_neg c1, wrap_next h (by omega)]
        · apply decide_eq_decide.mpr
          constructor
          · intro hh x hx
            exact hh x (List.mem_cons_of_mem _ hx)
          · intro hh x hx
            rcases List.mem_cons.1 hx with rfl | hx
            · omega
            · exact hh x hx) k () (by omega) trivial
theorem power_loop (p : Int) (h2 : 2 ≤ p) (hp : p ≤ 1004535809) : ∀ (m n : Nat), n ≤ m → n ≤ 4611686018427387904 → ∀ (x out : Int), 0 ≤ x ∧ x < p → 0 ≤ out ∧ out < p → Ev (fun k => spec_Power.l0 k p x (n : Int) out) (out * x ^ n % p) := by
  intro m
  induction m with
  | zero =>
    intro n hn _ x out hx ho
    obtain rfl : n = 0 := by omega
    refine Ev.step (f := fun _ => some (out * x ^ 0 % p)) (fun k => ?_) (Ev.now _)
    simp only [spec_Power.l0]
    rw [if_neg (by omega), Int.pow_zero, Int.mul_one, Int.emod_eq_of_lt ho.1 ho.2]
  | succ m ih =>
    intro n hn hmax x out hx ho
    by_cases c : n = 0
    · exact ih n (by omega) hmax x out hx ho
    · have hxx := prod_range hp hx hx
      have hox := prod_range hp ho hx
      have r1 := emod_range (x * x) (show 0 < p by omega)
      have r2 := emod_range (out * x) (show 0 < p by omega)
      have hdiv : wrap64 (Int.tdiv (n : Int) 2) = ((n / 2 : Nat) : Int) := by
        rw [Int.tdiv_eq_ediv_of_nonneg (by omega), wrap_id (by omega) (by omega)]
        rfl
      have hpw := pow_half p x out n
      by_cases o : n % 2 = 1
      · rw [if_pos o] at hpw
        rw [← hpw]
        refine Ev.step (f := fun k => spec_Power.l0 k p (x * x % p) ((n / 2 : Nat) : Int) (out * x % p)) (fun k => ?_) (ih (n / 2) (by omega) (by omega) _ _ r1 r2)
        simp only [spec_Power.l0]
        rw [if_pos (by omega), if_pos (by rw [tmod_nonneg' _ (by omega)]; omega), if_neg (by omega), hdiv, wrap_id (x := x * x) (by omega) (by omega), wrap_id (x := out * x) (by omega) (by omega), tmod_nonneg' _ hxx.1, tmod_nonneg' _ hox.1]
      · rw [if_neg o] at hpw
        rw [← hpw]
        refine Ev.step (f := fun k => spec_Power.l0 k p (x * x % p) ((n / 2 : Nat) : Int) out) (fun k => ?_) (ih (n / 2) (by omega) (by omega) _ _ r1 ho)
        simp only [spec_Power.l0]
        rw [if_pos (by omega), if_neg (by rw [tmod_nonneg' _ (by omega)]; omega), if_neg (by omega), hdiv, wrap_id (x := x * x) (by omega) (by omega), tmod_nonneg' _ hxx.1]
theorem power_ev (f a e : Int) (hp : md f ≠ 0) (he0 : -4611686018427387904 ≤ e) (he1 : e ≤ 4611686018427387904) : Ev (fun k => spec_Power.f k f a e) (powS f a e) := by
  have hq := md_pos hp
  have hr := emod_range a (show 0 < md f by omega)
  have hn := emod_range e (show 0 < md f - 1 by omega)
  have hre := reduce_int e (md f - 1) (by omega)
  unfold powS
  by_cases z : a % md f = 0
  · rw [if_pos z]
    refine ⟨0, fun k _ => ?_⟩
    simp only [spec_Power.f, modulus_f, bs]
    rw [if_neg hp, reduce_f f a hp]
    simp only [bs]
    rw [if_pos z]
    by_cases e0 : e = 0
    · rw [if_pos e0, if_pos e0]
    · rw [if_neg e0, if_neg e0]
      by_cases e1 : e < 0
      · rw [if_pos e1, if_pos e1]
      · rw [if_neg e1, if_neg e1]
  · rw [if_neg z]
    have hl := power_loop (md f) (by omega) hq.2 (e % (md f - 1)).toNat (e % (md f - 1)).toNat (Nat.le_refl _) (by omega) (a % md f) 1 hr ⟨by omega, by omega⟩
    rw [Int.one_mul, Int.toNat_of_nonneg hn.1] at hl
    obtain ⟨K, hK⟩ := hl
    refine ⟨K + 1, fun k hk => ?_⟩
    obtain ⟨k, rfl⟩ : ∃ m, k = m + 1 := ⟨k - 1, by omega⟩
    simp only [spec_Power.f, modulus_f, bs]
    rw [if_neg hp, reduce_f f a hp]
    simp only [bs]
    rw [if_neg z, wrap_id (x := md f - 1) (by omega) (by omega), if_neg (by omega)]
    by_cases c : Int.tmod e (md f - 1) < 0
    · rw [if_pos c] at hre ⊢
      have : -(md f - 1) < Int.tmod e (md f - 1) := by
        have := Int.lt_tmod_of_pos e (show 0 < md f - 1 by omega)
        omega
      rw [wrap_id (x := Int.tmod e (md f - 1) + md f) (by omega) (by omega), wrap_id (by omega) (by omega), show Int.tmod e (md f - 1) + md f - 1 = e % (md f - 1) by omega]
      simp only [spec_Power.j0]
      exact hK k (by omega)
    · rw [if_neg c] at hre ⊢
      rw [hre]
      simp only [spec_Power.j0]
      exact hK k (by omega)
theorem copy_f (l : List Int) (hn : l.length ≤ 2000000) (k : Nat) (hk : l.length < k) : spec_l01Copy.f k l = some l := by
  unfold spec_l01Copy.f
  have := append_loop (fun k s i => spec_l01Copy.l0 k l s i) l id 0 [] (by
    intro k s _
    simp only [spec_l01Copy.l0]
    rw [if_neg (by omega)]) (by
    intro k i s h _ hs
    simp only [List.length_nil] at hs
    simp only [spec_l01Copy.l0]
    rw [if_pos (by omega), if_pos (by omega), if_pos (by omega), rd_at l i h, wrap_next h (by omega)]
    rfl) k (by omega)
  simpa using this
theorem cut_f (l : List Int) (hn : l.length ≤ 2000000) (k : Nat) (hk : 2 * l.length + 1 < k) : spec_l03Cut.f k l = some (tr l) := by
  have key : ∀ (n k : Nat), n ≤ l.length → n + l.length + 1 < k → spec_l03Cut.l0 k l (n : Int) = some (l.take (tn l n)) := by
    intro n
    induction n with
    | zero =>
      intro k h hk
      obtain ⟨k, rfl⟩ : ∃ m, k = m + 1 := ⟨k - 1, by omega⟩
      simp only [spec_l03Cut.l0]
      rw [if_neg (by omega), if_pos (by omega), if_pos (by omega), copy_f _ (by simp) _ (by simp; omega)]
      simp only [bs]
      rfl
    | succ n ih =>
      intro k h hk
      obtain ⟨k, rfl⟩ : ∃ m, k = m + 1 := ⟨k - 1, by omega⟩
      have hw : wrap64 (((n + 1 : Nat) : Int) - 1) = (n : Int) := by rw [wrap_id (by omega) (by omega)]; omega
      simp only [spec_l03Cut.l0]
      rw [if_pos (by omega), hw, if_pos (by omega), if_pos (by omega), rd_L]
      by_cases c : L l n = 0
      · rw [if_pos c, ih k (by omega) (by omega)]
        simp only [tn]
        rw [if_pos c]
      · rw [if_neg c, if_pos (by omega), if_pos (by omega), copy_f _ (by simp; omega) _ (by simp; omega)]
        simp only [bs, tn]
        rw [if_neg c, Int.toNat_natCast]
  unfold spec_l03Cut.f tr
  exact key l.length k (by omega) (by omega)
/-- A polynomial over the field. -/
def PolyOk (f : Int) (l : List Int) : Prop := md f ≠ 0 ∧ l.length ≤ 400 ∧ El (md f) l ∧ (l.length ≠ 0 → L l (l.length - 1) ≠ 0)
instance (f : Int) (l : List Int) : Decidable (PolyOk f l) := by unfold PolyOk; exact inferInstance
theorem PolyOk.tr {f : Int} {l : List Int} (h : PolyOk f l) : Tr l := by
  intro j hj
  have := h.2.2.2 (by omega)
  rwa [hj] at this
theorem polyOk_of {f : Int} {l : List Int} (hp : md f ≠ 0) (hl : l.length ≤ 400) (hE : El (md f) l) (ht : Tr l) : PolyOk f l :=
  ⟨hp, hl, hE, fun h => ht (l.length - 1) (by omega)⟩
theorem polyOk_f (f : Int) (l : List Int) (hn : l.length ≤ 2000000) (k : Nat) (hk : l.length < k) : spec_PolyOk.f k f l = some (decide (PolyOk f l)) := by
  unfold spec_PolyOk.f
  by_cases c : (l.length : Int) > 400
  · rw [if_pos c, decide_eq_false (fun h => by have := h.2.1; omega)]
  · rw [if_neg c, elements_f f l hn k hk]
    simp only [bs]
    by_cases d : md f ≠ 0 ∧ El (md f) l
    · rw [if_pos (by simpa using d)]
      by_cases z : (l.length : Int) = 0
      · rw [if_pos z, decide_eq_true ⟨d.1, by omega, d.2, fun h => by omega⟩]
      · have hw : wrap64 ((l.length : Int) - 1) = ((l.length - 1 : Nat) : Int) := by rw [wrap_id (by omega) (by omega)]; omega
        rw [if_neg z, hw, if_pos (by omega), if_pos (by omega), rd_L]
        congr 1
        rw [Bool.eq_iff_iff, bne_iff_ne, decide_eq_true_eq]
        exact ⟨fun h => ⟨d.1, by omega, d.2, fun _ => h⟩, fun h => h.2.2.2 (by omega)⟩
    · rw [if_neg (by simpa using d), decide_eq_false (fun h => d ⟨h.1, h.2.2.1⟩)]
/-- The reference's product of two polynomials. -/
theorem sum_cut (a : List Int) (g : Nat → Int) : ∀ e : Nat, sumN (a.length + e) (fun t => L a t * g t) = sumN a.length (fun t => L a t * g t) := by
  intro e
  induction e with
  | zero => rfl
  | succ e ih =>
    rw [show a.length + (e + 1) = a.length + e + 1 by omega]
    simp only [sumN]
    rw [ih, L_out a (a.length + e) (by omega)]
    simp
theorem smul_inner (p : Int) (hp : 0 < p) (hp2 : p ≤ 1004535809) (a b : List Int) (hEa : El p a) (hEb : El p b) (ha : a.length ≤ 1000000) (hb : b.length ≤ 1000000) (m : Nat) (hm : m + 1 < a.length + b.length) (r : List Int)
    (hr : Ev (fun k => spec_l03Mul.l0 k a b p (fl (m + 1) (fun m => cv (L a) (L b) m % p)) ((m + 1 : Nat) : Int)) r) :
    ∀ d j : Nat, j + d = min (m + 1) a.length → Ev (fun k => spec_l03Mul.l1 k a b p (fl m (fun m => cv (L a) (L b) m % p)) (m : Int) (sumN j (fun t => L a t * L b (m - t)) % p) (j : Int)) r := by
  intro d
  induction d with
  | zero =>
    intro j hj
    refine Ev.step (f := fun k => spec_l03Mul.j3 k a b p (fl m (fun m => cv (L a) (L b) m % p)) (m : Int) (sumN j (fun t => L a t * L b (m - t)) % p) (j : Int) false) (fun k => ?_) ?_
    · simp only [spec_l03Mul.l1]
      by_cases c : (j : Int) ≤ (m : Int)
      · rw [if_pos c, decide_eq_false (by omega)]
      · rw [if_neg c]
    · refine Ev.step (fun k => ?_) hr
      simp only [spec_l03Mul.j3]
      rw [if_neg (by decide), fl_length, if_pos (by omega), wrap_next (show m < m + 1 by omega) (by omega)]
      have e : sumN j (fun t => L a t * L b (m - t)) = cv (L a) (L b) m := by
        unfold cv
        by_cases c : a.length ≤ m + 1
        · have := sum_cut a (fun t => L b (m - t)) (m + 1 - a.length)
          rw [show a.length + (m + 1 - a.length) = m + 1 by omega] at this
          rw [this, show j = a.length by omega]
        · rw [show j = m + 1 by omega]
      rw [e, fl_snoc m (fun m => cv (L a) (L b) m % p)]
  | succ d ih =>
    intro j hj
    have h1 := L_el hp hEa j
    have h2 := L_el hp hEb (m - j)
    have hpr := prod_range hp2 h1 h2
    have hs := emod_range (sumN j (fun t => L a t * L b (m - t))) hp
    have hw : wrap64 ((m : Int) - (j : Int)) = ((m - j : Nat) : Int) := by rw [wrap_id (by omega) (by omega)]; omega
    refine Ev.step (f := fun k => spec_l03Mul.j3 k a b p (fl m (fun m => cv (L a) (L b) m % p)) (m : Int) (sumN j (fun t => L a t * L b (m - t)) % p) (j : Int) true) (fun k => ?_) ?_
    · simp only [spec_l03Mul.l1]
      rw [if_pos (by omega), decide_eq_true (by omega)]
    · refine Ev.step (fun k => ?_) (ih (j + 1) (by omega))
      simp only [spec_l03Mul.j3]
      rw [if_pos (by simp), hw]
      by_cases c : m - j < b.length
      · rw [if_pos (by omega), if_pos (by omega), if_pos (by omega), if_pos (by omega), if_neg (by omega), rd_L, rd_L, wrap_id (x := L a j * L b (m - j)) (by omega) (by omega), wrap_id (by omega) (by omega), tmod_nonneg' _ (by omega), Int.emod_add_emod, wrap_next (show j < m + 1 by omega) (by omega)]
        rfl
      · rw [if_neg (by omega), wrap_next (show j < m + 1 by omega) (by omega)]
        have e : sumN (j + 1) (fun t => L a t * L b (m - t)) = sumN j (fun t => L a t * L b (m - t)) := by
          simp only [sumN]
          rw [L_out b (m - j) (by omega)]
          simp
        rw [e]
theorem smul_outer (p : Int) (hp : 0 < p) (hp2 : p ≤ 1004535809) (a b : List Int) (hEa : El p a) (hEb : El p b) (ha : a.length ≤ 1000000) (hb : b.length ≤ 1000000) (ha1 : 1 ≤ a.length) (hb1 : 1 ≤ b.length) :
    ∀ d m : Nat, m + d = a.length + b.length - 1 → Ev (fun k => spec_l03Mul.l0 k a b p (fl m (fun m => cv (L a) (L b) m % p)) (m : Int)) (mulP p a b) := by
  have hw : wrap64 (wrap64 ((a.length : Int) + (b.length : Int)) - 1) = ((a.length + b.length - 1 : Nat) : Int) := by
    rw [wrap_id (x := (a.length : Int) + (b.length : Int)) (by omega) (by omega), wrap_id (by omega) (by omega)]
    omega
  intro d
  induction d with
  | zero =>
    intro m hm
    obtain rfl : m = a.length + b.length - 1 := by omega
    unfold mulP
    rw [if_neg (by omega)]
    refine ⟨4000010, fun k hk => ?_⟩
    obtain ⟨k, rfl⟩ : ∃ m, k = m + 1 := ⟨k - 1, by omega⟩
    simp only [spec_l03Mul.l0]
    rw [hw, if_neg (by omega), cut_f _ (by rw [fl_length]; omega) k (by rw [fl_length]; omega)]
    simp only [bs]
  | succ d ih =>
    intro m hm
    refine Ev.step (fun k => ?_) (smul_inner p hp hp2 a b hEa hEb ha hb m (by omega) _ (ih (m + 1) (by omega)) (min (m + 1) a.length) 0 (by omega))
    simp only [spec_l03Mul.l0]
    rw [hw, if_pos (by omega)]
    simp only [sumN, Int.zero_emod]
    rfl
theorem l03Mul_ev (f : Int) (a b : List Int) (hp : md f ≠ 0) (hEa : El (md f) a) (hEb : El (md f) b) (ha : a.length ≤ 1000000) (hb : b.length ≤ 1000000) : Ev (fun k => spec_l03Mul.f k f a b) (mulP (md f) a b) := by
  have hm := md_pos hp
  by_cases z : a.length = 0 ∨ b.length = 0
  · have e : mulP (md f) a b = [] := by unfold mulP; rw [if_pos z]
    rw [e]
    refine ⟨1, fun k hk => ?_⟩
    obtain ⟨k, rfl⟩ : ∃ m, k = m + 1 := ⟨k - 1, by omega⟩
    simp only [spec_l03Mul.f, modulus_f, bs]
    by_cases z1 : a.length = 0
    · rw [if_pos (by omega)]
      simp only [spec_l03Mul.j0, if_true]
    · rw [if_neg (by omega)]
      simp only [spec_l03Mul.j0]
      rw [if_pos (beq_iff_eq.mpr (by omega))]
  · obtain ⟨K, hK⟩ := smul_outer (md f) (by omega) hm.2 a b hEa hEb ha hb (by omega) (by omega) (a.length + b.length - 1) 0 (by omega)
    refine ⟨K + 1, fun k hk => ?_⟩
    obtain ⟨k, rfl⟩ : ∃ m, k = m + 1 := ⟨k - 1, by omega⟩
    simp only [spec_l03Mul.f, modulus_f, bs]
    rw [if_neg (by omega)]
    simp only [spec_l03Mul.j0]
    rw [if_neg (fun h => by have := beq_iff_eq.mp h; omega)]
    exact hK k (by omega)
/-- What the reference's product answers. -/
def SM (f : Int) (a b : List Int) : Prop := PolyOk f a ∧ PolyOk f b ∧ ¬ (0 < a.length ∧ 0 < b.length ∧ 401 < a.length + b.length)
instance (f : Int) (a b : List Int) : Decidable (SM f a b) := by unfold SM; exact inferInstance
theorem specMulPoly_ev (f : Int) (a b : List Int) (ha : a.length ≤ 1048576) (hb : b.length ≤ 1048576) : Ev (fun k => spec_MulPoly.f k f a b) (if SM f a b then (mulP (md f) a b, true) else ([], false)) := by
  by_cases c : PolyOk f a ∧ PolyOk f b
  · obtain ⟨pa, pb⟩ := c
    obtain ⟨K, hK⟩ := l03Mul_ev f a b pa.1 pa.2.2.1 pb.2.2.1 (by have := pa.2.1; omega) (by have := pb.2.1; omega)
    have la := pa.2.1
    have lb := pb.2.1
    refine ⟨K + 1048590, fun k hk => ?_⟩
    obtain ⟨k, rfl⟩ : ∃ m, k = m + 1 := ⟨k - 1, by omega⟩
    have e := hK k (by omega)
    simp only at e
    simp only [spec_MulPoly.f]
    simp only [polyOk_f f a (by omega) (k + 1) (by omega), polyOk_f f b (by omega) (k + 1) (by omega), bs, decide_eq_true pa, decide_eq_true pb, if_true, Bool.not_true]
    simp only [spec_MulPoly.j0]
    rw [if_neg (by decide)]
    have hw : wrap64 (wrap64 ((a.length : Int) + (b.length : Int)) - 1) = (a.length : Int) + (b.length : Int) - 1 := by
      rw [wrap_id (x := (a.length : Int) + (b.length : Int)) (by omega) (by omega), wrap_id (by omega) (by omega)]
    rw [hw, e]
    simp only [bs]
    by_cases z1 : (a.length : Int) > 0
    · rw [if_pos z1]
      by_cases z2 : (b.length : Int) > 0
      · rw [if_pos z2]
        by_cases z3 : (a.length : Int) + (b.length : Int) - 1 > 400
        · rw [if_pos z3, if_neg (fun h => h.2.2 ⟨by omega, by omega, by omega⟩)]
        · rw [if_neg z3, if_pos ⟨pa, pb, fun h => by omega⟩]
      · rw [if_neg z2, if_pos ⟨pa, pb, fun h => by omega⟩]
    · rw [if_neg z1, if_pos ⟨pa, pb, fun h => by omega⟩]
  · rw [if_neg (fun h => c ⟨h.1, h.2.1⟩)]
    refine ⟨1048590, fun k hk => ?_⟩
    obtain ⟨k, rfl⟩ : ∃ m, k = m + 1 := ⟨k - 1, by omega⟩
    simp only [spec_MulPoly.f]
    simp only [polyOk_f f a (by omega) (k + 1) (by omega), polyOk_f f b (by omega) (k + 1) (by omega), bs]
    by_cases pa : PolyOk f a
    · have pb : ¬ PolyOk f b := fun h => c ⟨pa, h⟩
      rw [if_pos (by simpa using pa), decide_eq_false pb]
      simp only [spec_MulPoly.j0, Bool.not_false, if_true]
    · rw [if_neg (by simpa using pa)]
      simp only [spec_MulPoly.j0, if_true]
/-- The product of two polynomials that aren't nought has no fewer terms than it may have: the numbers are prime. -/
theorem mulP_len {f : Int} (hp : md f ≠ 0) {a b : List Int} (hEa : El (md f) a) (hEb : El (md f) b) (hTa : Tr a) (hTb : Tr b) (ha : 1 ≤ a.length) (hb : 1 ≤ b.length) : (mulP (md f) a b).length = a.length + b.length - 1 := by
  have hm := md_pos hp
  have h1 : (mulP (md f) a b).length ≤ a.length + b.length - 1 := by
    unfold mulP
    rw [if_neg (by omega)]
    have := tr_le (fl (a.length + b.length - 1) (fun m => cv (L a) (L b) m % md f))
    rw [fl_length] at this
    exact this
  have e : cv (L a) (L b) (a.length + b.length - 2) = L a (a.length - 1) * L b (b.length - 1) := by
    unfold cv
    rw [sumN_single (k := a.length - 1) (by omega) (by
      intro i hi hne
      by_cases c : i < a.length - 1
      · rw [L_out b _ (by omega), Int.mul_zero]
      · rw [L_out a i (by omega), Int.zero_mul]), show a.length + b.length - 2 - (a.length - 1) = b.length - 1 by omega]
  have hne : L (mulP (md f) a b) (a.length + b.length - 2) ≠ 0 := by
    rw [L_mulP, e]
    intro h
    have ra := L_el (show 0 < md f by omega) hEa (a.length - 1)
    have rb := L_el (show 0 < md f by omega) hEb (b.length - 1)
    rcases no_zero hp h with h | h
    · rw [Int.emod_eq_of_lt ra.1 ra.2] at h
      exact hTa (a.length - 1) (by omega) h
    · rw [Int.emod_eq_of_lt rb.1 rb.2] at h
      exact hTb (b.length - 1) (by omega) h
  have h2 : a.length + b.length - 2 < (mulP (md f) a b).length := by
    by_cases c : a.length + b.length - 2 < (mulP (md f) a b).length
    · exact c
    · exact absurd (L_out _ _ (by omega)) hne
  omega
/-- A polynomial's value at a place. -/
def evN (p : Int) (a : List Int) (x : Int) (n : Nat) : Int := sumN n (fun i => L a i * x ^ i) % p
def evL (p : Int) (a xs : List Int) : List Int := xs.map (fun x => evN p a x a.length)
theorem powS_nonneg {f x : Int} (hp : md f ≠ 0) (h0 : 0 ≤ x) (h1 : x < md f) (n : Nat) : powS f x (n : Int) = x ^ n % md f := by
  have hm := md_pos hp
  unfold powS
  rw [Int.emod_eq_of_lt h0 h1]
  by_cases z : x = 0
  · subst z
    rw [if_pos rfl]
    cases n with
    | zero => rw [if_pos (by omega), Int.pow_zero, Int.emod_eq_of_lt (by omega) (by omega)]
    | succ n => rw [if_neg (by omega), if_neg (by omega), Int.pow_succ, Int.mul_zero, Int.zero_emod]
  · rw [if_neg z]
    have hf := fermat_int hp h0 (by rw [Int.emod_eq_of_lt h0 h1]; exact z)
    obtain ⟨q, hq⟩ : ∃ q : Nat, q = (md f).toNat - 1 := ⟨_, rfl⟩
    rw [← hq] at hf
    have e : ((n : Int) % (md f - 1)).toNat = n % q := by
      have : md f - 1 = (q : Int) := by omega
      rw [this]
      rfl
    rw [e]
    have h2 : x ^ n = (x ^ q) ^ (n / q) * x ^ (n % q) := by
      rw [← Int.pow_mul, ← Int.pow_add, Nat.div_add_mod]
    rw [h2, Int.mul_emod, ← pow_emod (x ^ q) (md f) (n / q), hf]
    have : ∀ k : Nat, (1 : Int) ^ k = 1 := by
      intro k
      exact Int.one_pow
    rw [this, Int.emod_eq_of_lt (show (0 : Int) ≤ 1 by omega) (show 1 < md f by omega), Int.one_mul, Int.emod_emod_of_dvd _ (Int.dvd_refl _)]
theorem evalPoly_loop (f : Int) (a : List Int) (x : Int) (hp : md f ≠ 0) (hE : El (md f) a) (h0 : 0 ≤ x) (h1 : x < md f) (hl : a.length ≤ 400) :
    ∀ d i : Nat, i + d = a.length → Ev (fun k => spec_EvalPoly.l0 k f a x (evN (md f) a x i) (i : Int)) (evN (md f) a x a.length) := by
  intro d
  induction d with
  | zero =>
    intro i hi
    obtain rfl : i = a.length := by omega
    refine Ev.step (f := fun _ => some (evN (md f) a x a.length)) (fun k => ?_) (Ev.now _)
    simp only [spec_EvalPoly.l0]
    rw [if_neg (by omega)]
  | succ d ih =>
    intro i hi
    have hpw := power_ev f x (i : Int) hp (by omega) (by omega)
    rw [powS_nonneg hp h0 h1] at hpw
    refine Ev.step (f := fun k => (spec_Power.f k f x (i : Int)).bind fun t => (spec_Mul.f f (rd a (i : Int)) t).bind fun t166 => (spec_Add.f f (evN (md f) a x i) t166).bind fun t167 => spec_EvalPoly.l0 k f a x t167 (wrap64 ((i : Int) + 1))) (fun k => ?_) (Ev.bind hpw ?_)
    · simp only [spec_EvalPoly.l0]
      rw [if_pos (by omega), if_pos (by omega)]
    · refine Ev.congr (fun k => ?_) (ih (i + 1) (by omega))
      rw [rd_L, mul_f f _ _ hp]
      simp only [bs]
      rw [add_f f _ _ hp]
      simp only [bs]
      rw [wrap_next (show i < a.length by omega) (by omega)]
      have e : (evN (md f) a x i + L a i * (x ^ i % md f) % md f) % md f = evN (md f) a x (i + 1) := by
        unfold evN
        simp only [sumN]
        rw [Int.mul_emod (L a i) (x ^ i % md f), Int.emod_emod_of_dvd _ (Int.dvd_refl _), ← Int.mul_emod, ← Int.add_emod]
      rw [e]
theorem evalPoly_ev (f : Int) (a : List Int) (x : Int) (pa : PolyOk f a) (h0 : 0 ≤ x) (h1 : x < md f) : Ev (fun k => spec_EvalPoly.f k f a x) (evN (md f) a x a.length) := by
  obtain ⟨K, hK⟩ := evalPoly_loop f a x pa.1 pa.2.2.1 h0 h1 pa.2.1 a.length 0 (by omega)
  have la := pa.2.1
  refine ⟨K + 500, fun k hk => ?_⟩
  simp only [spec_EvalPoly.f]
  simp only [polyOk_f f a (by omega) k (by omega), bs, decide_eq_true pa, if_true]
  have := hK k (by omega)
  simp only at this
  rw [← this]
  congr 1
theorem evalMany_loop (f : Int) (a xs y : List Int) (pa : PolyOk f a) (hx : El (md f) xs) (hxs : xs.length ≤ 40) :
    ∀ (d i : Nat) (s : List Int), i + d = xs.length → s.length = i → Ev (fun k => spec_EvalMany.l0 k f a xs s (i : Int)) (s ++ evL (md f) a (xs.drop i)) := by
  intro d
  induction d with
  | zero =>
    intro i s hi hs
    refine Ev.step (f := fun _ => some s) (fun k => ?_) ?_
    · simp only [spec_EvalMany.l0]
      rw [if_neg (by omega)]
    · rw [List.drop_eq_nil_of_le (by omega)]
      simp only [evL, List.map_nil, List.append_nil]
      exact Ev.now _
  | succ d ih =>
    intro i s hi hs
    have hr := hx.at i (by omega)
    have h := evalPoly_ev f a xs[i] pa hr.1 hr.2
    refine Ev.step (f := fun k => (spec_EvalPoly.f k f a xs[i]).bind fun t => if s.length < 17592186044416 then spec_EvalMany.l0 k f a xs (s ++ [t]) (wrap64 ((i : Int) + 1)) else none) (fun k => ?_) (Ev.bind h ?_)
    · simp only [spec_EvalMany.l0]
      rw [if_pos (by omega), if_pos (by omega), rd_at xs i (by omega)]
    · have h2 := ih (i + 1) (s ++ [evN (md f) a xs[i] a.length]) (by omega) (by simp [hs])
      rw [drop_cons xs i (by omega)]
      simp only [evL, List.map_cons]
      rw [List.append_assoc] at h2
      refine Ev.congr (fun k => ?_) h2
      rw [if_pos (by omega), wrap_next (show i < xs.length by omega) (by omega)]
theorem evalMany_ev (f : Int) (a xs : List Int) (pa : PolyOk f a) (hx : El (md f) xs) (hxs : xs.length ≤ 40) : Ev (fun k => spec_EvalMany.f k f a xs) (evL (md f) a xs) := by
  obtain ⟨K, hK⟩ := evalMany_loop f a xs [] pa hx hxs xs.length 0 [] (by omega) rfl
  have la := pa.2.1
  refine ⟨K + 500, fun k hk => ?_⟩
  obtain ⟨k, rfl⟩ : ∃ m, k = m + 1 := ⟨k - 1, by omega⟩
  simp only [spec_EvalMany.f]
  simp only [polyOk_f f a (by omega) (k + 1) (by omega), bs, decide_eq_true pa, if_true]
  rw [if_neg (by omega), elements_f f xs (by omega) (k + 1) (by omega)]
  simp only [bs]
  rw [decide_eq_true ⟨pa.1, hx⟩]
  simp only [spec_EvalMany.j0, Bool.not_true]
  rw [if_neg (by decide)]
  have := hK k (by omega)
  simpa using this
/-- The program's value of a polynomial, from the top down. -/
def hs (p : Int) (a : List Int) (x : Int) (j : Nat) : Int := sumN (a.length - j) (fun t => L a (j + t) * x ^ t) % p
theorem hs_step (p : Int) (a : List Int) (x : Int) (j : Nat) (h : j < a.length) : (hs p a x (j + 1) * x + L a j) % p = hs p a x j := by
  unfold hs
  rw [show a.length - j = (a.length - (j + 1)) + 1 by omega, sumN_front]
  rw [Int.pow_zero, Int.mul_one]
  have e : sumN (a.length - (j + 1)) (fun k => L a (j + (k + 1)) * x ^ (k + 1)) = x * sumN (a.length - (j + 1)) (fun t => L a (j + 1 + t) * x ^ t) := by
    rw [← sumN_mul]
    apply sumN_congr
    intro i _
    rw [show j + (i + 1) = j + 1 + i by omega, Int.pow_succ, ← Int.mul_assoc, Int.mul_comm]
  generalize sumN (a.length - (j + 1)) (fun t => L a (j + 1 + t) * x ^ t) = S at e ⊢
  rw [e, Nat.add_zero, Int.mul_comm x, Int.add_comm (L a j), Int.add_emod, Int.mul_emod, Int.emod_emod_of_dvd _ (Int.dvd_refl _), ← Int.mul_emod, ← Int.add_emod]
theorem feval_ev (p g t : Int) (hp : 0 < p) (hp2 : p ≤ 1004535809) (a : List Int) (x : Int) (hE : El p a) (h0 : 0 ≤ x) (h1 : x < p) (hl : a.length ≤ 400) : Ev (fun k => impl_field_eval.f k p g t a x) (evN p a x a.length) := by
  have key : ∀ n : Nat, n ≤ a.length → Ev (fun k => impl_field_eval.l0 k a x (hs p a x n) ((n : Int) - 1) p g t) (evN p a x a.length) := by
    intro n
    induction n with
    | zero =>
      intro _
      have e : evN p a x a.length = hs p a x 0 := by
        unfold evN hs
        simp only [Nat.zero_add, Nat.sub_zero]
      rw [e]
      refine Ev.step (f := fun _ => some (hs p a x 0)) (fun k => ?_) (Ev.now _)
      simp only [impl_field_eval.l0]
      rw [if_neg (by omega)]
    | succ n ih =>
      intro hn
      refine Ev.step (fun k => ?_) (ih (by omega))
      have hr := emod_range (sumN (a.length - (n + 1)) (fun t => L a (n + 1 + t) * x ^ t)) hp
      have ha := L_el hp hE n
      have hm := prod_range hp2 (x := hs p a x (n + 1)) hr ⟨h0, h1⟩
      simp only [impl_field_eval.l0]
      rw [show ((n + 1 : Nat) : Int) - 1 = (n : Int) by omega, if_pos (by omega), if_pos (by omega), if_pos (by omega), if_neg (by omega), rd_L, wrap_id (x := hs p a x (n + 1) * x) (by omega) (by omega), wrap_id (x := hs p a x (n + 1) * x + L a n) (by omega) (by omega), wrap_id (x := (n : Int) - 1) (by omega) (by omega), tmod_nonneg' _ (by omega), hs_step p a x n (by omega)]
  have h := key a.length (Nat.le_refl _)
  have e : hs p a x a.length = 0 := by
    unfold hs
    rw [Nat.sub_self]
    simp [sumN]
  rw [e] at h
  refine Ev.congr (fun k => ?_) h
  simp only [impl_field_eval.f]
  rw [wrap_id (x := (a.length : Int) - 1) (by omega) (by omega)]
theorem fevalMany_loop (p g t : Int) (hp : 0 < p) (hp2 : p ≤ 1004535809) (a xs : List Int) (hE : El p a) (hx : El p xs) (hl : a.length ≤ 400) (hxs : xs.length ≤ 1000000) :
    ∀ (d i : Nat) (s : List Int), i + d = xs.length → s.length = i → Ev (fun k => impl_field_evalMany.l0 k a s xs (xs.length : Int) (i : Int) p g t) (s ++ evL p a (xs.drop i)) := by
  intro d
  induction d with
  | zero =>
    intro i s hi hs
    refine Ev.step (f := fun _ => some s) (fun k => ?_) ?_
    · simp only [impl_field_evalMany.l0]
      rw [if_neg (by omega)]
    · rw [List.drop_eq_nil_of_le (by omega)]
      simp only [evL, List.map_nil, List.append_nil]
      exact Ev.now _
  | succ d ih =>
    intro i s hi hs
    have hr := hx.at i (by omega)
    have h := feval_ev p g t hp hp2 a xs[i] hE hr.1 hr.2 hl
    refine Ev.step (f := fun k => (impl_field_eval.f k p g t a xs[i]).bind fun t215 => if s.length < 17592186044416 then impl_field_evalMany.l0 k a (s ++ [t215]) xs (xs.length : Int) (wrap64 ((i : Int) + 1)) p g t else none) (fun k => ?_) (Ev.bind h ?_)
    · simp only [impl_field_evalMany.l0]
      rw [if_pos (by omega), if_pos (by omega), if_pos (by omega), rd_at xs i (by omega)]
    · have h2 := ih (i + 1) (s ++ [evN p a xs[i] a.length]) (by omega) (by simp [hs])
      rw [drop_cons xs i (by omega)]
      simp only [evL, List.map_cons]
      rw [List.append_assoc] at h2
      refine Ev.congr (fun k => ?_) h2
      rw [if_pos (by omega), wrap_next (show i < xs.length by omega) (by omega)]
theorem fevalMany_ev (p g t : Int) (hp : 0 < p) (hp2 : p ≤ 1004535809) (a xs : List Int) (hE : El p a) (hx : El p xs) (hl : a.length ≤ 400) (hxs : xs.length ≤ 1000000) : Ev (fun k => impl_field_evalMany.f k p g t a xs) (evL p a xs) := by
  have h := fevalMany_loop p g t hp hp2 a xs hE hx hl hxs xs.length 0 [] (by omega) rfl
  rw [List.nil_append, List.drop_zero] at h
  exact h
theorem trimmed_ev (l : List Int) (hn : l.length ≤ 2000000) : Ev (fun k => impl_trimmed.f k l) (tr l) := by
  have key : ∀ n : Nat, n ≤ l.length → Ev (fun k => impl_trimmed.l0 k (l.take n)) (l.take (tn l n)) := by
    intro n
    induction n with
    | zero =>
      intro _
      refine Ev.step (f := fun _ => some []) (fun k => ?_) (Ev.now _)
      simp only [impl_trimmed.l0]
      rw [if_neg (by simp)]
      rfl
    | succ n ih =>
      intro h
      have hlen : (l.take (n + 1)).length = n + 1 := by rw [List.length_take]; omega
      have hw : wrap64 (((n + 1 : Nat) : Int) - 1) = (n : Int) := by rw [wrap_id (by omega) (by omega)]; omega
      have hL : L (l.take (n + 1)) n = L l n := by rw [L_take, if_pos (by omega)]
      by_cases c : L l n = 0
      · refine Ev.step (f := fun k => impl_trimmed.l0 k (l.take n)) (fun k => ?_) ?_
        · simp only [impl_trimmed.l0]
          rw [hlen, if_pos (by omega), hw, if_pos (by omega), if_pos (by omega), rd_L, hL, if_pos c, if_pos (by omega), Int.toNat_natCast, List.take_take, show min n (n + 1) = n by omega]
        · simp only [tn]
          rw [if_pos c]
          exact ih (by omega)
      · refine Ev.step (f := fun _ => some (l.take (n + 1))) (fun k => ?_) ?_
        · simp only [impl_trimmed.l0]
          rw [hlen, if_pos (by omega), hw, if_pos (by omega), if_pos (by omega), rd_L, hL, if_neg c]
        · simp only [tn]
          rw [if_neg c]
          exact Ev.now _
  have h := key l.length (Nat.le_refl _)
  rw [List.take_length] at h
  exact h
/-- The program's product of two polynomials, by rounds. -/
def ip (p : Int) (a b : List Int) (i j m : Nat) : Int := (sumN (if i ≤ m ∧ m < i + j then i + 1 else if m < i then m + 1 else i) (fun t => L a t * L b (m - t))) % p
theorem mul_inner (p g t : Int) (hp : 0 < p) (hp2 : p ≤ 1004535809) (a b : List Int) (hEa : El p a) (hEb : El p b) (ha : a.length ≤ 1000000) (hb : b.length ≤ 1000000) (i : Nat) (hi : i < a.length) (hb1 : 1 ≤ b.length) (r : List Int)
    (hr : Ev (fun k => impl_field_mulPoly.l0 k b (fl (a.length + b.length - 1) (ip p a b (i + 1) 0)) a (a.length : Int) ((i + 1 : Nat) : Int) p g t) r) :
    ∀ d j : Nat, j + d = b.length → Ev (fun k => impl_field_mulPoly.l1 k b (fl (a.length + b.length - 1) (ip p a b i j)) (i : Int) (L a i) a (a.length : Int) (i : Int) b (b.length : Int) (j : Int) p g t) r := by
  intro d
  induction d with
  | zero =>
    intro j hj
    refine Ev.step (f := fun k => impl_field_mulPoly.l0 k b (fl (a.length + b.length - 1) (ip p a b (i + 1) 0)) a (a.length : Int) ((i + 1 : Nat) : Int) p g t) (fun k => ?_) hr
    simp only [impl_field_mulPoly.l1]
    rw [if_neg (by omega), wrap_next hi (by omega)]
    have e : fl (a.length + b.length - 1) (ip p a b i j) = fl (a.length + b.length - 1) (ip p a b (i + 1) 0) := by
      apply fl_congr
      intro m hm
      unfold ip
      by_cases c : i ≤ m
      · by_cases c3 : m < i + j
        · by_cases c2 : m = i
          · subst c2
            rw [if_pos ⟨by omega, by omega⟩, if_neg (by omega), if_pos (by omega)]
          · rw [if_pos ⟨by omega, by omega⟩, if_neg (by omega), if_neg (by omega)]
        · rw [if_neg (by omega), if_neg (by omega), if_neg (by omega), if_neg (by omega)]
          simp only [sumN]
          rw [L_out b (m - i) (by omega)]
          simp
      · rw [if_neg (by omega), if_pos (by omega), if_neg (by omega), if_pos (by omega)]
    rw [e]
  | succ d ih =>
    intro j hj
    refine Ev.step (f := fun k => impl_field_mulPoly.l1 k b (fl (a.length + b.length - 1) (ip p a b i (j + 1))) (i : Int) (L a i) a (a.length : Int) (i : Int) b (b.length : Int) ((j + 1 : Nat) : Int) p g t) (fun k => ?_) (ih (j + 1) (by omega))
    have hw : wrap64 ((i : Int) + (j : Int)) = ((i + j : Nat) : Int) := by rw [wrap_id (by omega) (by omega)]; rfl
    have h1 := L_el hp hEa i
    have h2 := L_el hp hEb j
    have hm := prod_range hp2 h1 h2
    have hs := emod_range (sumN (if i ≤ i + j ∧ i + j < i + j then i + 1 else if i + j < i then i + j + 1 else i) (fun t => L a t * L b (i + j - t))) hp
    simp only [impl_field_mulPoly.l1]
    rw [if_pos (by omega), if_pos (by omega), if_pos (by omega), hw, if_pos (by omega), if_pos (by rw [fl_length]; omega), if_neg (by omega), rd_L, rd_L, L_fl _ _ _ (by omega)]
    rw [wrap_id (x := L a i * L b j) (by omega) (by omega)]
    unfold ip at hs ⊢
    rw [wrap_id (by omega) (by omega), tmod_nonneg' _ (by omega), Int.emod_add_emod, wrap_next (show j < b.length by omega) (by omega), fl_set]
    have e : fl (a.length + b.length - 1) (fun m => if m = ((i + j : Nat) : Int).toNat then (sumN (if i ≤ i + j ∧ i + j < i + j then i + 1 else if i + j < i then i + j + 1 else i) (fun t => L a t * L b (i + j - t)) + L a i * L b j) % p
        else (sumN (if i ≤ m ∧ m < i + j then i + 1 else if m < i then m + 1 else i) (fun t => L a t * L b (m - t))) % p)
        = fl (a.length + b.length - 1) (fun m => (sumN (if i ≤ m ∧ m < i + (j + 1) then i + 1 else if m < i then m + 1 else i) (fun t => L a t * L b (m - t))) % p) := by
      apply fl_congr
      intro m hm
      by_cases c : m = i + j
      · subst c
        rw [if_pos (by omega), if_neg (by omega), if_neg (by omega), if_pos ⟨by omega, by omega⟩]
        simp only [sumN]
        rw [show i + j - i = j by omega]
      · rw [if_neg (by omega)]
        by_cases c2 : i ≤ m ∧ m < i + j
        · rw [if_pos c2, if_pos ⟨by omega, by omega⟩]
        · rw [if_neg c2, if_neg (show ¬ (i ≤ m ∧ m < i + (j + 1)) by omega)]
    rw [e]
theorem mul_outer (p g t : Int) (hp : 0 < p) (hp2 : p ≤ 1004535809) (a b : List Int) (hEa : El p a) (hEb : El p b) (ha : a.length ≤ 1000000) (hb : b.length ≤ 1000000) (ha1 : 1 ≤ a.length) (hb1 : 1 ≤ b.length) :
    ∀ d i : Nat, i + d = a.length → Ev (fun k => impl_field_mulPoly.l0 k b (fl (a.length + b.length - 1) (ip p a b i 0)) a (a.length : Int) (i : Int) p g t) (mulP p a b) := by
  intro d
  induction d with
  | zero =>
    intro i hi
    obtain rfl : i = a.length := by omega
    have e : fl (a.length + b.length - 1) (ip p a b a.length 0) = fl (a.length + b.length - 1) (fun m => cv (L a) (L b) m % p) := by
      apply fl_congr
      intro m hm
      unfold ip cv
      rw [if_neg (by omega)]
      by_cases c : m < a.length
      · rw [if_pos c]
      · rw [if_neg c]
        congr 1
        have : ∀ e : Nat, sumN (a.length + e) (fun t => L a t * L b (m - t)) = sumN a.length (fun t => L a t * L b (m - t)) := by
          intro e
          induction e with
          | zero => rfl
          | succ e ih =>
            rw [show a.length + (e + 1) = a.length + e + 1 by omega]
            simp only [sumN]
            rw [ih, L_out a (a.length + e) (by omega)]
            simp
        rw [show m + 1 = a.length + (m + 1 - a.length) by omega, this]
    have ht := trimmed_ev (fl (a.length + b.length - 1) (fun m => cv (L a) (L b) m % p)) (by rw [fl_length]; omega)
    rw [e]
    unfold mulP
    rw [if_neg (by omega)]
    refine Ev.step (f := fun k => (impl_trimmed.f k (fl (a.length + b.length - 1) (fun m => cv (L a) (L b) m % p))).bind fun t227 => some t227) (fun k => ?_) (Ev.bind ht (Ev.now _))
    simp only [impl_field_mulPoly.l0]
    rw [if_neg (by omega)]
  | succ d ih =>
    intro i hi
    refine Ev.step (fun k => ?_) (mul_inner p g t hp hp2 a b hEa hEb ha hb i (by omega) hb1 _ (ih (i + 1) (by omega)) b.length 0 (by omega))
    simp only [impl_field_mulPoly.l0]
    rw [if_pos (by omega), if_pos (by omega), if_pos (by omega), rd_L]
    rfl
theorem mulPoly_ev (p g t : Int) (hp : 0 < p) (hp2 : p ≤ 1004535809) (a b : List Int) (hEa : El p a) (hEb : El p b) (ha : a.length ≤ 1000000) (hb : b.length ≤ 1000000) : Ev (fun k => impl_field_mulPoly.f k p g t a b) (mulP p a b) := by
  by_cases z : a.length = 0 ∨ b.length = 0
  · have e : mulP p a b = [] := by unfold mulP; rw [if_pos z]
    rw [e]
    refine ⟨1, fun k hk => ?_⟩
    obtain ⟨k, rfl⟩ : ∃ m, k = m + 1 := ⟨k - 1, by omega⟩
    simp only [impl_field_mulPoly.f]
    by_cases z1 : a.length = 0
    · rw [if_pos (by omega)]
      simp only [impl_field_mulPoly.j0, if_true]
    · rw [if_neg (by omega)]
      simp only [impl_field_mulPoly.j0]
      rw [if_pos (beq_iff_eq.mpr (by omega))]
  · obtain ⟨K, hK⟩ := mul_outer p g t hp hp2 a b hEa hEb ha hb (by omega) (by omega) a.length 0 (by omega)
    refine ⟨K + 1, fun k hk => ?_⟩
    obtain ⟨k, rfl⟩ : ∃ m, k = m + 1 := ⟨k - 1, by omega⟩
    have hw : wrap64 (wrap64 ((a.length : Int) + (b.length : Int)) - 1) = ((a.length + b.length - 1 : Nat) : Int) := by
      rw [wrap_id (x := (a.length : Int) + (b.length : Int)) (by omega) (by omega), wrap_id (by omega) (by omega)]
      omega
    simp only [impl_field_mulPoly.f]
    rw [if_neg (by omega)]
    simp only [impl_field_mulPoly.j0]
    rw [if_neg (fun h => by have := beq_iff_eq.mp h; omega), hw, if_pos (by omega), if_pos (by omega), Int.toNat_natCast, fl_zero]
    have e : fl (a.length + b.length - 1) (fun _ => 0) = fl (a.length + b.length - 1) (ip p a b 0 0) := by
      apply fl_congr
      intro m _
      unfold ip
      rw [if_neg (by omega), if_neg (by omega)]
      simp [sumN]
    rw [e]
    exact hK k (by omega)
/-- What a list must be for a polynomial, the field given. -/
def Lok (p : Int) (l : List Int) : Prop := l.length ≤ 400 ∧ El p l ∧ (l.length ≠ 0 → L l (l.length - 1) ≠ 0)
instance (p : Int) (l : List Int) : Decidable (Lok p l) := by unfold Lok; exact inferInstance
theorem rdLL_at (ls : List (List Int)) (i : Nat) (h : i < ls.length) : rd_L2 ls (i : Int) = ls[i] := by simp [rd_L2, List.getD, h]
def AllLok (p : Int) (ls : List (List Int)) : Prop := ∀ l ∈ ls, Lok p l
instance (p : Int) (ls : List (List Int)) : Decidable (AllLok p ls) := List.decidableBAll _ _
theorem AllLok.nil (p : Int) : AllLok p [] := fun l hl => by cases hl
theorem AllLok.cons {p : Int} {l : List Int} {ls : List (List Int)} (h : Lok p l) (hs : AllLok p ls) : AllLok p (l :: ls) := fun x hx => by
  rcases List.mem_cons.1 hx with rfl | hx
  · exact h
  · exact hs x hx
theorem polyField_f (f : Int) (ls : List (List Int)) (hls : ls.length ≤ 100) (K : Nat) (hK : ∀ l ∈ ls, l.length < K) (hK2 : K ≤ 2000000) (k : Nat) (hk : ls.length + K < k) :
    impl_polyField.f k f ls = some (if md f ≠ 0 ∧ AllLok (md f) ls then (md f, gn f, tw f, true) else (0, 0, 0, false)) := by
  unfold impl_polyField.f
  rw [fieldOf_f]
  simp only [bs]
  by_cases hp : md f = 0
  · rw [if_neg (by simpa using hp), if_neg (fun h => h.1 hp)]
  · rw [if_pos (by simpa using hp)]
    have key := loop_list (fun k (_ : Unit) i => impl_polyField.l0 k ls (ls.length : Int) i (md f) (gn f) (tw f)) ls K (fun _ _ => True) (fun r _ => if AllLok (md f) r then (md f, gn f, tw f, true) else (0, 0, 0, false)) (by
      intro k s _ _
      simp only [impl_polyField.l0]
      rw [if_neg (by omega), if_pos (AllLok.nil _)]) (by
      intro k i s h hKk _
      have hlen := hK ls[i] (List.getElem_mem h)
      simp only [impl_polyField.l0]
      rw [if_pos (by omega), if_pos (by omega), if_pos (by omega), rdLL_at ls i h]
      generalize ls[i] = l at hlen
      have no : ∀ hh : ¬ Lok (md f) l, (if AllLok (md f) (l :: ls.drop (i + 1)) then (md f, gn f, tw f, true) else (0, 0, 0, false)) = (0, 0, 0, false) := fun hh => if_neg (fun h => hh (h l List.mem_cons_self))
      have yes : ∀ hh : Lok (md f) l, (if AllLok (md f) (l :: ls.drop (i + 1)) then (md f, gn f, tw f, true) else (0, 0, 0, false)) = (if AllLok (md f) (ls.drop (i + 1)) then (md f, gn f, tw f, true) else (0, 0, 0, false)) := by
        intro hh
        by_cases c : AllLok (md f) (ls.drop (i + 1))
        · rw [if_pos c, if_pos (AllLok.cons hh c)]
        · rw [if_neg c, if_neg (fun h => c (fun x hx => h x (List.mem_cons_of_mem _ hx)))]
      by_cases c1 : (l.length : Int) > 400
      · right
        rw [if_pos c1, no (fun h => by have := h.1; omega)]
      · rw [if_neg c1, areElements_f _ _ _ l (by omega) k (by omega)]
        simp only [bs]
        by_cases c2 : El (md f) l
        · rw [if_pos (by simpa using c2)]
          by_cases c3 : (l.length : Int) > 0
          · have hw : wrap64 ((l.length : Int) - 1) = ((l.length - 1 : Nat) : Int) := by rw [wrap_id (by omega) (by omega)]; omega
            rw [if_pos c3, hw, if_pos (by omega), if_pos (by omega), rd_L]
            by_cases c4 : L l (l.length - 1) = 0
            · right
              rw [if_pos c4, no (fun h => h.2.2 (by omega) c4)]
            · left
              refine ⟨(), ?_, trivial, yes ⟨by omega, c2, fun _ => c4⟩⟩
              rw [if_neg c4, wrap_next h (by omega)]
          · left
            refine ⟨(), ?_, trivial, yes ⟨by omega, c2, fun h => by omega⟩⟩
            rw [if_neg c3, wrap_next h (by omega)]
        · right
          rw [if_neg (by simpa using c2), no (fun h => c2 h.2.1)]) k () (by omega) trivial
    rw [key]
    congr 1
    by_cases c : AllLok (md f) ls
    · rw [if_pos c, if_pos ⟨hp, c⟩]
    · rw [if_neg c, if_neg (fun h => c h.2)]
/-- How many places. -/
def np (a b : List Int) : Nat := if a.length = 0 ∨ b.length = 0 then 1 else a.length + b.length - 1
def pl (n : Nat) : List Int := fl n (fun i => (i : Int))
def MC (f : Int) (a b : List Int) : Prop := PolyOk f a ∧ PolyOk f b ∧ np a b ≤ 40 ∧ (np a b : Int) ≤ md f
instance (f : Int) (a b : List Int) : Decidable (MC f a b) := by unfold MC; exact inferInstance
/-- What both answer. -/
def mc (f : Int) (a b : List Int) : List Int × List Int × List Int × Bool :=
  if MC f a b then (pl (np a b), evL (md f) a (pl (np a b)), evL (md f) b (pl (np a b)), true) else ([], [], [], false)
theorem pl_length (n : Nat) : (pl n).length = n := fl_length _ _
theorem pl_el {n : Nat} {p : Int} (h : (n : Int) ≤ p) : El p (pl n) := fl_el (fun i hi => by omega)
theorem pl_snoc (n : Nat) : pl n ++ [(n : Int)] = pl (n + 1) := fl_snoc n (fun i => (i : Int))
theorem length_f (a b : List Int) (ha : a.length ≤ 1048576) (hb : b.length ≤ 1048576) : spec_l17Length.f a b = some (if a.length = 0 ∨ b.length = 0 then 0 else ((a.length + b.length - 1 : Nat) : Int)) := by
  have hw : wrap64 (wrap64 ((a.length : Int) + (b.length : Int)) - 1) = (a.length : Int) + (b.length : Int) - 1 := by
    rw [wrap_id (x := (a.length : Int) + (b.length : Int)) (by omega) (by omega), wrap_id (by omega) (by omega)]
  unfold spec_l17Length.f
  by_cases z1 : (a.length : Int) = 0
  · rw [if_pos z1, if_pos (by omega)]
  · rw [if_neg z1]
    by_cases z2 : (b.length : Int) = 0
    · rw [if_pos z2, if_pos (by omega)]
    · rw [if_neg z2, hw, if_neg (by omega)]
      congr 1
      omega
theorem sloop_ev (f : Int) (a b : List Int) (n : Nat) (pa : PolyOk f a) (pb : PolyOk f b) (hn : n ≤ 40) (hp : (n : Int) ≤ md f) :
    ∀ d i : Nat, i + d = n → Ev (fun k => spec_MakeCert.l0 k f a b (n : Int) (pl i) (i : Int)) (pl n, evL (md f) a (pl n), evL (md f) b (pl n), true) := by
  intro d
  induction d with
  | zero =>
    intro i hi
    obtain rfl : i = n := by omega
    have h1 := evalMany_ev f a (pl i) pa (pl_el hp) (by rw [pl_length]; exact hn)
    have h2 := evalMany_ev f b (pl i) pb (pl_el hp) (by rw [pl_length]; exact hn)
    refine Ev.step (f := fun k => (spec_EvalMany.f k f a (pl i)).bind fun t191 => (spec_EvalMany.f k f b (pl i)).bind fun t194 => some (pl i, t191, t194, true)) (fun k => ?_) (Ev.bind h1 (Ev.bind h2 (Ev.now _)))
    simp only [spec_MakeCert.l0]
    rw [if_neg (by omega)]
  | succ d ih =>
    intro i hi
    refine Ev.step (fun k => ?_) (ih (i + 1) (by omega))
    simp only [spec_MakeCert.l0]
    rw [if_pos (by omega), pl_length, if_pos (by omega), pl_snoc, wrap_next (show i < n by omega) (by omega)]
theorem iloop_ev (p g t : Int) (hp : 0 < p) (hp2 : p ≤ 1004535809) (a b : List Int) (n : Nat) (hEa : El p a) (hEb : El p b) (la : a.length ≤ 400) (lb : b.length ≤ 400) (hn : n ≤ 40) (hnp : (n : Int) ≤ p) :
    ∀ d i : Nat, i + d = n → Ev (fun k => impl_MakeCert.l0 k a b (pl i) (n : Int) (i : Int) p g t) (pl n, evL p a (pl n), evL p b (pl n), true) := by
  intro d
  induction d with
  | zero =>
    intro i hi
    obtain rfl : i = n := by omega
    have h1 := fevalMany_ev p g t hp hp2 a (pl i) hEa (pl_el hnp) la (by rw [pl_length]; omega)
    have h2 := fevalMany_ev p g t hp hp2 b (pl i) hEb (pl_el hnp) lb (by rw [pl_length]; omega)
    refine Ev.step (f := fun k => (impl_field_evalMany.f k p g t a (pl i)).bind fun t254 => (impl_field_evalMany.f k p g t b (pl i)).bind fun t257 => some (pl i, t254, t257, true)) (fun k => ?_) (Ev.bind h1 (Ev.bind h2 (Ev.now _)))
    simp only [impl_MakeCert.l0]
    rw [if_neg (by omega)]
  | succ d ih =>
    intro i hi
    refine Ev.step (fun k => ?_) (ih (i + 1) (by omega))
    simp only [impl_MakeCert.l0]
    rw [if_pos (by omega), pl_length, if_pos (by omega), pl_snoc, wrap_next (show i < n by omega) (by omega)]
theorem spec_ev (f : Int) (a b : List Int) (ha : a.length ≤ 1048576) (hb : b.length ≤ 1048576) : Ev (fun k => spec_MakeCert.f k f a b) (mc f a b) := by
  obtain ⟨K1, h1⟩ := specMulPoly_ev f a b ha hb
  have hlen := length_f a b ha hb
  have hnp : (np a b : Int) = if (if a.length = 0 ∨ b.length = 0 then (0 : Int) else ((a.length + b.length - 1 : Nat) : Int)) = 0 then 1 else (if a.length = 0 ∨ b.length = 0 then (0 : Int) else ((a.length + b.length - 1 : Nat) : Int)) := by
    unfold np
    by_cases z : a.length = 0 ∨ b.length = 0
    · rw [if_pos z, if_pos z]; rfl
    · rw [if_neg z, if_neg z, if_neg (by omega)]
  have key : ∀ k, spec_MakeCert.f k f a b = (spec_MulPoly.f k f a b).bind fun bt => spec_MakeCert.j0 k f a b bt.2 (np a b : Int) := by
    intro k
    simp only [spec_MakeCert.f]
    congr 1
    funext bt
    rw [hlen]
    simp only [bs]
    rw [hnp]
    by_cases z : (if a.length = 0 ∨ b.length = 0 then (0 : Int) else ((a.length + b.length - 1 : Nat) : Int)) = 0
    · rw [if_pos z, if_pos z]
    · rw [if_neg z, if_neg z]
  have empty : ∀ k, spec_MakeCert.j1 (k + 1) f a b (np a b : Int) true = some ([], [], [], false) := by
    intro k
    simp only [spec_MakeCert.j1, if_true]
  by_cases c : MC f a b
  · obtain ⟨pa, pb, hn, hp⟩ := c
    obtain ⟨K2, h2⟩ := sloop_ev f a b (np a b) pa pb hn hp (np a b) 0 (by omega)
    refine ⟨K1 + K2 + 10, fun k hk => ?_⟩
    obtain ⟨k, rfl⟩ : ∃ m, k = m + 2 := ⟨k - 2, by omega⟩
    have sm : SM f a b := ⟨pa, pb, fun h => by
      unfold np at hn
      rw [if_neg (by omega)] at hn
      omega⟩
    have e := h1 (k + 2) (by omega)
    simp only at e
    show spec_MakeCert.f (k + 2) f a b = some (mc f a b)
    rw [key, e, if_pos sm]
    simp only [bs]
    simp only [spec_MakeCert.j0, if_true]
    rw [if_neg (by omega)]
    simp only [modulus_f, bs]
    simp only [spec_MakeCert.j1]
    rw [if_neg (by simp; omega)]
    unfold mc
    rw [if_pos ⟨pa, pb, hn, hp⟩]
    exact h2 k (by omega)
  · unfold mc
    rw [if_neg c]
    refine ⟨K1 + 10, fun k hk => ?_⟩
    obtain ⟨k, rfl⟩ : ∃ m, k = m + 2 := ⟨k - 2, by omega⟩
    have e := h1 (k + 2) (by omega)
    simp only at e
    show spec_MakeCert.f (k + 2) f a b = some ([], [], [], false)
    rw [key, e]
    simp only [bs]
    by_cases sm : SM f a b
    · rw [if_pos sm]
      simp only [spec_MakeCert.j0, if_true]
      by_cases c2 : (np a b : Int) > 40
      · rw [if_pos c2, empty]
      · rw [if_neg c2]
        simp only [modulus_f, bs]
        rw [decide_eq_true (show (np a b : Int) > md f from Decidable.byContradiction fun h => c ⟨sm.1, sm.2.1, by omega, by omega⟩), empty]
    · rw [if_neg sm]
      simp only [spec_MakeCert.j0]
      rw [if_neg (by decide), empty]
theorem impl_ev (f : Int) (a b : List Int) (ha : a.length ≤ 1048576) (hb : b.length ≤ 1048576) : Ev (fun k => impl_MakeCert.f k f a b) (mc f a b) := by
  have hpf := polyField_f f [a, b] (by simp) 1048577 (by
    intro l hl
    simp only [List.mem_cons, List.not_mem_nil, or_false] at hl
    rcases hl with rfl | rfl <;> omega) (by omega)
  by_cases c : md f ≠ 0 ∧ AllLok (md f) [a, b]
  · have pa : PolyOk f a := ⟨c.1, c.2 a (by simp)⟩
    have pb : PolyOk f b := ⟨c.1, c.2 b (by simp)⟩
    have hm := md_pos c.1
    have la := pa.2.1
    have lb := pb.2.1
    obtain ⟨K1, h1⟩ := mulPoly_ev (md f) (gn f) (tw f) (by omega) hm.2 a b pa.2.2.1 pb.2.2.1 (by omega) (by omega)
    have hx : mx ((mulP (md f) a b).length : Int) 1 = (np a b : Int) := by
      unfold mx np
      by_cases z : a.length = 0 ∨ b.length = 0
      · have e : mulP (md f) a b = [] := by unfold mulP; rw [if_pos z]
        rw [e, if_pos z, if_pos (by simp)]
        rfl
      · rw [mulP_len c.1 pa.2.2.1 pb.2.2.1 pa.tr pb.tr (by omega) (by omega), if_neg z, if_neg (by omega)]
    have key : ∀ k, K1 + 1048590 ≤ k → impl_MakeCert.f k f a b = if (np a b : Int) > 40 then impl_MakeCert.j0 k a b (np a b : Int) true (md f) (gn f) (tw f) else impl_MakeCert.j0 k a b (np a b : Int) (decide ((np a b : Int) > md f)) (md f) (gn f) (tw f) := by
      intro k hk
      have e := h1 k (by omega)
      simp only at e
      simp only [impl_MakeCert.f]
      rw [hpf k (by simp; omega), if_pos c]
      simp only [bs, if_true]
      rw [e]
      simp only [bs]
      rw [hx]
    by_cases d : MC f a b
    · obtain ⟨_, _, hn, hp⟩ := d
      obtain ⟨K2, h2⟩ := iloop_ev (md f) (gn f) (tw f) (by omega) hm.2 a b (np a b) pa.2.2.1 pb.2.2.1 la lb hn hp (np a b) 0 (by omega)
      refine ⟨K1 + K2 + 1048600, fun k hk => ?_⟩
      obtain ⟨k, rfl⟩ : ∃ m, k = m + 1 := ⟨k - 1, by omega⟩
      show impl_MakeCert.f (k + 1) f a b = some (mc f a b)
      rw [key (k + 1) (by omega), if_neg (by omega)]
      simp only [impl_MakeCert.j0]
      rw [if_neg (by simp; omega)]
      unfold mc
      rw [if_pos ⟨pa, pb, hn, hp⟩]
      exact h2 k (by omega)
    · refine ⟨K1 + 1048600, fun k hk => ?_⟩
      obtain ⟨k, rfl⟩ : ∃ m, k = m + 1 := ⟨k - 1, by omega⟩
      show impl_MakeCert.f (k + 1) f a b = some (mc f a b)
      unfold mc
      rw [key (k + 1) (by omega), if_neg d]
      by_cases c2 : (np a b : Int) > 40
      · rw [if_pos c2]
        simp only [impl_MakeCert.j0, if_true]
      · rw [if_neg c2, decide_eq_true (show (np a b : Int) > md f from Decidable.byContradiction fun h => d ⟨pa, pb, by omega, by omega⟩)]
        simp only [impl_MakeCert.j0, if_true]
  · refine ⟨1048590, fun k hk => ?_⟩
    simp only [impl_MakeCert.f]
    rw [hpf k (by simp; omega), if_neg c]
    simp only [bs]
    rw [if_neg (by decide)]
    unfold mc
    rw [if_neg]
    rintro ⟨⟨hp, qa⟩, ⟨_, qb⟩, _⟩
    apply c
    refine ⟨hp, fun l hl => ?_⟩
    simp only [List.mem_cons, List.not_mem_nil, or_false] at hl
    rcases hl with rfl | rfl
    · exact qa
    · exact qb
theorem mc_len (f : Int) (a b : List Int) : (mc f a b).1.length ≤ 40 ∧ (mc f a b).2.1.length ≤ 40 ∧ (mc f a b).2.2.1.length ≤ 40 := by
  unfold mc
  by_cases c : MC f a b
  · rw [if_pos c]
    simp only [evL, List.length_map, pl_length]
    exact ⟨c.2.2.1, c.2.2.1, c.2.2.1⟩
  · rw [if_neg c]
    simp
theorem eqCert_self (x y z : List Int) (hx : x.length ≤ 40) (hy : y.length ≤ 40) (hz : z.length ≤ 40) (k : Nat) (hk : 40 < k) : laws_eqCert.f k x y z x y z = some true := by
  simp only [laws_eqCert.f, eqIntS_self x (by omega) k (by omega), eqIntS_self y (by omega) k (by omega), eqIntS_self z (by omega) k (by omega), bs, if_true]
theorem markCert_f (x y z : List Int) (hx : x.length ≤ 40) (hy : y.length ≤ 40) (hz : z.length ≤ 40) (k : Nat) (hk : 40 < k) :
    laws_markCert.f k x y z 1 = some ((1 : Int) + (x.length : Int) + (y.length : Int) + (z.length : Int), markI 1 x.length, markI (1 + x.length) y.length, markI (1 + x.length + y.length) z.length) := by
  simp only [laws_markCert.f]
  rw [markI_f x 1 (by omega) (by omega) (by omega) k (by omega)]
  simp only [bs]
  rw [markI_f y _ (by omega) (by omega) (by omega) k (by omega)]
  simp only [bs]
  rw [markI_f z _ (by omega) (by omega) (by omega) k (by omega)]
  simp only [bs]
theorem heldCert_f (x y z : Nat) (hx : x ≤ 40) (hy : y ≤ 40) (hz : z ≤ 40) (k : Nat) (hk : 40 < k) :
    laws_heldCert.f k (markI 1 x) (markI (1 + x) y) (markI (1 + x + y) z) 1 = some ((1 : Int) + (x : Int) + (y : Int) + (z : Int)) := by
  simp only [laws_heldCert.f]
  rw [heldI_f 1 x (by omega) (by omega) (by omega) k (by omega)]
  simp only [bs]
  rw [if_neg (by omega), heldI_f _ y (by omega) (by omega) (by omega) k (by omega)]
  simp only [bs]
  rw [if_neg (by omega), heldI_f _ z (by omega) (by omega) (by omega) k (by omega)]
  simp only [bs]
  rw [if_neg (by omega)]
theorem FnExactMakeCert : laws_FnExactMakeCert.Pure := by
  intro f a b _ _ _ _ _ _ _
  by_cases ca : (a.length : Int) > 1048576
  · exact ⟨0, by unfold laws_FnExactMakeCert.f; rw [if_pos ca]⟩
  by_cases cb : (b.length : Int) > 1048576
  · exact ⟨0, by unfold laws_FnExactMakeCert.f; rw [if_neg ca, if_pos cb]⟩
  obtain ⟨K1, h1⟩ := spec_ev f a b (by omega) (by omega)
  obtain ⟨K2, h2⟩ := impl_ev f a b (by omega) (by omega)
  obtain ⟨l1, l2, l3⟩ := mc_len f a b
  generalize mc f a b = r at h1 h2 l1 l2 l3
  obtain ⟨x, y, z, ok⟩ := r
  simp only at l1 l2 l3
  obtain ⟨K, hK⟩ : ∃ K, K = K1 + K2 + 1048700 := ⟨_, rfl⟩
  have E1 : ∀ k, K ≤ k → spec_MakeCert.f k f a b = some (x, y, z, ok) := fun k hk => h1 k (by omega)
  have E2 : ∀ k, K ≤ k → impl_MakeCert.f k f a b = some (x, y, z, ok) := fun k hk => h2 k (by omega)
  have Ta : ∀ k, K ≤ k → laws_toIntS.f k a = some a := fun k hk => toIntS_f a (by omega) k (by omega)
  have Tb : ∀ k, K ≤ k → laws_toIntS.f k b = some b := fun k hk => toIntS_f b (by omega) k (by omega)
  have Qa : ∀ k, K ≤ k → laws_eqIntS.f k a a = some true := fun k hk => eqIntS_self a (by omega) k (by omega)
  have Qb : ∀ k, K ≤ k → laws_eqIntS.f k b b = some true := fun k hk => eqIntS_self b (by omega) k (by omega)
  have C : ∀ k, K ≤ k → laws_eqCert.f k x y z x y z = some true := fun k hk => eqCert_self x y z l1 l2 l3 k (by omega)
  have M : ∀ k, K ≤ k → laws_markCert.f k x y z 1 = _ := fun k hk => markCert_f x y z l1 l2 l3 k (by omega)
  have H : ∀ k, K ≤ k → laws_heldCert.f k (markI 1 x.length) (markI (1 + x.length) y.length) (markI (1 + x.length + y.length) z.length) 1 = _ := fun k hk => heldCert_f x.length y.length z.length l1 l2 l3 k (by omega)
  refine ⟨K + 3, ?_⟩
  unfold laws_FnExactMakeCert.f
  rw [if_neg ca, if_neg cb, Ta _ (by omega)]
  simp only [bs]
  rw [Tb _ (by omega)]
  simp only [bs]
  rw [E1 _ (by omega)]
  simp only [bs]
  rw [E2 _ (by omega)]
  simp only [bs]
  rw [C _ (by omega)]
  simp only [bs, if_true, bne_self_eq_false]
  simp only [laws_FnExactMakeCert.j0]
  rw [if_neg (by decide), Ta _ (by omega)]
  simp only [bs]
  rw [Qa _ (by omega)]
  simp only [bs, if_true]
  rw [Tb _ (by omega)]
  simp only [bs]
  rw [Qb _ (by omega)]
  simp only [bs, if_true]
  rw [markI_f a 1 (by omega) (by omega) (by omega) (K + 2) (by omega)]
  simp only [bs]
  rw [markI_f b _ (by omega) (by omega) (by omega) (K + 2) (by omega)]
  simp only [bs]
  rw [if_neg (by omega), C _ (by omega)]
  simp only [bs, if_true, bne_self_eq_false]
  simp only [laws_FnExactMakeCert.j1]
  rw [if_neg (by decide), M _ (by omega)]
  simp only [bs]
  rw [H _ (by omega)]
  simp only [bs]
  rw [if_neg (by omega), if_pos trivial, Ta _ (by omega)]
  simp only [bs]
  rw [Tb _ (by omega)]
  simp only [bs]
  rw [E2 _ (by omega)]
  simp only [bs]
  rw [C _ (by omega)]
  simp only [bs, if_true, bne_self_eq_false]
  simp only [laws_FnExactMakeCert.j2]
  rw [if_neg (by decide), H _ (by omega)]
  simp only [bs]
  rw [if_neg (by omega), if_pos trivial]

end Go.Proofs.Ytabicblkdgpogaa.Pure
