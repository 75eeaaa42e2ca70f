/- CheckSeries of the program and of the reference answer alike for all arguments. -/
import Derived.Test.YtmdpnhcfllociaaQFnExactCheckSeriesx4
import Derived.Test.YtmdpnhcfllociaaMath
namespace Go.Proofs.Ytmdpnhcfllociaa.Pure
open Go.RowKit Go.Proofs.Ytmdpnhcfllociaa.QFnExactCheckSeries Go.Proofs.YtmdpnhcfllociaaW.PrintWords Go.Proofs.YtmdpnhcfllociaaW.PrintLast Go.Proofs.Ytmdpnhcfllociaa.Lib

theorem toIntS_loop (x0 : List Int) (hn : x0.length ≤ 140737488351232) : ∀ (d k i : Nat) (x3 : List Int), i + d = x0.length → x3.length = x0.length → d < k →
    laws_toIntS.l0 k x0 x3 (i : Int) = some (x3.take i ++ x0.drop i) := by
  intro d
  induction d with
  | zero =>
    intro k i x3 hi h3 hk
    obtain ⟨k, rfl⟩ : ∃ m, k = m + 1 := ⟨k - 1, by omega⟩
    simp only [laws_toIntS.l0]
    rw [if_neg (by omega), List.drop_eq_nil_of_le (by omega), List.take_of_length_le (by omega), List.append_nil]
  | succ d ih =>
    intro k i x3 hi h3 hk
    obtain ⟨k, rfl⟩ : ∃ m, k = m + 1 := ⟨k - 1, by omega⟩
    have hlt : i < x0.length := by omega
    simp only [laws_toIntS.l0]
    rw [if_pos (by omega), if_pos (by omega), if_pos (by omega), rd_at x0 i hlt, wrap_id (x := (i : Int) + 1) (by omega) (by omega), cast_succ,
      ih k (i + 1) _ (by omega) (by simpa using h3) (by omega), drop_cons x0 i hlt]
    simp only [Int.toNat_natCast]
    rw [set_take _ _ _ (by omega), List.append_assoc]
    rfl
theorem toIntS_f (l : List Int) (hn : l.length ≤ 35184372088832) (k : Nat) (hk : l.length < k) : laws_toIntS.f k l = some l := by
  unfold laws_toIntS.f
  rw [if_pos (by omega), if_pos (by omega)]
  have := toIntS_loop l (by omega) l.length k 0 (List.replicate ((l.length : Int) : Int).toNat 0) (by omega) (by simp) hk
  simpa using this
theorem eqIntS_loop (x0 : List Int) (hn : x0.length ≤ 140737488351232) : ∀ (d k i : Nat), i + d = x0.length → d < k → laws_eqIntS.l0 k x0 x0 (i : Int) = some true := by
  intro d
  induction d with
  | zero =>
    intro k i hi hk
    obtain ⟨k, rfl⟩ : ∃ m, k = m + 1 := ⟨k - 1, by omega⟩
    simp only [laws_eqIntS.l0]
    rw [if_neg (by omega)]
  | succ d ih =>
    intro k i hi hk
    obtain ⟨k, rfl⟩ : ∃ m, k = m + 1 := ⟨k - 1, by omega⟩
    simp only [laws_eqIntS.l0, if_true]
    rw [if_pos (by omega), if_pos (by omega), if_pos (by omega), wrap_id (x := (i : Int) + 1) (by omega) (by omega), cast_succ]
    exact ih k (i + 1) (by omega) (by omega)
theorem eqIntS_self (l : List Int) (hn : l.length ≤ 35184372088832) (k : Nat) (hk : l.length < k) : laws_eqIntS.f k l l = some true := by
  unfold laws_eqIntS.f
  rw [if_pos rfl]
  exact eqIntS_loop l (by omega) l.length k 0 (by omega) hk
theorem modulus_f (f : Int) : spec_Modulus.f f = some (md f) := by
  unfold spec_Modulus.f md
  simp only [apply_ite some]
theorem reduce_f (f x : Int) (hp : md f ≠ 0) : spec_Reduce.f f x = some (x % md f) := by
  have h := md_pos hp
  have hr := reduce_int x (md f) (by omega)
  have hx := emod_range x (show 0 < md f by omega)
  unfold spec_Reduce.f
  rw [modulus_f]
  simp only [bs]
  rw [if_neg hp]
  by_cases c : Int.tmod x (md f) < 0
  · rw [if_pos c] at hr ⊢
    rw [hr, wrap_id (by omega) (by omega)]
  · rw [if_neg c] at hr ⊢
    rw [hr]
theorem add_f (f x y : Int) (hp : md f ≠ 0) : spec_Add.f f x y = some ((x + y) % md f) := by
  have h := md_pos hp
  have hx := emod_range x (show 0 < md f by omega)
  have hy := emod_range y (show 0 < md f by omega)
  unfold spec_Add.f
  simp only [modulus_f, bs]
  rw [if_neg hp]
  simp only [reduce_f f _ hp, bs]
  rw [wrap_id (by omega) (by omega), ← Int.add_emod]
theorem mul_f (f x y : Int) (hp : md f ≠ 0) : spec_Mul.f f x y = some ((x * y) % md f) := by
  have h := md_pos hp
  have hx := emod_range x (show 0 < md f by omega)
  have hy := emod_range y (show 0 < md f by omega)
  have hm := prod_range h.2 hx hy
  unfold spec_Mul.f
  simp only [modulus_f, bs]
  rw [if_neg hp]
  simp only [reduce_f f _ hp, bs]
  rw [wrap_id (by omega) (by omega), ← Int.mul_emod]
theorem in_f (x a b : Int) : spec_l01In.f x a b = some (decide (a ≤ x ∧ x ≤ b)) := by
  unfold spec_l01In.f
  by_cases c : a ≤ x
  · rw [if_pos c]; simp [c]
  · rw [if_neg c]; simp [c]
theorem elements_f (f : Int) (l : List Int) (hn : l.length ≤ 2000000) (k : Nat) (hk : l.length < k) : spec_l03Elements.f k f l = some (decide (md f ≠ 0 ∧ El (md f) l)) := by
  unfold spec_l03Elements.f
  simp only [modulus_f, bs]
  by_cases hp : md f = 0
  · rw [if_pos hp, decide_eq_false (fun h => h.1 hp)]
  · rw [if_neg hp]
    have hq := md_pos hp
    have key := loop_list (fun k (_ : Unit) i => spec_l03Elements.l0 k l (md f) i) l 0 (fun _ _ => True) (fun r _ => decide (El (md f) r)) (by
      intro k s _ _
      simp only [spec_l03Elements.l0]
      rw [if_neg (by omega), decide_eq_true (El.nil _)]) (by
      intro k i s h _ _
      simp only [spec_l03Elements.l0]
      rw [if_pos (by omega), if_pos (by omega), rd_at l i h, wrap_id (x := md f - 1) (by omega) (by omega), in_f]
      simp only [bs]
      by_cases c : 0 ≤ l[i] ∧ l[i] ≤ md f - 1
      · left
        refine ⟨(), ?_, trivial, ?_⟩
        · rw [if_pos (by simpa using c), wrap_next h (by omega)]
        · apply decide_eq_decide.mpr
          constructor
          · intro hh x hx
            exact hh x (List.mem_cons_of_mem _ hx)
          · intro hh x hx
            rcases List.mem_cons.1 hx with rfl | hx
            · omega
            · exact hh x hx
      · right
        rw [if_neg (by simpa using c)]
        rw [decide_eq_false]
        intro hh
        have := hh l[i] List.mem_cons_self
        omega) k () (by omega) trivial
    rw [key]
    congr 1
    exact decide_eq_decide.mpr ⟨fun h => ⟨hp, h⟩, fun h => h.2⟩
theorem fieldOf_f (f : Int) : impl_fieldOf.f f = some (md f, gn f, tw f, decide (md f ≠ 0)) := by
  by_cases c : 0 ≤ f ∧ f ≤ 8
  · rcases nine c.1 c.2 with rfl | rfl | rfl | rfl | rfl | rfl | rfl | rfl | rfl <;> rfl
  · obtain ⟨h1, h2, h3⟩ := md_out c
    unfold impl_fieldOf.f
    rw [h1, h2, h3]
    by_cases c0 : f < 0
    · rw [if_pos c0]; rfl
    · rw [if_neg c0, if_pos (by omega)]; rfl
theorem areElements_f (p g t : Int) (l : List Int) (hn : l.length ≤ 2000000) (k : Nat) (hk : l.length < k) : impl_field_areElements.f k p g t l = some (decide (El p l)) := by
  unfold impl_field_areElements.f
  exact loop_list (fun k (_ : Unit) i => impl_field_areElements.l0 k l (l.length : Int) i p g t) l 0 (fun _ _ => True) (fun r _ => decide (El p r)) (by
    intro k s _ _
    simp only [impl_field_areElements.l0]
    rw [if_neg (by omega), decide_eq_true (El.nil _)]) (by
    intro k i s h _ _
    simp only [impl_field_areElements.l0]
    rw [if_pos (by omega), if_pos (by omega), if_pos (by omega), rd_at l i h]
    by_cases c : l[i] < 0
    · right
      rw [if_pos c, decide_eq_false]
      intro hh
      have := hh l[i] List.mem_cons_self
      omega
    · by_cases c1 : l[i] ≥ p
      · right
        rw [if_neg c, if_pos c1, decide_eq_false]
        intro hh
        have := hh l[i] List.mem_cons_self
        omega
      · left
        refine ⟨(), ?_, trivial, ?_⟩
        · rw [if_neg c, if_neg c1, wrap_next h (by omega)]
        · apply decide_eq_decide.mpr
          constructor
          · intro hh x hx
            exact hh x (List.mem_cons_of_mem _ hx)
          · intro hh x hx
            rcases List.mem_cons.1 hx with rfl | hx
            · omega
            · exact hh x hx) k () (by omega) trivial
theorem equal_f (a b : List Int) (hn : a.length ≤ 2000000) (k : Nat) (hk : a.length < k) : slices_Equal_int_int.f k a b = some (decide (a = b)) := by
  unfold slices_Equal_int_int.f
  by_cases c : (a.length : Int) = (b.length : Int)
  · rw [if_pos c]
    have key : ∀ (d k i : Nat), i + d = a.length → d < k → slices_Equal_int_int.l0 k a b (a.length : Int) (i : Int) = some (decide (a.drop i = b.drop i)) := by
      intro d
      induction d with
      | zero =>
        intro k i hi hk
        obtain ⟨k, rfl⟩ : ∃ m, k = m + 1 := ⟨k - 1, by omega⟩
        simp only [slices_Equal_int_int.l0]
        rw [if_neg (by omega), List.drop_eq_nil_of_le (by omega), List.drop_eq_nil_of_le (by omega)]
        rfl
      | succ d ih =>
        intro k i hi hk
        obtain ⟨k, rfl⟩ : ∃ m, k = m + 1 := ⟨k - 1, by omega⟩
        simp only [slices_Equal_int_int.l0]
        rw [if_pos (by omega), if_pos (by omega), if_pos (by omega), if_pos (by omega), rd_at a i (by omega), rd_at b i (by omega), drop_cons a i (by omega), drop_cons b i (by omega)]
        by_cases e : a[i] = b[i]
        · rw [if_pos e, wrap_next (show i < a.length by omega) (by omega), ih k (i + 1) (by omega) (by omega)]
          congr 1
          exact decide_eq_decide.mpr ⟨fun h => by rw [e, h], fun h => (List.cons.inj h).2⟩
        · rw [if_neg e, decide_eq_false (fun h => e (List.cons.inj h).1)]
    have := key a.length k 0 (by omega) hk
    simpa using this
  · rw [if_neg c, decide_eq_false (fun h => c (by rw [h]))]
/-- The product of two series, coefficient by coefficient. -/
def cf (p : Int) (a b : List Int) (m : Nat) : Int := (sumN (m + 1) (fun t => L a t * L b (m - t))) % p
def ser (p : Int) (a b : List Int) : List Int := fl a.length (cf p a b)
theorem ser_length (p : Int) (a b : List Int) : (ser p a b).length = a.length := fl_length _ _
/-- Both are series of one length over the field. -/
def Fit (f : Int) (a b : List Int) : Prop := a.length = b.length ∧ 1 ≤ a.length ∧ a.length ≤ 64 ∧ md f ≠ 0 ∧ El (md f) a ∧ El (md f) b
instance (f : Int) (a b : List Int) : Decidable (Fit f a b) := by unfold Fit; exact inferInstance
theorem seriesOk_f (f : Int) (l : List Int) (hn : l.length ≤ 2000000) (k : Nat) (hk : l.length < k) : spec_SeriesOk.f k f l = some (decide (1 ≤ l.length ∧ l.length ≤ 64 ∧ md f ≠ 0 ∧ El (md f) l)) := by
  unfold spec_SeriesOk.f
  simp only [in_f, elements_f f l hn k hk, bs]
  by_cases c : 1 ≤ l.length ∧ l.length ≤ 64
  · rw [if_pos (by simp; omega)]
    congr 1
    exact decide_eq_decide.mpr ⟨fun h => ⟨c.1, c.2, h⟩, fun h => h.2.2⟩
  · rw [if_neg (by simp; omega), decide_eq_false (fun h => c ⟨h.1, h.2.1⟩)]
theorem fit_f (f : Int) (a b : List Int) (ha : a.length ≤ 2000000) (hb : b.length ≤ 2000000) (k : Nat) (hk : a.length < k) (hk2 : b.length < k) : spec_l06Fit.f k f a b = some (decide (Fit f a b)) := by
  unfold spec_l06Fit.f
  by_cases c : a.length = b.length
  · rw [if_pos (by omega)]
    simp only [seriesOk_f f a ha k hk, seriesOk_f f b hb k hk2, bs]
    by_cases d : 1 ≤ a.length ∧ a.length ≤ 64 ∧ md f ≠ 0 ∧ El (md f) a
    · rw [if_pos (by simpa using d)]
      congr 1
      exact decide_eq_decide.mpr ⟨fun h => ⟨c, d.1, d.2.1, d.2.2.1, d.2.2.2, h.2.2.2⟩, fun h => ⟨by omega, by omega, h.2.2.2.1, h.2.2.2.2.2⟩⟩
    · rw [if_neg (by simpa using d), decide_eq_false (fun h => d ⟨h.2.1, h.2.2.1, h.2.2.2.1, h.2.2.2.2.1⟩)]
  · rw [if_neg (by omega), decide_eq_false (fun h => c h.1)]
theorem spec_inner (f : Int) (a b out : List Int) (hf : Fit f a b) (i : Nat) (hi : i < a.length) (hout : out.length = i) (r : List Int) (hr : Ev (fun k => spec_SeriesMul.l0 k f a b (out ++ [cf (md f) a b i]) ((i + 1 : Nat) : Int)) r) :
    ∀ d j : Nat, j + d = i + 1 → Ev (fun k => spec_SeriesMul.l1 k f a b out (i : Int) ((sumN j (fun t => L a t * L b (i - t))) % md f) (j : Int)) r := by
  obtain ⟨h1, h2, h3, hp, hEa, hEb⟩ := hf
  have hq := md_pos hp
  intro d
  induction d with
  | zero =>
    intro j hj
    obtain rfl : j = i + 1 := by omega
    refine Ev.step (f := fun k => spec_SeriesMul.l0 k f a b (out ++ [cf (md f) a b i]) ((i + 1 : Nat) : Int)) (fun k => ?_) hr
    simp only [spec_SeriesMul.l1]
    rw [if_neg (by omega), if_pos (by omega), wrap_next hi (by omega)]
    rfl
  | succ d ih =>
    intro j hj
    have hs := emod_range (sumN j (fun t => L a t * L b (i - t))) (show 0 < md f by omega)
    refine Ev.step (f := fun k => spec_SeriesMul.l1 k f a b out (i : Int) ((sumN (j + 1) (fun t => L a t * L b (i - t))) % md f) ((j + 1 : Nat) : Int)) (fun k => ?_) (ih (j + 1) (by omega))
    simp only [spec_SeriesMul.l1]
    have hw : wrap64 ((i : Int) - (j : Int)) = ((i - j : Nat) : Int) := by rw [wrap_id (by omega) (by omega)]; omega
    rw [if_pos (by omega), if_pos (by omega), if_pos (by omega), hw, if_pos (by omega), if_pos (by omega), rd_L, rd_L, mul_f f _ _ hp]
    simp only [bs]
    rw [add_f f _ _ hp]
    simp only [bs]
    rw [wrap_id (x := (j : Int) + 1) (by omega) (by omega), cast_succ, Int.emod_add_emod, Int.add_emod_emod]
    rfl
theorem spec_outer (f : Int) (a b : List Int) (hf : Fit f a b) : ∀ d i : Nat, i + d = a.length → Ev (fun k => spec_SeriesMul.l0 k f a b (fl i (cf (md f) a b)) (i : Int)) (ser (md f) a b) := by
  have h3 := hf.2.2.1
  intro d
  induction d with
  | zero =>
    intro i hi
    obtain rfl : i = a.length := by omega
    refine Ev.step (f := fun _ => some (ser (md f) a b)) (fun k => ?_) (Ev.now _)
    simp only [spec_SeriesMul.l0]
    rw [if_neg (by omega)]
    rfl
  | succ d ih =>
    intro i hi
    refine Ev.step (f := fun k => spec_SeriesMul.l1 k f a b (fl i (cf (md f) a b)) (i : Int) 0 0) (fun k => ?_) ?_
    · simp only [spec_SeriesMul.l0]
      rw [if_pos (by omega)]
    · have hr := ih (i + 1) (by omega)
      rw [← fl_snoc] at hr
      have := spec_inner f a b _ hf i (by omega) (fl_length _ _) _ hr (i + 1) 0 (by omega)
      simpa [sumN] using this
theorem spec_mul_ev (f : Int) (a b : List Int) (hf : Fit f a b) : Ev (fun k => spec_SeriesMul.f k f a b) (ser (md f) a b) := by
  obtain ⟨K, hK⟩ := spec_outer f a b hf a.length 0 (by omega)
  have h1 := hf.1
  have h3 := hf.2.2.1
  refine ⟨K + 100, fun k hk => ?_⟩
  simp only [spec_SeriesMul.f]
  rw [fit_f f a b (by omega) (by omega) k (by omega) (by omega)]
  simp only [bs]
  rw [if_pos (by simpa using hf)]
  exact hK k (by omega)
open Classical in
/-- The reference's last test: the first is 1, the others 0. -/
theorem spec_test (l : List Int) (hn : l.length ≤ 2000000) (h1 : 1 ≤ l.length) (k : Nat) (hk : l.length < k) : spec_CheckSeries.l0 k l 0 = some (decide (l = (List.replicate l.length (0 : Int)).set 0 1)) := by
  have key : ∀ (d k i : Nat), i + d = l.length → d < k → spec_CheckSeries.l0 k l (i : Int) = some (decide (∀ m, i ≤ m → m < l.length → L l m = if m = 0 then 1 else 0)) := by
    intro d
    induction d with
    | zero =>
      intro k i hi hk
      obtain ⟨k, rfl⟩ : ∃ m, k = m + 1 := ⟨k - 1, by omega⟩
      simp only [spec_CheckSeries.l0]
      rw [if_neg (by omega), decide_eq_true (fun m h1 h2 => by omega)]
    | succ d ih =>
      intro k i hi hk
      obtain ⟨k, rfl⟩ : ∃ m, k = m + 1 := ⟨k - 1, by omega⟩
      simp only [spec_CheckSeries.l0]
      rw [if_pos (by omega), rd_L, wrap_next (show i < l.length by omega) (by omega), ih k (i + 1) (by omega) (by omega)]
      have split : (∀ m, i ≤ m → m < l.length → L l m = if m = 0 then 1 else 0) ↔ (L l i = if i = 0 then 1 else 0) ∧ (∀ m, i + 1 ≤ m → m < l.length → L l m = if m = 0 then 1 else 0) := by
        constructor
        · intro h
          exact ⟨h i (by omega) (by omega), fun m h1 h2 => h m (by omega) h2⟩
        · intro h m h1 h2
          by_cases e : m = i
          · subst e; exact h.1
          · exact h.2 m (by omega) h2
      by_cases z : i = 0
      · subst z
        rw [if_pos (show ((0 : Nat) : Int) = 0 from rfl), if_pos (show (0 : Int) ≤ ((0 : Nat) : Int) by omega)]
        by_cases e : L l 0 = 1
        · rw [if_pos e, if_neg (show ¬ ((0 : Nat) : Int) > 0 by omega)]
          congr 1
          exact decide_eq_decide.mpr ⟨fun h => split.2 ⟨by simpa using e, h⟩, fun h => (split.1 h).2⟩
        · rw [if_neg e, decide_eq_false (fun h => e (by simpa using (split.1 h).1))]
      · rw [if_neg (show ¬ (i : Int) = 0 by omega), if_pos (show (i : Int) > 0 by omega), if_pos (show 0 ≤ (i : Int) by omega)]
        by_cases e : L l i = 0
        · rw [if_pos e]
          congr 1
          exact decide_eq_decide.mpr ⟨fun h => split.2 ⟨by rw [if_neg z]; exact e, h⟩, fun h => (split.1 h).2⟩
        · rw [if_neg e, decide_eq_false (fun h => e (by have h1 := (split.1 h).1; rwa [if_neg z] at h1))]
  have h0 := key l.length k 0 (by omega) hk
  rw [show ((0 : Nat) : Int) = 0 from rfl] at h0
  rw [h0]
  congr 1
  apply decide_eq_decide.mpr
  rw [fl_zero, fl_set]
  constructor
  · intro h
    apply list_ext
    · rw [fl_length]
    · intro i hi
      rw [h i (by omega) hi, L_fl _ _ _ hi]
  · intro h m _ hm
    rw [h, L_fl _ _ _ hm]
theorem spec_check_ev (f : Int) (a b : List Int) (ha : a.length ≤ 2000000) (hb : b.length ≤ 2000000) : Ev (fun k => spec_CheckSeries.f k f a b) (decide (Fit f a b ∧ ser (md f) a b = (List.replicate a.length (0 : Int)).set 0 1)) := by
  by_cases hf : Fit f a b
  · obtain ⟨K, hK⟩ := spec_mul_ev f a b hf
    have h2 := hf.2.1
    refine ⟨K + a.length + b.length + 1, fun k hk => ?_⟩
    simp only [spec_CheckSeries.f]
    rw [fit_f f a b ha hb k (by omega) (by omega)]
    simp only [bs]
    have e := hK k (by omega)
    simp only at e
    rw [if_pos (by simpa using hf), e]
    simp only [bs]
    rw [spec_test _ (by rw [ser_length]; omega) (by rw [ser_length]; omega) k (by rw [ser_length]; omega), ser_length]
    congr 1
    exact decide_eq_decide.mpr ⟨fun h => ⟨hf, h⟩, fun h => h.2⟩
  · refine ⟨a.length + b.length + 1, fun k hk => ?_⟩
    simp only [spec_CheckSeries.f]
    rw [fit_f f a b ha hb k (by omega) (by omega)]
    simp only [bs]
    rw [if_neg (by simpa using hf), decide_eq_false (fun h => hf h.1)]
theorem field2_f (f : Int) (a b : List Int) (ha : a.length ≤ 2000000) (hb : b.length ≤ 2000000) (k : Nat) (hk : a.length + b.length + 4 < k) :
    impl_seriesField.f k f [a, b] = some (if Fit f a b then (md f, gn f, tw f, true) else (0, 0, 0, false)) := by
  obtain ⟨k, rfl⟩ : ∃ m, k = m + 3 := ⟨k - 3, by omega⟩
  unfold impl_seriesField.f
  rw [fieldOf_f]
  simp only [bs]
  by_cases hp : md f = 0
  · rw [if_neg (by simpa using hp), if_neg (fun h => h.2.2.2.1 hp)]
  · rw [if_pos (by simpa using hp)]
    have r0 : rd_L2 [a, b] 0 = a := rfl
    have r1 : rd_L2 [a, b] 1 = b := rfl
    have w1 : wrap64 (0 + 1) = 1 := wrap_id (by omega) (by omega)
    have w2 : wrap64 (1 + 1) = 2 := wrap_id (by omega) (by omega)
    simp only [impl_seriesField.l0, List.length_cons, List.length_nil, r0, w1, w2, r1, if_true]
    rw [if_pos (by decide), if_pos (by decide), if_pos (by decide)]
    by_cases c1 : (a.length : Int) < 1
    · rw [if_pos c1, if_neg (fun h => by have := h.2.1; omega)]
    · rw [if_neg c1]
      by_cases c2 : (a.length : Int) > 64
      · rw [if_pos c2, if_neg (fun h => by have := h.2.2.1; omega)]
      · rw [if_neg c2, areElements_f _ _ _ a ha _ (by omega)]
        simp only [bs]
        by_cases ea : El (md f) a
        · rw [if_pos (by simpa using ea), if_pos (by decide), if_pos (by decide), if_pos (by decide), if_pos (by decide)]
          by_cases d1 : (b.length : Int) < 1
          · rw [if_pos d1, if_neg (fun h => by have := h.1; omega)]
          · rw [if_neg d1]
            by_cases d2 : (b.length : Int) > 64
            · rw [if_pos d2, if_neg (fun h => by have := h.1; omega)]
            · rw [if_neg d2, areElements_f _ _ _ b hb _ (by omega)]
              simp only [bs]
              by_cases eb : El (md f) b
              · rw [if_pos (by simpa using eb), if_pos (by decide)]
                by_cases hl : (b.length : Int) = (a.length : Int)
                · rw [if_pos hl, if_neg (by decide), if_pos ⟨by omega, by omega, by omega, hp, ea, eb⟩]
                · rw [if_neg hl, if_neg (fun h => by have := h.1; omega)]
              · rw [if_neg (by simpa using eb), if_neg (fun h => eb h.2.2.2.2.2)]
        · rw [if_neg (by simpa using ea), if_neg (fun h => ea h.2.2.2.2.1)]
/-- The program's product of two series, by rounds. -/
def im (p : Int) (a b : List Int) (i j m : Nat) : Int := (sumN (if i ≤ m ∧ m < i + j then i + 1 else if m < i then m + 1 else i) (fun t => L a t * L b (m - t))) % p
theorem impl_inner (f : Int) (a b : List Int) (hf : Fit f a b) (i : Nat) (hi : i < a.length) (r : List Int)
    (hr : Ev (fun k => impl_field_seriesMul.l0 k a b (fl a.length (im (md f) a b (i + 1) 0)) a (a.length : Int) ((i + 1 : Nat) : Int) (md f) (gn f) (tw f)) r) :
    ∀ d j : Nat, i + j + d = a.length → Ev (fun k => impl_field_seriesMul.l1 k a b (fl a.length (im (md f) a b i j)) (i : Int) (L a i) (j : Int) a (a.length : Int) (i : Int) (md f) (gn f) (tw f)) r := by
  obtain ⟨h1, h2, h3, hp, hEa, hEb⟩ := hf
  have hq := md_pos hp
  intro d
  induction d with
  | zero =>
    intro j hj
    refine Ev.step (f := fun k => impl_field_seriesMul.l0 k a b (fl a.length (im (md f) a b (i + 1) 0)) a (a.length : Int) ((i + 1 : Nat) : Int) (md f) (gn f) (tw f)) (fun k => ?_) hr
    simp only [impl_field_seriesMul.l1]
    rw [wrap_id (x := (i : Int) + (j : Int)) (by omega) (by omega), if_neg (by omega), wrap_next hi (by omega)]
    have e : fl a.length (im (md f) a b i j) = fl a.length (im (md f) a b (i + 1) 0) := by
      apply fl_congr
      intro m hm
      unfold im
      by_cases c : i ≤ m
      · by_cases c2 : m = i
        · subst c2
          rw [if_pos ⟨by omega, by omega⟩, if_neg (by omega), if_pos (by omega)]
        · rw [if_pos ⟨by omega, by omega⟩, if_neg (by omega), if_neg (by omega)]
      · rw [if_neg (by omega), if_pos (by omega), if_neg (by omega), if_pos (by omega)]
    rw [e]
  | succ d ih =>
    intro j hj
    refine Ev.step (f := fun k => impl_field_seriesMul.l1 k a b (fl a.length (im (md f) a b i (j + 1))) (i : Int) (L a i) ((j + 1 : Nat) : Int) a (a.length : Int) (i : Int) (md f) (gn f) (tw f)) (fun k => ?_) (ih (j + 1) (by omega))
    have hw : wrap64 ((i : Int) + (j : Int)) = ((i + j : Nat) : Int) := by rw [wrap_id (by omega) (by omega)]; rfl
    have ha := L_el (show 0 < md f by omega) hEa i
    have hb := L_el (show 0 < md f by omega) hEb j
    have hm := prod_range hq.2 ha hb
    have hs := emod_range (sumN (if i ≤ i + j ∧ i + j < i + j then i + 1 else if i + j < i then i + j + 1 else i) (fun t => L a t * L b (i + j - t))) (show 0 < md f by omega)
    simp only [impl_field_seriesMul.l1]
    rw [hw, if_pos (by omega), if_pos (by omega), if_pos (by rw [fl_length]; omega), if_pos (by omega), if_pos (by omega), if_neg hp, rd_L, rd_L, L_fl _ _ _ (by omega)]
    rw [wrap_id (x := L a i * L b j) (by omega) (by omega)]
    unfold im at hs ⊢
    rw [wrap_id (by omega) (by omega), tmod_nonneg' _ (by omega), Int.emod_add_emod, wrap_next (show j < a.length by omega) (by omega), fl_set]
    have e : fl a.length (fun m => if m = ((i + j : Nat) : Int).toNat then (sumN (if i ≤ i + j ∧ i + j < i + j then i + 1 else if i + j < i then i + j + 1 else i) (fun t => L a t * L b (i + j - t)) + L a i * L b j) % md f
        else (sumN (if i ≤ m ∧ m < i + j then i + 1 else if m < i then m + 1 else i) (fun t => L a t * L b (m - t))) % md f)
        = fl a.length (fun m => (sumN (if i ≤ m ∧ m < i + (j + 1) then i + 1 else if m < i then m + 1 else i) (fun t => L a t * L b (m - t))) % md f) := by
      apply fl_congr
      intro m hm
      by_cases c : m = i + j
      · subst c
        rw [if_pos (by omega), if_neg (by omega), if_neg (by omega), if_pos ⟨by omega, by omega⟩]
        simp only [sumN]
        rw [show i + j - i = j by omega]
      · rw [if_neg (by omega)]
        by_cases c2 : i ≤ m ∧ m < i + j
        · rw [if_pos c2, if_pos ⟨by omega, by omega⟩]
        · rw [if_neg c2, if_neg (show ¬ (i ≤ m ∧ m < i + (j + 1)) by omega)]
    rw [e]
theorem impl_outer (f : Int) (a b : List Int) (hf : Fit f a b) : ∀ d i : Nat, i + d = a.length → Ev (fun k => impl_field_seriesMul.l0 k a b (fl a.length (im (md f) a b i 0)) a (a.length : Int) (i : Int) (md f) (gn f) (tw f)) (ser (md f) a b) := by
  have h3 := hf.2.2.1
  intro d
  induction d with
  | zero =>
    intro i hi
    obtain rfl : i = a.length := by omega
    refine Ev.step (f := fun _ => some (ser (md f) a b)) (fun k => ?_) (Ev.now _)
    simp only [impl_field_seriesMul.l0]
    rw [if_neg (by omega)]
    congr 1
    apply fl_congr
    intro m hm
    unfold im cf
    rw [if_neg (by omega), if_pos (by omega)]
  | succ d ih =>
    intro i hi
    refine Ev.step (f := fun k => impl_field_seriesMul.l1 k a b (fl a.length (im (md f) a b i 0)) (i : Int) (L a i) 0 a (a.length : Int) (i : Int) (md f) (gn f) (tw f)) (fun k => ?_) ?_
    · simp only [impl_field_seriesMul.l0]
      rw [if_pos (by omega), if_pos (by omega), if_pos (by omega), rd_L]
    · exact impl_inner f a b hf i (by omega) _ (ih (i + 1) (by omega)) (a.length - i) 0 (by omega)
theorem impl_mul_ev (f : Int) (a b : List Int) (hf : Fit f a b) : Ev (fun k => impl_field_seriesMul.f k (md f) (gn f) (tw f) a b) (ser (md f) a b) := by
  have h3 := hf.2.2.1
  obtain ⟨K, hK⟩ := impl_outer f a b hf a.length 0 (by omega)
  refine ⟨K, fun k hk => ?_⟩
  simp only [impl_field_seriesMul.f]
  rw [if_pos (by omega), if_pos (by omega)]
  have e : List.replicate ((a.length : Int) : Int).toNat (0 : Int) = fl a.length (im (md f) a b 0 0) := by
    rw [Int.toNat_natCast, fl_zero]
    apply fl_congr
    intro m _
    unfold im
    rw [if_neg (by omega), if_neg (by omega)]
    simp [sumN]
  rw [e]
  exact hK k hk
theorem impl_check_ev (f : Int) (a b : List Int) (ha : a.length ≤ 2000000) (hb : b.length ≤ 2000000) : Ev (fun k => impl_CheckSeries.f k f a b) (decide (Fit f a b ∧ ser (md f) a b = (List.replicate a.length (0 : Int)).set 0 1)) := by
  by_cases hf : Fit f a b
  · obtain ⟨K, hK⟩ := impl_mul_ev f a b hf
    have h2 := hf.2.1
    refine ⟨K + a.length + b.length + 5, fun k hk => ?_⟩
    simp only [impl_CheckSeries.f]
    rw [field2_f f a b ha hb k (by omega), if_pos hf]
    simp only [bs, if_true]
    have e := hK k (by omega)
    simp only at e
    rw [if_pos (by omega), if_pos (by omega), if_pos (by rw [List.length_replicate]; omega), e]
    simp only [bs]
    rw [equal_f _ _ (by rw [ser_length]; omega) k (by rw [ser_length]; omega)]
    simp only [bs, Int.toNat_natCast]
    congr 1
    exact decide_eq_decide.mpr ⟨fun h => ⟨hf, h⟩, fun h => h.2⟩
  · refine ⟨a.length + b.length + 5, fun k hk => ?_⟩
    simp only [impl_CheckSeries.f]
    rw [field2_f f a b ha hb k (by omega), if_neg hf]
    simp only [bs]
    rw [if_neg (by decide), decide_eq_false (fun h => hf h.1)]
theorem FnExactCheckSeries : laws_FnExactCheckSeries.Pure := by
  intro f a b _ ha0 ha1 _ hb0 hb1 _
  by_cases ca : (a.length : Int) > 1048576
  · refine ⟨0, ?_⟩
    unfold laws_FnExactCheckSeries.f
    rw [if_pos ca]
  · by_cases cb : (b.length : Int) > 1048576
    · refine ⟨0, ?_⟩
      unfold laws_FnExactCheckSeries.f
      rw [if_neg ca, if_pos cb]
    · obtain ⟨K1, h1⟩ := spec_check_ev f a b (by omega) (by omega)
      obtain ⟨K2, h2⟩ := impl_check_ev f a b (by omega) (by omega)
      refine ⟨K1 + K2 + a.length + b.length + 5, ?_⟩
      have e1 := h1 (K1 + K2 + a.length + b.length + 5) (by omega)
      have e2 := h2 (K1 + K2 + a.length + b.length + 5) (by omega)
      simp only at e1 e2
      unfold laws_FnExactCheckSeries.f
      rw [if_neg ca, if_neg cb]
      simp only [toIntS_f a (by omega) _ (show a.length < K1 + K2 + a.length + b.length + 5 by omega), toIntS_f b (by omega) _ (show b.length < K1 + K2 + a.length + b.length + 5 by omega), bs, e1, e2,
        eqIntS_self a (by omega) _ (show a.length < K1 + K2 + a.length + b.length + 5 by omega), eqIntS_self b (by omega) _ (show b.length < K1 + K2 + a.length + b.length + 5 by omega), if_true, bne_self_eq_false, Bool.false_eq_true, if_false]

end Go.Proofs.Ytmdpnhcfllociaa.Pure
