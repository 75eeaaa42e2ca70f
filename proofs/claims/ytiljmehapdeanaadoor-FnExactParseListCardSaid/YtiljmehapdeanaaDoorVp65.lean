/- A number read back from its text, by the reference. -/
import Derived.Test.YtiljmehapdeanaaDoorVp64
namespace Go.Vm.Pu
open Go Go.RowKit Go.Vm
set_option linter.unusedVariables false
set_option linter.unusedSimpArgs false
def isDg (b : UInt8) : Prop := 48 ≤ b.toNat ∧ b.toNat ≤ 57
instance (b : UInt8) : Decidable (isDg b) := inferInstanceAs (Decidable (_ ∧ _))
def valF (v : Nat) (l : List UInt8) : Nat := l.foldl (fun v b => 10 * v + (b.toNat - 48)) v
def short (x : Int) : Prop := -10000000000000 < x ∧ x < 10000000000000
theorem dgt_nat (u : Nat) (h : u < 10) : (dgt u).toNat = 48 + u := by
  unfold dgt
  rw [UInt8.toNat_ofNat']
  exact Nat.mod_eq_of_lt (by omega)
theorem dgt_dg (u : Nat) (h : u < 10) : isDg (dgt u) := by
  unfold isDg
  rw [dgt_nat u h]
  omega
theorem valF_app (v : Nat) (a b : List UInt8) : valF v (a ++ b) = valF (valF v a) b := List.foldl_append ..
theorem dec_all : ∀ (n u : Nat), u ≤ n → (∀ b ∈ Lib.decDigits u, isDg b) ∧ valF 0 (Lib.decDigits u) = u ∧ 1 ≤ (Lib.decDigits u).length := by
  intro n
  induction n with
  | zero =>
    intro u hu
    obtain rfl : u = 0 := by omega
    rw [Lib.decDigits_one (by decide)]
    exact ⟨by decide, rfl, by simp⟩
  | succ n ih =>
    intro u hu
    by_cases h0 : u = 0
    · exact ih u (by omega)
    · rw [decDigits_step u h0]
      have hm : u % 10 < 10 := Nat.mod_lt _ (by decide)
      by_cases c : u / 10 = 0
      · rw [if_pos c]
        refine ⟨fun b hb => ?_, ?_, by simp⟩
        · obtain rfl : b = dgt (u % 10) := by simpa using hb
          exact dgt_dg _ hm
        · show 10 * 0 + ((dgt (u % 10)).toNat - 48) = u
          rw [dgt_nat _ hm]
          omega
      · rw [if_neg c]
        obtain ⟨g1, g2, g3⟩ := ih (u / 10) (by omega)
        refine ⟨fun b hb => ?_, ?_, by simp⟩
        · rcases List.mem_append.1 hb with h | h
          · exact g1 b h
          · obtain rfl : b = dgt (u % 10) := by simpa using h
            exact dgt_dg _ hm
        · rw [valF_app, g2]
          show 10 * (u / 10) + ((dgt (u % 10)).toNat - 48) = u
          rw [dgt_nat _ hm]
          omega
theorem dec_dg (u : Nat) : ∀ b ∈ Lib.decDigits u, isDg b := (dec_all u u (Nat.le_refl _)).1
theorem dec_val (u : Nat) : valF 0 (Lib.decDigits u) = u := (dec_all u u (Nat.le_refl _)).2.1
theorem dec_pos (u : Nat) : 1 ≤ (Lib.decDigits u).length := (dec_all u u (Nat.le_refl _)).2.2
theorem dec_len : ∀ (d u : Nat), 1 ≤ d → u < 10 ^ d → (Lib.decDigits u).length ≤ d := by
  intro d
  induction d with
  | zero => intro u h; omega
  | succ d ih =>
    intro u _ hu
    by_cases h0 : u < 10
    · rw [Lib.decDigits_one h0]; simp
    · rw [decDigits_step u (by omega), if_neg (by omega)]
      have hd : 1 ≤ d := by
        rcases Nat.eq_zero_or_pos d with h | h
        · subst h; exact absurd hu (by omega)
        · exact h
      rw [Nat.pow_succ] at hu
      have := ih (u / 10) hd ((Nat.div_lt_iff_lt_mul (by decide)).2 hu)
      simp
      omega
theorem valF_lt : ∀ (l : List UInt8) (v n : Nat), (∀ b ∈ l, isDg b) → v < 10 ^ n → valF v l < 10 ^ (n + l.length)
  | [], v, n, _, h => h
  | b :: l, v, n, hl, h => by
    have hb := hl b (by simp)
    unfold isDg at hb
    have := valF_lt l (10 * v + (b.toNat - 48)) (n + 1) (fun x hx => hl x (by simp [hx])) (by rw [Nat.pow_succ]; omega)
    rw [List.length_cons, show n + (l.length + 1) = n + 1 + l.length by omega]
    exact this
/-- What stands behind the sign. -/
def body (w : List UInt8) : List UInt8 := match w with
  | [] => []
  | b :: r => if b = 45 then r else b :: r
theorem itoa_neg (x : Int) (h : x < 0) : Lib.itoa x = 45 :: Lib.decDigits x.natAbs := by unfold Lib.itoa; rw [if_pos h]
theorem itoa_nn (x : Int) (h : ¬ x < 0) : Lib.itoa x = Lib.decDigits x.natAbs := by unfold Lib.itoa; rw [if_neg h, show x.natAbs = x.toNat by omega]
theorem dec_head (u : Nat) : body (Lib.decDigits u) = Lib.decDigits u := by
  have h := dec_dg u
  cases e : Lib.decDigits u with
  | nil => rfl
  | cons b r =>
    rw [e] at h
    have := h b (by simp)
    unfold isDg at this
    show (if b = 45 then r else b :: r) = b :: r
    rw [if_neg (fun g => by subst g; revert this; decide)]
theorem body_itoa (x : Int) : body (Lib.itoa x) = Lib.decDigits x.natAbs := by
  by_cases h : x < 0
  · rw [itoa_neg x h]; rfl
  · rw [itoa_nn x h, dec_head]
theorem body_lt (x : Int) : (body (Lib.itoa x)).length < (Lib.itoa x).length ↔ x < 0 := by
  rw [body_itoa]
  by_cases h : x < 0
  · rw [itoa_neg x h]; simp [h]
  · rw [itoa_nn x h]; simp; omega
theorem itoa_inj {x y : Int} (h : Lib.itoa x = Lib.itoa y) : x = y := by
  have h1 := body_itoa x
  have h2 := body_itoa y
  rw [h, h2] at h1
  have h3 : x.natAbs = y.natAbs := by rw [← dec_val x.natAbs, ← dec_val y.natAbs, h1]
  have h4 := body_lt x
  have h5 := body_lt y
  rw [h] at h4
  have h6 : x < 0 ↔ y < 0 := h4.symm.trans h5
  omega
theorem short_len {x : Int} (h : short x) : (Lib.decDigits x.natAbs).length ≤ 13 := by
  unfold short at h
  exact dec_len 13 _ (by decide) (by show x.natAbs < 10000000000000; omega)
theorem short_itoa {x : Int} (h : short x) : (Lib.itoa x).length ≤ 14 := by
  have := short_len h
  by_cases c : x < 0
  · rw [itoa_neg x c]; simp; omega
  · rw [itoa_nn x c]; omega
theorem itoa_short {x : Int} (h : (body (Lib.itoa x)).length ≤ 13) : short x := by
  rw [body_itoa] at h
  have h1 := valF_lt (Lib.decDigits x.natAbs) 0 0 (dec_dg _) (by decide)
  rw [dec_val] at h1
  have h2 : 10 ^ (0 + (Lib.decDigits x.natAbs).length) ≤ 10 ^ 13 := Nat.pow_le_pow_right (by decide) (by omega)
  unfold short
  have h3 : x.natAbs < 10000000000000 := Nat.lt_of_lt_of_le h1 h2
  omega
theorem number_loop (K : Nat) (hK : 30 ≤ K) (w ds : List UInt8) (hd : ds.length ≤ 13) : ∀ (r : List UInt8) (i fu v : Nat), ds.drop i = r → i ≤ ds.length → r.length < fu → v < 10 ^ i →
    spec_l21Number.l0 K fu (tB w) (tB ds) (v : Int) (i : Int) = some (if ∀ b ∈ r, isDg b then
      (if ds.length < w.length then (-(valF v r : Int), decide (Lib.itoa (-(valF v r : Int)) = w)) else ((valF v r : Int), decide (Lib.itoa (valF v r : Int) = w))) else (0, false)) := by
  intro r
  have p13 : ∀ i, i ≤ 13 → 10 ^ i ≤ 10000000000000 := fun i hi => Nat.pow_le_pow_right (n := 10) (by decide) hi
  have tBw : ∀ z : Int, decide (tB (Lib.itoa z) = tB w) = decide (Lib.itoa z = w) := fun z => decide_eq_decide.2 ⟨tB_inj, fun h => by rw [h]⟩
  induction r with
  | nil =>
    intro i fu v hq hi hf hv
    obtain ⟨fu, rfl⟩ : ∃ m, fu = m + 1 := ⟨fu - 1, by omega⟩
    have hq' : ds.length ≤ i := by simpa using hq
    have hv' := p13 i (by omega)
    rw [spec_l21Number.l0_eq, tB_size, tB_size, if_neg (by omega)]
    refine Eq.trans ?_ (congrArg some (if_pos (fun b hb => by cases hb))).symm
    show _ = some (if ds.length < w.length then (-(v : Int), decide (Lib.itoa (-(v : Int)) = w)) else ((v : Int), decide (Lib.itoa (v : Int) = w)))
    by_cases g : ds.length < w.length
    · rw [if_pos (by omega), if_pos g, wrap_id (by omega) (by omega), show (0 - (v : Int)) = -(v : Int) by omega, numV _ (by omega) (by omega) K hK, bs, tBw]
    · rw [if_neg (by omega), if_neg g, numV _ (by omega) (by omega) K hK, bs, tBw]
  | cons b r ih =>
    intro i fu v hq hi hf hv
    obtain ⟨fu, rfl⟩ : ∃ m, fu = m + 1 := ⟨fu - 1, by omega⟩
    have hlen : i < ds.length := by
      rcases Nat.lt_or_ge i ds.length with h | h
      · exact h
      · rw [List.drop_eq_nil_of_le h] at hq; cases hq
    have hdr := drop_cons ds i hlen
    rw [hq] at hdr
    injection hdr with hc hr
    simp only [List.length_cons] at hf
    have hv' := p13 i (by omega)
    have hb := b.toNat_lt
    rw [spec_l21Number.l0_eq, tB_size, if_pos (by omega), if_pos (by omega), if_pos (by omega), tB_bt ds i hlen, ← hc]
    by_cases c1 : b.toNat < 48
    · rw [if_pos (by omega), if_neg (fun h => by have := (h b (by simp)).1; omega)]
    · rw [if_neg (by omega), if_pos (by omega), if_pos (by omega)]
      by_cases c2 : 57 < b.toNat
      · rw [if_pos (by omega), if_neg (fun h => by have := (h b (by simp)).2; omega)]
      · have hvn : 10 * v + (b.toNat - 48) < 10 ^ (i + 1) := by rw [Nat.pow_succ]; omega
        rw [if_neg (by omega), if_pos (by omega), if_pos (by omega), wrap_id (x := 10 * (v : Int)) (by omega) (by omega), wrap_id (x := (b.toNat : Int)) (by omega) (by omega), wrap_id (x := 10 * (v : Int) + (b.toNat : Int)) (by omega) (by omega),
          wrap_id (x := 10 * (v : Int) + (b.toNat : Int) - 48) (by omega) (by omega), wrap_next hlen (by omega),
          show 10 * (v : Int) + (b.toNat : Int) - 48 = ((10 * v + (b.toNat - 48) : Nat) : Int) by omega, ih (i + 1) fu _ hr.symm (by omega) (by omega) hvn]
        have hbd : isDg b := ⟨by omega, by omega⟩
        have he : valF v (b :: r) = valF (10 * v + (b.toNat - 48)) r := rfl
        rw [he]
        by_cases hall : ∀ x ∈ r, isDg x
        · rw [if_pos hall, if_pos (fun x hx => by
            rcases List.mem_cons.1 hx with h | h
            · exact h ▸ hbd
            · exact hall x h)]
        · rw [if_neg hall, if_neg (fun h => hall fun x hx => h x (by simp [hx]))]
theorem l01InV (x a b : Int) (k : Nat) (hk : 1 ≤ k) : spec_l01In.f k x a b = some (decide (a ≤ x ∧ x ≤ b)) := by
  obtain ⟨k, rfl⟩ : ∃ m, k = m + 1 := ⟨k - 1, by omega⟩
  rw [spec_l01In.f_eq]
  by_cases h : a ≤ x
  · rw [if_pos h]; simp [h]
  · rw [if_neg h]; simp [h]
theorem number_j0 (w : List UInt8) (ds : List UInt8) (k : Nat) (hk : 40 ≤ k) : spec_l21Number.j0 k (tB w) (tB ds) = some (if (1 ≤ ds.length ∧ ds.length ≤ 13) ∧ ∀ b ∈ ds, isDg b then
      (if ds.length < w.length then (-(valF 0 ds : Int), decide (Lib.itoa (-(valF 0 ds : Int)) = w)) else ((valF 0 ds : Int), decide (Lib.itoa (valF 0 ds : Int) = w))) else (0, false)) := by
  rw [spec_l21Number.j0_eq, tB_size, l01InV _ _ _ k (by omega), bs]
  by_cases h : 1 ≤ ds.length ∧ ds.length ≤ 13
  · rw [decide_eq_true (by omega), if_neg (by decide)]
    have := number_loop k (by omega) w ds h.2 ds 0 k 0 rfl (Nat.zero_le _) (by omega) (by decide)
    rw [show ((0 : Nat) : Int) = 0 from rfl] at this
    rw [this]
    by_cases g : ∀ b ∈ ds, isDg b
    · rw [if_pos g, if_pos (c := (1 ≤ ds.length ∧ ds.length ≤ 13) ∧ ∀ b ∈ ds, isDg b) ⟨h, g⟩]
    · rw [if_neg g, if_neg (c := (1 ≤ ds.length ∧ ds.length ≤ 13) ∧ ∀ b ∈ ds, isDg b) (fun x => g x.2)]
  · rw [decide_eq_false (by omega), if_pos (by decide), if_neg (fun x => h x.1)]
theorem number_f (w : List UInt8) (k : Nat) (hk : 41 ≤ k) : spec_l21Number.f k (tB w) = some (if (1 ≤ (body w).length ∧ (body w).length ≤ 13) ∧ ∀ b ∈ body w, isDg b then
      (if (body w).length < w.length then (-(valF 0 (body w) : Int), decide (Lib.itoa (-(valF 0 (body w) : Int)) = w)) else ((valF 0 (body w) : Int), decide (Lib.itoa (valF 0 (body w) : Int) = w))) else (0, false)) := by
  obtain ⟨k, rfl⟩ : ∃ m, k = m + 1 := ⟨k - 1, by omega⟩
  rw [spec_l21Number.f_eq, tB_size]
  cases w with
  | nil =>
    rw [if_neg (by simp)]
    exact number_j0 [] [] k (by omega)
  | cons b r =>
    have hb : bt (tB (b :: r)) 0 = (b.toNat : Int) := tB_bt (b :: r) 0 (by simp)
    rw [if_pos (by simp), if_pos (by simp), hb]
    by_cases g : b = 45
    · subst g
      rw [if_pos (by decide), if_pos (by simp only [List.length_cons]; omega), show Int.toNat 1 = 1 from rfl, show Int.toNat (((45 : UInt8) :: r).length : Int) = ((45 : UInt8) :: r).length from rfl, tB_extract _ 1 _ (Nat.le_refl _)]
      rw [show (((45 : UInt8) :: r).drop 1).take (((45 : UInt8) :: r).length - 1) = r by simp]
      exact number_j0 (45 :: r) r k (by omega)
    · have e : body (b :: r) = b :: r := if_neg g
      have g' : ¬ (b.toNat : Int) = 45 := fun h => g (UInt8.toNat_inj.1 (show b.toNat = 45 by omega))
      rw [if_neg g', e]
      exact number_j0 (b :: r) (b :: r) k (by omega)
/-- Which texts are read as numbers. -/
theorem numberV (w : List UInt8) (k : Nat) (hk : 41 ≤ k) : ∃ v b, spec_l21Number.f k (tB w) = some (v, b) ∧ (b = true → short v ∧ w = Lib.itoa v) ∧ (b = false → ∀ x, short x → w ≠ Lib.itoa x) := by
  rw [number_f w k hk]
  by_cases h : (1 ≤ (body w).length ∧ (body w).length ≤ 13) ∧ ∀ b ∈ body w, isDg b
  · rw [if_pos h]
    have hv := valF_lt (body w) 0 0 h.2 (by decide)
    have h2 : 10 ^ (0 + (body w).length) ≤ 10 ^ 13 := Nat.pow_le_pow_right (by decide) (by omega)
    have h3 : valF 0 (body w) < 10000000000000 := Nat.lt_of_lt_of_le hv h2
    by_cases g : (body w).length < w.length
    · rw [if_pos g]
      refine ⟨_, _, rfl, fun e => ⟨by unfold short; omega, (of_decide_eq_true e).symm⟩, fun e x hx hw => of_decide_eq_false e ?_⟩
      subst hw
      have hx0 := (body_lt x).1 g
      rw [body_itoa, dec_val, show -((x.natAbs : Nat) : Int) = x by omega]
    · rw [if_neg g]
      refine ⟨_, _, rfl, fun e => ⟨by unfold short; omega, (of_decide_eq_true e).symm⟩, fun e x hx hw => of_decide_eq_false e ?_⟩
      subst hw
      have hx0 : ¬ x < 0 := fun c => g ((body_lt x).2 c)
      rw [body_itoa, dec_val, show ((x.natAbs : Nat) : Int) = x by omega]
  · rw [if_neg h]
    refine ⟨0, false, rfl, fun e => Bool.noConfusion e, fun _ x hx hw => h ?_⟩
    subst hw
    rw [body_itoa]
    exact ⟨⟨dec_pos _, short_len hx⟩, dec_dg _⟩
end Go.Vm.Pu
