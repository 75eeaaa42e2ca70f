/- The plain law of FnEventBytes; the conditions are what is known of the input. -/
import Derived.Test.YtjnckjfohpbdeaaVpA
namespace Go.Vm.Pu
open Go Go.RowKit Go.Vm
set_option linter.unusedVariables false
set_option linter.unusedSimpArgs false
theorem itake_short (b : List Int) (h : b.length < 2) (k : Nat) (hk : 3 ≤ k) : impl_takeNumber.f k b 1 = some (0, 0, false) := by
  obtain ⟨k, rfl⟩ : ∃ m, k = (m + 1) + 1 := ⟨k - 2, by omega⟩
  have e : wrap64 (1 + 0) = 1 := wrap_id (by decide) (by decide)
  rw [impl_takeNumber.f_eq, if_neg (by decide), impl_takeNumber.l0_eq, if_pos (by decide), e, if_neg (by omega)]
theorem Bs.drop {l : List Int} (h : Bs l) (n : Nat) : Bs (l.drop n) := fun x hx => h x (List.mem_of_mem_drop hx)
def badEvent : Int × Int × Int × Int × List Int × Bool := (0, 0, 0, 0, [], false)
/-- What both take. -/
def te (t s : Int) (b : List Int) : Int × Int × Int × Int × List Int × Bool :=
  if FrP t s b ∧ 2 ≤ b.length ∧ (tk b 1).2.2 = true ∧ EvP (L b 0) t s (tk b 1).1 (b.drop (tk b 1).2.1) then (L b 0, t, s, (tk b 1).1, b.drop (tk b 1).2.1, true) else badEvent
theorem te_len (t s : Int) (b : List Int) : (te t s b).2.2.2.2.1.length ≤ b.length := by
  unfold te
  split
  · show (b.drop _).length ≤ _
    rw [List.length_drop]
    omega
  · exact Nat.zero_le _
/-- The order in which the program hands it on. -/
def tv (x : Int × Int × Int × Int × List Int × Bool) : Int × Int × Int × Int × Bool × List Int := (x.1, x.2.1, x.2.2.1, x.2.2.2.1, x.2.2.2.2.2, x.2.2.2.2.1)
theorem cut_end (l : List Int) (i : Nat) : cut l (i : Int) (l.length : Int) = l.drop i := by
  rw [cut_nat, List.take_of_length_le (Nat.le_refl _)]
theorem stakeEvent_f (t s : Int) (b : List Int) (hb : Bs b) (hlen : b.length ≤ 1048576) (k : Nat) (hk : 1048600 ≤ k) : spec_TakeEvent.f k t s b = some (tv (te t s b)) := by
  obtain ⟨k, rfl⟩ : ∃ m, k = m + 1 := ⟨k - 1, by omega⟩
  rw [spec_TakeEvent.f_eq, sframe_f _ _ _ _ (by omega)]
  simp only [bs, not_ite]
  unfold te
  by_cases h1 : FrP t s b
  · rw [if_pos (decide_eq_true h1)]
    by_cases h2 : (b.length : Int) < 2
    · rw [if_pos h2, if_neg (fun h => by have := h.2.1; omega)]
      rfl
    · rw [if_neg h2]
      have hL := hb.L 0
      have htk := tk_at b 1
      have s1 := stake_f b hb 1 (by omega) (by omega) k (by omega)
      rw [show ((1 : Nat) : Int) = 1 from rfl] at s1
      rw [s1]
      simp only [bs]
      have r0 : rdI b 0 = L b 0 := rd_L b 0
      by_cases h3 : (tk b 1).2.2 = true
      · rw [if_pos h3, if_pos (by omega), if_pos (by omega), if_pos (by omega), cut_end, bytes_is _ (by rw [List.length_drop]; omega) k (by rw [List.length_drop]; omega), r0, wrap_id (x := L b 0) (by omega) (by omega)]
        simp only [bs]
        rw [sevent_f _ _ _ _ _ (hb.drop _) (by rw [List.length_drop]; omega) k (by omega)]
        simp only [bs]
        by_cases h4 : EvP (L b 0) t s (tk b 1).1 (b.drop (tk b 1).2.1)
        · rw [if_pos (decide_eq_true h4), if_pos ⟨h1, by omega, h3, h4⟩]
          rfl
        · rw [if_neg (by simpa using h4), if_neg (fun h => h4 h.2.2.2)]
          rfl
      · rw [if_neg h3, if_neg (fun h => h3 h.2.2.1)]
        rfl
  · rw [if_neg (by simpa using h1), if_neg (fun h => h1 h.1)]
    rfl
theorem itakeEvent_f (t s : Int) (b : List Int) (hb : Bs b) (hlen : b.length ≤ 1048576) (k : Nat) (hk : 1048600 ≤ k) : impl_takeEvent.f k t s b = some (tv (te t s b)) := by
  obtain ⟨k, rfl⟩ : ∃ m, k = m + 1 := ⟨k - 1, by omega⟩
  rw [impl_takeEvent.f_eq]
  unfold te
  by_cases h2 : b.length < 2
  · rw [itake_short b h2 k (by omega)]
    simp only [bs, not_ite]
    rw [if_neg (by decide), if_neg (fun h => by have := h.2.1; omega)]
    rfl
  · have hL := hb.L 0
    have htk := tk_at b 1
    have s1 := itake_f b hb 1 (by omega) (by omega) k (by omega)
    rw [show ((1 : Nat) : Int) = 1 from rfl] at s1
    rw [s1]
    simp only [bs, not_ite]
    by_cases h3 : (tk b 1).2.2 = true
    · rw [if_pos h3, iframe_f _ _ _ _ (by omega)]
      simp only [bs]
      by_cases h1 : FrP t s b
      · have r0 : rdI b 0 = L b 0 := rd_L b 0
        rw [if_pos (decide_eq_true h1), if_pos (by omega), if_pos (by omega), if_pos (by omega), cut_end, if_pos (by rw [List.length_drop]; omega), r0, wrap_id (x := L b 0) (by omega) (by omega), List.nil_append, ievent_f _ _ _ _ _ (hb.drop _) (by rw [List.length_drop]; omega) k (by omega)]
        simp only [bs]
        by_cases h4 : EvP (L b 0) t s (tk b 1).1 (b.drop (tk b 1).2.1)
        · rw [if_pos (decide_eq_true h4), if_pos ⟨h1, by omega, h3, h4⟩]
          rfl
        · rw [if_neg (by simpa using h4), if_neg (fun h => h4 h.2.2.2)]
          rfl
      · rw [if_neg (by simpa using h1), if_neg (fun h => h1 h.1)]
        rfl
    · rw [if_neg h3, if_neg (fun h => h3 h.2.2.1)]
      rfl
/-! ### frames -/
/-- A number's bytes read, the highest first. -/
def be : List Int → Int → Int
  | [], x => x
  | c :: l, x => be l (256 * x + c)
theorem p256_pos : ∀ n : Nat, (0 : Int) < 256 ^ n
  | 0 => by decide
  | n + 1 => by
    have := p256_pos n
    rw [Int.pow_succ]
    omega
theorem be_range : ∀ (l : List Int) (x : Int), Bs l → 0 ≤ x → 0 ≤ be l x ∧ be l x < (x + 1) * 256 ^ l.length := by
  intro l
  induction l with
  | nil => intro x _ h; show 0 ≤ x ∧ x < (x + 1) * 1; omega
  | cons c l ih =>
    intro x hb h
    have hc := hb c List.mem_cons_self
    obtain ⟨h1, h2⟩ := ih (256 * x + c) (fun y hy => hb y (List.mem_cons_of_mem _ hy)) (by omega)
    refine ⟨h1, ?_⟩
    have hp := p256_pos l.length
    have : (256 * x + c + 1) * 256 ^ l.length ≤ ((x + 1) * 256) * 256 ^ l.length := Int.mul_le_mul_of_nonneg_right (by omega) (by omega)
    rw [List.length_cons, Int.pow_succ, Int.mul_comm (256 ^ l.length) 256, ← Int.mul_assoc]
    exact Int.lt_of_lt_of_le h2 this
theorem p256 : ∀ n : Nat, n ≤ 4 → (256 : Int) ^ n ≤ 4294967296 := by
  intro n h
  have : n = 0 ∨ n = 1 ∨ n = 2 ∨ n = 3 ∨ n = 4 := by omega
  rcases this with rfl | rfl | rfl | rfl | rfl <;> decide
theorem sread_loop (b : List Int) (hb : Bs b) (hn : b.length ≤ 4) (K : Nat) : ∀ (d k i : Nat) (x : Int), i + d = b.length → d < k → 0 ≤ x → x < 256 ^ i → spec_l11Read.l0 K k b x (i : Int) = some (be (b.drop i) x) := by
  intro d
  induction d with
  | zero =>
    intro k i x hi hk _ _
    obtain ⟨k, rfl⟩ : ∃ m, k = m + 1 := ⟨k - 1, by omega⟩
    rw [spec_l11Read.l0_eq, if_neg (by omega), List.drop_eq_nil_of_le (by omega)]
    rfl
  | succ d ih =>
    intro k i x hi hk h0 h1
    obtain ⟨k, rfl⟩ : ∃ m, k = m + 1 := ⟨k - 1, by omega⟩
    have hc := hb _ (List.getElem_mem (show i < b.length by omega))
    have hp := p256 i (by omega)
    have hs : (256 : Int) ^ (i + 1) = 256 ^ i * 256 := Int.pow_succ 256 i
    rw [spec_l11Read.l0_eq, if_pos (by omega), if_pos (by omega), if_pos (by omega), rd_at b i (by omega), drop_cons b i (by omega), be, wrap_id (x := 256 * x) (by omega) (by omega), wrap_id (x := b[i]) (by omega) (by omega), wrap_id (x := 256 * x + b[i]) (by omega) (by omega), wrap_next (show i < b.length by omega) (by omega)]
    exact ih k (i + 1) _ (by omega) (by omega) (by omega) (by omega)
theorem sread_f (b : List Int) (hb : Bs b) (hn : b.length ≤ 4) (k : Nat) (hk : 6 ≤ k) : spec_l11Read.f k b = some (be b 0) := by
  obtain ⟨k, rfl⟩ : ∃ m, k = m + 1 := ⟨k - 1, by omega⟩
  rw [spec_l11Read.f_eq]
  have := sread_loop b hb hn k b.length k 0 0 (by omega) (by omega) (by decide) (by decide)
  simpa using this
theorem iread_loop (b : List Int) (hb : Bs b) (hn : b.length ≤ 4) (K : Nat) : ∀ (d k i : Nat) (x : Int), i + d = b.length → d < k → 0 ≤ x → x < 256 ^ i → impl_numberIn.l0 K k x b (b.length : Int) (i : Int) = some (be (b.drop i) x) := by
  intro d
  induction d with
  | zero =>
    intro k i x hi hk _ _
    obtain ⟨k, rfl⟩ : ∃ m, k = m + 1 := ⟨k - 1, by omega⟩
    rw [impl_numberIn.l0_eq, if_neg (by omega), List.drop_eq_nil_of_le (by omega)]
    rfl
  | succ d ih =>
    intro k i x hi hk h0 h1
    obtain ⟨k, rfl⟩ : ∃ m, k = m + 1 := ⟨k - 1, by omega⟩
    have hc := hb _ (List.getElem_mem (show i < b.length by omega))
    have hp := p256 i (by omega)
    have hs : (256 : Int) ^ (i + 1) = 256 ^ i * 256 := Int.pow_succ 256 i
    have ho : bitsOf .or .i64 (x * 256) b[i] = 256 * x + b[i] := by
      show Go.bits .or .i64 (x * 256) b[i] = _
      have h62 : (2 : Int) ^ 62 = 4611686018427387904 := by decide
      rw [bits_join .i64 62 (by decide) (fun m h1 h2 => by rw [IntKind.wrap_i64]; omega) 8 (x * 256) b[i] (by omega) (by rw [show (2 : Int) ^ 8 = 256 from rfl]; exact Int.mul_emod_left _ _) (by omega) hc.1 (by rw [show (2 : Int) ^ 8 = 256 from rfl]; exact hc.2) (by omega)]
      omega
    rw [impl_numberIn.l0_eq, if_pos (by omega), if_pos (by omega), if_pos (by omega), rd_at b i (by omega), drop_cons b i (by omega), be, show (2 : Int) ^ (Int.toNat 8) = 256 from rfl, wrap_id (x := x * 256) (by omega) (by omega), wrap_id (x := b[i]) (by omega) (by omega), ho, wrap_next (show i < b.length by omega) (by omega)]
    exact ih k (i + 1) _ (by omega) (by omega) (by omega) (by omega)
theorem iread_f (b : List Int) (hb : Bs b) (hn : b.length ≤ 4) (k : Nat) (hk : 6 ≤ k) : impl_numberIn.f k b = some (be b 0) := by
  obtain ⟨k, rfl⟩ : ∃ m, k = m + 1 := ⟨k - 1, by omega⟩
  rw [impl_numberIn.f_eq]
  have := iread_loop b hb hn k b.length k 0 0 (by omega) (by omega) (by decide) (by decide)
  simpa using this
theorem Bs.seg {l : List Int} (h : Bs l) (n m : Nat) : Bs ((l.take n).drop m) := fun x hx => h x (List.mem_of_mem_take (List.mem_of_mem_drop hx))
/-- A frame's length, as it is told. -/
def lg2 (b : List Int) : Int := be ((b.take 9).drop 7) 0
/-- The head can't be a frame's: so many bytes are looked at. -/
def hdBad (b : List Int) : Prop := (0 < b.length ∧ L b 0 ≠ 199) ∨ (1 < b.length ∧ L b 1 ≠ 77) ∨ (2 < b.length ∧ L b 2 > 99) ∨ (3 < b.length ∧ L b 3 > 127) ∨ (7 < b.length ∧ L b 7 > 19)
instance (b : List Int) : Decidable (hdBad b) := by unfold hdBad; exact inferInstance
def hdBad9 (b : List Int) : Prop := hdBad b ∨ (8 < b.length ∧ lg2 b > 5000)
instance (b : List Int) : Decidable (hdBad9 b) := by unfold hdBad9; exact inferInstance
/-- The sum compared. -/
def cmpS (b : List Int) (n : Nat) (s : List Int) : Nat → Nat → Int
  | 0, _ => 0
  | d + 1, i => if n + i = b.length then 1 else if L b (n + i) ≠ L s i then 2 else cmpS b n s d (i + 1)
theorem cmpS_cases (b : List Int) (n : Nat) (s : List Int) : ∀ d i : Nat, cmpS b n s d i = 0 ∨ cmpS b n s d i = 1 ∨ cmpS b n s d i = 2 := by
  intro d
  induction d with
  | zero => intro i; exact Or.inl rfl
  | succ d ih =>
    intro i
    rw [cmpS]
    split
    · exact Or.inr (Or.inl rfl)
    · split
      · exact Or.inr (Or.inr rfl)
      · exact ih (i + 1)
theorem cmpS_len (b : List Int) (n : Nat) (s : List Int) : ∀ d i : Nat, n + i ≤ b.length → cmpS b n s d i = 0 → n + i + d ≤ b.length := by
  intro d
  induction d with
  | zero => intro i h _; omega
  | succ d ih =>
    intro i h hc
    rw [cmpS] at hc
    split at hc
    · exact absurd hc (by decide)
    · split at hc
      · exact absurd hc (by decide)
      · have := ih (i + 1) (by omega) hc
        omega
/-- What both decode: tenant, number, length, kind of the answer, body. -/
def df (b : List Int) : Int × Int × Int × Int × List Int :=
  if hdBad9 b then (0, 0, 0, 2, []) else if b.length < 9 then (0, 0, 0, 1, []) else if (b.length : Int) < 9 + lg2 b then (0, 0, 0, 1, []) else
    if cmpS b (9 + lg2 b).toNat (w4 (ck ((b.take (9 + lg2 b).toNat).drop 2) (1, 0))) 4 0 = 0 then (L b 2, be ((b.take 7).drop 3) 0, 13 + lg2 b, 0, (b.take (9 + lg2 b).toNat).drop 9)
    else (0, 0, 0, cmpS b (9 + lg2 b).toNat (w4 (ck ((b.take (9 + lg2 b).toNat).drop 2) (1, 0))) 4 0, [])
theorem w4_length (x : Int) : (w4 x).length = 4 := rfl
theorem lg2_range (b : List Int) (hb : Bs b) : 0 ≤ lg2 b ∧ lg2 b < 4294967296 := by
  have h := be_range ((b.take 9).drop 7) 0 (hb.seg 9 7) (by decide)
  have hl : ((b.take 9).drop 7).length ≤ 4 := by rw [List.length_drop, List.length_take]; omega
  have hp := p256 _ hl
  unfold lg2
  rw [Int.zero_add, Int.one_mul] at h
  omega
/-! #### the one side -/
theorem shead_loop (b : List Int) (hb : Bs b) (hlen : b.length ≤ 2000000) (K : Nat) (hK : 20 ≤ K) : ∀ (d k i : Nat), i + d = 9 → d < k → i ≤ b.length →
    spec_l11Head.l0 K k b (i : Int) = some (decide (¬ ((i ≤ 0 ∧ 0 < b.length ∧ L b 0 ≠ 199) ∨ (i ≤ 1 ∧ 1 < b.length ∧ L b 1 ≠ 77) ∨ (i ≤ 2 ∧ 2 < b.length ∧ L b 2 > 99) ∨ (i ≤ 3 ∧ 3 < b.length ∧ L b 3 > 127) ∨ (i ≤ 7 ∧ 7 < b.length ∧ L b 7 > 19) ∨ (i ≤ 8 ∧ 8 < b.length ∧ lg2 b > 5000)))) := by
  intro d
  induction d with
  | zero =>
    intro k i hi hk hl
    obtain ⟨k, rfl⟩ : ∃ m, k = m + 1 := ⟨k - 1, by omega⟩
    rw [spec_l11Head.l0_eq]
    have : decide (¬ ((i ≤ 0 ∧ 0 < b.length ∧ L b 0 ≠ 199) ∨ (i ≤ 1 ∧ 1 < b.length ∧ L b 1 ≠ 77) ∨ (i ≤ 2 ∧ 2 < b.length ∧ L b 2 > 99) ∨ (i ≤ 3 ∧ 3 < b.length ∧ L b 3 > 127) ∨ (i ≤ 7 ∧ 7 < b.length ∧ L b 7 > 19) ∨ (i ≤ 8 ∧ 8 < b.length ∧ lg2 b > 5000))) = true := decide_eq_true (by omega)
    rw [this]
    by_cases c : (i : Int) < (b.length : Int)
    · rw [if_pos c, if_neg (by omega)]
    · rw [if_neg c]
  | succ d ih =>
    intro k i hi hk hl
    obtain ⟨k, rfl⟩ : ∃ m, k = m + 1 := ⟨k - 1, by omega⟩
    rw [spec_l11Head.l0_eq]
    by_cases c : (i : Int) < (b.length : Int)
    · have hc := hb.L i
      have nx : wrap64 ((i : Int) + 1) = ((i + 1 : Nat) : Int) := wrap_next (show i < b.length by omega) (by omega)
      have ih := ih k (i + 1) (by omega) (by omega) (by omega)
      rw [if_pos c, if_pos (by omega), if_pos (by omega), if_pos (by omega), rd_L, wrap_id (x := L b i) (by omega) (by omega), nx, ih]
      have hi9 : i = 0 ∨ i = 1 ∨ i = 2 ∨ i = 3 ∨ i = 4 ∨ i = 5 ∨ i = 6 ∨ i = 7 ∨ i = 8 := by omega
      rcases hi9 with rfl | rfl | rfl | rfl | rfl | rfl | rfl | rfl | rfl
      · rw [if_pos (by decide)]
        by_cases e : L b 0 ≠ 199
        · rw [if_pos e]; congr 1; exact (decide_eq_false (by omega)).symm
        · rw [if_neg e]; congr 1; exact decide_eq_decide.mpr (by omega)
      · rw [if_neg (by decide), if_pos (by decide)]
        by_cases e : L b 1 ≠ 77
        · rw [if_pos e]; congr 1; exact (decide_eq_false (by omega)).symm
        · rw [if_neg e]; congr 1; exact decide_eq_decide.mpr (by omega)
      · rw [if_neg (by decide), if_neg (by decide), if_pos (by decide)]
        by_cases e : L b 2 > 99
        · rw [if_pos e]; congr 1; exact (decide_eq_false (by omega)).symm
        · rw [if_neg e]; congr 1; exact decide_eq_decide.mpr (by omega)
      · rw [if_neg (by decide), if_neg (by decide), if_neg (by decide), if_pos (by decide)]
        by_cases e : L b 3 > 127
        · rw [if_pos e]; congr 1; exact (decide_eq_false (by omega)).symm
        · rw [if_neg e]; congr 1; exact decide_eq_decide.mpr (by omega)
      · rw [if_neg (by decide), if_neg (by decide), if_neg (by decide), if_neg (by decide), if_neg (by decide), if_neg (by decide)]; congr 1; exact decide_eq_decide.mpr (by omega)
      · rw [if_neg (by decide), if_neg (by decide), if_neg (by decide), if_neg (by decide), if_neg (by decide), if_neg (by decide)]; congr 1; exact decide_eq_decide.mpr (by omega)
      · rw [if_neg (by decide), if_neg (by decide), if_neg (by decide), if_neg (by decide), if_neg (by decide), if_neg (by decide)]; congr 1; exact decide_eq_decide.mpr (by omega)
      · rw [if_neg (by decide), if_neg (by decide), if_neg (by decide), if_neg (by decide), if_pos (by decide)]
        by_cases e : L b 7 > 19
        · rw [if_pos e]; congr 1; exact (decide_eq_false (by omega)).symm
        · rw [if_neg e]; congr 1; exact decide_eq_decide.mpr (by omega)
      · rw [if_neg (by decide), if_neg (by decide), if_neg (by decide), if_neg (by decide), if_neg (by decide), if_pos (by decide), if_pos (by omega), show cut b 7 9 = (b.take 9).drop 7 from cut_nat b 7 9, sread_f _ (hb.seg 9 7) (by rw [List.length_drop, List.length_take]; omega) K (by omega)]
        simp only [bs]
        have hlg : be ((b.take 9).drop 7) 0 = lg2 b := rfl
        rw [hlg]
        by_cases e : lg2 b > 5000
        · rw [if_pos e]; congr 1; exact (decide_eq_false (by omega)).symm
        · rw [if_neg e]; congr 1; exact decide_eq_decide.mpr (by omega)
    · rw [if_neg c]
      congr 1
      exact (decide_eq_true (by omega)).symm
theorem shead_f (b : List Int) (hb : Bs b) (hlen : b.length ≤ 2000000) (k : Nat) (hk : 30 ≤ k) : spec_l11Head.f k b = some (decide (¬ hdBad9 b)) := by
  obtain ⟨k, rfl⟩ : ∃ m, k = m + 1 := ⟨k - 1, by omega⟩
  rw [spec_l11Head.f_eq]
  have := shead_loop b hb hlen k (by omega) 9 k 0 (by omega) (by omega) (by omega)
  rw [show ((0 : Nat) : Int) = 0 from rfl] at this
  rw [this]
  congr 1
  unfold hdBad9 hdBad
  exact decide_eq_decide.mpr (by omega)
theorem scmp_loop (b : List Int) (n : Nat) (s : List Int) (hs : s.length = 4) (hn : n ≤ b.length) (hlen : b.length ≤ 2000000) (hb : Bs b) (h9 : 9 ≤ n) (K : Nat) (hK : 2000010 ≤ K) (x y : Int) : ∀ (d k i : Nat), i + d = 4 → d < k → n + i ≤ b.length →
    spec_DecodeFrame.l0 K k b (n : Int) (i : Int) x y 0 0 s = some (if cmpS b n s d i = 0 then (L b 2, be ((b.take 7).drop 3) 0, (n : Int) + 4, 0, (b.take n).drop 9) else (0, 0, 0, cmpS b n s d i, [])) := by
  intro d
  induction d with
  | zero =>
    intro k i hi hk hl
    obtain ⟨k, rfl⟩ : ∃ m, k = m + 1 := ⟨k - 1, by omega⟩
    have h2 := hb.L 2
    rw [spec_DecodeFrame.l0_eq, if_neg (by omega), if_pos (by omega), if_pos (by omega), show cut b 3 7 = (b.take 7).drop 3 from cut_nat b 3 7, sread_f _ (hb.seg 7 3) (by rw [List.length_drop, List.length_take]; omega) K (by omega)]
    simp only [bs]
    rw [if_pos (by omega), if_pos (by omega), show cut b 9 (n : Int) = (b.take n).drop 9 from cut_nat b 9 n, bytes_is _ (by rw [List.length_drop, List.length_take]; omega) K (by rw [List.length_drop, List.length_take]; omega)]
    simp only [bs]
    rw [show rdI b 2 = L b 2 from rd_L b 2, wrap_id (x := L b 2) (by omega) (by omega), wrap_id (x := (n : Int) + 4) (by omega) (by omega)]
    rfl
  | succ d ih =>
    intro k i hi hk hl
    obtain ⟨k, rfl⟩ : ∃ m, k = m + 1 := ⟨k - 1, by omega⟩
    rw [spec_DecodeFrame.l0_eq, if_pos (by omega), wrap_id (x := (n : Int) + (i : Int)) (by omega) (by omega), cmpS]
    by_cases c : n + i = b.length
    · rw [if_pos (by omega), if_pos c]
      rfl
    · rw [if_neg (by omega), if_neg c, if_pos (by omega), if_pos (by omega), if_pos (by omega), if_pos (by omega), show (n : Int) + (i : Int) = ((n + i : Nat) : Int) from rfl, rd_L, rd_L]
      by_cases e : L b (n + i) ≠ L s i
      · rw [if_pos e, if_pos e]
        rfl
      · rw [if_neg e, if_neg e, wrap_next (show i < 4 by omega) (by omega)]
        exact ih k (i + 1) (by omega) (by omega) (by omega)
theorem sdf_f (b : List Int) (hb : Bs b) (hlen : b.length ≤ 1048576) (k : Nat) (hk : 2000020 ≤ k) : spec_DecodeFrame.f k b = some (df b) := by
  obtain ⟨k, rfl⟩ : ∃ m, k = m + 1 := ⟨k - 1, by omega⟩
  have hg := lg2_range b hb
  rw [spec_DecodeFrame.f_eq, shead_f b hb (by omega) k (by omega)]
  simp only [bs, not_ite]
  unfold df
  by_cases h1 : hdBad9 b
  · rw [if_neg (by simpa using h1), if_pos h1]
  · rw [if_pos (by simpa using h1), if_neg h1]
    by_cases h2 : b.length < 9
    · rw [if_pos (by omega), if_pos h2]
    · have hlg : be ((b.take 9).drop 7) 0 = lg2 b := rfl
      have h5 : lg2 b ≤ 5000 := by
        unfold hdBad9 at h1
        omega
      rw [if_neg (by omega), if_neg h2, if_pos (by omega), show cut b 7 9 = (b.take 9).drop 7 from cut_nat b 7 9, sread_f _ (hb.seg 9 7) (by rw [List.length_drop, List.length_take]; omega) k (by omega)]
      simp only [bs]
      rw [hlg, wrap_id (x := 9 + lg2 b) (by omega) (by omega)]
      by_cases h3 : (b.length : Int) < 9 + lg2 b
      · rw [if_pos h3, if_pos h3]
      · obtain ⟨n, hn⟩ : ∃ n : Nat, 9 + lg2 b = (n : Int) := ⟨(9 + lg2 b).toNat, by omega⟩
        have hck := ck_range ((b.take n).drop 2) (1, 0) (by decide) (by decide) (by decide) (by decide)
        rw [if_neg h3, if_neg h3, hn, Int.toNat_natCast, if_pos (by omega), if_pos (by omega), show cut b 2 (n : Int) = (b.take n).drop 2 from cut_nat b 2 n, scheck_f _ (hb.seg n 2) (by rw [List.length_drop, List.length_take]; omega) k (by rw [List.length_drop, List.length_take]; omega)]
        simp only [bs]
        rw [wide4_f _ hck.1 hck.2 k (by omega)]
        simp only [bs]
        have := scmp_loop b n (w4 (ck ((b.take n).drop 2) (1, 0))) rfl (by omega) (by omega) hb (by omega) k (by omega) 0 0 4 k 0 (by omega) (by omega) (by omega)
        rw [show ((0 : Nat) : Int) = 0 from rfl] at this
        rw [this, show (13 : Int) + lg2 b = (n : Int) + 4 by omega]
/-! #### the other side -/
theorem icmp_loop (b : List Int) (n : Nat) (s : List Int) (g : Int) (hg : 9 + g = (n : Int)) (hs : s.length = 4) (hn : n ≤ b.length) (hlen : b.length ≤ 2000000) (hb : Bs b) (h9 : 9 ≤ n) (K : Nat) (hK : 20 ≤ K) (x y : Int) : ∀ (d k i : Nat), i + d = 4 → d < k → n + i ≤ b.length →
    impl_decodeFrame.l0 K k b (b.length : Int) g 4 (i : Int) x y s = some (if cmpS b n s d i = 0 then (L b 2, be ((b.take 7).drop 3) 0, 13 + g, 0, (b.take n).drop 9) else (0, 0, 0, cmpS b n s d i, [])) := by
  intro d
  induction d with
  | zero =>
    intro k i hi hk hl
    obtain ⟨k, rfl⟩ : ∃ m, k = m + 1 := ⟨k - 1, by omega⟩
    have h2 := hb.L 2
    rw [impl_decodeFrame.l0_eq, if_neg (by omega), if_pos (by omega), if_pos (by omega), show cut b 3 7 = (b.take 7).drop 3 from cut_nat b 3 7, iread_f _ (hb.seg 7 3) (by rw [List.length_drop, List.length_take]; omega) K (by omega)]
    simp only [bs]
    rw [wrap_id (x := 9 + g) (by omega) (by omega), wrap_id (x := 13 + g) (by omega) (by omega), hg, if_pos (by omega), if_pos (by omega), show cut b 9 (n : Int) = (b.take n).drop 9 from cut_nat b 9 n, if_pos (by rw [List.length_drop, List.length_take]; omega)]
    rw [show rdI b 2 = L b 2 from rd_L b 2, wrap_id (x := L b 2) (by omega) (by omega), List.nil_append]
    rfl
  | succ d ih =>
    intro k i hi hk hl
    obtain ⟨k, rfl⟩ : ∃ m, k = m + 1 := ⟨k - 1, by omega⟩
    rw [impl_decodeFrame.l0_eq, if_pos (by omega), if_pos (by omega), if_pos (by omega), wrap_id (x := 9 + g) (by omega) (by omega), hg, wrap_id (x := (n : Int) + (i : Int)) (by omega) (by omega), cmpS]
    by_cases c : n + i = b.length
    · rw [if_pos (by omega), if_pos c]
      rfl
    · rw [if_neg (by omega), if_neg c, if_pos (by omega), if_pos (by omega), show (n : Int) + (i : Int) = ((n + i : Nat) : Int) from rfl, rd_L, rd_L]
      by_cases e : L b (n + i) ≠ L s i
      · rw [if_pos e, if_pos e]
        rfl
      · rw [if_neg e, if_neg e, wrap_next (show i < 4 by omega) (by omega)]
        exact ih k (i + 1) (by omega) (by omega) (by omega)
theorem ij0D (b : List Int) (hb : Bs b) (hlen : b.length ≤ 1048576) (k : Nat) (hk : 2000010 ≤ k) (t : Bool) (ht : t = true ↔ hdBad b) : impl_decodeFrame.j0 k b (b.length : Int) t 0 0 = some (df b) := by
  have hg := lg2_range b hb
  rw [impl_decodeFrame.j0_eq]
  unfold df
  by_cases h1 : hdBad b
  · rw [if_pos (ht.2 h1), if_pos (show hdBad9 b from Or.inl h1)]
  · rw [if_neg (fun h => h1 (ht.1 h))]
    by_cases h2 : b.length < 9
    · have h9 : ¬ hdBad9 b := by unfold hdBad9; exact fun h => h.elim h1 fun h => by omega
      rw [if_pos (by omega), if_neg h9, if_pos h2]
    · have hlg : be ((b.take 9).drop 7) 0 = lg2 b := rfl
      rw [if_neg (by omega), if_pos (by omega), show cut b 7 9 = (b.take 9).drop 7 from cut_nat b 7 9, iread_f _ (hb.seg 9 7) (by rw [List.length_drop, List.length_take]; omega) k (by omega)]
      simp only [bs]
      rw [hlg]
      by_cases h4 : lg2 b > 5000
      · rw [if_pos h4, if_pos (show hdBad9 b from Or.inr ⟨by omega, h4⟩)]
      · have h9 : ¬ hdBad9 b := by unfold hdBad9; exact fun h => h.elim h1 fun h => by omega
        rw [if_neg h4, if_neg h9, if_neg h2, wrap_id (x := 9 + lg2 b) (by omega) (by omega)]
        by_cases h3 : (b.length : Int) < 9 + lg2 b
        · rw [if_pos h3, if_pos h3]
        · obtain ⟨n, hn⟩ : ∃ n : Nat, 9 + lg2 b = (n : Int) := ⟨(9 + lg2 b).toNat, by omega⟩
          rw [if_neg h3, if_neg h3, hn, Int.toNat_natCast, if_pos (by omega), if_pos (by omega), show cut b 2 (n : Int) = (b.take n).drop 2 from cut_nat b 2 n, icheck_f _ (hb.seg n 2) (by rw [List.length_drop, List.length_take]; omega) k (by rw [List.length_drop, List.length_take]; omega)]
          simp only [bs]
          rw [big4_f _ k (by omega)]
          simp only [bs]
          have := icmp_loop b n (w4 (ck ((b.take n).drop 2) (1, 0))) (lg2 b) hn rfl (by omega) (by omega) hb (by omega) k (by omega) 0 0 4 k 0 (by omega) (by omega) (by omega)
          rw [show ((0 : Nat) : Int) = 0 from rfl] at this
          exact this
theorem idf_f (b : List Int) (hb : Bs b) (hlen : b.length ≤ 1048576) (k : Nat) (hk : 2000020 ≤ k) : impl_decodeFrame.f k b = some (df b) := by
  obtain ⟨k, rfl⟩ : ∃ m, k = m + 1 := ⟨k - 1, by omega⟩
  have j0 := fun t ht => ij0D b hb hlen k (by omega) t ht
  have r0 : rdI b 0 = L b 0 := rd_L b 0
  have r1 : rdI b 1 = L b 1 := rd_L b 1
  have r2 : rdI b 2 = L b 2 := rd_L b 2
  have r3 : rdI b 3 = L b 3 := rd_L b 3
  have r7 : rdI b 7 = L b 7 := rd_L b 7
  have b7 := hb.L 7
  -- the last look
  have j4 : ∀ t : Bool, (t = true ↔ ((0 < b.length ∧ L b 0 ≠ 199) ∨ (1 < b.length ∧ L b 1 ≠ 77) ∨ (2 < b.length ∧ L b 2 > 99) ∨ (3 < b.length ∧ L b 3 > 127))) → impl_decodeFrame.j4 k b (b.length : Int) t 0 0 = some (df b) := by
    intro t ht
    rw [impl_decodeFrame.j4_eq]
    by_cases c : t = true
    · rw [if_pos c]
      exact j0 t ⟨fun _ => by have := ht.1 c; unfold hdBad; omega, fun _ => c⟩
    · have hn : ¬ _ := fun h => c (ht.2 h)
      rw [if_neg c]
      by_cases d : (b.length : Int) > 7
      · rw [if_pos d, if_pos (by omega), r7, wrap_id (x := L b 7) (by omega) (by omega)]
        exact j0 _ (by unfold hdBad; simp only [decide_eq_true_eq]; omega)
      · rw [if_neg d]
        exact j0 _ (by unfold hdBad; simp only [Bool.false_eq_true, false_iff]; omega)
  have j3 : ∀ t : Bool, (t = true ↔ ((0 < b.length ∧ L b 0 ≠ 199) ∨ (1 < b.length ∧ L b 1 ≠ 77) ∨ (2 < b.length ∧ L b 2 > 99))) → impl_decodeFrame.j3 k b (b.length : Int) t 0 0 = some (df b) := by
    intro t ht
    rw [impl_decodeFrame.j3_eq]
    by_cases c : t = true
    · rw [if_pos c]
      exact j0 t ⟨fun _ => by have := ht.1 c; unfold hdBad; omega, fun _ => c⟩
    · have hn : ¬ _ := fun h => c (ht.2 h)
      rw [if_neg c]
      by_cases d : (b.length : Int) > 3
      · rw [if_pos d, if_pos (by omega), r3]
        exact j4 _ (by simp only [decide_eq_true_eq]; omega)
      · rw [if_neg d]
        exact j4 _ (by simp only [Bool.false_eq_true, false_iff]; omega)
  have j2 : ∀ t : Bool, (t = true ↔ ((0 < b.length ∧ L b 0 ≠ 199) ∨ (1 < b.length ∧ L b 1 ≠ 77))) → impl_decodeFrame.j2 k b (b.length : Int) t 0 0 = some (df b) := by
    intro t ht
    rw [impl_decodeFrame.j2_eq]
    by_cases c : t = true
    · rw [if_pos c]
      exact j0 t ⟨fun _ => by have := ht.1 c; unfold hdBad; omega, fun _ => c⟩
    · have hn : ¬ _ := fun h => c (ht.2 h)
      rw [if_neg c]
      by_cases d : (b.length : Int) > 2
      · rw [if_pos d, if_pos (by omega), r2]
        exact j3 _ (by simp only [decide_eq_true_eq]; omega)
      · rw [if_neg d]
        exact j3 _ (by simp only [Bool.false_eq_true, false_iff]; omega)
  have j1 : ∀ t : Bool, (t = true ↔ (0 < b.length ∧ L b 0 ≠ 199)) → impl_decodeFrame.j1 k b (b.length : Int) t 0 0 = some (df b) := by
    intro t ht
    rw [impl_decodeFrame.j1_eq]
    by_cases c : t = true
    · rw [if_pos c]
      exact j0 t ⟨fun _ => by have := ht.1 c; unfold hdBad; omega, fun _ => c⟩
    · have hn : ¬ _ := fun h => c (ht.2 h)
      rw [if_neg c]
      by_cases d : (b.length : Int) > 1
      · rw [if_pos d, if_pos (by omega), r1]
        exact j2 _ (by simp only [decide_eq_true_eq]; omega)
      · rw [if_neg d]
        exact j2 _ (by simp only [Bool.false_eq_true, false_iff]; omega)
  rw [impl_decodeFrame.f_eq]
  by_cases d : (b.length : Int) > 0
  · rw [if_pos d, if_pos (by omega), r0]
    exact j1 _ (by simp only [decide_eq_true_eq]; omega)
  · rw [if_neg d]
    exact j1 _ (by simp only [Bool.false_eq_true, false_iff]; omega)
end Go.Vm.Pu
namespace Go.Vm.Pu
open Go Go.RowKit Go.Vm
set_option linter.unusedVariables false
set_option linter.unusedSimpArgs false
theorem and_255 (a : Int) : 0 ≤ bitsOf .and .i64 a 255 ∧ bitsOf .and .i64 a 255 ≤ 255 := by
  have h : ((BitVec.ofInt 64 a &&& BitVec.ofInt 64 255).toNat) ≤ 255 := by
    rw [BitVec.toNat_and]
    exact Nat.and_le_right
  have e : bitsOf .and .i64 a 255 = IntKind.i64.wrap ((BitVec.ofInt 64 a &&& BitVec.ofInt 64 255).toNat : Int) := rfl
  rw [e]
  have := wrap_id (x := ((BitVec.ofInt 64 a &&& BitVec.ofInt 64 255).toNat : Int)) (by omega) (by omega)
  unfold wrap64 at this
  rw [this]
  omega
theorem byte_f (b : List Int) (hb : b.length ≤ 1048576) (i h : Int) (hi : 0 ≤ i) (k : Nat) (hk : 1 ≤ k) : ∃ x i' h', spec_l01Byte.f k b i h = some (x, b, i', h') ∧ 0 ≤ x ∧ x ≤ 255 ∧ 0 ≤ i' := by
  obtain ⟨k, rfl⟩ : ∃ m, k = m + 1 := ⟨k - 1, by omega⟩
  rw [spec_l01Byte.f_eq]
  by_cases c : i < (b.length : Int)
  · rw [if_pos c, if_pos hi, if_pos c]
    exact ⟨_, _, _, rfl, (and_255 _).1, (and_255 _).2, by rw [wrap_id (by omega) (by omega)]; omega⟩
  · rw [if_neg c]
    exact ⟨_, _, _, rfl, (and_255 _).1, (and_255 _).2, hi⟩
theorem below_f (b : List Int) (hb : b.length ≤ 1048576) (n i h : Int) (hi : 0 ≤ i) (k : Nat) (hk : 2 ≤ k) : ∃ x i' h', spec_l01Below.f k n b i h = some (x, b, i', h') ∧ 0 ≤ x ∧ (0 < n → x < n) ∧ (n ≤ 0 → x = 0) ∧ 0 ≤ i' := by
  obtain ⟨k, rfl⟩ : ∃ m, k = m + 1 := ⟨k - 1, by omega⟩
  rw [spec_l01Below.f_eq]
  by_cases c : n ≤ 0
  · rw [if_pos c]
    exact ⟨0, i, h, rfl, by omega, by omega, fun _ => rfl, hi⟩
  rw [if_neg c]
  obtain ⟨x, i1, h1, e1, x0, x1, j1⟩ := byte_f b hb i h hi k (by omega)
  by_cases c2 : n ≤ 256
  · rw [if_pos c2, e1, bs, if_pos (by omega)]
    exact ⟨_, _, _, rfl, Int.tmod_nonneg _ x0, fun _ => Int.tmod_lt_of_pos _ (by omega), fun q => absurd q c, j1⟩
  · rw [if_neg c2, e1, bs]
    obtain ⟨y, i2, h2, e2, y0, y1, j2⟩ := byte_f b hb i1 h1 j1 k (by omega)
    simp only [e2, bs]
    obtain ⟨z, i3, h3, e3, z0, z1, j3⟩ := byte_f b hb i2 h2 j2 k (by omega)
    simp only [e3, bs]
    rw [if_pos (by omega), wrap_id (x := x * 65536) (by omega) (by omega), wrap_id (x := y * 256) (by omega) (by omega), wrap_id (x := x * 65536 + y * 256) (by omega) (by omega), wrap_id (x := x * 65536 + y * 256 + z) (by omega) (by omega)]
    exact ⟨_, _, _, rfl, Int.tmod_nonneg _ (by omega), fun _ => Int.tmod_lt_of_pos _ (by omega), fun q => absurd q c, j3⟩
theorem once_f (b : List Int) (hb : b.length ≤ 1048576) (n i h : Int) (hi : 0 ≤ i) (k : Nat) (hk : 3 ≤ k) : ∃ x i' h', spec_l01Once.f k n b i h = some (x, b, i', h') ∧ 0 ≤ i' := by
  obtain ⟨k, rfl⟩ : ∃ m, k = m + 1 := ⟨k - 1, by omega⟩
  obtain ⟨x, i1, h1, e1, x0, x1, x2, j1⟩ := below_f b hb n i h hi k (by omega)
  rw [spec_l01Once.f_eq, e1, bs]
  exact ⟨_, _, _, rfl, j1⟩
theorem pick_f (b : List Int) (hb : b.length ≤ 1048576) (l : List Int) (hl : 0 < l.length) (i h : Int) (hi : 0 ≤ i) (k : Nat) (hk : 3 ≤ k) : ∃ x i' h', spec_l01PickInt.f k l b i h = some (x, b, i', h') ∧ x ∈ l ∧ 0 ≤ i' := by
  obtain ⟨k, rfl⟩ : ∃ m, k = m + 1 := ⟨k - 1, by omega⟩
  obtain ⟨x, i1, h1, e1, x0, x1, x2, j1⟩ := below_f b hb (l.length : Int) i h hi k (by omega)
  have := x1 (by omega)
  rw [spec_l01PickInt.f_eq, e1, bs, if_pos x0, if_pos this]
  exact ⟨_, _, _, rfl, rd_mem l x x0 this, j1⟩
theorem new_l0 (b : List Int) (hb : b.length ≤ 1048576) (K : Nat) : ∀ (d k i : Nat) (h : Int), i + d = b.length → d < k → ∃ h', spec_l01New.l0 K k b h (i : Int) = some (b, 0, h') := by
  intro d
  induction d with
  | zero =>
    intro k i h hi hk
    obtain ⟨k, rfl⟩ : ∃ m, k = m + 1 := ⟨k - 1, by omega⟩
    rw [spec_l01New.l0_eq, if_neg (by omega)]
    exact ⟨_, rfl⟩
  | succ d ih =>
    intro k i h hi hk
    obtain ⟨k, rfl⟩ : ∃ m, k = m + 1 := ⟨k - 1, by omega⟩
    rw [spec_l01New.l0_eq, if_pos (by omega)]
    by_cases c : (i : Int) < 4000
    · rw [if_pos c, if_pos (by omega), if_pos (by omega), wrap_next (show i < b.length by omega) (by omega)]
      exact ih k (i + 1) _ (by omega) (by omega)
    · rw [if_neg c]
      exact ⟨_, rfl⟩
theorem new_f (b : List Int) (hb : b.length ≤ 1048576) (k : Nat) (hk : 1048580 ≤ k) : ∃ h', spec_l01New.f k b = some (b, 0, h') := by
  obtain ⟨k, rfl⟩ : ∃ m, k = m + 1 := ⟨k - 1, by omega⟩
  rw [spec_l01New.f_eq]
  exact new_l0 b hb k b.length k 0 _ (by omega) (by omega)
theorem size_f (b : List Int) (hb : b.length ≤ 1048576) (most : Int) (hm : 2 ≤ most) (k : Nat) (hk : 1 ≤ k) : ∃ n, spec_l01Size.f k b most = some n ∧ 2 ≤ n ∧ n ≤ most := by
  obtain ⟨k, rfl⟩ : ∃ m, k = m + 1 := ⟨k - 1, by omega⟩
  have e : Int.tdiv (b.length : Int) 16 = (b.length : Int) / 16 := Int.tdiv_eq_ediv_of_nonneg (by omega)
  rw [spec_l01Size.f_eq, e, wrap_id (x := (b.length : Int) / 16) (by omega) (by omega), wrap_id (x := 2 + (b.length : Int) / 16) (by omega) (by omega)]
  by_cases c : 2 + (b.length : Int) / 16 > most
  · rw [if_pos c]; exact ⟨_, rfl, by omega, by omega⟩
  · rw [if_neg c]; exact ⟨_, rfl, by omega, by omega⟩
theorem big_f (b : List Int) (k : Nat) (hk : 1 ≤ k) : laws_big.f k b = some (decide ((b.length : Int) > 1048576)) := by
  obtain ⟨k, rfl⟩ : ∃ m, k = m + 1 := ⟨k - 1, by omega⟩
  rw [laws_big.f_eq]
end Go.Vm.Pu
namespace Go.Vm.Pu
open Go Go.RowKit Go.Vm
set_option linter.unusedVariables false
set_option linter.unusedSimpArgs false
set_option linter.unusedSectionVars false
section
variable (b : List Int) (hb : b.length ≤ 1048576)
include hb
theorem field_f (i h : Int) (hi : 0 ≤ i) (k : Nat) (hk : 10 ≤ k) : ∃ x i' h', spec_l01DrawField.f k b i h = some (x, b, i', h') ∧ 0 ≤ i' := by
  obtain ⟨k, rfl⟩ : ∃ q, k = q + 1 := ⟨k - 1, by omega⟩
  rw [spec_l01DrawField.f_eq]
  obtain ⟨x, i1, h1, e1, j1⟩ := once_f b hb 20 i h hi k (by omega)
  simp only [e1, bs]
  cases x with
  | true =>
    obtain ⟨y, i2, h2, e2, _, j2⟩ := pick_f b hb [(-1), 9, 100] (by simp) i1 h1 j1 k (by omega)
    simp only [e2, bs, if_true]
    exact ⟨_, _, _, rfl, j2⟩
  | false =>
    obtain ⟨y, i2, h2, e2, _, _, _, j2⟩ := below_f b hb 9 i1 h1 j1 k (by omega)
    simp only [e2, bs, Bool.false_eq_true, if_false]
    exact ⟨_, _, _, rfl, j2⟩
theorem elem_f (f i h : Int) (hi : 0 ≤ i) (k : Nat) (hk : 10 ≤ k) : ∃ x i' h', spec_l01DrawElement.f k f b i h = some (x, b, i', h') ∧ 0 ≤ i' := by
  obtain ⟨k, rfl⟩ : ∃ q, k = q + 1 := ⟨k - 1, by omega⟩
  rw [spec_l01DrawElement.f_eq, modulus_is f k (by omega), bs]
  by_cases c0 : md f = 0
  · rw [if_pos c0]
    obtain ⟨y, i2, h2, e2, _, _, _, j2⟩ := below_f b hb 50 i h hi k (by omega)
    simp only [e2, bs]
    exact ⟨_, _, _, rfl, j2⟩
  rw [if_neg c0]
  obtain ⟨x, i1, h1, e1, _, _, _, j1⟩ := below_f b hb 6 i h hi k (by omega)
  simp only [e1, bs]
  by_cases c1 : x = 0
  · rw [if_pos c1]
    obtain ⟨y, i2, h2, e2, _, _, _, j2⟩ := below_f b hb 3 i1 h1 j1 k (by omega)
    simp only [e2, bs]
    rw [if_pos c0]
    exact ⟨_, _, _, rfl, j2⟩
  rw [if_neg c1]
  by_cases c2 : x = 1
  · rw [if_pos c2]
    obtain ⟨y, i2, h2, e2, _, _, _, j2⟩ := below_f b hb 3 i1 h1 j1 k (by omega)
    simp only [e2, bs]
    exact ⟨_, _, _, rfl, j2⟩
  rw [if_neg c2]
  by_cases c3 : x = 2
  · rw [if_pos c3]
    obtain ⟨y, i2, h2, e2, _, _, _, j2⟩ := below_f b hb 16777216 i1 h1 j1 k (by omega)
    simp only [e2, bs]
    obtain ⟨z, i3, h3, e3, _, _, _, j3⟩ := below_f b hb 256 i2 h2 j2 k (by omega)
    simp only [e3, bs]
    rw [if_pos c0]
    exact ⟨_, _, _, rfl, j3⟩
  · rw [if_neg c3]
    obtain ⟨y, i2, h2, e2, _, _, _, j2⟩ := below_f b hb 30 i1 h1 j1 k (by omega)
    simp only [e2, bs]
    rw [if_pos c0]
    exact ⟨_, _, _, rfl, j2⟩
theorem dlist_l0 (f n : Int) (hn : n ≤ 1000) (K : Nat) (hK : 10 ≤ K) : ∀ (d k m : Nat) (i h : Int) (out : List Int), (n - m).toNat ≤ d → d < k → 0 ≤ i → out.length = m → (m : Int) ≤ max n 0 →
    ∃ i' h' l, spec_l01DrawList.l0 K k f n (m : Int) b i h out = some (b, i', h', l) ∧ l.length = n.toNat ∧ 0 ≤ i' := by
  intro d
  induction d with
  | zero =>
    intro k m i h out hd hk hi ho hm
    obtain ⟨k, rfl⟩ : ∃ q, k = q + 1 := ⟨k - 1, by omega⟩
    rw [spec_l01DrawList.l0_eq, if_neg (by omega)]
    exact ⟨_, _, _, rfl, by omega, hi⟩
  | succ d ih =>
    intro k m i h out hd hk hi ho hm
    obtain ⟨k, rfl⟩ : ∃ q, k = q + 1 := ⟨k - 1, by omega⟩
    rw [spec_l01DrawList.l0_eq]
    by_cases c : (m : Int) < n
    · rw [if_pos c]
      obtain ⟨x, i1, h1, e1, j1⟩ := elem_f b hb f i h hi K hK
      simp only [e1, bs]
      rw [if_pos (by omega), wrap_id (by omega) (by omega)]
      exact ih k (m + 1) i1 h1 (out ++ [x]) (by omega) (by omega) j1 (by simp; omega) (by omega)
    · rw [if_neg c]
      exact ⟨_, _, _, rfl, by omega, hi⟩
theorem dlist_f (f n : Int) (hn : n ≤ 1000) (i h : Int) (hi : 0 ≤ i) (k : Nat) (hk : 1010 ≤ k) : ∃ i' h' l, spec_l01DrawList.f k f n b i h = some (b, i', h', l) ∧ l.length = n.toNat ∧ 0 ≤ i' := by
  obtain ⟨k, rfl⟩ : ∃ q, k = q + 1 := ⟨k - 1, by omega⟩
  rw [spec_l01DrawList.f_eq]
  exact dlist_l0 b hb f n hn k (by omega) n.toNat k 0 i h [] (by omega) (by omega) hi rfl (by omega)
theorem terms_j0 (n : Int) (t : Bool) (i h : Int) (hi : 0 ≤ i) (out : List Int) (ho : out.length = n.toNat) (ht : t = true → 0 < n) (k : Nat) (hk : 10 ≤ k) :
    ∃ i' h' l, spec_l05DrawTerms.j0 k n t b i h out = some (b, i', h', l) ∧ l.length = n.toNat ∧ 0 ≤ i' := by
  rw [spec_l05DrawTerms.j0_eq]
  cases t with
  | true =>
    have hn := ht rfl
    obtain ⟨x, i1, h1, e1, x0, x1, _, j1⟩ := below_f b hb n i h hi k (by omega)
    have hx := x1 hn
    simp only [e1, bs, if_true]
    obtain ⟨y, i2, h2, e2, _, j2⟩ := pick_f b hb [1000001, (-1000001)] (by simp) i1 h1 j1 k (by omega)
    simp only [e2, bs]
    rw [if_pos x0, if_pos (by omega)]
    exact ⟨_, _, _, rfl, by simpa using ho, j2⟩
  | false =>
    exact ⟨_, _, _, rfl, ho, hi⟩
theorem terms_l0 (n : Int) (hn : n ≤ 1000) (K : Nat) (hK : 10 ≤ K) : ∀ (d k m : Nat) (i h : Int) (out : List Int), (n - m).toNat ≤ d → d < k → 0 ≤ i → out.length = m → (m : Int) ≤ max n 0 →
    ∃ i' h' l, spec_l05DrawTerms.l0 K k n (m : Int) b i h out = some (b, i', h', l) ∧ l.length = n.toNat ∧ 0 ≤ i' := by
  have fin : ∀ (k m : Nat) (i h : Int) (out : List Int), ¬ ((m : Int) < n) → 0 ≤ i → out.length = m → (m : Int) ≤ max n 0 → ∃ i' h' l, spec_l05DrawTerms.l0 K (k + 1) n (m : Int) b i h out = some (b, i', h', l) ∧ l.length = n.toNat ∧ 0 ≤ i' := by
    intro k m i h out c hi ho hm
    rw [spec_l05DrawTerms.l0_eq, if_neg c]
    obtain ⟨x, i1, h1, e1, j1⟩ := once_f b hb 15 i h hi K (by omega)
    simp only [e1, bs]
    cases x with
    | true =>
      rw [if_pos rfl]
      exact terms_j0 b hb n _ i1 h1 j1 out (by omega) (fun q => of_decide_eq_true q) K hK
    | false =>
      rw [if_neg (by decide)]
      exact terms_j0 b hb n _ i1 h1 j1 out (by omega) (fun q => by cases q) K hK
  intro d
  induction d with
  | zero =>
    intro k m i h out hd hk hi ho hm
    obtain ⟨k, rfl⟩ : ∃ q, k = q + 1 := ⟨k - 1, by omega⟩
    exact fin k m i h out (by omega) hi ho hm
  | succ d ih =>
    intro k m i h out hd hk hi ho hm
    obtain ⟨k, rfl⟩ : ∃ q, k = q + 1 := ⟨k - 1, by omega⟩
    by_cases c : (m : Int) < n
    · rw [spec_l05DrawTerms.l0_eq, if_pos c]
      obtain ⟨x, i1, h1, e1, _, _, _, j1⟩ := below_f b hb 1000001 i h hi K (by omega)
      simp only [e1, bs]
      obtain ⟨y, i2, h2, e2, _, _, _, j2⟩ := below_f b hb 1000001 i1 h1 j1 K (by omega)
      simp only [e2, bs]
      obtain ⟨z, i3, h3, e3, _, _, _, j3⟩ := below_f b hb 9 i2 h2 j2 K (by omega)
      simp only [e3, bs]
      obtain ⟨v, i4, h4, e4, _, j4⟩ := pick_f b hb [1000000, (-1000000), x, (wrap64 (0 - y)), (wrap64 (z - 4)), 0] (by simp) i3 h3 j3 K (by omega)
      simp only [e4, bs]
      rw [if_pos (by omega), wrap_id (x := (m : Int) + 1) (by omega) (by omega)]
      exact ih k (m + 1) i4 h4 (out ++ [v]) (by omega) (by omega) j4 (by simp; omega) (by omega)
    · exact fin k m i h out c hi ho hm
theorem terms_f (n : Int) (hn : n ≤ 1000) (i h : Int) (hi : 0 ≤ i) (k : Nat) (hk : 1010 ≤ k) : ∃ i' h' l, spec_l05DrawTerms.f k n b i h = some (b, i', h', l) ∧ l.length = n.toNat ∧ 0 ≤ i' := by
  obtain ⟨k, rfl⟩ : ∃ q, k = q + 1 := ⟨k - 1, by omega⟩
  rw [spec_l05DrawTerms.f_eq]
  exact terms_l0 b hb n hn k (by omega) n.toNat k 0 i h [] (by omega) (by omega) hi rfl (by omega)
theorem series_j1 (f n : Int) (t : Bool) (i h : Int) (hi : 0 ≤ i) (out : List Int) (ho : out.length = n.toNat) (ht : t = true → 0 < n) (k : Nat) (hk : 10 ≤ k) :
    ∃ i' h' l, spec_l06DrawSeries.j1 k f n t b i h out = some (b, i', h', l) ∧ l.length = n.toNat ∧ 0 ≤ i' := by
  rw [spec_l06DrawSeries.j1_eq]
  cases t with
  | true =>
    have hn := ht rfl
    obtain ⟨x, i1, h1, e1, x0, x1, _, j1⟩ := below_f b hb n i h hi k (by omega)
    have hx := x1 hn
    simp only [e1, bs, if_true, modulus_is f k (by omega)]
    obtain ⟨y, i2, h2, e2, _, j2⟩ := pick_f b hb [(-1), md f, 0, 1] (by simp) i1 h1 j1 k (by omega)
    simp only [e2, bs]
    rw [if_pos x0, if_pos (by omega)]
    exact ⟨_, _, _, rfl, by simpa using ho, j2⟩
  | false =>
    exact ⟨_, _, _, rfl, ho, hi⟩
theorem series_j0 (f n : Int) (i h : Int) (hi : 0 ≤ i) (out : List Int) (ho : out.length = n.toNat) (k : Nat) (hk : 10 ≤ k) :
    ∃ i' h' l, spec_l06DrawSeries.j0 k f n b i h out = some (b, i', h', l) ∧ l.length = n.toNat ∧ 0 ≤ i' := by
  rw [spec_l06DrawSeries.j0_eq]
  obtain ⟨x, i1, h1, e1, j1⟩ := once_f b hb 20 i h hi k (by omega)
  simp only [e1, bs]
  cases x with
  | true =>
    rw [if_pos rfl]
    exact series_j1 b hb f n _ i1 h1 j1 out ho (fun q => of_decide_eq_true q) k hk
  | false =>
    rw [if_neg (by decide)]
    exact series_j1 b hb f n _ i1 h1 j1 out ho (fun q => by cases q) k hk
theorem series_f (f n first : Int) (hn : n ≤ 1000) (i h : Int) (hi : 0 ≤ i) (k : Nat) (hk : 1020 ≤ k) : ∃ i' h' l, spec_l06DrawSeries.f k f n first b i h = some (b, i', h', l) ∧ l.length = n.toNat ∧ 0 ≤ i' := by
  obtain ⟨k, rfl⟩ : ∃ q, k = q + 1 := ⟨k - 1, by omega⟩
  rw [spec_l06DrawSeries.f_eq]
  obtain ⟨i1, h1, l, e1, hl, j1⟩ := dlist_f b hb f n hn i h hi k (by omega)
  simp only [e1, bs]
  by_cases c : first ≥ 0
  · rw [if_pos c]
    by_cases c2 : n > 0
    · rw [if_pos c2, if_pos (by omega)]
      exact series_j0 b hb f n i1 h1 j1 _ (by simpa using hl) k (by omega)
    · rw [if_neg c2]
      exact series_j0 b hb f n i1 h1 j1 _ hl k (by omega)
  · rw [if_neg c]
    exact series_j0 b hb f n i1 h1 j1 _ hl k (by omega)
theorem points_j0 (f : Int) (t : Bool) (i h : Int) (hi : 0 ≤ i) (out : List Int) (ht : t = true → 0 < out.length) (k : Nat) (hk : 10 ≤ k) :
    ∃ i' h' l, spec_l07DrawPoints.j0 k f t b i h out = some (b, i', h', l) ∧ l.length = out.length ∧ 0 ≤ i' := by
  rw [spec_l07DrawPoints.j0_eq]
  cases t with
  | true =>
    have hn := ht rfl
    obtain ⟨x, i1, h1, e1, x0, x1, _, j1⟩ := below_f b hb (out.length : Int) i h hi k (by omega)
    have hx := x1 (by omega)
    simp only [e1, bs, if_true, modulus_is f k (by omega)]
    obtain ⟨y, i2, h2, e2, _, j2⟩ := pick_f b hb [(-1), md f] (by simp) i1 h1 j1 k (by omega)
    simp only [e2, bs]
    rw [if_pos x0, if_pos (by omega)]
    exact ⟨_, _, _, rfl, by simp, j2⟩
  | false =>
    exact ⟨_, _, _, rfl, rfl, hi⟩
theorem points_l0 (f n : Int) (hn : n ≤ 1000) (K : Nat) (hK : 1010 ≤ K) : ∀ (d k m : Nat) (i h : Int) (out : List Int), (n - m).toNat ≤ d → d < k → 0 ≤ i → out.length ≤ m → m ≤ 1000 → (0 < m → 0 < out.length) →
    ∃ i' h' l, spec_l07DrawPoints.l0 K k f n (m : Int) b i h out = some (b, i', h', l) ∧ l.length ≤ m + (n - m).toNat ∧ 0 ≤ i' ∧ ((0 < m ∨ 0 < n) → 0 < l.length) := by
  have fin : ∀ (k m : Nat) (i h : Int) (out : List Int), ¬ ((m : Int) < n) → 0 ≤ i → out.length ≤ m → (0 < m → 0 < out.length) → ∃ i' h' l, spec_l07DrawPoints.l0 K (k + 1) f n (m : Int) b i h out = some (b, i', h', l) ∧ l.length ≤ m + (n - m).toNat ∧ 0 ≤ i' ∧ ((0 < m ∨ 0 < n) → 0 < l.length) := by
    intro k m i h out c hi ho hm
    rw [spec_l07DrawPoints.l0_eq, if_neg c]
    obtain ⟨x, i1, h1, e1, j1⟩ := once_f b hb 25 i h hi K (by omega)
    simp only [e1, bs]
    cases x with
    | true =>
      rw [if_pos rfl]
      obtain ⟨i2, h2, l, e2, hl, j2⟩ := points_j0 b hb f (decide ((out.length : Int) > 0)) i1 h1 j1 out (fun q => by have := of_decide_eq_true q; omega) K (by omega)
      exact ⟨_, _, _, e2, by omega, j2, fun q => by have := hm (by omega); omega⟩
    | false =>
      rw [if_neg (by decide)]
      obtain ⟨i2, h2, l, e2, hl, j2⟩ := points_j0 b hb f false i1 h1 j1 out (fun q => by cases q) K (by omega)
      exact ⟨_, _, _, e2, by omega, j2, fun q => by have := hm (by omega); omega⟩
  intro d
  induction d with
  | zero =>
    intro k m i h out hd hk hi ho hm1 hm
    obtain ⟨k, rfl⟩ : ∃ q, k = q + 1 := ⟨k - 1, by omega⟩
    exact fin k m i h out (by omega) hi ho hm
  | succ d ih =>
    intro k m i h out hd hk hi ho hm1 hm
    obtain ⟨k, rfl⟩ : ∃ q, k = q + 1 := ⟨k - 1, by omega⟩
    by_cases c : (m : Int) < n
    · rw [spec_l07DrawPoints.l0_eq, if_pos c]
      obtain ⟨x, i1, h1, e1, j1⟩ := elem_f b hb f i h hi K (by omega)
      simp only [e1, bs]
      rw [has_is out x (by omega) K (by omega)]
      simp only [bs]
      have step : ∀ (i2 h2 : Int) (o : List Int), 0 ≤ i2 → o.length ≤ m + 1 → 0 < o.length → ∃ i' h' l, spec_l07DrawPoints.l0 K k f n (wrap64 ((m : Int) + 1)) b i2 h2 o = some (b, i', h', l) ∧ l.length ≤ m + (n - m).toNat ∧ 0 ≤ i' ∧ ((0 < m ∨ 0 < n) → 0 < l.length) := by
        intro i2 h2 o hi2 ho2 ho3
        rw [wrap_id (x := (m : Int) + 1) (by omega) (by omega)]
        obtain ⟨i', h', l, e, hl, hj, hp⟩ := ih k (m + 1) i2 h2 o (by omega) (by omega) hi2 ho2 (by omega) (fun _ => ho3)
        exact ⟨i', h', l, e, by omega, hj, fun _ => hp (by omega)⟩
      by_cases cx : x ∈ out
      · rw [decide_eq_true cx, if_neg (by decide)]
        obtain ⟨y, i2, h2, e2, j2⟩ := once_f b hb 60 i1 h1 j1 K (by omega)
        simp only [e2, bs]
        have hpos : 0 < out.length := List.length_pos_of_mem cx
        cases y with
        | true =>
          rw [if_pos rfl, if_pos (by omega)]
          exact step i2 h2 _ j2 (by simp; omega) (by simp)
        | false =>
          rw [if_neg (by decide)]
          exact step i2 h2 _ j2 (by omega) hpos
      · rw [decide_eq_false cx, if_pos (by decide), if_pos (by omega)]
        exact step i1 h1 _ j1 (by simp; omega) (by simp)
    · exact fin k m i h out c hi ho hm
theorem points_f (f n : Int) (hn : n ≤ 1000) (i h : Int) (hi : 0 ≤ i) (k : Nat) (hk : 1020 ≤ k) : ∃ i' h' l, spec_l07DrawPoints.f k f n b i h = some (b, i', h', l) ∧ l.length ≤ n.toNat ∧ 0 ≤ i' ∧ (0 < n → 0 < l.length) := by
  obtain ⟨k, rfl⟩ : ∃ q, k = q + 1 := ⟨k - 1, by omega⟩
  rw [spec_l07DrawPoints.f_eq]
  obtain ⟨i', h', l, e, hl, hj, hp⟩ := points_l0 b hb f n hn k (by omega) n.toNat k 0 i h [] (by omega) (by omega) hi (by simp) (by omega) (fun q => absurd q (by omega))
  exact ⟨i', h', l, e, by omega, hj, fun q => hp (.inr q)⟩
theorem any_f (f i h : Int) (hi : 0 ≤ i) (k : Nat) (hk : 20 ≤ k) : ∃ x i' h', spec_l01DrawAny.f k f b i h = some (x, b, i', h') ∧ 0 ≤ i' := by
  obtain ⟨k, rfl⟩ : ∃ q, k = q + 1 := ⟨k - 1, by omega⟩
  rw [spec_l01DrawAny.f_eq]
  obtain ⟨x, i1, h1, e1, _, _, _, j1⟩ := below_f b hb 8 i h hi k (by omega)
  simp only [e1, bs]
  by_cases c0 : x = 0
  · rw [if_pos c0]
    obtain ⟨y, i2, h2, e2, _, _, _, j2⟩ := below_f b hb 300 i1 h1 j1 k (by omega)
    simp only [e2, bs]
    exact ⟨_, _, _, rfl, j2⟩
  rw [if_neg c0]
  by_cases c1 : x = 1
  · rw [if_pos c1]
    obtain ⟨y, i2, h2, e2, _, j2⟩ := pick_f b hb [9223372036854775807, (-9223372036854775808), (-9223372036854775807), 4611686018427387904] (by simp) i1 h1 j1 k (by omega)
    simp only [e2, bs]
    exact ⟨_, _, _, rfl, j2⟩
  rw [if_neg c1]
  by_cases c2 : x = 2
  · rw [if_pos c2, modulus_is f k (by omega)]
    simp only [bs]
    obtain ⟨y, i2, h2, e2, _, _, _, j2⟩ := below_f b hb 1000 i1 h1 j1 k (by omega)
    simp only [e2, bs]
    exact ⟨_, _, _, rfl, j2⟩
  rw [if_neg c2]
  by_cases c3 : x = 3
  · rw [if_pos c3]
    obtain ⟨y, i2, h2, e2, _, _, _, j2⟩ := below_f b hb 16777216 i1 h1 j1 k (by omega)
    simp only [e2, bs]
    obtain ⟨z, i3, h3, e3, _, _, _, j3⟩ := below_f b hb 16777216 i2 h2 j2 k (by omega)
    simp only [e3, bs]
    exact ⟨_, _, _, rfl, j3⟩
  · rw [if_neg c3]
    obtain ⟨y, i2, h2, e2, j2⟩ := elem_f b hb f i1 h1 j1 k (by omega)
    simp only [e2, bs]
    exact ⟨_, _, _, rfl, j2⟩
end
/-! ### arithmetic: it answers -/
theorem copy_f (a : List Int) (ha : a.length ≤ 1048576) (k : Nat) (hk : a.length + 1 < k) : spec_l01Copy.f k a = some a := by
  obtain ⟨k, rfl⟩ : ∃ q, k = q + 1 := ⟨k - 1, by omega⟩
  rw [spec_l01Copy.f_eq]
  have := append_loop (fun fu s i => spec_l01Copy.l0 k fu a i s) a id 0 [] (by
    intro fu s _
    simp only [spec_l01Copy.l0_eq]
    rw [if_neg (by omega)]) (by
    intro fu i s h _ hs
    simp only [spec_l01Copy.l0_eq]
    rw [if_pos (by omega), if_pos (by omega), if_pos (by omega), if_pos (by simp at hs; omega), rd_at a i h, wrap_next h (by omega)]
    rfl) k (by omega)
  simpa using this
theorem cut_some (a : List Int) (n : Nat) (hn : n ≤ a.length) (ha : a.length ≤ 10000) (k : Nat) (hk : 10010 ≤ k) : ∃ r, (spec_l01Copy.f k (cut a 0 (n : Int))).bind (fun r1 => some r1) = some r ∧ r.length ≤ a.length := by
  have e : cut a 0 (n : Int) = a.take n := by simp [cut]
  rw [e, copy_f _ (by rw [List.length_take]; omega) k (by rw [List.length_take]; omega), bs]
  exact ⟨_, rfl, by rw [List.length_take]; omega⟩
theorem cut_l0 (a : List Int) (ha : a.length ≤ 10000) (K : Nat) (hK : 10010 ≤ K) : ∀ (n k : Nat), n ≤ a.length → n < k → ∃ r, spec_l03Cut.l0 K k a (n : Int) = some r ∧ r.length ≤ a.length := by
  intro n
  induction n with
  | zero =>
    intro k hn hk
    obtain ⟨k, rfl⟩ : ∃ q, k = q + 1 := ⟨k - 1, by omega⟩
    rw [spec_l03Cut.l0_eq, if_neg (by omega), if_pos (by omega), if_pos (by omega)]
    exact cut_some a 0 (by omega) ha K hK
  | succ n ih =>
    intro k hn hk
    obtain ⟨k, rfl⟩ : ∃ q, k = q + 1 := ⟨k - 1, by omega⟩
    rw [spec_l03Cut.l0_eq, if_pos (by omega), wrap_id (x := ((n + 1 : Nat) : Int) - 1) (by omega) (by omega), if_pos (by omega), if_pos (by omega)]
    by_cases c : rdI a (((n + 1 : Nat) : Int) - 1) = 0
    · rw [if_pos c, show ((n + 1 : Nat) : Int) - 1 = (n : Int) by omega]
      exact ih k (by omega) (by omega)
    · rw [if_neg c, if_pos (by omega), if_pos (by omega)]
      exact cut_some a (n + 1) hn ha K hK
theorem cut_f (a : List Int) (ha : a.length ≤ 10000) (k : Nat) (hk : 10020 ≤ k) : ∃ r, spec_l03Cut.f k a = some r ∧ r.length ≤ a.length := by
  obtain ⟨k, rfl⟩ : ∃ q, k = q + 1 := ⟨k - 1, by omega⟩
  rw [spec_l03Cut.f_eq]
  exact cut_l0 a ha k (by omega) a.length k (Nat.le_refl _) (by omega)
theorem reduce_some (f x : Int) (k : Nat) (hk : 3 ≤ k) : ∃ r, spec_Reduce.f k f x = some r := by
  obtain ⟨k, rfl⟩ : ∃ q, k = q + 1 := ⟨k - 1, by omega⟩
  rw [spec_Reduce.f_eq, modulus_is f k (by omega), bs]
  by_cases c : md f = 0
  · rw [if_pos c]; exact ⟨_, rfl⟩
  · rw [if_neg c, if_pos c]
    split <;> exact ⟨_, rfl⟩
theorem mul_some (f x y : Int) (k : Nat) (hk : 5 ≤ k) : ∃ r, spec_Mul.f k f x y = some r := by
  obtain ⟨k, rfl⟩ : ∃ q, k = q + 1 := ⟨k - 1, by omega⟩
  rw [spec_Mul.f_eq, modulus_is f k (by omega), bs]
  by_cases c : md f = 0
  · rw [if_pos c]; exact ⟨_, rfl⟩
  · rw [if_neg c]
    obtain ⟨u, hu⟩ := reduce_some f x k (by omega)
    obtain ⟨v, hv⟩ := reduce_some f y k (by omega)
    obtain ⟨z, hz⟩ := reduce_some f (wrap64 (u * v)) k (by omega)
    simp only [hu, hv, hz, bs]
    exact ⟨_, rfl⟩
theorem add_some (f x y : Int) (k : Nat) (hk : 5 ≤ k) : ∃ r, spec_Add.f k f x y = some r := by
  obtain ⟨k, rfl⟩ : ∃ q, k = q + 1 := ⟨k - 1, by omega⟩
  rw [spec_Add.f_eq, modulus_is f k (by omega), bs]
  by_cases c : md f = 0
  · rw [if_pos c]; exact ⟨_, rfl⟩
  · rw [if_neg c]
    obtain ⟨u, hu⟩ := reduce_some f x k (by omega)
    obtain ⟨v, hv⟩ := reduce_some f y k (by omega)
    obtain ⟨z, hz⟩ := reduce_some f (wrap64 (u + v)) k (by omega)
    simp only [hu, hv, hz, bs]
    exact ⟨_, rfl⟩
theorem power_l0 (K : Nat) (p : Int) (hp : p ≠ 0) : ∀ (d k : Nat) (n x o : Int), n < 2 ^ d → n < 4611686018427387904 → d < k → ∃ r, spec_Power.l0 K k p x n o = some r := by
  intro d
  induction d with
  | zero =>
    intro k n x o hn hn2 hk
    obtain ⟨k, rfl⟩ : ∃ q, k = q + 1 := ⟨k - 1, by omega⟩
    rw [spec_Power.l0_eq, if_neg (by omega)]
    exact ⟨_, rfl⟩
  | succ d ih =>
    intro k n x o hn hn2 hk
    obtain ⟨k, rfl⟩ : ∃ q, k = q + 1 := ⟨k - 1, by omega⟩
    rw [spec_Power.l0_eq]
    by_cases c : n > 0
    · have e : Int.tdiv n 2 = n / 2 := Int.tdiv_eq_ediv_of_nonneg (by omega)
      rw [if_pos c, e, wrap_id (x := n / 2) (by omega) (by omega)]
      have h2 : n / 2 < 2 ^ d := by
        rw [Int.pow_succ] at hn
        omega
      by_cases c2 : Int.tmod n 2 = 1
      · rw [if_pos c2, if_pos hp, if_pos hp]
        exact ih k _ _ _ h2 (by omega) (by omega)
      · rw [if_neg c2, if_pos hp]
        exact ih k _ _ _ h2 (by omega) (by omega)
    · rw [if_neg c]; exact ⟨_, rfl⟩
theorem power_some (f x e : Int) (he : 0 ≤ e) (k : Nat) (hk : 100 ≤ k) : ∃ r, spec_Power.f k f x e = some r := by
  obtain ⟨k, rfl⟩ : ∃ q, k = q + 1 := ⟨k - 1, by omega⟩
  rw [spec_Power.f_eq, modulus_is f k (by omega), bs]
  by_cases c : md f = 0
  · rw [if_pos c]; exact ⟨_, rfl⟩
  · have hp := md_pos c
    rw [if_neg c]
    obtain ⟨u, hu⟩ := reduce_some f x k (by omega)
    simp only [hu, bs]
    by_cases c2 : u = 0
    · rw [if_pos c2]
      split
      · exact ⟨_, rfl⟩
      · split <;> exact ⟨_, rfl⟩
    · rw [if_neg c2, wrap_id (x := md f - 1) (by omega) (by omega), if_pos (by omega), if_neg (by have := Int.tmod_nonneg (md f - 1) he; omega)]
      rw [spec_Power.j0_eq]
      have h1 := Int.tmod_lt_of_pos e (show 0 < md f - 1 by omega)
      exact power_l0 k (md f) c 40 k _ _ _ (by omega) (by omega) (by omega)
theorem elems_some (f : Int) (a : List Int) (ha : a.length ≤ 10000) (k : Nat) (hk : 10010 ≤ k) : ∃ r, spec_l03Elements.f k f a = some r := by
  obtain ⟨k, rfl⟩ : ∃ q, k = q + 1 := ⟨k - 1, by omega⟩
  rw [spec_l03Elements.f_eq, modulus_is f k (by omega), bs]
  by_cases c : md f = 0
  · rw [if_pos c]; exact ⟨_, rfl⟩
  · rw [if_neg c]
    have key : ∀ (d fu i : Nat), i + d = a.length → d < fu → ∃ r, spec_l03Elements.l0 k fu a (md f) (i : Int) = some r := by
      intro d
      induction d with
      | zero =>
        intro fu i hi hf
        obtain ⟨fu, rfl⟩ : ∃ q, fu = q + 1 := ⟨fu - 1, by omega⟩
        rw [spec_l03Elements.l0_eq, if_neg (by omega)]; exact ⟨_, rfl⟩
      | succ d ih =>
        intro fu i hi hf
        obtain ⟨fu, rfl⟩ : ∃ q, fu = q + 1 := ⟨fu - 1, by omega⟩
        rw [spec_l03Elements.l0_eq, if_pos (by omega), if_pos (by omega), if_pos (by omega), in_is _ _ _ k (by omega), bs, wrap_next (show i < a.length by omega) (by omega)]
        split
        · exact ⟨_, rfl⟩
        · exact ih fu (i + 1) (by omega) (by omega)
    exact key a.length k 0 (by omega) (by omega)
theorem polyok_some (f : Int) (a : List Int) (k : Nat) (hk : 10020 ≤ k) : ∃ r, spec_PolyOk.f k f a = some r := by
  obtain ⟨k, rfl⟩ : ∃ q, k = q + 1 := ⟨k - 1, by omega⟩
  rw [spec_PolyOk.f_eq]
  by_cases c : (a.length : Int) > 400
  · rw [if_pos c]; exact ⟨_, rfl⟩
  · rw [if_neg c]
    obtain ⟨r, hr⟩ := elems_some f a (by omega) k (by omega)
    simp only [hr, bs]
    split
    · exact ⟨_, rfl⟩
    · split
      · exact ⟨_, rfl⟩
      · rw [wrap_id (by omega) (by omega), if_pos (by omega), if_pos (by omega)]; exact ⟨_, rfl⟩
theorem eval_some (f : Int) (a : List Int) (x : Int) (k : Nat) (hk : 10030 ≤ k) (ha : a.length ≤ 10000) : ∃ r, spec_EvalPoly.f k f a x = some r := by
  obtain ⟨k, rfl⟩ : ∃ q, k = q + 1 := ⟨k - 1, by omega⟩
  rw [spec_EvalPoly.f_eq]
  obtain ⟨r, hr⟩ := polyok_some f a k (by omega)
  simp only [hr, bs]
  split
  · exact ⟨_, rfl⟩
  · have key : ∀ (d fu i : Nat) (s : Int), i + d = a.length → d < fu → ∃ r, spec_EvalPoly.l0 k fu f a x s (i : Int) = some r := by
      intro d
      induction d with
      | zero =>
        intro fu i s hi hf
        obtain ⟨fu, rfl⟩ : ∃ q, fu = q + 1 := ⟨fu - 1, by omega⟩
        rw [spec_EvalPoly.l0_eq, if_neg (by omega)]; exact ⟨_, rfl⟩
      | succ d ih =>
        intro fu i s hi hf
        obtain ⟨fu, rfl⟩ : ∃ q, fu = q + 1 := ⟨fu - 1, by omega⟩
        obtain ⟨u, hu⟩ := power_some f x (i : Int) (by omega) k (by omega)
        obtain ⟨v, hv⟩ := mul_some f (rdI a (i : Int)) u k (by omega)
        obtain ⟨z, hz⟩ := add_some f s v k (by omega)
        rw [spec_EvalPoly.l0_eq, if_pos (by omega), if_pos (by omega), if_pos (by omega)]
        simp only [hu, hv, hz, bs]
        rw [wrap_next (show i < a.length by omega) (by omega)]
        exact ih fu (i + 1) z (by omega) (by omega)
    exact key a.length k 0 0 (by omega) (by omega)
theorem pointsok_some (f : Int) (xs : List Int) (hx : xs.length ≤ 10000) (k : Nat) (hk : 10030 ≤ k) : ∃ r, spec_PointsOk.f k f xs = some r := by
  obtain ⟨k, rfl⟩ : ∃ q, k = q + 1 := ⟨k - 1, by omega⟩
  rw [spec_PointsOk.f_eq, in_is _ _ _ k (by omega), bs]
  split
  · exact ⟨_, rfl⟩
  · obtain ⟨r, hr⟩ := elems_some f xs hx k (by omega)
    simp only [hr, bs]
    split
    · exact ⟨_, rfl⟩
    · have key : ∀ (d fu i : Nat), i + d = xs.length → d < fu → ∃ r, spec_PointsOk.l0 k fu xs (i : Int) = some r := by
        intro d
        induction d with
        | zero =>
          intro fu i hi hf
          obtain ⟨fu, rfl⟩ : ∃ q, fu = q + 1 := ⟨fu - 1, by omega⟩
          rw [spec_PointsOk.l0_eq, if_neg (by omega)]; exact ⟨_, rfl⟩
        | succ d ih =>
          intro fu i hi hf
          obtain ⟨fu, rfl⟩ : ∃ q, fu = q + 1 := ⟨fu - 1, by omega⟩
          have hc : (cut xs 0 (i : Int)).length ≤ 10000 := by simp [cut]; omega
          rw [spec_PointsOk.l0_eq, if_pos (by omega), if_pos (by omega), if_pos (by omega), if_pos (by omega), if_pos (by omega), has_is _ _ (by omega) k (by omega), bs, wrap_next (show i < xs.length by omega) (by omega)]
          split
          · exact ⟨_, rfl⟩
          · exact ih fu (i + 1) (by omega) (by omega)
      exact key xs.length k 0 (by omega) (by omega)
theorem encword_some (f : Int) (xs m : List Int) (hx : xs.length ≤ 10000) (hm : m.length ≤ 10000) (k : Nat) (hk : 20050 ≤ k) : ∃ r, spec_EncodeWord.f k f xs m = some r ∧ r.length ≤ xs.length := by
  obtain ⟨k, rfl⟩ : ∃ q, k = q + 1 := ⟨k - 1, by omega⟩
  rw [spec_EncodeWord.f_eq]
  have hcode : ∃ r, spec_l07Code.f k f xs (m.length : Int) = some r := by
    obtain ⟨k, rfl⟩ : ∃ q, k = q + 1 := ⟨k - 1, by omega⟩
    rw [spec_l07Code.f_eq]
    split
    · obtain ⟨r, hr⟩ := pointsok_some f xs hx k (by omega)
      simp only [hr, bs]
      split
      · rw [in_is _ _ _ k (by omega), bs]; exact ⟨_, rfl⟩
      · exact ⟨_, rfl⟩
    · exact ⟨_, rfl⟩
  obtain ⟨r, hr⟩ := hcode
  simp only [hr, bs]
  split
  · exact ⟨_, rfl, by simp⟩
  · obtain ⟨r2, hr2⟩ := elems_some f m hm k (by omega)
    simp only [hr2, bs]
    split
    · exact ⟨_, rfl, by simp⟩
    · have key : ∀ (d fu i : Nat) (out : List Int), i + d = xs.length → d < fu → out.length = i → ∃ r, spec_EncodeWord.l0 k fu f xs m (i : Int) out = some r ∧ r.length ≤ xs.length := by
        intro d
        induction d with
        | zero =>
          intro fu i out hi hf ho
          obtain ⟨fu, rfl⟩ : ∃ q, fu = q + 1 := ⟨fu - 1, by omega⟩
          rw [spec_EncodeWord.l0_eq, if_neg (by omega)]; exact ⟨_, rfl, by omega⟩
        | succ d ih =>
          intro fu i out hi hf ho
          obtain ⟨fu, rfl⟩ : ∃ q, fu = q + 1 := ⟨fu - 1, by omega⟩
          obtain ⟨u, hu, hul⟩ := cut_f m hm k (by omega)
          obtain ⟨v, hv⟩ := eval_some f u (rdI xs (i : Int)) k (by omega) (by omega)
          rw [spec_EncodeWord.l0_eq, if_pos (by omega)]
          simp only [hu, bs]
          rw [if_pos (by omega), if_pos (by omega)]
          simp only [hv, bs]
          rw [if_pos (by omega), wrap_next (show i < xs.length by omega) (by omega)]
          exact ih fu (i + 1) _ (by omega) (by omega) (by simp; omega)
      exact key xs.length k 0 [] (by omega) (by omega) rfl
end Go.Vm.Pu
namespace Go.Vm.Pu
open Go Go.RowKit Go.Vm
set_option linter.unusedVariables false
set_option linter.unusedSimpArgs false
set_option linter.unusedSectionVars false
theorem tdiv2 (x : Int) : (0 ≤ x → Int.tdiv x 2 = x / 2) ∧ (x < 0 → Int.tdiv x 2 = -((-x) / 2)) := by
  refine ⟨fun h => Int.tdiv_eq_ediv_of_nonneg h, fun h => ?_⟩
  have e : Int.tdiv (-x) 2 = (-x) / 2 := Int.tdiv_eq_ediv_of_nonneg (by omega)
  rw [Int.neg_tdiv] at e
  omega
section
variable (b : List Int) (hb : b.length ≤ 1048576)
include hb
theorem word_l0 (f k9 n : Int) (hn : n ≤ 1000) (xs m : List Int) (K : Nat) (hK : 10 ≤ K) : ∀ (d k j : Nat) (i h : Int) (ys : List Int), (n - j).toNat ≤ d → d < k → 0 ≤ i → 0 < ys.length → j ≤ 1000 →
    ∃ i' h' ys', spec_l07DrawWord.l0 K k f k9 n (j : Int) b i h xs m ys = some (f, k9, b, i', h', xs, ys', m) ∧ ys'.length = ys.length ∧ 0 ≤ i' := by
  intro d
  induction d with
  | zero =>
    intro k j i h ys hd hk hi hy hj
    obtain ⟨k, rfl⟩ : ∃ q, k = q + 1 := ⟨k - 1, by omega⟩
    rw [spec_l07DrawWord.l0_eq, if_neg (by omega)]
    exact ⟨_, _, _, rfl, rfl, hi⟩
  | succ d ih =>
    intro k j i h ys hd hk hi hy hj
    obtain ⟨k, rfl⟩ : ∃ q, k = q + 1 := ⟨k - 1, by omega⟩
    rw [spec_l07DrawWord.l0_eq]
    by_cases c : (j : Int) < n
    · rw [if_pos c]
      obtain ⟨x, i1, h1, e1, x0, x1, _, j1⟩ := below_f b hb (ys.length : Int) i h hi K (by omega)
      have hx := x1 (by omega)
      simp only [e1, bs]
      obtain ⟨y, i2, h2, e2, j2⟩ := elem_f b hb f i1 h1 j1 K hK
      simp only [e2, bs]
      rw [if_pos x0, if_pos hx, wrap_id (by omega) (by omega)]
      obtain ⟨i', h', ys', e, hl, hj'⟩ := ih k (j + 1) i2 h2 (ys.set (Int.toNat x) y) (by omega) (by omega) j2 (by simpa using hy) (by omega)
      exact ⟨i', h', ys', e, by simpa using hl, hj'⟩
    · rw [if_neg c]
      exact ⟨_, _, _, rfl, rfl, hi⟩
theorem word_j1 (f k9 : Int) (xs m ys : List Int) (hx : xs.length ≤ 100) (hk9 : 1 ≤ k9) (hk92 : k9 ≤ 200) (hy : 0 < ys.length) (i h : Int) (hi : 0 ≤ i) (k : Nat) (hk : 1010 ≤ k) :
    ∃ i' h' ys', spec_l07DrawWord.j1 k f k9 b i h xs m ys = some (f, k9, b, i', h', xs, ys', m) ∧ ys'.length = ys.length ∧ 0 ≤ i' := by
  rw [spec_l07DrawWord.j1_eq]
  obtain ⟨x, i1, h1, e1, x0, x1, x2, j1⟩ := below_f b hb (wrap64 ((wrap64 (Int.tdiv (wrap64 ((xs.length : Int) - k9)) 2)) + 2)) i h hi k (by omega)
  have hxs : x ≤ 1000 := by
    have w1 : wrap64 ((xs.length : Int) - k9) = (xs.length : Int) - k9 := wrap_id (by omega) (by omega)
    have hd : -200 ≤ Int.tdiv ((xs.length : Int) - k9) 2 ∧ Int.tdiv ((xs.length : Int) - k9) 2 ≤ 200 := by
      have := tdiv2 ((xs.length : Int) - k9)
      by_cases c : 0 ≤ (xs.length : Int) - k9
      · rw [this.1 c]; omega
      · rw [this.2 (by omega)]; omega
    rw [w1, wrap_id (x := Int.tdiv ((xs.length : Int) - k9) 2) (by omega) (by omega), wrap_id (by omega) (by omega)] at x1 x2
    by_cases c : 0 < Int.tdiv ((xs.length : Int) - k9) 2 + 2
    · have := x1 c; omega
    · have := x2 (by omega); omega
  simp only [e1, bs]
  obtain ⟨y, i2, h2, e2, j2⟩ := once_f b hb 5 i1 h1 j1 k (by omega)
  simp only [e2, bs]
  cases y with
  | true =>
    rw [if_pos rfl, wrap_id (by omega) (by omega)]
    obtain ⟨z, i3, h3, e3, z0, z1, _, j3⟩ := below_f b hb ((xs.length : Int) + 1) i2 h2 j2 k (by omega)
    have hz := z1 (by omega)
    simp only [e3, bs]
    rw [spec_l07DrawWord.j2_eq]
    exact word_l0 b hb f k9 z (by omega) xs m k (by omega) 1000 k 0 i3 h3 ys (by omega) (by omega) j3 hy (by omega)
  | false =>
    rw [if_neg (by decide), spec_l07DrawWord.j2_eq]
    exact word_l0 b hb f k9 x (by omega) xs m k (by omega) 1000 k 0 i2 h2 ys (by omega) (by omega) j2 hy (by omega)
theorem word_j0 (f k9 : Int) (xs : List Int) (hx : xs.length ≤ 100) (hx0 : 0 < xs.length) (hk9 : 1 ≤ k9) (hk92 : k9 ≤ 200) (i h : Int) (hi : 0 ≤ i) (k : Nat) (hk : 20060 ≤ k) :
    ∃ i' h' ys' m, spec_l07DrawWord.j0 k f k9 b i h xs = some (f, k9, b, i', h', xs, ys', m) ∧ ys'.length ≤ 100 ∧ 0 ≤ i' := by
  rw [spec_l07DrawWord.j0_eq]
  obtain ⟨i1, h1, m, e1, hm, j1⟩ := dlist_f b hb f k9 (by omega) i h hi k (by omega)
  simp only [e1, bs]
  obtain ⟨r, hr, hrl⟩ := encword_some f xs m (by omega) (by omega) k (by omega)
  simp only [hr, bs]
  by_cases c : (r.length : Int) = 0
  · rw [if_pos c]
    obtain ⟨i2, h2, ys, e2, hys, j2⟩ := dlist_f b hb f (xs.length : Int) (by omega) i1 h1 j1 k (by omega)
    simp only [e2, bs]
    obtain ⟨i', h', ys', e, hl, hj⟩ := word_j1 b hb f k9 xs m ys hx hk9 hk92 (by omega) i2 h2 j2 k (by omega)
    exact ⟨i', h', ys', m, e, by omega, hj⟩
  · rw [if_neg c]
    obtain ⟨i', h', ys', e, hl, hj⟩ := word_j1 b hb f k9 xs m r hx hk9 hk92 (by omega) i1 h1 j1 k (by omega)
    exact ⟨i', h', ys', m, e, by omega, hj⟩
theorem word_f (i h : Int) (hi : 0 ≤ i) (k : Nat) (hk : 20070 ≤ k) : ∃ f k9 i' h' xs ys m, spec_l07DrawWord.f k b i h = some (f, k9, b, i', h', xs, ys, m) ∧ xs.length ≤ 100 ∧ ys.length ≤ 100 ∧ 0 ≤ i' := by
  obtain ⟨k, rfl⟩ : ∃ q, k = q + 1 := ⟨k - 1, by omega⟩
  rw [spec_l07DrawWord.f_eq]
  obtain ⟨f, i1, h1, e1, j1⟩ := field_f b hb i h hi k (by omega)
  simp only [e1, bs]
  obtain ⟨x, i2, h2, e2, x0, x1, _, j2⟩ := below_f b hb 8 i1 h1 j1 k (by omega)
  have hx := x1 (by omega)
  simp only [e2, bs]
  rw [wrap_id (x := 3 + x) (by omega) (by omega)]
  obtain ⟨i3, h3, xs, e3, hl, j3, hp⟩ := points_f b hb f (3 + x) (by omega) i2 h2 j2 k (by omega)
  have hxs := hp (by omega)
  simp only [e3, bs]
  obtain ⟨y, i4, h4, e4, y0, y1, _, j4⟩ := below_f b hb (xs.length : Int) i3 h3 j3 k (by omega)
  have hy := y1 (by omega)
  simp only [e4, bs]
  obtain ⟨t, i5, h5, e5, j5⟩ := once_f b hb 2 i4 h4 j4 k (by omega)
  simp only [e5, bs]
  cases t with
  | true =>
    rw [if_pos rfl]
    have w1 : wrap64 ((xs.length : Int) + 1) = (xs.length : Int) + 1 := wrap_id (by omega) (by omega)
    have hd : 0 ≤ Int.tdiv ((xs.length : Int) + 1) 2 ∧ Int.tdiv ((xs.length : Int) + 1) 2 ≤ 100 := by
      rw [(tdiv2 ((xs.length : Int) + 1)).1 (by omega)]; omega
    rw [w1, wrap_id (x := Int.tdiv ((xs.length : Int) + 1) 2) (by omega) (by omega)]
    obtain ⟨z, i6, h6, e6, z0, z1, z2, j6⟩ := below_f b hb (Int.tdiv ((xs.length : Int) + 1) 2) i5 h5 j5 k (by omega)
    have hz : z ≤ 100 := by
      by_cases c : 0 < Int.tdiv ((xs.length : Int) + 1) 2
      · have := z1 c; omega
      · have := z2 (by omega); omega
    simp only [e6, bs]
    rw [wrap_id (x := 1 + z) (by omega) (by omega)]
    obtain ⟨i', h', ys', m, e, hl', hj⟩ := word_j0 b hb f (1 + z) xs (by omega) hxs (by omega) (by omega) i6 h6 j6 k (by omega)
    exact ⟨_, _, _, _, _, _, _, e, by omega, hl', hj⟩
  | false =>
    rw [if_neg (by decide), wrap_id (x := 1 + y) (by omega) (by omega)]
    obtain ⟨i', h', ys', m, e, hl', hj⟩ := word_j0 b hb f (1 + y) xs (by omega) hxs (by omega) (by omega) i5 h5 j5 k (by omega)
    exact ⟨_, _, _, _, _, _, _, e, by omega, hl', hj⟩
/-- A drawn job. -/
def JobD (b : List Int) (r : Option (Int × Int × Int × List Int × Int × Int × List Int × List Int)) : Prop :=
  ∃ a f n i h A B, r = some (a, f, n, b, i, h, A, B) ∧ A.length ≤ 300 ∧ B.length ≤ 300 ∧ 0 ≤ i
theorem job_j0 (t0 t1 t4 a f n : Int) (A B : List Int) (hA : A.length ≤ 200) (hB : B.length ≤ 200) (i h : Int) (hi : 0 ≤ i) (k : Nat) (hk : 1010 ≤ k) : JobD b (spec_l10DrawJob.j0 k b i h t0 t1 t4 a f n A B) := by
  rw [spec_l10DrawJob.j0_eq]
  simp only [spec_l10DrawJob.j4_eq]
  obtain ⟨x, i1, h1, e1, j1⟩ := once_f b hb 12 i h hi k (by omega)
  simp only [e1, bs]
  cases x with
  | false => exact ⟨_, _, _, _, _, _, _, rfl, by omega, by omega, j1⟩
  | true =>
    rw [if_pos rfl]
    obtain ⟨x, i2, h2, e2, _, _, _, j2⟩ := below_f b hb 5 i1 h1 j1 k (by omega)
    simp only [e2, bs]
    by_cases c0 : x = 0
    · rw [if_pos c0]
      obtain ⟨y, i3, h3, e3, _, _, _, j3⟩ := below_f b hb 11 i2 h2 j2 k (by omega)
      simp only [e3, bs]
      obtain ⟨z, i4, h4, e4, _, j4⟩ := pick_f b hb [0, 12, (-1), (wrap64 (1 + y))] (by simp) i3 h3 j3 k (by omega)
      simp only [e4, bs]
      exact ⟨_, _, _, _, _, _, _, rfl, by omega, by omega, j4⟩
    rw [if_neg c0]
    by_cases c1 : x = 1
    · rw [if_pos c1]
      obtain ⟨y, i3, h3, e3, j3⟩ := field_f b hb i2 h2 j2 k (by omega)
      simp only [e3, bs]
      exact ⟨_, _, _, _, _, _, _, rfl, by omega, by omega, j3⟩
    rw [if_neg c1]
    by_cases c2 : x = 2
    · rw [if_pos c2]
      obtain ⟨z, i4, h4, e4, _, j4⟩ := pick_f b hb [1, 400, 401, (-1)] (by simp) i2 h2 j2 k (by omega)
      simp only [e4, bs]
      exact ⟨_, _, _, _, _, _, _, rfl, by omega, by omega, j4⟩
    rw [if_neg c2]
    by_cases c3 : x = 3
    · rw [if_pos c3, copy_f B (by omega) k (by omega)]
      simp only [bs]
      obtain ⟨z, i4, h4, e4, j4⟩ := any_f b hb f i2 h2 j2 k (by omega)
      simp only [e4, bs]
      rw [if_pos (by omega)]
      exact ⟨_, _, _, _, _, _, _, rfl, by omega, by simp; omega, j4⟩
    rw [if_neg c3]
    by_cases c4 : x = 4
    · rw [if_pos c4, copy_f A (by omega) k (by omega)]
      simp only [bs]
      obtain ⟨z, i4, h4, e4, _, j4⟩ := pick_f b hb [1099511627776, (-1099511627776), 1099511627777, 0, (-1)] (by simp) i2 h2 j2 k (by omega)
      simp only [e4, bs]
      rw [if_pos (by omega)]
      exact ⟨_, _, _, _, _, _, _, rfl, by simp; omega, by omega, j4⟩
    rw [if_neg c4]
    exact ⟨_, _, _, _, _, _, _, rfl, by omega, by omega, j2⟩
theorem job_j3 (t21 : Int) (t52 : Bool) (t0 t1 t4 a f n : Int) (i h : Int) (hi : 0 ≤ i) (k : Nat) (hk : 20070 ≤ k) : JobD b (spec_l10DrawJob.j3 k 5 t21 t52 b i h t0 t1 t4 a f n) := by
  rw [spec_l10DrawJob.j3_eq]
  have w6 : wrap64 (5 + 1) = 6 := wrap_id (by omega) (by omega)
  have w4 : wrap64 ((wrap64 (Int.tdiv 5 2)) + 2) = 4 := by
    have : Int.tdiv 5 2 = 2 := by decide
    rw [this, wrap_id (x := 2) (by omega) (by omega), wrap_id (by omega) (by omega)]; rfl
  simp only [w6, w4]
  cases t52 with
  | true =>
    rw [if_pos rfl]
    obtain ⟨x, i1, h1, e1, x0, x1, _, j1⟩ := below_f b hb 6 i h hi k (by omega)
    have hx := x1 (by omega)
    simp only [e1, bs]
    obtain ⟨i2, h2, l, e2, hl, j2⟩ := dlist_f b hb f x (by omega) i1 h1 j1 k (by omega)
    simp only [e2, bs]
    obtain ⟨A, e3, hA⟩ := cut_f l (by omega) k (by omega)
    simp only [e3, bs]
    obtain ⟨y, i4, h4, e4, y0, y1, _, j4⟩ := below_f b hb 4 i2 h2 j2 k (by omega)
    have hy := y1 (by omega)
    simp only [e4, bs]
    obtain ⟨i5, h5, l5, e5, hl5, j5⟩ := dlist_f b hb f y (by omega) i4 h4 j4 k (by omega)
    simp only [e5, bs]
    obtain ⟨B, e6, hB⟩ := cut_f l5 (by omega) k (by omega)
    simp only [e6, bs]
    exact job_j0 b hb t0 t1 t4 a f n A B (by omega) (by omega) i5 h5 j5 k (by omega)
  | false =>
    rw [if_neg (by decide)]
    by_cases c6 : t21 = 6
    · rw [if_pos c6]
      obtain ⟨x, i1, h1, e1, x0, x1, _, j1⟩ := below_f b hb 6 i h hi k (by omega)
      have hx := x1 (by omega)
      simp only [e1, bs]
      obtain ⟨i2, h2, A, e2, hA, j2⟩ := terms_f b hb x (by omega) i1 h1 j1 k (by omega)
      simp only [e2, bs]
      obtain ⟨y, i4, h4, e4, y0, y1, _, j4⟩ := below_f b hb 6 i2 h2 j2 k (by omega)
      have hy := y1 (by omega)
      simp only [e4, bs]
      obtain ⟨i5, h5, B, e5, hB, j5⟩ := terms_f b hb y (by omega) i4 h4 j4 k (by omega)
      simp only [e5, bs]
      exact job_j0 b hb t0 t1 t4 a 0 n A B (by omega) (by omega) i5 h5 j5 k (by omega)
    rw [if_neg c6]
    by_cases c7 : t21 = 7
    · rw [if_pos c7]
      obtain ⟨x, i1, h1, e1, x0, x1, _, j1⟩ := below_f b hb 5 i h hi k (by omega)
      have hx := x1 (by omega)
      simp only [e1, bs]
      obtain ⟨y, i4, h4, e4, y0, y1, _, j4⟩ := below_f b hb 3 i1 h1 j1 k (by omega)
      have hy := y1 (by omega)
      simp only [e4, bs]
      rw [wrap_id (x := 1 + x) (by omega) (by omega)]
      obtain ⟨i5, h5, A, e5, hA, j5⟩ := series_f b hb f (1 + x) (wrap64 (1 + y)) (by omega) i4 h4 j4 k (by omega)
      simp only [e5, bs]
      exact job_j0 b hb t0 t1 t4 a f n A [] (by omega) (by simp) i5 h5 j5 k (by omega)
    rw [if_neg c7]
    by_cases c8 : t21 = 8
    · rw [if_pos c8]
      obtain ⟨x, i1, h1, e1, x0, x1, _, j1⟩ := below_f b hb 6 i h hi k (by omega)
      have hx := x1 (by omega)
      simp only [e1, bs]
      obtain ⟨i2, h2, l, e2, hl, j2⟩ := dlist_f b hb f x (by omega) i1 h1 j1 k (by omega)
      simp only [e2, bs]
      obtain ⟨A, e3, hA⟩ := cut_f l (by omega) k (by omega)
      simp only [e3, bs]
      obtain ⟨y, i4, h4, e4, y0, y1, _, j4⟩ := below_f b hb 6 i2 h2 j2 k (by omega)
      have hy := y1 (by omega)
      simp only [e4, bs]
      obtain ⟨i5, h5, B, e5, hB, j5⟩ := dlist_f b hb f y (by omega) i4 h4 j4 k (by omega)
      simp only [e5, bs]
      exact job_j0 b hb t0 t1 t4 a f n A B (by omega) (by omega) i5 h5 j5 k (by omega)
    rw [if_neg c8]
    by_cases c9 : t21 = 9
    · rw [if_pos c9]
      obtain ⟨x, i1, h1, e1, x0, x1, _, j1⟩ := below_f b hb 5 i h hi k (by omega)
      have hx := x1 (by omega)
      simp only [e1, bs]
      rw [wrap_id (x := 1 + x) (by omega) (by omega)]
      obtain ⟨i2, h2, A, e2, hA, j2, _⟩ := points_f b hb f (1 + x) (by omega) i1 h1 j1 k (by omega)
      simp only [e2, bs]
      obtain ⟨i5, h5, B, e5, hB, j5⟩ := dlist_f b hb f (A.length : Int) (by omega) i2 h2 j2 k (by omega)
      simp only [e5, bs]
      exact job_j0 b hb t0 t1 t4 a f n A B (by omega) (by omega) i5 h5 j5 k (by omega)
    rw [if_neg c9]
    by_cases c11 : t21 = 11
    · rw [if_pos c11]
      obtain ⟨g, k9, i5, h5, xs, ys, m, e5, hA, hB, j5⟩ := word_f b hb i h hi k (by omega)
      simp only [e5, bs]
      exact job_j0 b hb t0 t1 t4 a g k9 xs ys (by omega) (by omega) i5 h5 j5 k (by omega)
    rw [if_neg c11]
    exact job_j0 b hb t0 t1 t4 a f n [] [] (by simp) (by simp) i h hi k (by omega)
theorem pow_k (k6 : Int) (h0 : 0 ≤ k6) (h1 : k6 < 4) : IntKind.u64.wrap k6 = k6 ∧ wrap64 (1 * 2 ^ (Int.toNat k6)) ≤ 8 := by
  have e : k6 = 0 ∨ k6 = 1 ∨ k6 = 2 ∨ k6 = 3 := by omega
  rcases e with rfl | rfl | rfl | rfl <;> exact ⟨by decide, by decide⟩
theorem job_j2 (k6 : Int) (h0 : 0 ≤ k6) (h1 : k6 < 4) (t21 : Int) (t33 : Bool) (t0 t1 t4 a f n : Int) (i h : Int) (hi : 0 ≤ i) (k : Nat) (hk : 20070 ≤ k) : JobD b (spec_l10DrawJob.j2 k 5 k6 t21 t33 b i h t0 t1 t4 a f n) := by
  rw [spec_l10DrawJob.j2_eq]
  obtain ⟨p1, p2⟩ := pow_k b hb k6 h0 h1
  rw [p1]
  cases t33 with
  | true =>
    rw [if_pos rfl, if_pos h0, if_pos (by omega)]
    obtain ⟨i2, h2, A, e2, hA, j2⟩ := dlist_f b hb f _ (show wrap64 (1 * 2 ^ (Int.toNat k6)) ≤ 1000 by omega) i h hi k (by omega)
    simp only [e2, bs]
    rw [if_pos h0, if_pos (by omega)]
    obtain ⟨i5, h5, B, e5, hB, j5⟩ := dlist_f b hb f _ (show wrap64 (1 * 2 ^ (Int.toNat k6)) ≤ 1000 by omega) i2 h2 j2 k (by omega)
    simp only [e5, bs]
    exact job_j0 b hb t0 t1 t4 a f n A B (by omega) (by omega) i5 h5 j5 k (by omega)
  | false =>
    rw [if_neg (by decide)]
    split
    · exact job_j3 b hb _ _ t0 t1 t4 a f n i h hi k hk
    · exact job_j3 b hb _ _ t0 t1 t4 a f n i h hi k hk
theorem job_j1 (k6 : Int) (h0 : 0 ≤ k6) (h1 : k6 < 4) (t21 : Int) (t22 : Bool) (t0 t1 t4 a f n : Int) (i h : Int) (hi : 0 ≤ i) (k : Nat) (hk : 20070 ≤ k) : JobD b (spec_l10DrawJob.j1 k 5 k6 t21 t22 b i h t0 t1 t4 a f n) := by
  rw [spec_l10DrawJob.j1_eq]
  obtain ⟨p1, p2⟩ := pow_k b hb k6 h0 h1
  rw [p1]
  cases t22 with
  | true =>
    rw [if_pos rfl, if_pos h0, if_pos (by omega)]
    obtain ⟨i2, h2, A, e2, hA, j2⟩ := dlist_f b hb f _ (show wrap64 (1 * 2 ^ (Int.toNat k6)) ≤ 1000 by omega) i h hi k (by omega)
    simp only [e2, bs]
    exact job_j0 b hb t0 t1 t4 a f n A [] (by omega) (by simp) i2 h2 j2 k (by omega)
  | false =>
    rw [if_neg (by decide)]
    split
    · exact job_j2 b hb k6 h0 h1 _ _ t0 t1 t4 a f n i h hi k hk
    · exact job_j2 b hb k6 h0 h1 _ _ t0 t1 t4 a f n i h hi k hk
theorem job_f (i h : Int) (hi : 0 ≤ i) (k : Nat) (hk : 20080 ≤ k) : JobD b (spec_l10DrawJob.f k 5 b i h) := by
  obtain ⟨k, rfl⟩ : ∃ q, k = q + 1 := ⟨k - 1, by omega⟩
  rw [spec_l10DrawJob.f_eq]
  obtain ⟨x, i1, h1, e1, _, _, _, j1⟩ := below_f b hb 11 i h hi k (by omega)
  simp only [e1, bs]
  obtain ⟨y, i2, h2, e2, _, _, _, j2⟩ := below_f b hb 9 i1 h1 j1 k (by omega)
  simp only [e2, bs]
  obtain ⟨z, i3, h3, e3, z0, z1, _, j3⟩ := below_f b hb 4 i2 h2 j2 k (by omega)
  have hz := z1 (by omega)
  simp only [e3, bs]
  split
  · exact job_j1 b hb z z0 hz _ _ 0 0 0 _ y 0 i3 h3 j3 k (by omega)
  · exact job_j1 b hb z z0 hz _ _ 0 0 0 _ y 0 i3 h3 j3 k (by omega)
end
/-! ### a job's bytes -/
theorem putlist_some (out l : List Int) (ho : out.length ≤ 100000) (hl : l.length ≤ 400) (hw : Wd l) (hbs : Bs out) (k : Nat) (hk : 200000 ≤ k) : ∃ r, spec_l10PutList.f k out l = some r ∧ Bs r ∧ r.length ≤ out.length + 7 * (l.length + 1) := by
  obtain ⟨k, rfl⟩ : ∃ q, k = q + 1 := ⟨k - 1, by omega⟩
  have hv := vi_length 6 (unz (l.length : Int))
  rw [spec_l10PutList.f_eq, put_f (l.length : Int) (by omega) (by omega) k (by omega), bs, join_is out _ (by omega) (by omega) k (by omega) (by omega), bs]
  have inner : ∀ (K fu0 i : Nat) (v : List Int), v.length ≤ 7 → 0 < fu0 → ∀ (d fu j : Nat) (o : List Int), j + d = v.length → d < fu → o.length ≤ 200000 →
      spec_l10PutList.l1 K fu0 fu l (i : Int) (v.length : Int) (j : Int) o v = spec_l10PutList.l0 K fu0 l (wrap64 ((i : Int) + 1)) (o ++ v.drop j) := by
    intro K fu0 i v hv hf0 d
    induction d with
    | zero =>
      intro fu j o hj hf ho
      obtain ⟨fu, rfl⟩ : ∃ q, fu = q + 1 := ⟨fu - 1, by omega⟩
      rw [spec_l10PutList.l1_eq, if_neg (by omega), List.drop_of_length_le (by omega), List.append_nil]
    | succ d ih =>
      intro fu j o hj hf ho
      obtain ⟨fu, rfl⟩ : ∃ q, fu = q + 1 := ⟨fu - 1, by omega⟩
      have hjl : j < v.length := by omega
      rw [spec_l10PutList.l1_eq, if_pos (by omega), if_pos (by omega), if_pos (by omega), if_pos (by omega), wrap_next hjl (by omega), rd_at v j hjl]
      have ho2 : (o ++ [v[j]]).length ≤ 200000 ∨ True := .inr trivial
      by_cases hsz : (o ++ [v[j]]).length ≤ 200000
      · rw [ih fu (j + 1) _ (by omega) (by omega) hsz, drop_cons v j hjl, List.append_assoc]; rfl
      · have hd0 : ∀ (d' fu j : Nat) (o : List Int), j + d' = v.length → d' < fu → o.length + d' ≤ 300000 → spec_l10PutList.l1 K fu0 fu l (i : Int) (v.length : Int) (j : Int) o v = spec_l10PutList.l0 K fu0 l (wrap64 ((i : Int) + 1)) (o ++ v.drop j) := by
          intro d'
          induction d' with
          | zero =>
            intro fu j o hj hf ho
            obtain ⟨fu, rfl⟩ : ∃ q, fu = q + 1 := ⟨fu - 1, by omega⟩
            rw [spec_l10PutList.l1_eq, if_neg (by omega), List.drop_of_length_le (by omega), List.append_nil]
          | succ d' ih' =>
            intro fu j o hj hf ho
            obtain ⟨fu, rfl⟩ : ∃ q, fu = q + 1 := ⟨fu - 1, by omega⟩
            have hjl : j < v.length := by omega
            rw [spec_l10PutList.l1_eq, if_pos (by omega), if_pos (by omega), if_pos (by omega), if_pos (by omega), wrap_next hjl (by omega), rd_at v j hjl, ih' fu (j + 1) _ (by omega) (by omega) (by simp; omega), drop_cons v j hjl, List.append_assoc]; rfl
        rw [hd0 d fu (j + 1) _ (by omega) (by omega) (by simp; omega), drop_cons v j hjl, List.append_assoc]; rfl
  have key : ∀ (d fu i : Nat) (o : List Int), i + d = l.length → d < fu → o.length ≤ 100000 + 7 * (i + 1) → Bs o → ∃ r, spec_l10PutList.l0 k fu l (i : Int) o = some r ∧ Bs r ∧ r.length ≤ o.length + 7 * d := by
    intro d
    induction d with
    | zero =>
      intro fu i o hi hf ho hbo
      obtain ⟨fu, rfl⟩ : ∃ q, fu = q + 1 := ⟨fu - 1, by omega⟩
      rw [spec_l10PutList.l0_eq, if_neg (by omega)]
      exact ⟨_, rfl, hbo, by omega⟩
    | succ d ih =>
      intro fu i o hi hf ho hbo
      obtain ⟨fu, rfl⟩ : ∃ q, fu = q + 1 := ⟨fu - 1, by omega⟩
      have hil : i < l.length := by omega
      have hwi := hw _ (List.getElem_mem hil)
      have hvl := vi_length 6 (unz l[i])
      rw [spec_l10PutList.l0_eq, if_pos (by omega), if_pos (by omega), if_pos (by omega), rd_at l i hil, put_f _ hwi.1 hwi.2 k (by omega), bs]
      have hin := inner k fu i (vi 6 (unz l[i])) (by omega) (by omega) (vi 6 (unz l[i])).length k 0 o (by omega) (by omega) (by omega)
      have e0 : ((0 : Nat) : Int) = 0 := rfl
      rw [e0] at hin
      rw [hin, List.drop_zero, wrap_next hil (by omega)]
      obtain ⟨r, hr, hbr, hrl⟩ := ih fu (i + 1) (o ++ vi 6 (unz l[i])) (by omega) (by omega) (by simp; omega) (hbo.app (Bs.vi 6 _))
      exact ⟨r, hr, hbr, by simp at hrl; omega⟩
  obtain ⟨r, hr, hbr, hrl⟩ := key l.length k 0 (out ++ vi 6 (unz (l.length : Int))) (by omega) (by omega) (by simp; omega) (hbs.app (Bs.vi 6 _))
  exact ⟨r, hr, hbr, by simp at hrl; omega⟩
theorem encjob_some (a f n : Int) (A B : List Int) (h : JobP a f A B n) (k : Nat) (hk : 200010 ≤ k) : ∃ D, spec_EncodeJob.f k a f A B n = some D ∧ Bs D ∧ D.length ≤ 10000 := by
  obtain ⟨k, rfl⟩ : ∃ q, k = q + 1 := ⟨k - 1, by omega⟩
  obtain ⟨_, _, _, hA, hB, hn, _, _⟩ := id h
  rw [spec_EncodeJob.f_eq, sjobOk_f a f A B n (by have := hA.1; omega) (by have := hB.1; omega) k (by have := hA.1; have := hB.1; omega), bs, decide_eq_true h, if_neg (by decide), put_f n (by omega) (by omega) k (by omega), bs]
  have hv := vi_length 6 (unz n)
  have hA1 := hA.1
  have hB1 := hB.1
  rw [join_is _ _ (by simp) (by omega) k (by simp; omega) (by omega), bs]
  have hb0 : Bs ([IntKind.u8.wrap a, IntKind.u8.wrap f] ++ vi 6 (unz n)) := by
    refine Bs.app ?_ (Bs.vi 6 _)
    intro x hx
    simp only [List.mem_cons, List.not_mem_nil, or_false] at hx
    rcases hx with rfl | rfl <;> (rw [wrap8]; omega)
  obtain ⟨r1, e1, b1, l1⟩ := putlist_some _ A (by simp; omega) hA1 hA.2 hb0 k (by omega)
  have l1' : r1.length ≤ 9 + 7 * 401 := by simp at l1; omega
  simp only [e1, bs]
  obtain ⟨r2, e2, b2, l2⟩ := putlist_some r1 B (by omega) hB1 hB.2 b1 k (by omega)
  simp only [e2, bs]
  exact ⟨_, rfl, b2, by omega⟩
/-! ### a drawn event -/
section
variable (b : List Int) (hb : b.length ≤ 1048576)
include hb
theorem jobev_j0 (te id t0 t1 t2 t3 a f n : Int) (A B : List Int) (h : JobP a f A B n) (i hh : Int) (k : Nat) (hk : 200010 ≤ k) :
    ∃ c D, spec_l18DrawJobEvent.j0 k te id b i hh t0 t1 t2 t3 a f n A B = some (2, te, id, c, b, i, hh, D) ∧ Bs D ∧ D.length ≤ 10000 := by
  rw [spec_l18DrawJobEvent.j0_eq, scost_f a f A B n h k (by omega), bs]
  obtain ⟨D, e, h1, h2⟩ := encjob_some a f n A B h k (by omega)
  simp only [e, bs]
  exact ⟨_, _, rfl, h1, h2⟩
theorem jobev_f (te id i h : Int) (hi : 0 ≤ i) (k : Nat) (hk : 200020 ≤ k) :
    ∃ c i' h' D, spec_l18DrawJobEvent.f k te id b i h = some (2, te, id, c, b, i', h', D) ∧ Bs D ∧ D.length ≤ 10000 ∧ 0 ≤ i' := by
  obtain ⟨k, rfl⟩ : ∃ q, k = q + 1 := ⟨k - 1, by omega⟩
  rw [spec_l18DrawJobEvent.f_eq]
  obtain ⟨a, f, n, i1, h1, A, B, e1, hA, hB, j1⟩ := job_f b hb i h hi k (by omega)
  simp only [e1, bs]
  rw [sjobOk_f a f A B n (by omega) (by omega) k (by omega), bs]
  by_cases c : JobP a f A B n
  · rw [decide_eq_true c, if_neg (by decide)]
    obtain ⟨c', D, e, h1, h2⟩ := jobev_j0 b hb te id 0 0 0 0 a f n A B c i1 h1 k (by omega)
    exact ⟨_, _, _, _, e, h1, h2, j1⟩
  · rw [decide_eq_false c, if_pos (by decide)]
    obtain ⟨c', D, e, h1, h2⟩ := jobev_j0 b hb te id 0 0 0 0 1 0 0 [3] [] (by decide) i1 h1 k (by omega)
    exact ⟨_, _, _, _, e, h1, h2, j1⟩
theorem ev_j0 (t0 t1 t2 t3 a0 a1 a2 a3 : Int) (D : List Int) (hD : Bs D) (hl : D.length ≤ 10000) (i h : Int) (hi : 0 ≤ i) (k : Nat) (hk : 200020 ≤ k) :
    ∃ e0 e1 e2 e3 i' h' D', spec_l18DrawEvent.j0 k b i h t0 t1 t2 t3 a0 a1 a2 a3 D = some (e0, e1, e2, e3, b, i', h', D') ∧ Bs D' ∧ D'.length ≤ 10001 ∧ 0 ≤ i' := by
  rw [spec_l18DrawEvent.j0_eq]
  simp only [spec_l18DrawEvent.j1_eq]
  obtain ⟨x, i1, h1, e1, j1⟩ := once_f b hb 10 i h hi k (by omega)
  simp only [e1, bs]
  cases x with
  | false => exact ⟨_, _, _, _, _, _, _, rfl, hD, by omega, j1⟩
  | true =>
    rw [if_pos rfl]
    obtain ⟨x, i2, h2, e2, _, _, _, j2⟩ := below_f b hb 4 i1 h1 j1 k (by omega)
    simp only [e2, bs]
    by_cases c0 : x = 0
    · rw [if_pos c0]
      obtain ⟨z, i4, h4, e4, _, j4⟩ := pick_f b hb [0, 6, 1, 2, 3] (by simp) i2 h2 j2 k (by omega)
      simp only [e4, bs]
      exact ⟨_, _, _, _, _, _, _, rfl, hD, by omega, j4⟩
    rw [if_neg c0]
    by_cases c1 : x = 1
    · rw [if_pos c1]; exact ⟨_, _, _, _, _, _, _, rfl, hD, by omega, j2⟩
    rw [if_neg c1]
    by_cases c2 : x = 2
    · rw [if_pos c2]; exact ⟨_, _, _, _, _, _, _, rfl, hD, by omega, j2⟩
    rw [if_neg c2]
    by_cases c3 : x = 3
    · rw [if_pos c3, bytes_is D (by omega) k (by omega)]
      simp only [bs]
      rw [if_pos (by omega)]
      refine ⟨_, _, _, _, _, _, _, rfl, hD.app ?_, by simp; omega, j2⟩
      intro y hy
      simp at hy
      omega
    rw [if_neg c3]
    exact ⟨_, _, _, _, _, _, _, rfl, hD, by omega, j2⟩
theorem event_draw (i h : Int) (hi : 0 ≤ i) (k : Nat) (hk : 200030 ≤ k) :
    ∃ e0 e1 e2 e3 i' h' D, spec_l18DrawEvent.f k b i h = some (e0, e1, e2, e3, b, i', h', D) ∧ Bs D ∧ D.length ≤ 10001 ∧ 0 ≤ i' := by
  obtain ⟨k, rfl⟩ : ∃ q, k = q + 1 := ⟨k - 1, by omega⟩
  have hnil : Bs [] := fun x hx => by cases hx
  rw [spec_l18DrawEvent.f_eq]
  obtain ⟨x, i1, h1, e1, _, _, _, j1⟩ := below_f b hb 100 i h hi k (by omega)
  simp only [e1, bs]
  obtain ⟨y, i2, h2, e2, _, _, _, j2⟩ := below_f b hb 100 i1 h1 j1 k (by omega)
  simp only [e2, bs]
  obtain ⟨c, i3, h3, D, e3, hD, hDl, j3⟩ := jobev_f b hb x (wrap64 (1 + y)) i2 h2 j2 k (by omega)
  simp only [e3, bs]
  obtain ⟨z, i4, h4, e4, _, _, _, j4⟩ := below_f b hb 5 i3 h3 j3 k (by omega)
  simp only [e4, bs]
  by_cases c0 : z = 0
  · rw [if_pos c0]
    obtain ⟨u, i5, h5, e5, _, _, _, j5⟩ := below_f b hb 100 i4 h4 j4 k (by omega)
    simp only [e5, bs]
    obtain ⟨v, i6, h6, e6, _, j6⟩ := pick_f b hb [100, 99, 100000, 100001] (by simp) i5 h5 j5 k (by omega)
    simp only [e6, bs]
    exact ev_j0 b hb _ _ _ _ _ _ _ _ [] hnil (by simp) i6 h6 j6 k (by omega)
  rw [if_neg c0]
  by_cases c1 : z = 1
  · rw [if_pos c1]
    obtain ⟨w, i7, h7, e7, _, _, _, j7⟩ := below_f b hb 2 i4 h4 j4 k (by omega)
    simp only [e7, bs]
    obtain ⟨u, i5, h5, e5, _, _, _, j5⟩ := below_f b hb 100 i7 h7 j7 k (by omega)
    simp only [e5, bs]
    obtain ⟨v, i6, h6, e6, _, j6⟩ := pick_f b hb [1, 0, 1000000000, 1000000001] (by simp) i5 h5 j5 k (by omega)
    simp only [e6, bs]
    exact ev_j0 b hb _ _ _ _ _ _ _ _ [] hnil (by simp) i6 h6 j6 k (by omega)
  rw [if_neg c1]
  by_cases c2 : z = 2
  · rw [if_pos c2]
    obtain ⟨v, i6, h6, e6, _, j6⟩ := pick_f b hb [0, 99, 100, (-1)] (by simp) i4 h4 j4 k (by omega)
    simp only [e6, bs]
    exact ev_j0 b hb _ _ _ _ _ _ _ _ [] hnil (by simp) i6 h6 j6 k (by omega)
  rw [if_neg c2]
  exact ev_j0 b hb _ _ _ _ _ _ _ _ D hD hDl i4 h4 j4 k (by omega)
theorem putev_draw (k : Nat) (hk : 1048700 ≤ k) : ∃ e0 e1 e2 e3 D, spec_DrawPutEvent.f k b = some (e0, e1, e2, e3, D) ∧ Bs D ∧ D.length ≤ 10001 := by
  obtain ⟨k, rfl⟩ : ∃ q, k = q + 1 := ⟨k - 1, by omega⟩
  rw [spec_DrawPutEvent.f_eq]
  obtain ⟨h0, e0⟩ := new_f b hb k (by omega)
  simp only [e0, bs]
  obtain ⟨e0, e1, e2, e3, i', h', D, e, hD, hl, _⟩ := event_draw b hb 0 h0 (by omega) k (by omega)
  simp only [e, bs]
  exact ⟨_, _, _, _, _, rfl, hD, hl⟩
end
end Go.Vm.Pu
namespace Go.Vm.Pu
open Go Go.RowKit Go.Vm
set_option linter.unusedVariables false
set_option linter.unusedSimpArgs false
theorem L_zero (a : Int) (l : List Int) : L (a :: l) 0 = a := rfl
theorem L_succ (a : Int) (l : List Int) (n : Nat) : L (a :: l) (n + 1) = L l n := by simp [L]
theorem L_app (a b : List Int) (n : Nat) : L (a ++ b) (a.length + n) = L b n := by
  simp [L, List.getD_eq_getElem?_getD, List.getElem?_append_right]
theorem L_left (a b : List Int) (n : Nat) (h : n < a.length) : L (a ++ b) n = L a n := by
  simp [L, List.getD_eq_getElem?_getD, List.getElem?_append_left h]
theorem zig_unz (x : Int) : zig (unz x) = x := by
  unfold zig unz
  by_cases h : x < 0
  · rw [if_pos h, if_pos (by omega)]; omega
  · rw [if_neg h, if_neg (by omega)]; omega
theorem vi_len : ∀ (d : Nat) (u : Int) (n : Nat), 0 ≤ u → u < P7 (n + 1) → (vi d u).length ≤ n + 1
  | 0, u, n, _, _ => by simp [vi]
  | d + 1, u, n, h0, h1 => by
    simp only [vi]
    split
    · rename_i h
      cases n with
      | zero => rw [show P7 (0 + 1) = 128 by decide] at h1; omega
      | succ n =>
        have := vi_len d (u / 128) n (by omega) (by rw [P7_succ] at h1; omega)
        simp only [List.length_cons]
        omega
    · simp
theorem vi_pos (d : Nat) (u : Int) : 1 ≤ (vi d u).length := by
  cases d with
  | zero => simp [vi]
  | succ d => simp only [vi]; split <;> simp
theorem scan_vi (b : List Int) (at_ : Nat) : ∀ (e : Nat) (u : Int) (d i : Nat) (acc : Int), 0 ≤ u → u < P7 (e + 1) → (vi e u).length ≤ d → (∀ j, j < (vi e u).length → at_ + i + j < b.length ∧ L b (at_ + i + j) = L (vi e u) j) → (0 < i → u ≠ 0) →
    -1099511627776 ≤ zig (acc + u * P7 i) → zig (acc + u * P7 i) ≤ 1099511627776 → scan b at_ d i acc = (zig (acc + u * P7 i), at_ + i + (vi e u).length, true) := by
  have one : ∀ (u : Int) (d i : Nat) (acc : Int), 0 ≤ u → u < 128 → 1 ≤ d → at_ + i < b.length → L b (at_ + i) = u → (0 < i → u ≠ 0) → -1099511627776 ≤ zig (acc + u * P7 i) → zig (acc + u * P7 i) ≤ 1099511627776 → scan b at_ d i acc = (zig (acc + u * P7 i), at_ + i + 1, true) := by
    intro u d i acc h0 h1 hd hb hL hi r1 r2
    obtain ⟨d, rfl⟩ : ∃ q, d = q + 1 := ⟨d - 1, by omega⟩
    rw [scan_succ, if_pos hb, hL, if_neg (by omega), show u % 128 = u by omega]
    unfold tnf
    rw [if_neg]
    rintro (⟨q1, q2⟩ | q | q)
    · exact hi q2 q1
    · omega
    · omega
  intro e
  induction e with
  | zero =>
    intro u d i acc h0 h1 hd hb hi r1 r2
    rw [show P7 (0 + 1) = 128 by decide] at h1
    have e : vi 0 u = [u] := by simp only [vi]; rw [show u % 256 = u by omega]
    rw [e] at hd hb ⊢
    obtain ⟨b1, b2⟩ := hb 0 (by simp)
    exact one u d i acc h0 h1 (by simpa using hd) (by omega) (by simpa [L] using b2) hi r1 r2
  | succ e ih =>
    intro u d i acc h0 h1 hd hb hi r1 r2
    by_cases c : u ≥ 128
    · have e' : vi (e + 1) u = (128 + u % 128) :: vi e (u / 128) := by
        simp only [vi]; rw [if_pos c, show (128 + u % 128) % 256 = 128 + u % 128 by omega]
      rw [e'] at hd hb ⊢
      simp only [List.length_cons] at hd hb ⊢
      obtain ⟨d, rfl⟩ : ∃ q, d = q + 1 := ⟨d - 1, by omega⟩
      obtain ⟨b1, b2⟩ := hb 0 (by omega)
      rw [L_zero] at b2
      have b2' : L b (at_ + i) = 128 + u % 128 := b2
      have hmul : acc + (128 + u % 128) % 128 * P7 i + u / 128 * P7 (i + 1) = acc + u * P7 i := by
        rw [P7_succ, show (128 + u % 128) % 128 = u % 128 by omega]
        have : u / 128 * (P7 i * 128) = (128 * (u / 128)) * P7 i := by
          rw [Int.mul_comm (P7 i) 128, ← Int.mul_assoc, Int.mul_comm (u / 128) 128]
        rw [this, Int.add_assoc, ← Int.add_mul, show u % 128 + 128 * (u / 128) = u by omega]
      rw [scan_succ, if_pos (by omega), b2', if_pos (by omega)]
      rw [ih (u / 128) d (i + 1) _ (by omega) (by rw [P7_succ] at h1; omega) (by omega) (fun j hj => by
        obtain ⟨g1, g2⟩ := hb (j + 1) (by omega)
        rw [L_succ] at g2
        exact ⟨by omega, by rw [show at_ + (i + 1) + j = at_ + i + (j + 1) by omega]; exact g2⟩) (fun _ => by omega) (by rw [hmul]; exact r1) (by rw [hmul]; exact r2), hmul]
      congr 2
      omega
    · have e' : vi (e + 1) u = [u] := by
        simp only [vi]; rw [if_neg c, show u % 256 = u by omega]
      rw [e'] at hd hb ⊢
      obtain ⟨b1, b2⟩ := hb 0 (by simp)
      exact one u d i acc h0 (by omega) (by simpa using hd) (by omega) (by simpa [L] using b2) hi r1 r2
/-- A number that was put is taken. -/
theorem tk_vi (pre post : List Int) (x : Int) (h1 : -1099511627776 ≤ x) (h2 : x ≤ 1099511627776) : tk (pre ++ vi 6 (unz x) ++ post) pre.length = (x, pre.length + (vi 6 (unz x)).length, true) := by
  have hu : 0 ≤ unz x ∧ unz x ≤ 2199023255552 := by unfold unz; split <;> omega
  have hP : P7 6 = 4398046511104 := by decide
  have hP7 : P7 (6 + 1) = 562949953421312 := by decide
  have hl := vi_len 6 (unz x) 5 hu.1 (by rw [hP]; omega)
  have e0 : 0 + unz x * P7 0 = unz x := by rw [show P7 0 = 1 by decide]; omega
  have := scan_vi (pre ++ vi 6 (unz x) ++ post) pre.length 6 (unz x) 6 0 0 hu.1 (by rw [hP7]; omega) (by omega) (fun j hj => by
    refine ⟨by simp; omega, ?_⟩
    rw [Nat.add_zero, List.append_assoc, L_app, L_left _ _ _ hj]) (fun h => absurd h (by omega)) (by rw [e0, zig_unz]; exact h1) (by rw [e0, zig_unz]; exact h2)
  rw [e0, zig_unz] at this
  exact this
theorem be4 (s : Int) (h0 : 0 ≤ s) (h1 : s < 4294967296) : be (w4 s) 0 = s := by
  simp only [w4, be]; omega
theorem be2 (s : Int) (h0 : 0 ≤ s) (h1 : s < 65536) : be (w2 s) 0 = s := by
  simp only [w2, be]; omega
theorem cmpS_same (b : List Int) (n : Nat) (s : List Int) : ∀ (d i : Nat), (∀ j, i ≤ j → j < i + d → n + j < b.length ∧ L b (n + j) = L s j) → cmpS b n s d i = 0 := by
  intro d
  induction d with
  | zero => intro i _; rfl
  | succ d ih =>
    intro i h
    obtain ⟨h1, h2⟩ := h i (Nat.le_refl _) (by omega)
    rw [cmpS, if_neg (by omega), if_neg (by simpa using h2)]
    exact ih (i + 1) fun j hj hj2 => h j (by omega) (by omega)
/-- A frame that was encoded is decoded. -/
theorem df_ef (t s : Int) (b : List Int) (h : FrP t s b) : df (ef t s b) = (t, s, ((ef t s b).length : Int), 0, b) := by
  obtain ⟨⟨t0, t1⟩, ⟨s0, s1⟩, hl⟩ := id h
  let H : List Int := [199, 77, t % 256, s / 16777216 % 256, s / 65536 % 256, s / 256 % 256, s % 256, (b.length : Int) / 256 % 256, (b.length : Int) % 256]
  have hH : H.length = 9 := rfl
  have hmid : [199, 77] ++ mid t s b = H ++ b := by simp [mid, w4, w2, H]
  obtain ⟨c, hc⟩ : ∃ c, c = ck (mid t s b) (1, 0) := ⟨_, rfl⟩
  have hef : ef t s b = H ++ b ++ w4 c := by
    unfold ef
    rw [if_pos h, hmid, ← hc]
  have hlen : (ef t s b).length = 13 + b.length := by rw [hef]; simp [H, w4]; omega
  obtain ⟨F, hF⟩ : ∃ F, F = ef t s b := ⟨_, rfl⟩
  have hF' : F = H ++ (b ++ w4 c) := by rw [hF, hef, List.append_assoc]
  have hL : ∀ n, n < 9 → L F n = L H n := fun n hn => by rw [hF']; exact L_left _ _ _ (by rw [hH]; exact hn)
  have l0 : L F 0 = 199 := hL 0 (by omega)
  have l1 : L F 1 = 77 := hL 1 (by omega)
  have l2 : L F 2 = t % 256 := hL 2 (by omega)
  have l3 : L F 3 = s / 16777216 % 256 := hL 3 (by omega)
  have l7 : L F 7 = (b.length : Int) / 256 % 256 := hL 7 (by omega)
  have ht9 : F.take 9 = H := by rw [hF', List.take_append_of_le_length (by rw [hH]; omega), List.take_of_length_le (by rw [hH]; omega)]
  have hlg : lg2 F = (b.length : Int) := by
    unfold lg2
    rw [ht9]
    show be (w2 (b.length : Int)) 0 = _
    exact be2 _ (by omega) (by omega)
  have hs : be ((F.take 7).drop 3) 0 = s := by
    have : F.take 7 = H.take 7 := by rw [← ht9, List.take_take]; rfl
    rw [this]
    show be (w4 s) 0 = s
    exact be4 s s0 (by omega)
  have hnat : (9 + (b.length : Int)).toNat = 9 + b.length := by omega
  have htk : F.take (9 + b.length) = H ++ b := by
    rw [hF, hef, List.take_append_of_le_length (by simp [hH]), List.take_of_length_le (by simp [hH])]
  have hd2 : (H ++ b).drop 2 = mid t s b := by rw [← hmid]; rfl
  have hd9 : (H ++ b).drop 9 = b := by
    rw [show 9 = H.length from rfl, List.drop_append_of_le_length (Nat.le_refl _), List.drop_of_length_le (Nat.le_refl _), List.nil_append]
  rw [← hF] at hlen ⊢
  have hbad : ¬ hdBad9 F := by
    unfold hdBad9 hdBad
    rw [l0, l1, l2, l3, l7, hlg]
    omega
  unfold df
  rw [if_neg hbad, if_neg (by omega), hlg, if_neg (by omega), hnat, htk, hd2, hd9, ← hc]
  have hcmp : cmpS F (9 + b.length) (w4 c) 4 0 = 0 := cmpS_same _ _ _ 4 0 fun j hj hj2 => by
    refine ⟨by omega, ?_⟩
    have : F = (H ++ b) ++ w4 c := by rw [hF, hef]
    rw [this, show 9 + b.length = (H ++ b).length by simp [hH], L_app]
  rw [if_pos hcmp, l2, hs, show t % 256 = t by omega]
  rw [show (13 : Int) + (b.length : Int) = (F.length : Int) by omega]
/-! ### a job's bytes are few -/
theorem scan_few (b : List Int) (at_ : Nat) : ∀ (d i : Nat) (u : Int), (scan b at_ d i u).2.2 = true → (scan b at_ d i u).2.1 ≤ at_ + i + d := by
  intro d
  induction d with
  | zero => intro i u h; simp [scan] at h
  | succ d ih =>
    intro i u h
    rw [scan_succ] at h ⊢
    split at h
    · rename_i hc
      split at h
      · rename_i hc2
        rw [if_pos hc, if_pos hc2]
        have := ih (i + 1) _ h
        omega
      · rename_i hc2
        rw [if_pos hc, if_neg hc2]
        unfold tnf at h ⊢
        split at h
        · cases h
        · rename_i hc3
          rw [if_neg hc3]
          show at_ + i + 1 ≤ _
          omega
    · cases h
theorem items_few (b : List Int) : ∀ (n at_ : Nat) (acc : List Int), (items b n at_ acc).2.2 = true → (items b n at_ acc).2.1 ≤ at_ + 6 * n := by
  intro n
  induction n with
  | zero => intro at_ acc _; simp [items]
  | succ n ih =>
    intro at_ acc h
    rw [items] at h ⊢
    split at h
    · rename_i hc
      rw [if_pos hc]
      have h1 := ih _ _ h
      have h2 := scan_few b at_ 6 0 0 hc
      have h3 : (tk b at_).2.1 ≤ at_ + 0 + 6 := h2
      omega
    · cases h
theorem tl_few (b : List Int) (at_ : Nat) (h : (tl b at_).2.2 = true) : (tl b at_).2.1 ≤ at_ + 2406 := by
  unfold tl at h ⊢
  split at h
  · rename_i hc
    rw [if_pos hc]
    have h1 := items_few b _ _ _ h
    have h3 : (tk b at_).2.1 ≤ at_ + 0 + 6 := scan_few b at_ 6 0 0 hc.1
    omega
  · cases h
theorem dj_few (b : List Int) (h : (dj b).2.2.2.2.2 = true) : b.length ≤ 4820 := by
  unfold dj at h
  split at h
  · cases h
  · split at h
    · rename_i hc
      have h3 : (tk b 2).2.1 ≤ 2 + 0 + 6 := scan_few b 2 6 0 0 hc
      unfold djA at h
      split at h
      · rename_i hA
        have h4 := tl_few b _ hA
        unfold djEnd at h
        split at h
        · rename_i hB
          have h5 := tl_few b _ hB.1
          omega
        · cases h
      · cases h
    · cases h
theorem ev_few {a0 a1 a2 a3 : Int} {D : List Int} (h : EvP a0 a1 a2 a3 D) : D.length ≤ 4820 := by
  obtain ⟨_, h⟩ := h
  rcases h with ⟨_, _, _, h⟩ | ⟨_, _, h, _⟩ | ⟨_, _, _, h⟩ | ⟨_, _, _, h⟩
  · omega
  · exact dj_few D h
  · omega
  · omega
/-- An event's frame is taken as the event. -/
theorem ev_frame {a0 a1 a2 a3 : Int} {D : List Int} (h : EvP a0 a1 a2 a3 D) : FrP a1 a2 ([a0 % 256] ++ vi 6 (unz a3) ++ D) := by
  have hD := ev_few h
  have hl := body_len a0 a3 D
  obtain ⟨h1, h2⟩ := h
  refine ⟨h1, ?_, by omega⟩
  rcases h2 with ⟨_, h, _⟩ | ⟨_, h, _⟩ | ⟨_, h, _⟩ | ⟨_, h, _⟩ <;> omega
theorem te_put {a0 a1 a2 a3 : Int} {D : List Int} (h : EvP a0 a1 a2 a3 D) : te a1 a2 ([a0 % 256] ++ vi 6 (unz a3) ++ D) = (a0, a1, a2, a3, D, true) := by
  have hn := ev_num h
  have h0 : a0 % 256 = a0 := by
    obtain ⟨_, h2⟩ := h
    rcases h2 with ⟨h, _⟩ | ⟨h, _⟩ | ⟨h, _⟩ | ⟨h, _⟩ <;> omega
  have ht := tk_vi [a0 % 256] D a3 hn.1 hn.2
  have ht' : tk ([a0 % 256] ++ vi 6 (unz a3) ++ D) 1 = (a3, 1 + (vi 6 (unz a3)).length, true) := ht
  have hd : ([a0 % 256] ++ vi 6 (unz a3) ++ D).drop (1 + (vi 6 (unz a3)).length) = D := by
    rw [List.drop_append_of_le_length (by simp; omega), List.drop_of_length_le (by simp; omega), List.nil_append]
  have hL : L ([a0 % 256] ++ vi 6 (unz a3) ++ D) 0 = a0 := by
    show a0 % 256 = a0
    exact h0
  have hv := vi_pos 6 (unz a3)
  unfold te
  rw [ht']
  simp only
  rw [hd, hL, if_pos ⟨ev_frame h, by simp; omega, trivial, h⟩]
theorem sameBytes_f (l : List Int) (hn : l.length ≤ 1048576) (k : Nat) (hk : l.length + 1 < k) : laws_sameBytes.f k l l = some true := by
  obtain ⟨k, rfl⟩ : ∃ m, k = m + 1 := ⟨k - 1, by omega⟩
  rw [laws_sameBytes.f_eq, if_neg (by simp)]
  exact count_loop (fun fu i => laws_sameBytes.l0 k fu l l i) l.length 0 true (by
    intro fu _
    simp only [laws_sameBytes.l0_eq]
    rw [if_neg (by omega)]) (by
    intro fu i h _
    simp only [laws_sameBytes.l0_eq]
    rw [if_pos (by omega), if_pos (by omega), if_pos (by omega), if_pos (by omega), if_pos (by omega), if_neg (by simp), wrap_next h (by omega)]) k (by omega)
theorem law_EventBytes (b : List Int) : ∃ k, laws_FnEventBytes.f k b = some true := by
  refine ⟨2000200 + 1, ?_⟩
  obtain ⟨K, hK⟩ : ∃ K, K = 2000200 := ⟨_, rfl⟩
  rw [← hK, laws_FnEventBytes.f_eq, big_f b K (by omega), bs]
  by_cases hb : (b.length : Int) > 1048576
  · rw [if_pos (decide_eq_true hb)]
  rw [if_neg (by simpa using hb)]
  obtain ⟨a0, a1, a2, a3, D, e0, hD, hDl⟩ := putev_draw b (by omega) K (by omega)
  simp only [e0, bs]
  rw [sevent_f a0 a1 a2 a3 D hD (by omega) K (by omega), bs]
  by_cases h : EvP a0 a1 a2 a3 D
  case neg => rw [decide_eq_false h]; rfl
  rw [decide_eq_true h, if_neg (by decide)]
  have hpe : pe a0 a1 a2 a3 D = ef a1 a2 ([a0 % 256] ++ vi 6 (unz a3) ++ D) := by unfold pe; rw [if_pos h]
  obtain ⟨k, rfl⟩ : ∃ q, K = q + 1 := ⟨K - 1, by omega⟩
  have hput : impl_PutEvent.f (k + 1) a0 a1 a2 a3 D = some (ef a1 a2 ([a0 % 256] ++ vi 6 (unz a3) ++ D)) := by
    rw [impl_PutEvent.f_eq, ievent_f a0 a1 a2 a3 D hD (by omega) k (by omega), bs, decide_eq_true h, if_neg (by decide), iput_is a0 a1 a2 a3 D hD (by omega) h k (by omega), bs, hpe]
  have hbb := body_bs a0 a3 D hD
  have hbl := body_len a0 a3 D
  have hfl := ef_len a1 a2 ([a0 % 256] ++ vi 6 (unz a3) ++ D)
  have hef : Bs (ef a1 a2 ([a0 % 256] ++ vi 6 (unz a3) ++ D)) := by
    unfold ef
    rw [if_pos (ev_frame h)]
    refine Bs.app (Bs.app ?_ (mid_bs _ _ _ hbb)) (Bs.w4 _)
    intro x hx
    simp at hx
    omega
  have hdec : impl_DecodeFrame.f (k + 1) (ef a1 a2 ([a0 % 256] ++ vi 6 (unz a3) ++ D)) = some (a1, a2, ((ef a1 a2 ([a0 % 256] ++ vi 6 (unz a3) ++ D)).length : Int), 0, [a0 % 256] ++ vi 6 (unz a3) ++ D) := by
    rw [impl_DecodeFrame.f_eq, idf_f _ hef (by omega) k (by omega), bs, df_ef _ _ _ (ev_frame h)]
  have htake : impl_TakeEvent.f (k + 1) a1 a2 ([a0 % 256] ++ vi 6 (unz a3) ++ D) = some (a0, a1, a2, a3, true, D) := by
    rw [impl_TakeEvent.f_eq, itakeEvent_f _ _ _ hbb (by omega) k (by omega), bs, te_put h]
    rfl
  simp only [hput, hdec, htake, bs]
  rw [if_pos trivial, if_pos trivial, if_pos trivial]
  rw [laws_sameEvent.f_eq]
  simp only [if_true]
  rw [sameBytes_f D (by omega) k (by omega)]
  rfl
end Go.Vm.Pu
