/- The plain law of FnExactReadDisk; the conditions are what is known of the input. -/
import Derived.Test.YtjnckjfohpbdeaaVpA
namespace Go.Vm.Pu
open Go Go.RowKit Go.Vm
set_option linter.unusedVariables false
set_option linter.unusedSimpArgs false
theorem itake_short (b : List Int) (h : b.length < 2) (k : Nat) (hk : 3 ≤ k) : impl_takeNumber.f k b 1 = some (0, 0, false) := by
  obtain ⟨k, rfl⟩ : ∃ m, k = (m + 1) + 1 := ⟨k - 2, by omega⟩
  have e : wrap64 (1 + 0) = 1 := wrap_id (by decide) (by decide)
  rw [impl_takeNumber.f_eq, if_neg (by decide), impl_takeNumber.l0_eq, if_pos (by decide), e, if_neg (by omega)]
theorem Bs.drop {l : List Int} (h : Bs l) (n : Nat) : Bs (l.drop n) := fun x hx => h x (List.mem_of_mem_drop hx)
def badEvent : Int × Int × Int × Int × List Int × Bool := (0, 0, 0, 0, [], false)
/-- What both take. -/
def te (t s : Int) (b : List Int) : Int × Int × Int × Int × List Int × Bool :=
  if FrP t s b ∧ 2 ≤ b.length ∧ (tk b 1).2.2 = true ∧ EvP (L b 0) t s (tk b 1).1 (b.drop (tk b 1).2.1) then (L b 0, t, s, (tk b 1).1, b.drop (tk b 1).2.1, true) else badEvent
theorem te_len (t s : Int) (b : List Int) : (te t s b).2.2.2.2.1.length ≤ b.length := by
  unfold te
  split
  · show (b.drop _).length ≤ _
    rw [List.length_drop]
    omega
  · exact Nat.zero_le _
/-- The order in which the program hands it on. -/
def tv (x : Int × Int × Int × Int × List Int × Bool) : Int × Int × Int × Int × Bool × List Int := (x.1, x.2.1, x.2.2.1, x.2.2.2.1, x.2.2.2.2.2, x.2.2.2.2.1)
theorem cut_end (l : List Int) (i : Nat) : cut l (i : Int) (l.length : Int) = l.drop i := by
  rw [cut_nat, List.take_of_length_le (Nat.le_refl _)]
theorem stakeEvent_f (t s : Int) (b : List Int) (hb : Bs b) (hlen : b.length ≤ 1048576) (k : Nat) (hk : 1048600 ≤ k) : spec_TakeEvent.f k t s b = some (tv (te t s b)) := by
  obtain ⟨k, rfl⟩ : ∃ m, k = m + 1 := ⟨k - 1, by omega⟩
  rw [spec_TakeEvent.f_eq, sframe_f _ _ _ _ (by omega)]
  simp only [bs, not_ite]
  unfold te
  by_cases h1 : FrP t s b
  · rw [if_pos (decide_eq_true h1)]
    by_cases h2 : (b.length : Int) < 2
    · rw [if_pos h2, if_neg (fun h => by have := h.2.1; omega)]
      rfl
    · rw [if_neg h2]
      have hL := hb.L 0
      have htk := tk_at b 1
      have s1 := stake_f b hb 1 (by omega) (by omega) k (by omega)
      rw [show ((1 : Nat) : Int) = 1 from rfl] at s1
      rw [s1]
      simp only [bs]
      have r0 : rdI b 0 = L b 0 := rd_L b 0
      by_cases h3 : (tk b 1).2.2 = true
      · rw [if_pos h3, if_pos (by omega), if_pos (by omega), if_pos (by omega), cut_end, bytes_is _ (by rw [List.length_drop]; omega) k (by rw [List.length_drop]; omega), r0, wrap_id (x := L b 0) (by omega) (by omega)]
        simp only [bs]
        rw [sevent_f _ _ _ _ _ (hb.drop _) (by rw [List.length_drop]; omega) k (by omega)]
        simp only [bs]
        by_cases h4 : EvP (L b 0) t s (tk b 1).1 (b.drop (tk b 1).2.1)
        · rw [if_pos (decide_eq_true h4), if_pos ⟨h1, by omega, h3, h4⟩]
          rfl
        · rw [if_neg (by simpa using h4), if_neg (fun h => h4 h.2.2.2)]
          rfl
      · rw [if_neg h3, if_neg (fun h => h3 h.2.2.1)]
        rfl
  · rw [if_neg (by simpa using h1), if_neg (fun h => h1 h.1)]
    rfl
theorem itakeEvent_f (t s : Int) (b : List Int) (hb : Bs b) (hlen : b.length ≤ 1048576) (k : Nat) (hk : 1048600 ≤ k) : impl_takeEvent.f k t s b = some (tv (te t s b)) := by
  obtain ⟨k, rfl⟩ : ∃ m, k = m + 1 := ⟨k - 1, by omega⟩
  rw [impl_takeEvent.f_eq]
  unfold te
  by_cases h2 : b.length < 2
  · rw [itake_short b h2 k (by omega)]
    simp only [bs, not_ite]
    rw [if_neg (by decide), if_neg (fun h => by have := h.2.1; omega)]
    rfl
  · have hL := hb.L 0
    have htk := tk_at b 1
    have s1 := itake_f b hb 1 (by omega) (by omega) k (by omega)
    rw [show ((1 : Nat) : Int) = 1 from rfl] at s1
    rw [s1]
    simp only [bs, not_ite]
    by_cases h3 : (tk b 1).2.2 = true
    · rw [if_pos h3, iframe_f _ _ _ _ (by omega)]
      simp only [bs]
      by_cases h1 : FrP t s b
      · have r0 : rdI b 0 = L b 0 := rd_L b 0
        rw [if_pos (decide_eq_true h1), if_pos (by omega), if_pos (by omega), if_pos (by omega), cut_end, if_pos (by rw [List.length_drop]; omega), r0, wrap_id (x := L b 0) (by omega) (by omega), List.nil_append, ievent_f _ _ _ _ _ (hb.drop _) (by rw [List.length_drop]; omega) k (by omega)]
        simp only [bs]
        by_cases h4 : EvP (L b 0) t s (tk b 1).1 (b.drop (tk b 1).2.1)
        · rw [if_pos (decide_eq_true h4), if_pos ⟨h1, by omega, h3, h4⟩]
          rfl
        · rw [if_neg (by simpa using h4), if_neg (fun h => h4 h.2.2.2)]
          rfl
      · rw [if_neg (by simpa using h1), if_neg (fun h => h1 h.1)]
        rfl
    · rw [if_neg h3, if_neg (fun h => h3 h.2.2.1)]
      rfl
/-! ### frames -/
/-- A number's bytes read, the highest first. -/
def be : List Int → Int → Int
  | [], x => x
  | c :: l, x => be l (256 * x + c)
theorem p256_pos : ∀ n : Nat, (0 : Int) < 256 ^ n
  | 0 => by decide
  | n + 1 => by
    have := p256_pos n
    rw [Int.pow_succ]
    omega
theorem be_range : ∀ (l : List Int) (x : Int), Bs l → 0 ≤ x → 0 ≤ be l x ∧ be l x < (x + 1) * 256 ^ l.length := by
  intro l
  induction l with
  | nil => intro x _ h; show 0 ≤ x ∧ x < (x + 1) * 1; omega
  | cons c l ih =>
    intro x hb h
    have hc := hb c List.mem_cons_self
    obtain ⟨h1, h2⟩ := ih (256 * x + c) (fun y hy => hb y (List.mem_cons_of_mem _ hy)) (by omega)
    refine ⟨h1, ?_⟩
    have hp := p256_pos l.length
    have : (256 * x + c + 1) * 256 ^ l.length ≤ ((x + 1) * 256) * 256 ^ l.length := Int.mul_le_mul_of_nonneg_right (by omega) (by omega)
    rw [List.length_cons, Int.pow_succ, Int.mul_comm (256 ^ l.length) 256, ← Int.mul_assoc]
    exact Int.lt_of_lt_of_le h2 this
theorem p256 : ∀ n : Nat, n ≤ 4 → (256 : Int) ^ n ≤ 4294967296 := by
  intro n h
  have : n = 0 ∨ n = 1 ∨ n = 2 ∨ n = 3 ∨ n = 4 := by omega
  rcases this with rfl | rfl | rfl | rfl | rfl <;> decide
theorem sread_loop (b : List Int) (hb : Bs b) (hn : b.length ≤ 4) (K : Nat) : ∀ (d k i : Nat) (x : Int), i + d = b.length → d < k → 0 ≤ x → x < 256 ^ i → spec_l11Read.l0 K k b x (i : Int) = some (be (b.drop i) x) := by
  intro d
  induction d with
  | zero =>
    intro k i x hi hk _ _
    obtain ⟨k, rfl⟩ : ∃ m, k = m + 1 := ⟨k - 1, by omega⟩
    rw [spec_l11Read.l0_eq, if_neg (by omega), List.drop_eq_nil_of_le (by omega)]
    rfl
  | succ d ih =>
    intro k i x hi hk h0 h1
    obtain ⟨k, rfl⟩ : ∃ m, k = m + 1 := ⟨k - 1, by omega⟩
    have hc := hb _ (List.getElem_mem (show i < b.length by omega))
    have hp := p256 i (by omega)
    have hs : (256 : Int) ^ (i + 1) = 256 ^ i * 256 := Int.pow_succ 256 i
    rw [spec_l11Read.l0_eq, if_pos (by omega), if_pos (by omega), if_pos (by omega), rd_at b i (by omega), drop_cons b i (by omega), be, wrap_id (x := 256 * x) (by omega) (by omega), wrap_id (x := b[i]) (by omega) (by omega), wrap_id (x := 256 * x + b[i]) (by omega) (by omega), wrap_next (show i < b.length by omega) (by omega)]
    exact ih k (i + 1) _ (by omega) (by omega) (by omega) (by omega)
theorem sread_f (b : List Int) (hb : Bs b) (hn : b.length ≤ 4) (k : Nat) (hk : 6 ≤ k) : spec_l11Read.f k b = some (be b 0) := by
  obtain ⟨k, rfl⟩ : ∃ m, k = m + 1 := ⟨k - 1, by omega⟩
  rw [spec_l11Read.f_eq]
  have := sread_loop b hb hn k b.length k 0 0 (by omega) (by omega) (by decide) (by decide)
  simpa using this
theorem iread_loop (b : List Int) (hb : Bs b) (hn : b.length ≤ 4) (K : Nat) : ∀ (d k i : Nat) (x : Int), i + d = b.length → d < k → 0 ≤ x → x < 256 ^ i → impl_numberIn.l0 K k x b (b.length : Int) (i : Int) = some (be (b.drop i) x) := by
  intro d
  induction d with
  | zero =>
    intro k i x hi hk _ _
    obtain ⟨k, rfl⟩ : ∃ m, k = m + 1 := ⟨k - 1, by omega⟩
    rw [impl_numberIn.l0_eq, if_neg (by omega), List.drop_eq_nil_of_le (by omega)]
    rfl
  | succ d ih =>
    intro k i x hi hk h0 h1
    obtain ⟨k, rfl⟩ : ∃ m, k = m + 1 := ⟨k - 1, by omega⟩
    have hc := hb _ (List.getElem_mem (show i < b.length by omega))
    have hp := p256 i (by omega)
    have hs : (256 : Int) ^ (i + 1) = 256 ^ i * 256 := Int.pow_succ 256 i
    have ho : bitsOf .or .i64 (x * 256) b[i] = 256 * x + b[i] := by
      show Go.bits .or .i64 (x * 256) b[i] = _
      have h62 : (2 : Int) ^ 62 = 4611686018427387904 := by decide
      rw [bits_join .i64 62 (by decide) (fun m h1 h2 => by rw [IntKind.wrap_i64]; omega) 8 (x * 256) b[i] (by omega) (by rw [show (2 : Int) ^ 8 = 256 from rfl]; exact Int.mul_emod_left _ _) (by omega) hc.1 (by rw [show (2 : Int) ^ 8 = 256 from rfl]; exact hc.2) (by omega)]
      omega
    rw [impl_numberIn.l0_eq, if_pos (by omega), if_pos (by omega), if_pos (by omega), rd_at b i (by omega), drop_cons b i (by omega), be, show (2 : Int) ^ (Int.toNat 8) = 256 from rfl, wrap_id (x := x * 256) (by omega) (by omega), wrap_id (x := b[i]) (by omega) (by omega), ho, wrap_next (show i < b.length by omega) (by omega)]
    exact ih k (i + 1) _ (by omega) (by omega) (by omega) (by omega)
theorem iread_f (b : List Int) (hb : Bs b) (hn : b.length ≤ 4) (k : Nat) (hk : 6 ≤ k) : impl_numberIn.f k b = some (be b 0) := by
  obtain ⟨k, rfl⟩ : ∃ m, k = m + 1 := ⟨k - 1, by omega⟩
  rw [impl_numberIn.f_eq]
  have := iread_loop b hb hn k b.length k 0 0 (by omega) (by omega) (by decide) (by decide)
  simpa using this
theorem Bs.seg {l : List Int} (h : Bs l) (n m : Nat) : Bs ((l.take n).drop m) := fun x hx => h x (List.mem_of_mem_take (List.mem_of_mem_drop hx))
/-- A frame's length, as it is told. -/
def lg2 (b : List Int) : Int := be ((b.take 9).drop 7) 0
/-- The head can't be a frame's: so many bytes are looked at. -/
def hdBad (b : List Int) : Prop := (0 < b.length ∧ L b 0 ≠ 199) ∨ (1 < b.length ∧ L b 1 ≠ 77) ∨ (2 < b.length ∧ L b 2 > 99) ∨ (3 < b.length ∧ L b 3 > 127) ∨ (7 < b.length ∧ L b 7 > 19)
instance (b : List Int) : Decidable (hdBad b) := by unfold hdBad; exact inferInstance
def hdBad9 (b : List Int) : Prop := hdBad b ∨ (8 < b.length ∧ lg2 b > 5000)
instance (b : List Int) : Decidable (hdBad9 b) := by unfold hdBad9; exact inferInstance
/-- The sum compared. -/
def cmpS (b : List Int) (n : Nat) (s : List Int) : Nat → Nat → Int
  | 0, _ => 0
  | d + 1, i => if n + i = b.length then 1 else if L b (n + i) ≠ L s i then 2 else cmpS b n s d (i + 1)
theorem cmpS_cases (b : List Int) (n : Nat) (s : List Int) : ∀ d i : Nat, cmpS b n s d i = 0 ∨ cmpS b n s d i = 1 ∨ cmpS b n s d i = 2 := by
  intro d
  induction d with
  | zero => intro i; exact Or.inl rfl
  | succ d ih =>
    intro i
    rw [cmpS]
    split
    · exact Or.inr (Or.inl rfl)
    · split
      · exact Or.inr (Or.inr rfl)
      · exact ih (i + 1)
theorem cmpS_len (b : List Int) (n : Nat) (s : List Int) : ∀ d i : Nat, n + i ≤ b.length → cmpS b n s d i = 0 → n + i + d ≤ b.length := by
  intro d
  induction d with
  | zero => intro i h _; omega
  | succ d ih =>
    intro i h hc
    rw [cmpS] at hc
    split at hc
    · exact absurd hc (by decide)
    · split at hc
      · exact absurd hc (by decide)
      · have := ih (i + 1) (by omega) hc
        omega
/-- What both decode: tenant, number, length, kind of the answer, body. -/
def df (b : List Int) : Int × Int × Int × Int × List Int :=
  if hdBad9 b then (0, 0, 0, 2, []) else if b.length < 9 then (0, 0, 0, 1, []) else if (b.length : Int) < 9 + lg2 b then (0, 0, 0, 1, []) else
    if cmpS b (9 + lg2 b).toNat (w4 (ck ((b.take (9 + lg2 b).toNat).drop 2) (1, 0))) 4 0 = 0 then (L b 2, be ((b.take 7).drop 3) 0, 13 + lg2 b, 0, (b.take (9 + lg2 b).toNat).drop 9)
    else (0, 0, 0, cmpS b (9 + lg2 b).toNat (w4 (ck ((b.take (9 + lg2 b).toNat).drop 2) (1, 0))) 4 0, [])
theorem w4_length (x : Int) : (w4 x).length = 4 := rfl
theorem lg2_range (b : List Int) (hb : Bs b) : 0 ≤ lg2 b ∧ lg2 b < 4294967296 := by
  have h := be_range ((b.take 9).drop 7) 0 (hb.seg 9 7) (by decide)
  have hl : ((b.take 9).drop 7).length ≤ 4 := by rw [List.length_drop, List.length_take]; omega
  have hp := p256 _ hl
  unfold lg2
  rw [Int.zero_add, Int.one_mul] at h
  omega
/-! #### the one side -/
theorem shead_loop (b : List Int) (hb : Bs b) (hlen : b.length ≤ 2000000) (K : Nat) (hK : 20 ≤ K) : ∀ (d k i : Nat), i + d = 9 → d < k → i ≤ b.length →
    spec_l11Head.l0 K k b (i : Int) = some (decide (¬ ((i ≤ 0 ∧ 0 < b.length ∧ L b 0 ≠ 199) ∨ (i ≤ 1 ∧ 1 < b.length ∧ L b 1 ≠ 77) ∨ (i ≤ 2 ∧ 2 < b.length ∧ L b 2 > 99) ∨ (i ≤ 3 ∧ 3 < b.length ∧ L b 3 > 127) ∨ (i ≤ 7 ∧ 7 < b.length ∧ L b 7 > 19) ∨ (i ≤ 8 ∧ 8 < b.length ∧ lg2 b > 5000)))) := by
  intro d
  induction d with
  | zero =>
    intro k i hi hk hl
    obtain ⟨k, rfl⟩ : ∃ m, k = m + 1 := ⟨k - 1, by omega⟩
    rw [spec_l11Head.l0_eq]
    have : decide (¬ ((i ≤ 0 ∧ 0 < b.length ∧ L b 0 ≠ 199) ∨ (i ≤ 1 ∧ 1 < b.length ∧ L b 1 ≠ 77) ∨ (i ≤ 2 ∧ 2 < b.length ∧ L b 2 > 99) ∨ (i ≤ 3 ∧ 3 < b.length ∧ L b 3 > 127) ∨ (i ≤ 7 ∧ 7 < b.length ∧ L b 7 > 19) ∨ (i ≤ 8 ∧ 8 < b.length ∧ lg2 b > 5000))) = true := decide_eq_true (by omega)
    rw [this]
    by_cases c : (i : Int) < (b.length : Int)
    · rw [if_pos c, if_neg (by omega)]
    · rw [if_neg c]
  | succ d ih =>
    intro k i hi hk hl
    obtain ⟨k, rfl⟩ : ∃ m, k = m + 1 := ⟨k - 1, by omega⟩
    rw [spec_l11Head.l0_eq]
    by_cases c : (i : Int) < (b.length : Int)
    · have hc := hb.L i
      have nx : wrap64 ((i : Int) + 1) = ((i + 1 : Nat) : Int) := wrap_next (show i < b.length by omega) (by omega)
      have ih := ih k (i + 1) (by omega) (by omega) (by omega)
      rw [if_pos c, if_pos (by omega), if_pos (by omega), if_pos (by omega), rd_L, wrap_id (x := L b i) (by omega) (by omega), nx, ih]
      have hi9 : i = 0 ∨ i = 1 ∨ i = 2 ∨ i = 3 ∨ i = 4 ∨ i = 5 ∨ i = 6 ∨ i = 7 ∨ i = 8 := by omega
      rcases hi9 with rfl | rfl | rfl | rfl | rfl | rfl | rfl | rfl | rfl
      · rw [if_pos (by decide)]
        by_cases e : L b 0 ≠ 199
        · rw [if_pos e]; congr 1; exact (decide_eq_false (by omega)).symm
        · rw [if_neg e]; congr 1; exact decide_eq_decide.mpr (by omega)
      · rw [if_neg (by decide), if_pos (by decide)]
        by_cases e : L b 1 ≠ 77
        · rw [if_pos e]; congr 1; exact (decide_eq_false (by omega)).symm
        · rw [if_neg e]; congr 1; exact decide_eq_decide.mpr (by omega)
      · rw [if_neg (by decide), if_neg (by decide), if_pos (by decide)]
        by_cases e : L b 2 > 99
        · rw [if_pos e]; congr 1; exact (decide_eq_false (by omega)).symm
        · rw [if_neg e]; congr 1; exact decide_eq_decide.mpr (by omega)
      · rw [if_neg (by decide), if_neg (by decide), if_neg (by decide), if_pos (by decide)]
        by_cases e : L b 3 > 127
        · rw [if_pos e]; congr 1; exact (decide_eq_false (by omega)).symm
        · rw [if_neg e]; congr 1; exact decide_eq_decide.mpr (by omega)
      · rw [if_neg (by decide), if_neg (by decide), if_neg (by decide), if_neg (by decide), if_neg (by decide), if_neg (by decide)]; congr 1; exact decide_eq_decide.mpr (by omega)
      · rw [if_neg (by decide), if_neg (by decide), if_neg (by decide), if_neg (by decide), if_neg (by decide), if_neg (by decide)]; congr 1; exact decide_eq_decide.mpr (by omega)
      · rw [if_neg (by decide), if_neg (by decide), if_neg (by decide), if_neg (by decide), if_neg (by decide), if_neg (by decide)]; congr 1; exact decide_eq_decide.mpr (by omega)
      · rw [if_neg (by decide), if_neg (by decide), if_neg (by decide), if_neg (by decide), if_pos (by decide)]
        by_cases e : L b 7 > 19
        · rw [if_pos e]; congr 1; exact (decide_eq_false (by omega)).symm
        · rw [if_neg e]; congr 1; exact decide_eq_decide.mpr (by omega)
      · rw [if_neg (by decide), if_neg (by decide), if_neg (by decide), if_neg (by decide), if_neg (by decide), if_pos (by decide), if_pos (by omega), show cut b 7 9 = (b.take 9).drop 7 from cut_nat b 7 9, sread_f _ (hb.seg 9 7) (by rw [List.length_drop, List.length_take]; omega) K (by omega)]
        simp only [bs]
        have hlg : be ((b.take 9).drop 7) 0 = lg2 b := rfl
        rw [hlg]
        by_cases e : lg2 b > 5000
        · rw [if_pos e]; congr 1; exact (decide_eq_false (by omega)).symm
        · rw [if_neg e]; congr 1; exact decide_eq_decide.mpr (by omega)
    · rw [if_neg c]
      congr 1
      exact (decide_eq_true (by omega)).symm
theorem shead_f (b : List Int) (hb : Bs b) (hlen : b.length ≤ 2000000) (k : Nat) (hk : 30 ≤ k) : spec_l11Head.f k b = some (decide (¬ hdBad9 b)) := by
  obtain ⟨k, rfl⟩ : ∃ m, k = m + 1 := ⟨k - 1, by omega⟩
  rw [spec_l11Head.f_eq]
  have := shead_loop b hb hlen k (by omega) 9 k 0 (by omega) (by omega) (by omega)
  rw [show ((0 : Nat) : Int) = 0 from rfl] at this
  rw [this]
  congr 1
  unfold hdBad9 hdBad
  exact decide_eq_decide.mpr (by omega)
theorem scmp_loop (b : List Int) (n : Nat) (s : List Int) (hs : s.length = 4) (hn : n ≤ b.length) (hlen : b.length ≤ 2000000) (hb : Bs b) (h9 : 9 ≤ n) (K : Nat) (hK : 2000010 ≤ K) (x y : Int) : ∀ (d k i : Nat), i + d = 4 → d < k → n + i ≤ b.length →
    spec_DecodeFrame.l0 K k b (n : Int) (i : Int) x y 0 0 s = some (if cmpS b n s d i = 0 then (L b 2, be ((b.take 7).drop 3) 0, (n : Int) + 4, 0, (b.take n).drop 9) else (0, 0, 0, cmpS b n s d i, [])) := by
  intro d
  induction d with
  | zero =>
    intro k i hi hk hl
    obtain ⟨k, rfl⟩ : ∃ m, k = m + 1 := ⟨k - 1, by omega⟩
    have h2 := hb.L 2
    rw [spec_DecodeFrame.l0_eq, if_neg (by omega), if_pos (by omega), if_pos (by omega), show cut b 3 7 = (b.take 7).drop 3 from cut_nat b 3 7, sread_f _ (hb.seg 7 3) (by rw [List.length_drop, List.length_take]; omega) K (by omega)]
    simp only [bs]
    rw [if_pos (by omega), if_pos (by omega), show cut b 9 (n : Int) = (b.take n).drop 9 from cut_nat b 9 n, bytes_is _ (by rw [List.length_drop, List.length_take]; omega) K (by rw [List.length_drop, List.length_take]; omega)]
    simp only [bs]
    rw [show rdI b 2 = L b 2 from rd_L b 2, wrap_id (x := L b 2) (by omega) (by omega), wrap_id (x := (n : Int) + 4) (by omega) (by omega)]
    rfl
  | succ d ih =>
    intro k i hi hk hl
    obtain ⟨k, rfl⟩ : ∃ m, k = m + 1 := ⟨k - 1, by omega⟩
    rw [spec_DecodeFrame.l0_eq, if_pos (by omega), wrap_id (x := (n : Int) + (i : Int)) (by omega) (by omega), cmpS]
    by_cases c : n + i = b.length
    · rw [if_pos (by omega), if_pos c]
      rfl
    · rw [if_neg (by omega), if_neg c, if_pos (by omega), if_pos (by omega), if_pos (by omega), if_pos (by omega), show (n : Int) + (i : Int) = ((n + i : Nat) : Int) from rfl, rd_L, rd_L]
      by_cases e : L b (n + i) ≠ L s i
      · rw [if_pos e, if_pos e]
        rfl
      · rw [if_neg e, if_neg e, wrap_next (show i < 4 by omega) (by omega)]
        exact ih k (i + 1) (by omega) (by omega) (by omega)
theorem sdf_f (b : List Int) (hb : Bs b) (hlen : b.length ≤ 1048576) (k : Nat) (hk : 2000020 ≤ k) : spec_DecodeFrame.f k b = some (df b) := by
  obtain ⟨k, rfl⟩ : ∃ m, k = m + 1 := ⟨k - 1, by omega⟩
  have hg := lg2_range b hb
  rw [spec_DecodeFrame.f_eq, shead_f b hb (by omega) k (by omega)]
  simp only [bs, not_ite]
  unfold df
  by_cases h1 : hdBad9 b
  · rw [if_neg (by simpa using h1), if_pos h1]
  · rw [if_pos (by simpa using h1), if_neg h1]
    by_cases h2 : b.length < 9
    · rw [if_pos (by omega), if_pos h2]
    · have hlg : be ((b.take 9).drop 7) 0 = lg2 b := rfl
      have h5 : lg2 b ≤ 5000 := by
        unfold hdBad9 at h1
        omega
      rw [if_neg (by omega), if_neg h2, if_pos (by omega), show cut b 7 9 = (b.take 9).drop 7 from cut_nat b 7 9, sread_f _ (hb.seg 9 7) (by rw [List.length_drop, List.length_take]; omega) k (by omega)]
      simp only [bs]
      rw [hlg, wrap_id (x := 9 + lg2 b) (by omega) (by omega)]
      by_cases h3 : (b.length : Int) < 9 + lg2 b
      · rw [if_pos h3, if_pos h3]
      · obtain ⟨n, hn⟩ : ∃ n : Nat, 9 + lg2 b = (n : Int) := ⟨(9 + lg2 b).toNat, by omega⟩
        have hck := ck_range ((b.take n).drop 2) (1, 0) (by decide) (by decide) (by decide) (by decide)
        rw [if_neg h3, if_neg h3, hn, Int.toNat_natCast, if_pos (by omega), if_pos (by omega), show cut b 2 (n : Int) = (b.take n).drop 2 from cut_nat b 2 n, scheck_f _ (hb.seg n 2) (by rw [List.length_drop, List.length_take]; omega) k (by rw [List.length_drop, List.length_take]; omega)]
        simp only [bs]
        rw [wide4_f _ hck.1 hck.2 k (by omega)]
        simp only [bs]
        have := scmp_loop b n (w4 (ck ((b.take n).drop 2) (1, 0))) rfl (by omega) (by omega) hb (by omega) k (by omega) 0 0 4 k 0 (by omega) (by omega) (by omega)
        rw [show ((0 : Nat) : Int) = 0 from rfl] at this
        rw [this, show (13 : Int) + lg2 b = (n : Int) + 4 by omega]
/-! #### the other side -/
theorem icmp_loop (b : List Int) (n : Nat) (s : List Int) (g : Int) (hg : 9 + g = (n : Int)) (hs : s.length = 4) (hn : n ≤ b.length) (hlen : b.length ≤ 2000000) (hb : Bs b) (h9 : 9 ≤ n) (K : Nat) (hK : 20 ≤ K) (x y : Int) : ∀ (d k i : Nat), i + d = 4 → d < k → n + i ≤ b.length →
    impl_decodeFrame.l0 K k b (b.length : Int) g 4 (i : Int) x y s = some (if cmpS b n s d i = 0 then (L b 2, be ((b.take 7).drop 3) 0, 13 + g, 0, (b.take n).drop 9) else (0, 0, 0, cmpS b n s d i, [])) := by
  intro d
  induction d with
  | zero =>
    intro k i hi hk hl
    obtain ⟨k, rfl⟩ : ∃ m, k = m + 1 := ⟨k - 1, by omega⟩
    have h2 := hb.L 2
    rw [impl_decodeFrame.l0_eq, if_neg (by omega), if_pos (by omega), if_pos (by omega), show cut b 3 7 = (b.take 7).drop 3 from cut_nat b 3 7, iread_f _ (hb.seg 7 3) (by rw [List.length_drop, List.length_take]; omega) K (by omega)]
    simp only [bs]
    rw [wrap_id (x := 9 + g) (by omega) (by omega), wrap_id (x := 13 + g) (by omega) (by omega), hg, if_pos (by omega), if_pos (by omega), show cut b 9 (n : Int) = (b.take n).drop 9 from cut_nat b 9 n, if_pos (by rw [List.length_drop, List.length_take]; omega)]
    rw [show rdI b 2 = L b 2 from rd_L b 2, wrap_id (x := L b 2) (by omega) (by omega), List.nil_append]
    rfl
  | succ d ih =>
    intro k i hi hk hl
    obtain ⟨k, rfl⟩ : ∃ m, k = m + 1 := ⟨k - 1, by omega⟩
    rw [impl_decodeFrame.l0_eq, if_pos (by omega), if_pos (by omega), if_pos (by omega), wrap_id (x := 9 + g) (by omega) (by omega), hg, wrap_id (x := (n : Int) + (i : Int)) (by omega) (by omega), cmpS]
    by_cases c : n + i = b.length
    · rw [if_pos (by omega), if_pos c]
      rfl
    · rw [if_neg (by omega), if_neg c, if_pos (by omega), if_pos (by omega), show (n : Int) + (i : Int) = ((n + i : Nat) : Int) from rfl, rd_L, rd_L]
      by_cases e : L b (n + i) ≠ L s i
      · rw [if_pos e, if_pos e]
        rfl
      · rw [if_neg e, if_neg e, wrap_next (show i < 4 by omega) (by omega)]
        exact ih k (i + 1) (by omega) (by omega) (by omega)
theorem ij0D (b : List Int) (hb : Bs b) (hlen : b.length ≤ 1048576) (k : Nat) (hk : 2000010 ≤ k) (t : Bool) (ht : t = true ↔ hdBad b) : impl_decodeFrame.j0 k b (b.length : Int) t 0 0 = some (df b) := by
  have hg := lg2_range b hb
  rw [impl_decodeFrame.j0_eq]
  unfold df
  by_cases h1 : hdBad b
  · rw [if_pos (ht.2 h1), if_pos (show hdBad9 b from Or.inl h1)]
  · rw [if_neg (fun h => h1 (ht.1 h))]
    by_cases h2 : b.length < 9
    · have h9 : ¬ hdBad9 b := by unfold hdBad9; exact fun h => h.elim h1 fun h => by omega
      rw [if_pos (by omega), if_neg h9, if_pos h2]
    · have hlg : be ((b.take 9).drop 7) 0 = lg2 b := rfl
      rw [if_neg (by omega), if_pos (by omega), show cut b 7 9 = (b.take 9).drop 7 from cut_nat b 7 9, iread_f _ (hb.seg 9 7) (by rw [List.length_drop, List.length_take]; omega) k (by omega)]
      simp only [bs]
      rw [hlg]
      by_cases h4 : lg2 b > 5000
      · rw [if_pos h4, if_pos (show hdBad9 b from Or.inr ⟨by omega, h4⟩)]
      · have h9 : ¬ hdBad9 b := by unfold hdBad9; exact fun h => h.elim h1 fun h => by omega
        rw [if_neg h4, if_neg h9, if_neg h2, wrap_id (x := 9 + lg2 b) (by omega) (by omega)]
        by_cases h3 : (b.length : Int) < 9 + lg2 b
        · rw [if_pos h3, if_pos h3]
        · obtain ⟨n, hn⟩ : ∃ n : Nat, 9 + lg2 b = (n : Int) := ⟨(9 + lg2 b).toNat, by omega⟩
          rw [if_neg h3, if_neg h3, hn, Int.toNat_natCast, if_pos (by omega), if_pos (by omega), show cut b 2 (n : Int) = (b.take n).drop 2 from cut_nat b 2 n, icheck_f _ (hb.seg n 2) (by rw [List.length_drop, List.length_take]; omega) k (by rw [List.length_drop, List.length_take]; omega)]
          simp only [bs]
          rw [big4_f _ k (by omega)]
          simp only [bs]
          have := icmp_loop b n (w4 (ck ((b.take n).drop 2) (1, 0))) (lg2 b) hn rfl (by omega) (by omega) hb (by omega) k (by omega) 0 0 4 k 0 (by omega) (by omega) (by omega)
          rw [show ((0 : Nat) : Int) = 0 from rfl] at this
          exact this
theorem idf_f (b : List Int) (hb : Bs b) (hlen : b.length ≤ 1048576) (k : Nat) (hk : 2000020 ≤ k) : impl_decodeFrame.f k b = some (df b) := by
  obtain ⟨k, rfl⟩ : ∃ m, k = m + 1 := ⟨k - 1, by omega⟩
  have j0 := fun t ht => ij0D b hb hlen k (by omega) t ht
  have r0 : rdI b 0 = L b 0 := rd_L b 0
  have r1 : rdI b 1 = L b 1 := rd_L b 1
  have r2 : rdI b 2 = L b 2 := rd_L b 2
  have r3 : rdI b 3 = L b 3 := rd_L b 3
  have r7 : rdI b 7 = L b 7 := rd_L b 7
  have b7 := hb.L 7
  -- the last look
  have j4 : ∀ t : Bool, (t = true ↔ ((0 < b.length ∧ L b 0 ≠ 199) ∨ (1 < b.length ∧ L b 1 ≠ 77) ∨ (2 < b.length ∧ L b 2 > 99) ∨ (3 < b.length ∧ L b 3 > 127))) → impl_decodeFrame.j4 k b (b.length : Int) t 0 0 = some (df b) := by
    intro t ht
    rw [impl_decodeFrame.j4_eq]
    by_cases c : t = true
    · rw [if_pos c]
      exact j0 t ⟨fun _ => by have := ht.1 c; unfold hdBad; omega, fun _ => c⟩
    · have hn : ¬ _ := fun h => c (ht.2 h)
      rw [if_neg c]
      by_cases d : (b.length : Int) > 7
      · rw [if_pos d, if_pos (by omega), r7, wrap_id (x := L b 7) (by omega) (by omega)]
        exact j0 _ (by unfold hdBad; simp only [decide_eq_true_eq]; omega)
      · rw [if_neg d]
        exact j0 _ (by unfold hdBad; simp only [Bool.false_eq_true, false_iff]; omega)
  have j3 : ∀ t : Bool, (t = true ↔ ((0 < b.length ∧ L b 0 ≠ 199) ∨ (1 < b.length ∧ L b 1 ≠ 77) ∨ (2 < b.length ∧ L b 2 > 99))) → impl_decodeFrame.j3 k b (b.length : Int) t 0 0 = some (df b) := by
    intro t ht
    rw [impl_decodeFrame.j3_eq]
    by_cases c : t = true
    · rw [if_pos c]
      exact j0 t ⟨fun _ => by have := ht.1 c; unfold hdBad; omega, fun _ => c⟩
    · have hn : ¬ _ := fun h => c (ht.2 h)
      rw [if_neg c]
      by_cases d : (b.length : Int) > 3
      · rw [if_pos d, if_pos (by omega), r3]
        exact j4 _ (by simp only [decide_eq_true_eq]; omega)
      · rw [if_neg d]
        exact j4 _ (by simp only [Bool.false_eq_true, false_iff]; omega)
  have j2 : ∀ t : Bool, (t = true ↔ ((0 < b.length ∧ L b 0 ≠ 199) ∨ (1 < b.length ∧ L b 1 ≠ 77))) → impl_decodeFrame.j2 k b (b.length : Int) t 0 0 = some (df b) := by
    intro t ht
    rw [impl_decodeFrame.j2_eq]
    by_cases c : t = true
    · rw [if_pos c]
      exact j0 t ⟨fun _ => by have := ht.1 c; unfold hdBad; omega, fun _ => c⟩
    · have hn : ¬ _ := fun h => c (ht.2 h)
      rw [if_neg c]
      by_cases d : (b.length : Int) > 2
      · rw [if_pos d, if_pos (by omega), r2]
        exact j3 _ (by simp only [decide_eq_true_eq]; omega)
      · rw [if_neg d]
        exact j3 _ (by simp only [Bool.false_eq_true, false_iff]; omega)
  have j1 : ∀ t : Bool, (t = true ↔ (0 < b.length ∧ L b 0 ≠ 199)) → impl_decodeFrame.j1 k b (b.length : Int) t 0 0 = some (df b) := by
    intro t ht
    rw [impl_decodeFrame.j1_eq]
    by_cases c : t = true
    · rw [if_pos c]
      exact j0 t ⟨fun _ => by have := ht.1 c; unfold hdBad; omega, fun _ => c⟩
    · have hn : ¬ _ := fun h => c (ht.2 h)
      rw [if_neg c]
      by_cases d : (b.length : Int) > 1
      · rw [if_pos d, if_pos (by omega), r1]
        exact j2 _ (by simp only [decide_eq_true_eq]; omega)
      · rw [if_neg d]
        exact j2 _ (by simp only [Bool.false_eq_true, false_iff]; omega)
  rw [impl_decodeFrame.f_eq]
  by_cases d : (b.length : Int) > 0
  · rw [if_pos d, if_pos (by omega), r0]
    exact j1 _ (by simp only [decide_eq_true_eq]; omega)
  · rw [if_neg d]
    exact j1 _ (by simp only [Bool.false_eq_true, false_iff]; omega)
end Go.Vm.Pu
namespace Go.Vm.Pu
open Go Go.RowKit Go.Vm
set_option linter.unusedVariables false
set_option linter.unusedSimpArgs false
theorem df_ok (b : List Int) (hb : Bs b) : ((df b).2.2.2.1 = 0 → 0 < (df b).2.2.1 ∧ (df b).2.2.1 ≤ (b.length : Int)) ∧ ((df b).2.2.2.1 = 0 ∨ (df b).2.2.2.1 = 1 ∨ (df b).2.2.2.1 = 2) ∧ Bs (df b).2.2.2.2 ∧ (df b).2.2.2.2.length ≤ b.length := by
  have hg := lg2_range b hb
  unfold df
  by_cases h1 : hdBad9 b
  · rw [if_pos h1]
    exact ⟨fun h => absurd h (by decide), Or.inr (Or.inr rfl), fun x hx => (by cases hx), Nat.zero_le _⟩
  · rw [if_neg h1]
    by_cases h2 : b.length < 9
    · rw [if_pos h2]
      exact ⟨fun h => absurd h (by decide), Or.inr (Or.inl rfl), fun x hx => (by cases hx), Nat.zero_le _⟩
    · rw [if_neg h2]
      by_cases h3 : (b.length : Int) < 9 + lg2 b
      · rw [if_pos h3]
        exact ⟨fun h => absurd h (by decide), Or.inr (Or.inl rfl), fun x hx => (by cases hx), Nat.zero_le _⟩
      · rw [if_neg h3]
        have hcs := cmpS_cases b (9 + lg2 b).toNat (w4 (ck ((b.take (9 + lg2 b).toNat).drop 2) (1, 0))) 4 0
        have hcl := cmpS_len b (9 + lg2 b).toNat (w4 (ck ((b.take (9 + lg2 b).toNat).drop 2) (1, 0))) 4 0 (by omega)
        generalize cmpS b (9 + lg2 b).toNat (w4 (ck ((b.take (9 + lg2 b).toNat).drop 2) (1, 0))) 4 0 = c at hcs hcl ⊢
        by_cases h4 : c = 0
        · rw [if_pos h4]
          have := hcl h4
          refine ⟨fun _ => ⟨by simp only; omega, by simp only; omega⟩, Or.inl rfl, hb.seg _ _, ?_⟩
          simp only [List.length_drop, List.length_take]
          omega
        · rw [if_neg h4]
          refine ⟨fun h => absurd h h4, by simp only; omega, fun x hx => (by cases hx), Nat.zero_le _⟩
abbrev Evt := Int × Int × Int × Int × List Int
def evOf (x : Int × Int × Int × Int × List Int × Bool) : Evt := (x.1, x.2.1, x.2.2.1, x.2.2.2.1, x.2.2.2.2.1)
/-- What both read from a place on. -/
def scn (all : List Int) : Nat → Nat → List Evt → Nat × Int × List Evt
  | 0, at_, out => (at_, 0, out)
  | d + 1, at_, out =>
    if at_ < all.length then
      if (df (all.drop at_)).2.2.2.1 = 1 then (at_, 1, out) else if (df (all.drop at_)).2.2.2.1 = 2 then (at_, 2, out) else
      if (te (df (all.drop at_)).1 (df (all.drop at_)).2.1 (df (all.drop at_)).2.2.2.2).2.2.2.2.2 = true then
        scn all d (at_ + (df (all.drop at_)).2.2.1.toNat) (out ++ [evOf (te (df (all.drop at_)).1 (df (all.drop at_)).2.1 (df (all.drop at_)).2.2.2.2)])
      else (at_, 2, out)
    else (at_, 0, out)
theorem scn_at (all : List Int) (hb : Bs all) : ∀ (d at_ : Nat) (out : List Evt), at_ ≤ all.length → (scn all d at_ out).1 ≤ all.length := by
  intro d
  induction d with
  | zero => intro at_ out h; exact h
  | succ d ih =>
    intro at_ out h
    have hd := df_ok (all.drop at_) (hb.drop _)
    rw [scn]
    split
    · split
      · exact h
      · split
        · exact h
        · split
          · have h0 : (df (all.drop at_)).2.2.2.1 = 0 := by omega
            have := hd.1 h0
            rw [List.length_drop] at this
            exact ih _ _ (by omega)
          · exact h
    · exact h
theorem sscan_loop (all : List Int) (hb : Bs all) (hlen : all.length ≤ 1048576) (K : Nat) (hK : 2000030 ≤ K) : ∀ (d k at_ : Nat) (out : List Evt), all.length ≤ at_ + d → at_ ≤ all.length → d < k → out.length + d ≤ 4000000 →
    spec_l18Scan.l0 K k all (at_ : Int) out = some (((scn all d at_ out).1 : Int), (scn all d at_ out).2.1, (scn all d at_ out).2.2) := by
  intro d
  induction d with
  | zero =>
    intro k at_ out h1 h2 hk hl
    obtain ⟨k, rfl⟩ : ∃ m, k = m + 1 := ⟨k - 1, by omega⟩
    rw [spec_l18Scan.l0_eq, if_neg (by omega)]
    rfl
  | succ d ih =>
    intro k at_ out h1 h2 hk hl
    obtain ⟨k, rfl⟩ : ∃ m, k = m + 1 := ⟨k - 1, by omega⟩
    have hd := df_ok (all.drop at_) (hb.drop _)
    rw [spec_l18Scan.l0_eq, scn]
    by_cases c : at_ < all.length
    · rw [if_pos (by omega), if_pos (by omega), if_pos (by omega), if_pos c, cut_end, sdf_f _ (hb.drop _) (by rw [List.length_drop]; omega) K (by omega)]
      simp only [bs]
      by_cases e1 : (df (all.drop at_)).2.2.2.1 = 1
      · rw [if_pos e1, if_pos e1]
      · rw [if_neg e1, if_neg e1]
        by_cases e2 : (df (all.drop at_)).2.2.2.1 = 2
        · rw [if_pos e2, if_pos e2]
        · have h0 : (df (all.drop at_)).2.2.2.1 = 0 := by omega
          have hn := hd.1 h0
          have hbl := hd.2.2.2
          rw [List.length_drop] at hn hbl
          rw [if_neg e2, if_neg e2, stakeEvent_f _ _ _ hd.2.2.1 (by omega) K (by omega)]
          simp only [bs, not_ite, tv]
          by_cases e3 : (te (df (all.drop at_)).1 (df (all.drop at_)).2.1 (df (all.drop at_)).2.2.2.2).2.2.2.2.2 = true
          · rw [if_pos e3, if_pos e3, if_pos (by omega), wrap_id (by omega) (by omega), show (at_ : Int) + (df (all.drop at_)).2.2.1 = ((at_ + (df (all.drop at_)).2.2.1.toNat : Nat) : Int) by omega]
            exact ih k _ _ (by omega) (by omega) (by omega) (by simp; omega)
          · rw [if_neg e3, if_neg e3]
    · rw [if_neg (by omega), if_neg c]
theorem sscan_f (all : List Int) (hb : Bs all) (hlen : all.length ≤ 1048576) (k : Nat) (hk : 2000040 ≤ k) : spec_l18Scan.f k all = some (((scn all all.length 0 []).1 : Int), (scn all all.length 0 []).2.1, (scn all all.length 0 []).2.2) := by
  obtain ⟨k, rfl⟩ : ∃ m, k = m + 1 := ⟨k - 1, by omega⟩
  rw [spec_l18Scan.f_eq]
  exact sscan_loop all hb hlen k (by omega) all.length k 0 [] (by omega) (by omega) (by omega) (by simp; omega)
theorem iread_log (all : List Int) (hb : Bs all) (hlen : all.length ≤ 1048576) (K : Nat) (hK : 2000030 ≤ K) : ∀ (d k at_ : Nat) (out : List Evt), all.length ≤ at_ + d → at_ ≤ all.length → d < k → out.length + d ≤ 4000000 →
    impl_readDisk.l0 K k (at_ : Int) all out = some (((scn all d at_ out).1 : Int), (scn all d at_ out).2.1, (scn all d at_ out).2.2) := by
  intro d
  induction d with
  | zero =>
    intro k at_ out h1 h2 hk hl
    obtain ⟨k, rfl⟩ : ∃ m, k = m + 1 := ⟨k - 1, by omega⟩
    rw [impl_readDisk.l0_eq, if_pos (by omega)]
    rfl
  | succ d ih =>
    intro k at_ out h1 h2 hk hl
    obtain ⟨k, rfl⟩ : ∃ m, k = m + 1 := ⟨k - 1, by omega⟩
    have hd := df_ok (all.drop at_) (hb.drop _)
    rw [impl_readDisk.l0_eq, scn]
    by_cases c : at_ < all.length
    · rw [if_neg (by omega), if_pos (by omega), if_pos (by omega), if_pos c, cut_end, idf_f _ (hb.drop _) (by rw [List.length_drop]; omega) K (by omega)]
      simp only [bs]
      by_cases e1 : (df (all.drop at_)).2.2.2.1 = 1
      · rw [if_pos e1, if_pos e1]
      · have hbl := hd.2.2.2
        rw [List.length_drop] at hbl
        rw [if_neg e1, if_neg e1, itakeEvent_f _ _ _ hd.2.2.1 (by omega) K (by omega)]
        simp only [bs, not_ite, tv]
        by_cases e2 : (df (all.drop at_)).2.2.2.1 = 2
        · rw [if_pos (by omega), if_pos e2]
        · have h0 : (df (all.drop at_)).2.2.2.1 = 0 := by omega
          have hn := hd.1 h0
          rw [List.length_drop] at hn
          rw [if_neg (by omega), if_neg e2]
          by_cases e3 : (te (df (all.drop at_)).1 (df (all.drop at_)).2.1 (df (all.drop at_)).2.2.2.2).2.2.2.2.2 = true
          · rw [if_pos e3, if_pos e3, if_pos (by omega), wrap_id (by omega) (by omega), show (at_ : Int) + (df (all.drop at_)).2.2.1 = ((at_ + (df (all.drop at_)).2.2.1.toNat : Nat) : Int) by omega]
            exact ih k _ _ (by omega) (by omega) (by omega) (by simp; omega)
          · rw [if_neg e3, if_neg e3]
    · rw [if_pos (by omega), if_neg c]
theorem iread_disk (a b : List Int) (ha : Bs a) (hb : Bs b) (hlen : a.length + b.length ≤ 1048576) (k : Nat) (hk : 2000040 ≤ k) : impl_readDisk.f k a b = some (((scn (a ++ b) (a ++ b).length 0 []).1 : Int), (scn (a ++ b) (a ++ b).length 0 []).2.1, (scn (a ++ b) (a ++ b).length 0 []).2.2) := by
  obtain ⟨k, rfl⟩ : ∃ m, k = m + 1 := ⟨k - 1, by omega⟩
  rw [impl_readDisk.f_eq, if_pos (by omega), List.nil_append, if_pos (by omega)]
  have hl : (a ++ b).length = a.length + b.length := List.length_append
  exact iread_log (a ++ b) (ha.app hb) (by omega) k (by omega) (a ++ b).length k 0 [] (by omega) (by omega) (by omega) (by simp; omega)
end Go.Vm.Pu
namespace Go.Vm.Pu
open Go Go.RowKit Go.Vm
set_option linter.unusedVariables false
set_option linter.unusedSimpArgs false
/-- What both answer. -/
def rp (a b : List Int) : Bool × List Int × List Int :=
  if a.length + b.length ≤ 60000 then (if (scn (a ++ b) (a ++ b).length 0 []).2.1 = 2 then (false, a, b) else (true, (a ++ b).take (scn (a ++ b) (a ++ b).length 0 []).1, [])) else (false, a, b)
theorem rp_len (a b : List Int) (h : a.length + b.length ≤ 1048576) : (rp a b).2.1.length + (rp a b).2.2.length ≤ 1048576 := by
  unfold rp
  split
  · split
    · exact h
    · simp only [List.length_take, List.length_append, List.length_nil]; omega
  · exact h
theorem cut_front (l : List Int) (i : Nat) : cut l 0 (i : Int) = l.take i := by
  have := cut_nat l 0 i
  rw [List.drop_zero] at this
  exact this
theorem srp_f (a b : List Int) (ha : Bs a) (hb : Bs b) (h : a.length + b.length ≤ 1048576) (k : Nat) (hk : 2000050 ≤ k) : spec_RepairDisk.f k a b = some (rp a b) := by
  obtain ⟨k, rfl⟩ : ∃ m, k = m + 1 := ⟨k - 1, by omega⟩
  rw [spec_RepairDisk.f_eq, specDiskOk_f a b h k (by omega)]
  simp only [bs, not_ite, l18Copy_f a b h k (by omega)]
  unfold rp
  by_cases c : a.length + b.length ≤ 60000
  · have hl : (a ++ b).length = a.length + b.length := List.length_append
    have hat := scn_at (a ++ b) (ha.app hb) (a ++ b).length 0 [] (Nat.zero_le _)
    rw [if_pos (decide_eq_true c), if_pos c, join_is a b (by omega) (by omega) k (by omega) (by omega)]
    simp only [bs]
    rw [sscan_f _ (ha.app hb) (by omega) k (by omega)]
    simp only [bs]
    by_cases e : (scn (a ++ b) (a ++ b).length 0 []).2.1 = 2
    · rw [if_pos e, if_pos e]
    · rw [if_neg e, if_neg e, if_pos (by omega), if_pos (by omega), cut_front, bytes_is _ (by rw [List.length_take]; omega) k (by rw [List.length_take]; omega)]
      simp only [bs]
  · rw [if_neg (by simpa using c), if_neg c]
theorem irp_f (a b : List Int) (ha : Bs a) (hb : Bs b) (h : a.length + b.length ≤ 1048576) (k : Nat) (hk : 2000050 ≤ k) : impl_RepairDisk.f k a b = some (rp a b) := by
  obtain ⟨k, rfl⟩ : ∃ m, k = m + 1 := ⟨k - 1, by omega⟩
  rw [impl_RepairDisk.f_eq, copyDisk_f a b h k (by omega)]
  simp only [bs, not_ite]
  rw [isDisk_f a b h k (by omega)]
  simp only [bs]
  unfold rp
  by_cases c : a.length + b.length ≤ 60000
  · have hl : (a ++ b).length = a.length + b.length := List.length_append
    have hat := scn_at (a ++ b) (ha.app hb) (a ++ b).length 0 [] (Nat.zero_le _)
    rw [if_pos (decide_eq_true c), if_pos c, iread_disk a b ha hb h k (by omega)]
    simp only [bs]
    by_cases e : (scn (a ++ b) (a ++ b).length 0 []).2.1 = 2
    · rw [if_pos e, if_pos e]
    · rw [if_neg e, if_neg e, if_pos (by omega), if_pos (by omega), if_pos (by omega), cut_front, if_pos (by rw [List.length_take]; omega), List.nil_append]
  · rw [if_neg (by simpa using c), if_neg c]
theorem law_RepairDisk (a b : List Int) (ha : a.length ≤ maxLen) (hbl : b.length ≤ maxLen) (wa : Bs a) (wb : Bs b) : ∃ k, laws_FnExactRepairDisk.f k a b = some true := by
  obtain ⟨K, hK⟩ : ∃ K : Nat, K = 2000050 := ⟨_, rfl⟩
  refine ⟨K + 1, ?_⟩
  rw [laws_FnExactRepairDisk.f_eq]
  simp only [not_ite]
  by_cases c : a.length + b.length ≤ 1048576
  case neg =>
    rw [szDisk_f a b ha hbl K (by omega), if_neg c]
    simp only [bs]
    rw [if_pos (by decide)]
  have U := toDisk_f a b c K (by omega)
  have V := eqDisk_f a b c K (by omega)
  have E1 := srp_f a b wa wb c K (by omega)
  have E2 := irp_f a b wa wb c K (by omega)
  have hl := rp_len a b c
  generalize rp a b = r at hl E1 E2
  obtain ⟨ok, x, y⟩ := r
  simp only at hl
  have S := eqDisk_f x y hl K (by omega)
  have M := markDisk_f x y hl K (by omega)
  have M0 := markDisk_f a b c K (by omega)
  have H := heldDisk_f x.length y.length hl K (by omega)
  rw [szDisk_f a b ha hbl K (by omega), if_pos c]
  simp only [bs]
  rw [if_neg (by omega)]
  simp only [U, E1, E2, S, V, M0, bs, if_true, beq_self_eq_true]
  rw [if_neg (by omega)]
  simp only [M, H, bs]
  rw [if_neg (by omega), if_neg (by simp), if_neg (by omega), if_neg (by simp)]
end Go.Vm.Pu
namespace Go.Vm.Pu
open Go Go.RowKit Go.Vm
set_option linter.unusedVariables false
set_option linter.unusedSimpArgs false
abbrev EvT : Ty := .pair (.int .i64) (.pair (.int .i64) (.pair (.int .i64) (.pair (.int .i64) (.row (.int .u8)))))
theorem rdE (l : List Evt) (i : Nat) (h : i < l.length) : rd EvT l (i : Int) = l[i] := by
  simp [rd, List.getD, h]
def evTot : List Evt → Int
  | [] => 0
  | e :: l => 4 + (e.2.2.2.2.length : Int) + evTot l
theorem evTot_pos : ∀ l, 0 ≤ evTot l
  | [] => by simp [evTot]
  | e :: l => by have := evTot_pos l; simp only [evTot]; omega
def markEv : Int → List Evt → List Evt
  | _, [] => []
  | m, e :: l => (m, m + 1, m + 1 + 1, m + 1 + 1 + 1, markL (m + 1 + 1 + 1 + 1) e.2.2.2.2.length) :: markEv (m + 1 + 1 + 1 + 1 + (e.2.2.2.2.length : Int)) l
theorem markEv_length : ∀ (l : List Evt) (m : Int), (markEv m l).length = l.length
  | [], m => rfl
  | e :: l, m => by simp [markEv, markEv_length l]
theorem rd_setE (l : List Evt) (i : Nat) (h : i < l.length) (x : Evt) : rd EvT (l.set (Int.toNat (i : Int)) x) (i : Int) = x := by
  rw [rdE _ i (by simpa using h)]; simp
theorem markEv_l0 (K : Nat) (hK : 2000002 ≤ K) (n : Nat) (hn : n ≤ 2000000) : ∀ (d k i : Nat) (x0 : List Evt) (m : Int), i + d = n → x0.length = n → d < k → 0 ≤ m → m + evTot (x0.drop i) ≤ 900000000000 → (∀ e ∈ x0, e.2.2.2.2.length ≤ 2000000) →
    laws_markEventS.l0 K k m (i : Int) x0 = some (m + evTot (x0.drop i), x0.take i ++ markEv m (x0.drop i)) := by
  intro d
  induction d with
  | zero =>
    intro k i x0 m hi hl hk h0 h1 hD
    obtain ⟨k, rfl⟩ : ∃ q, k = q + 1 := ⟨k - 1, by omega⟩
    rw [laws_markEventS.l0_eq, if_neg (by omega), List.drop_of_length_le (by omega), List.take_of_length_le (by omega)]
    simp [evTot, markEv]
  | succ d ih =>
    intro k i x0 m hi hl hk h0 h1 hD
    obtain ⟨k, rfl⟩ : ∃ q, k = q + 1 := ⟨k - 1, by omega⟩
    have hlt : i < x0.length := by omega
    have hDi := hD _ (List.getElem_mem hlt)
    have hdr := drop_cons x0 i hlt
    have h1' := h1
    rw [hdr] at h1'
    simp only [evTot] at h1'
    have htp := evTot_pos (x0.drop (i + 1))
    have hset := rd_setE x0 i hlt
    have hrd := rdE x0 i hlt
    rw [laws_markEventS.l0_eq]
    simp only [hset, List.set_set, List.length_set, hrd]
    have w1 : wrap64 (m + 1) = m + 1 := wrap_id (by omega) (by omega)
    have w2 : wrap64 (m + 1 + 1) = m + 1 + 1 := wrap_id (by omega) (by omega)
    have w3 : wrap64 (m + 1 + 1 + 1) = m + 1 + 1 + 1 := wrap_id (by omega) (by omega)
    have w4 : wrap64 (m + 1 + 1 + 1 + 1) = m + 1 + 1 + 1 + 1 := wrap_id (by omega) (by omega)
    simp only [w1, w2, w3, w4]
    rw [if_pos (by omega), if_pos (by omega), if_pos (by omega), if_pos (by omega), if_pos (by omega), if_pos (by omega), if_pos (by omega), if_pos (by omega), if_pos (by omega)]
    repeat rw [if_pos (by omega)]
    rw [mark_f x0[i].2.2.2.2 (m + 1 + 1 + 1 + 1) hDi (by omega) (by omega) K (by omega), bs, wrap_next (show i < n by omega) (by omega)]
    have hlen : (x0.set (Int.toNat (i : Int)) (m, m + 1, m + 1 + 1, m + 1 + 1 + 1, markL (m + 1 + 1 + 1 + 1) x0[i].2.2.2.2.length)).length = n := by simpa using hl
    have hdrop : (x0.set (Int.toNat (i : Int)) (m, m + 1, m + 1 + 1, m + 1 + 1 + 1, markL (m + 1 + 1 + 1 + 1) x0[i].2.2.2.2.length)).drop (i + 1) = x0.drop (i + 1) := by
      rw [List.drop_set_of_lt (by simp)]
    simp only [hset, List.set_set]
    rw [ih k (i + 1) _ _ (by omega) hlen (by omega) (by omega) (by rw [hdrop]; omega) (by
      intro e he
      rcases List.mem_or_eq_of_mem_set he with h | h
      · exact hD e h
      · rw [h, markL_length]; exact hDi), hdrop, hdr]
    simp only [Int.toNat_natCast]
    rw [set_take _ _ _ hlt, List.append_assoc]
    simp only [evTot, markEv, List.singleton_append]
    congr 2
    omega
theorem markEv_f (l : List Evt) (m : Int) (hn : l.length ≤ 2000000) (h0 : 0 ≤ m) (h1 : m + evTot l ≤ 900000000000) (hD : ∀ e ∈ l, e.2.2.2.2.length ≤ 2000000) (k : Nat) (hk : 2000010 ≤ k) :
    laws_markEventS.f k m l = some (m + evTot l, markEv m l) := by
  obtain ⟨k, rfl⟩ : ∃ q, k = q + 1 := ⟨k - 1, by omega⟩
  rw [laws_markEventS.f_eq]
  have := markEv_l0 k (by omega) l.length hn l.length k 0 l m (by omega) rfl (by omega) h0 (by simpa using h1) hD
  simpa using this
theorem heldEv_l0 (K : Nat) (hK : 2000002 ≤ K) (L : List Evt) (hn : L.length ≤ 2000000) : ∀ (l : List Evt) (k i : Nat) (m : Int), i + l.length = L.length → L.drop i = markEv m l → l.length < k → 0 ≤ m → m + evTot l ≤ 900000000000 → (∀ e ∈ l, e.2.2.2.2.length ≤ 2000000) →
    laws_heldEventS.l0 K k L m (i : Int) = some (m + evTot l) := by
  intro l
  induction l with
  | nil =>
    intro k i m hi hd hk h0 h1 hD
    obtain ⟨k, rfl⟩ : ∃ q, k = q + 1 := ⟨k - 1, by omega⟩
    simp at hi
    rw [laws_heldEventS.l0_eq, if_neg (by omega)]
    simp [evTot]
  | cons e l ih =>
    intro k i m hi hd hk h0 h1 hD
    obtain ⟨k, rfl⟩ : ∃ q, k = q + 1 := ⟨k - 1, by omega⟩
    simp only [List.length_cons] at hi hk
    have hlt : i < L.length := by omega
    rw [drop_cons L i hlt] at hd
    simp only [markEv, List.cons.injEq] at hd
    have hDe := hD e (by simp)
    have htp := evTot_pos l
    simp only [evTot] at h1
    have w1 : wrap64 (m + 1) = m + 1 := wrap_id (by omega) (by omega)
    have w2 : wrap64 (m + 1 + 1) = m + 1 + 1 := wrap_id (by omega) (by omega)
    have w3 : wrap64 (m + 1 + 1 + 1) = m + 1 + 1 + 1 := wrap_id (by omega) (by omega)
    have w4 : wrap64 (m + 1 + 1 + 1 + 1) = m + 1 + 1 + 1 + 1 := wrap_id (by omega) (by omega)
    rw [laws_heldEventS.l0_eq]
    simp only [rdE L i hlt, hd.1, w1, w2, w3, w4]
    rw [if_pos (by omega), if_pos (by omega), if_pos (by omega), if_neg (by simp), if_pos (by omega), if_pos (by omega), if_neg (by simp), if_pos (by omega), if_pos (by omega), if_neg (by simp), if_pos (by omega), if_pos (by omega), if_neg (by simp), if_pos (by omega), if_pos (by omega),
      held_f _ _ hDe (by omega) (by omega) K (by omega), bs, if_neg (by omega), wrap_next hlt (by omega), ih k (i + 1) _ (by omega) hd.2 (by omega) (by omega) (by omega) (fun x hx => hD x (List.mem_cons_of_mem _ hx))]
    simp only [evTot]
    congr 1
    omega
theorem heldEv_f (l : List Evt) (m : Int) (hn : l.length ≤ 2000000) (h0 : 0 ≤ m) (h1 : m + evTot l ≤ 900000000000) (hD : ∀ e ∈ l, e.2.2.2.2.length ≤ 2000000) (k : Nat) (hk : 2000010 ≤ k) :
    laws_heldEventS.f k (markEv m l) m = some (m + evTot l) := by
  obtain ⟨k, rfl⟩ : ∃ q, k = q + 1 := ⟨k - 1, by omega⟩
  rw [laws_heldEventS.f_eq]
  exact heldEv_l0 k (by omega) (markEv m l) (by rw [markEv_length]; exact hn) l k 0 m (by rw [markEv_length]; omega) (by simp) (by omega) h0 h1 hD
theorem eqEventS_f (l : List Evt) (hn : l.length ≤ 2000000) (hD : ∀ e ∈ l, e.2.2.2.2.length ≤ 1048576) (k : Nat) (hk : 2000010 ≤ k) : laws_eqEventS.f k l l = some true := by
  obtain ⟨k, rfl⟩ : ∃ m, k = m + 1 := ⟨k - 1, by omega⟩
  rw [laws_eqEventS.f_eq, if_neg (by simp)]
  exact count_loop (fun fu i => laws_eqEventS.l0 k fu l l i) l.length 0 true (by
    intro fu _
    simp only [laws_eqEventS.l0_eq]
    rw [if_neg (by omega)]) (by
    intro fu i h _
    simp only [laws_eqEventS.l0_eq]
    simp only [rdE l i h]
    rw [if_pos (by omega), if_pos (by omega), if_pos (by omega), if_pos (by omega), if_pos (by omega), eqEvent_self _ _ _ _ _ (hD _ (List.getElem_mem h)) k (by omega), bs, if_neg (by decide), wrap_next h (by omega)]) k (by omega)
/-- What is read is small. -/
theorem scn_small (all : List Int) (hb : Bs all) : ∀ (d at_ : Nat) (out : List Evt), (scn all d at_ out).2.2.length ≤ out.length + d ∧ ∀ e ∈ (scn all d at_ out).2.2, e ∈ out ∨ e.2.2.2.2.length ≤ all.length := by
  intro d
  induction d with
  | zero => intro at_ out; exact ⟨by simp [scn], fun e he => .inl he⟩
  | succ d ih =>
    intro at_ out
    have triv : out.length ≤ out.length + (d + 1) ∧ ∀ e ∈ out, e ∈ out ∨ e.2.2.2.2.length ≤ all.length := ⟨by omega, fun e he => .inl he⟩
    rw [scn]
    split
    · split
      · exact triv
      · split
        · exact triv
        · split
          · obtain ⟨h1, h2⟩ := ih (at_ + (df (all.drop at_)).2.2.1.toNat) (out ++ [evOf (te (df (all.drop at_)).1 (df (all.drop at_)).2.1 (df (all.drop at_)).2.2.2.2)])
            refine ⟨by simp at h1; omega, fun e he => ?_⟩
            rcases h2 e he with h | h
            · rcases List.mem_append.1 h with h | h
              · exact .inl h
              · right
                simp only [List.mem_singleton] at h
                rw [h]
                have e1 := te_len (df (all.drop at_)).1 (df (all.drop at_)).2.1 (df (all.drop at_)).2.2.2.2
                have e2 := (df_ok (all.drop at_) (hb.drop _)).2.2.2
                rw [List.length_drop] at e2
                simp only [evOf]
                omega
            · exact .inr h
          · exact triv
    · exact triv
theorem evTot_le (B : Nat) : ∀ (l : List Evt), (∀ e ∈ l, e.2.2.2.2.length ≤ B) → evTot l ≤ (4 + (B : Int)) * (l.length : Int)
  | [], _ => by simp [evTot]
  | e :: l, h => by
    have h1 := evTot_le B l fun x hx => h x (List.mem_cons_of_mem _ hx)
    have h2 := h e (by simp)
    simp only [evTot, List.length_cons]
    rw [show ((l.length + 1 : Nat) : Int) = (l.length : Int) + 1 by omega, Int.mul_add]
    omega
/-- What ReadDisk answers: the kind, the events. -/
def rdk (a b : List Int) : Int × List Evt := if a.length + b.length ≤ 60000 then ((scn (a ++ b) (a ++ b).length 0 []).2.1, (scn (a ++ b) (a ++ b).length 0 []).2.2) else (3, [])
theorem rdk_small (a b : List Int) (ha : Bs a) (hb : Bs b) : (rdk a b).2.length ≤ 60000 ∧ ∀ e ∈ (rdk a b).2, e.2.2.2.2.length ≤ 60000 := by
  unfold rdk
  split
  · rename_i h
    obtain ⟨h1, h2⟩ := scn_small (a ++ b) (ha.app hb) (a ++ b).length 0 []
    have hl : (a ++ b).length = a.length + b.length := List.length_append
    refine ⟨by simp only [List.length_nil] at h1; show (scn (a ++ b) (a ++ b).length 0 []).2.2.length ≤ 60000; omega, fun e he => ?_⟩
    rcases h2 e he with h | h
    · cases h
    · omega
  · exact ⟨by simp, fun e he => by cases he⟩
theorem srd_f (a b : List Int) (ha : Bs a) (hb : Bs b) (hlen : a.length + b.length ≤ 1048576) (k : Nat) (hk : 2000050 ≤ k) : spec_ReadDisk.f k a b = some (rdk a b) := by
  obtain ⟨k, rfl⟩ : ∃ m, k = m + 1 := ⟨k - 1, by omega⟩
  have hl : (a ++ b).length = a.length + b.length := List.length_append
  rw [spec_ReadDisk.f_eq, specDiskOk_f a b hlen k (by omega), bs]
  unfold rdk
  by_cases h : a.length + b.length ≤ 60000
  · rw [decide_eq_true h, if_neg (by decide), join_is a b (by omega) (by omega) k (by omega) (by omega)]
    simp only [bs]
    rw [sscan_f (a ++ b) (ha.app hb) (by omega) k (by omega)]
    simp only [bs]
    rw [if_pos h]
  · rw [decide_eq_false h, if_pos (by decide), if_neg h]
theorem ird_f (a b : List Int) (ha : Bs a) (hb : Bs b) (hlen : a.length + b.length ≤ 1048576) (k : Nat) (hk : 2000050 ≤ k) : impl_ReadDisk.f k a b = some (rdk a b) := by
  obtain ⟨k, rfl⟩ : ∃ m, k = m + 1 := ⟨k - 1, by omega⟩
  rw [impl_ReadDisk.f_eq, isDisk_f a b hlen k (by omega), bs]
  unfold rdk
  by_cases h : a.length + b.length ≤ 60000
  · rw [decide_eq_true h, if_neg (by decide), iread_disk a b ha hb (by omega) k (by omega)]
    simp only [bs]
    rw [if_pos h]
  · rw [decide_eq_false h, if_pos (by decide), if_neg h]
theorem law_ReadDisk (a b : List Int) (wa : Bs a) (wb : Bs b) (ha : a.length ≤ maxLen) (hbl : b.length ≤ maxLen) : ∃ k, laws_FnExactReadDisk.f k a b = some true := by
  refine ⟨2000200 + 1, ?_⟩
  obtain ⟨K, hK⟩ : ∃ K, K = 2000200 := ⟨_, rfl⟩
  rw [← hK, laws_FnExactReadDisk.f_eq]
  by_cases c : a.length + b.length ≤ 1048576
  case neg =>
    rw [szDisk_f a b ha hbl K (by omega), if_neg c]
    simp only [bs]
    rw [if_pos (by decide)]
  have U := toDisk_f a b c K (by omega)
  have V := eqDisk_f a b c K (by omega)
  have E1 := srd_f a b wa wb c K (by omega)
  have E2 := ird_f a b wa wb c K (by omega)
  obtain ⟨h1, h2⟩ := rdk_small a b wa wb
  have ht := evTot_le 60000 (rdk a b).2 h2
  have ht0 := evTot_pos (rdk a b).2
  generalize rdk a b = r at h1 h2 ht ht0 E1 E2
  obtain ⟨q, evs⟩ := r
  simp only at h1 h2 ht ht0
  have hle : (4 + ((60000 : Nat) : Int)) * (evs.length : Int) ≤ 64000 * 60000 := by omega
  have Q := eqEventS_f evs (by omega) (fun e he => by have := h2 e he; omega) K (by omega)
  have M := markEv_f evs 1 (by omega) (by omega) (by omega) (fun e he => by have := h2 e he; omega) K (by omega)
  have H := heldEv_f evs 1 (by omega) (by omega) (by omega) (fun e he => by have := h2 e he; omega) K (by omega)
  have M0 := markDisk_f a b c K (by omega)
  rw [szDisk_f a b ha hbl K (by omega), if_pos c]
  simp only [bs]
  rw [if_neg (by omega)]
  simp only [U, E1, E2, V, M0, Q, bs, Bool.not_true, Bool.false_eq_true, if_false, ne_eq, not_true]
  rw [if_neg (by omega)]
  simp only [M, H, bs, ne_eq, not_true, if_false]
  rw [if_neg (by omega), if_neg (by omega)]
end Go.Vm.Pu
