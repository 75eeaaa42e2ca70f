/- The plain law of FnCompact; the conditions are what is known of the input. -/
import Derived.Test.YtlmpfcdajmngfaaGreatVpA
import Derived.RowKit
import Derived.KernelRfl
namespace Go.Vm.Pu
open Go Go.RowKit Go.Vm
set_option linter.unusedVariables false
set_option linter.unusedSimpArgs false
abbrev TkT : Ty := .pair (.int .i64) (.int .i64)
abbrev FlT : Ty := .pair (.int .i64) (.pair (.int .i64) (.pair (.int .i64) (.row (.pair (.int .i64) (.int .i64)))))
abbrev Tk := Int × Int
abbrev Fl := Int × Int × Int × List (Int × Int)
theorem rdT (l : List Tk) (i : Nat) (h : i < l.length) : rd TkT l (i : Int) = l[i] := by
  simp [rd, List.getD, h]
theorem rdF (l : List Fl) (i : Nat) (h : i < l.length) : rd FlT l (i : Int) = l[i] := by
  simp [rd, List.getD, h]
/-- All of so many places from one on. -/
def okF (p : Nat → Bool) (i : Nat) : Nat → Bool
  | 0 => true
  | n + 1 => p i && okF p (i + 1) n
theorem okF_iff {p : Nat → Bool} : ∀ {n i : Nat}, okF p i n = true ↔ ∀ j, i ≤ j → j < i + n → p j = true
  | 0, i => by simp [okF]; intro j h1 h2; omega
  | n + 1, i => by
    simp only [okF, Bool.and_eq_true, okF_iff (n := n)]
    constructor
    · rintro ⟨h1, h2⟩ j hj hj2
      by_cases e : j = i
      · rw [e]; exact h1
      · exact h2 j (by omega) (by omega)
    · intro h
      exact ⟨h i (Nat.le_refl _) (by omega), fun j h1 h2 => h j (by omega) (by omega)⟩
/-! ### tickets and lines -/
def tkB (t : Tk) : Bool := decide (1 ≤ t.1 ∧ t.1 ≤ 1000000000 ∧ 1 ≤ t.2 ∧ t.2 ≤ 200000)
def lnB (l : List Tk) (i : Nat) : Bool := tkB (l.getD i (0, 0)) && (decide (i = 0) || decide ((l.getD (i - 1) (0, 0)).1 < (l.getD i (0, 0)).1))
def lineB (l : List Tk) : Bool := decide (l.length ≤ 40) && okF (lnB l) 0 l.length
theorem rdTD (l : List Tk) (i : Nat) : rd TkT l (i : Int) = l.getD i (0, 0) := rfl
theorem pred_wrap {i : Nat} (h : 0 < i) (h2 : i ≤ 2000000) : wrap64 ((i : Int) - 1) = ((i - 1 : Nat) : Int) := by
  rw [wrap_id (by omega) (by omega)]; omega
theorem iticket_f (t : Tk) (k : Nat) (hk : 1 ≤ k) : impl_isTicket.f k t.1 t.2 = some (tkB t) := by
  obtain ⟨k, rfl⟩ : ∃ m, k = m + 1 := ⟨k - 1, by omega⟩
  rw [impl_isTicket.f_eq]
  unfold tkB
  by_cases h1 : t.1 ≥ 1
  · rw [if_pos h1]
    by_cases h2 : t.1 ≤ 1000000000
    · rw [if_pos h2]
      by_cases h3 : t.2 ≥ 1
      · rw [if_pos h3]
        congr 1
        simp only [decide_eq_decide]
        omega
      · rw [if_neg h3, decide_eq_false (by omega)]
    · rw [if_neg h2, decide_eq_false (by omega)]
  · rw [if_neg h1, decide_eq_false (by omega)]
theorem sticket_f (t : Tk) (k : Nat) (hk : 2 ≤ k) : spec_l13Ticket.f k t.1 t.2 = some (tkB t) := by
  obtain ⟨k, rfl⟩ : ∃ m, k = m + 1 := ⟨k - 1, by omega⟩
  rw [spec_l13Ticket.f_eq, in_is _ _ _ _ (by omega), bs]
  unfold tkB
  by_cases h1 : 1 ≤ t.1 ∧ t.1 ≤ 1000000000
  · rw [decide_eq_true h1, if_pos rfl, in_is _ _ _ _ (by omega), bs]
    congr 1
    simp only [decide_eq_decide]
    omega
  · rw [decide_eq_false h1, if_neg (by decide), decide_eq_false (by omega)]
theorem iline_loop (K : Nat) (hK : 1 ≤ K) (l : List Tk) (hn : l.length ≤ 2000000) : ∀ (d k i : Nat), i + d = l.length → d < k →
    impl_isLine.l0 K k l (l.length : Int) (i : Int) l = some (okF (lnB l) i d && decide (l.length ≤ 40)) := by
  intro d
  induction d with
  | zero =>
    intro k i hi hk
    obtain ⟨k, rfl⟩ : ∃ m, k = m + 1 := ⟨k - 1, by omega⟩
    rw [impl_isLine.l0_eq, if_neg (by omega)]
    congr 1
    simp only [okF, Bool.true_and, decide_eq_decide]
    omega
  | succ d ih =>
    intro k i hi hk
    obtain ⟨k, rfl⟩ : ∃ m, k = m + 1 := ⟨k - 1, by omega⟩
    rw [impl_isLine.l0_eq, if_pos (by omega), if_pos (by omega), if_pos (by omega), iticket_f _ _ hK, bs, not_ite, rdTD, wrap_next (show i < l.length by omega) (by omega), ih k (i + 1) (by omega) (by omega)]
    simp only [okF, lnB]
    cases h1 : tkB (l.getD i (0, 0)) with
    | false => simp
    | true =>
      rw [if_pos rfl]
      by_cases h0 : (i : Int) > 0
      · rw [if_pos h0, pred_wrap (by omega) (by omega), if_pos (by omega), if_pos (by omega), rdTD]
        by_cases h2 : (l.getD (i - 1) (0, 0)).1 ≥ (l.getD i (0, 0)).1
        · rw [if_pos h2, decide_eq_false (by omega), decide_eq_false (by omega)]
          rfl
        · rw [if_neg h2, decide_eq_true (p := (l.getD (i - 1) (0, 0)).1 < (l.getD i (0, 0)).1) (by omega)]
          simp
      · rw [if_neg h0, decide_eq_true (p := i = 0) (by omega)]
        simp
theorem iline_f (l : List Tk) (hn : l.length ≤ 2000000) (k : Nat) (hk : l.length + 2 < k) : impl_isLine.f k l = some (lineB l) := by
  obtain ⟨k, rfl⟩ : ∃ m, k = m + 1 := ⟨k - 1, by omega⟩
  rw [impl_isLine.f_eq]
  have := iline_loop k (by omega) l hn l.length k 0 (by omega) (by omega)
  rw [show ((0 : Nat) : Int) = 0 from rfl] at this
  rw [this, lineB, Bool.and_comm]
theorem sline_loop (K : Nat) (hK : 2 ≤ K) (l : List Tk) (hn : l.length ≤ 2000000) : ∀ (d k i : Nat), i + d = l.length → d < k →
    spec_LineOk.l0 K k (i : Int) l = some (okF (lnB l) i d) := by
  intro d
  induction d with
  | zero =>
    intro k i hi hk
    obtain ⟨k, rfl⟩ : ∃ m, k = m + 1 := ⟨k - 1, by omega⟩
    rw [spec_LineOk.l0_eq, if_neg (by omega)]
    rfl
  | succ d ih =>
    intro k i hi hk
    obtain ⟨k, rfl⟩ : ∃ m, k = m + 1 := ⟨k - 1, by omega⟩
    rw [spec_LineOk.l0_eq, if_pos (by omega), if_pos (by omega), if_pos (by omega), sticket_f _ _ hK, bs, not_ite, rdTD, wrap_next (show i < l.length by omega) (by omega), ih k (i + 1) (by omega) (by omega)]
    simp only [okF, lnB]
    cases h1 : tkB (l.getD i (0, 0)) with
    | false => simp
    | true =>
      rw [if_pos rfl]
      by_cases h0 : (i : Int) > 0
      · rw [if_pos h0, pred_wrap (by omega) (by omega), if_pos (by omega), if_pos (by omega), if_pos (by omega), if_pos (by omega), rdTD]
        by_cases h2 : (l.getD (i - 1) (0, 0)).1 ≥ (l.getD i (0, 0)).1
        · rw [if_pos h2, decide_eq_false (by omega), decide_eq_false (by omega)]
          rfl
        · rw [if_neg h2, decide_eq_true (p := (l.getD (i - 1) (0, 0)).1 < (l.getD i (0, 0)).1) (by omega)]
          simp
      · rw [if_neg h0, decide_eq_true (p := i = 0) (by omega)]
        simp
theorem sline_f (l : List Tk) (hn : l.length ≤ 2000000) (k : Nat) (hk : l.length + 3 < k) : spec_LineOk.f k l = some (lineB l) := by
  obtain ⟨k, rfl⟩ : ∃ m, k = m + 1 := ⟨k - 1, by omega⟩
  rw [spec_LineOk.f_eq]
  unfold lineB
  by_cases h : (l.length : Int) > 40
  · rw [if_pos h, decide_eq_false (by omega), Bool.false_and]
  · have := sline_loop k (by omega) l hn l.length k 0 (by omega) (by omega)
    rw [show ((0 : Nat) : Int) = 0 from rfl] at this
    rw [if_neg h, this, decide_eq_true (by omega), Bool.true_and]
theorem line_len {l : List Tk} (h : lineB l = true) : l.length ≤ 40 := by
  unfold lineB at h
  simp only [Bool.and_eq_true, decide_eq_true_eq] at h
  exact h.1
/-! ### rings whose turn is not fresh -/
def dF : Fl := (0, 0, 0, [])
theorem rdFD (l : List Fl) (i : Nat) : rd FlT l (i : Int) = l.getD i dF := rfl
def flB (fl : List Fl) (i : Nat) : Bool :=
  decide (0 ≤ (fl.getD i dF).1 ∧ (fl.getD i dF).1 ≤ 99 ∧ 100 ≤ (fl.getD i dF).2.1 ∧ (fl.getD i dF).2.1 ≤ 100000) && (lineB (fl.getD i dF).2.2.2 &&
    ((decide (i = 0) || decide ((fl.getD (i - 1) dF).1 < (fl.getD i dF).1)) && decide (0 ≤ (fl.getD i dF).2.2.1 ∧ (fl.getD i dF).2.2.1 ≤ 199999 ∧ ((fl.getD i dF).2.2.2.length = 0 → (fl.getD i dF).2.2.1 = 0))))
def ringB (fl : List Fl) (turn : Int) : Bool := decide (fl.length ≤ 12 ∧ (fl.length = 0 → turn = 0) ∧ (0 < fl.length → 0 ≤ turn ∧ turn < fl.length)) && okF (flB fl) 0 fl.length
/-- Small enough for the rounds that are counted. -/
def Sml (fl : List Fl) : Prop := fl.length ≤ 100 ∧ ∀ f ∈ fl, f.2.2.2.length ≤ 100
theorem Sml.at {fl : List Fl} (h : Sml fl) (i : Nat) : (fl.getD i dF).2.2.2.length ≤ 100 := by
  by_cases c : i < fl.length
  · have e : fl.getD i dF = fl[i] := by simp [List.getD, c]
    rw [e]
    exact h.2 _ (List.getElem_mem c)
  · have e : fl.getD i dF = dF := by simp [List.getD, c]
    rw [e]
    simp [dF]
theorem iring_loop (K : Nat) (hK : 200 ≤ K) (fl : List Fl) (hs : Sml fl) (turn : Int) : ∀ (d k i : Nat), i + d = fl.length → d < k →
    impl_isRing.l0 K k fl (fl.length : Int) (i : Int) fl turn false = some (okF (flB fl) i d) := by
  intro d
  have hn := hs.1
  induction d with
  | zero =>
    intro k i hi hk
    obtain ⟨k, rfl⟩ : ∃ m, k = m + 1 := ⟨k - 1, by omega⟩
    rw [impl_isRing.l0_eq, if_neg (by omega)]
    rfl
  | succ d ih =>
    intro k i hi hk
    obtain ⟨k, rfl⟩ : ∃ m, k = m + 1 := ⟨k - 1, by omega⟩
    have hl := hs.at i
    rw [impl_isRing.l0_eq, if_pos (by omega), if_pos (by omega), if_pos (by omega), rdFD, impl_isRing.j1_eq, if_neg (show ¬ (false = true) by decide), impl_isRing.j2_eq, wrap_next (show i < fl.length by omega) (by omega), ih k (i + 1) (by omega) (by omega)]
    simp only [okF, flB]
    generalize hf : fl.getD i dF = f at hl ⊢
    by_cases h1 : f.1 < 0
    · rw [if_pos h1, decide_eq_false (by omega)]; rfl
    rw [if_neg h1]
    by_cases h2 : f.1 > 99
    · rw [if_pos h2, decide_eq_false (by omega)]; rfl
    rw [if_neg h2]
    by_cases h3 : f.2.1 < 100
    · rw [if_pos h3, decide_eq_false (by omega)]; rfl
    rw [if_neg h3]
    by_cases h4 : f.2.1 > 100000
    · rw [if_pos h4, decide_eq_false (by omega)]; rfl
    rw [if_neg h4, decide_eq_true (p := 0 ≤ f.1 ∧ f.1 ≤ 99 ∧ 100 ≤ f.2.1 ∧ f.2.1 ≤ 100000) (by omega), Bool.true_and, iline_f f.2.2.2 (by omega) K (by omega), bs, not_ite]
    cases h5 : lineB f.2.2.2 with
    | false => rfl
    | true =>
      rw [if_pos rfl, Bool.true_and]
      have key : (if f.2.2.1 < 0 then some false else (if f.2.2.1 > 199999 then some false else (if decide ((f.2.2.2.length : Int) = 0) = true then (if f.2.2.1 ≠ 0 then some false else some (okF (flB fl) (i + 1) d)) else some (okF (flB fl) (i + 1) d)))) =
          some (decide (0 ≤ f.2.2.1 ∧ f.2.2.1 ≤ 199999 ∧ (f.2.2.2.length = 0 → f.2.2.1 = 0)) && okF (flB fl) (i + 1) d) := by
        by_cases g1 : f.2.2.1 < 0
        · rw [if_pos g1, decide_eq_false (by omega), Bool.false_and]
        rw [if_neg g1]
        by_cases g2 : f.2.2.1 > 199999
        · rw [if_pos g2, decide_eq_false (by omega), Bool.false_and]
        rw [if_neg g2]
        by_cases g3 : (f.2.2.2.length : Int) = 0
        · rw [if_pos (decide_eq_true g3)]
          by_cases g4 : f.2.2.1 ≠ 0
          · rw [if_pos g4, decide_eq_false (by omega), Bool.false_and]
          · rw [if_neg g4, decide_eq_true (by omega), Bool.true_and]
        · rw [if_neg (by simpa using g3), decide_eq_true (by omega), Bool.true_and]
      rw [key]
      by_cases h0 : (i : Int) > 0
      · rw [if_pos h0, pred_wrap (by omega) (by omega), if_pos (by omega), if_pos (by omega), rdFD]
        by_cases h6 : (fl.getD (i - 1) dF).1 ≥ f.1
        · rw [if_pos h6, decide_eq_false (p := i = 0) (by omega), decide_eq_false (p := (fl.getD (i - 1) dF).1 < f.1) (by omega)]
          rfl
        · rw [if_neg h6, decide_eq_true (p := (fl.getD (i - 1) dF).1 < f.1) (by omega), Bool.or_true, Bool.true_and]
      · rw [if_neg h0, decide_eq_true (p := i = 0) (by omega), Bool.true_or, Bool.true_and]
theorem iring_f (fl : List Fl) (hs : Sml fl) (turn : Int) (k : Nat) (hk : 300 ≤ k) : impl_isRing.f k fl turn false = some (ringB fl turn) := by
  obtain ⟨k, rfl⟩ : ∃ m, k = m + 1 := ⟨k - 1, by omega⟩
  have hn := hs.1
  have hloop := iring_loop k (by omega) fl hs turn fl.length k 0 (by omega) (by omega)
  rw [show ((0 : Nat) : Int) = 0 from rfl] at hloop
  have ht : impl_isRing.j0 k true fl turn false = some false := by rw [impl_isRing.j0_eq, if_pos rfl]
  have hff : impl_isRing.j0 k false fl turn false = some (okF (flB fl) 0 fl.length) := by rw [impl_isRing.j0_eq, if_neg (by decide), hloop]
  rw [impl_isRing.f_eq]
  unfold ringB
  by_cases h1 : (fl.length : Int) > 12
  · rw [if_pos h1, ht, decide_eq_false (by omega), Bool.false_and]
  rw [if_neg h1]
  by_cases h2 : (fl.length : Int) = 0
  · rw [if_pos h2]
    by_cases h3 : turn ≠ 0
    · rw [if_pos h3, ht, decide_eq_false (by omega), Bool.false_and]
    · rw [if_neg h3, if_neg (by decide), if_neg (by omega), hff, decide_eq_true (by omega), Bool.true_and]
  · rw [if_neg h2, if_pos (by omega)]
    by_cases h3 : turn < 0
    · rw [if_pos h3, ht, decide_eq_false (by omega), Bool.false_and]
    · rw [if_neg h3]
      by_cases h4 : turn ≥ (fl.length : Int)
      · rw [decide_eq_true h4, ht, decide_eq_false (by omega), Bool.false_and]
      · rw [decide_eq_false h4, hff, decide_eq_true (by omega), Bool.true_and]
theorem sflow_f (f : Fl) (hl : f.2.2.2.length ≤ 100) (k : Nat) (hk : 200 ≤ k) : spec_l14Flow.f k f.1 f.2.1 f.2.2.1 f.2.2.2 false =
    some (decide (0 ≤ f.1 ∧ f.1 ≤ 99 ∧ 100 ≤ f.2.1 ∧ f.2.1 ≤ 100000) && (lineB f.2.2.2 && decide (0 ≤ f.2.2.1 ∧ f.2.2.1 ≤ 199999 ∧ (f.2.2.2.length = 0 → f.2.2.1 = 0)))) := by
  obtain ⟨k, rfl⟩ : ∃ m, k = m + 1 := ⟨k - 1, by omega⟩
  rw [spec_l14Flow.f_eq, in_is _ _ _ _ (by omega), bs, not_ite]
  by_cases h1 : 0 ≤ f.1 ∧ f.1 ≤ 99
  case neg => rw [decide_eq_false h1, if_neg (by decide), decide_eq_false (by omega), Bool.false_and]
  rw [decide_eq_true h1, if_pos rfl, in_is _ _ _ _ (by omega), bs, not_ite]
  by_cases h2 : 100 ≤ f.2.1 ∧ f.2.1 ≤ 100000
  case neg => rw [decide_eq_false h2, if_neg (by decide), decide_eq_false (by omega), Bool.false_and]
  rw [decide_eq_true h2, if_pos rfl, sline_f _ (by omega) _ (by omega), bs, not_ite, decide_eq_true (p := 0 ≤ f.1 ∧ f.1 ≤ 99 ∧ 100 ≤ f.2.1 ∧ f.2.1 ≤ 100000) (by omega), Bool.true_and]
  cases h3 : lineB f.2.2.2 with
  | false => rfl
  | true =>
    rw [if_pos rfl, if_neg (by decide), in_is _ _ _ _ (by omega), bs, Bool.true_and]
    by_cases h4 : 0 ≤ f.2.2.1 ∧ f.2.2.1 ≤ 199999
    case neg => rw [decide_eq_false h4, if_neg (by decide), decide_eq_false (by omega)]
    rw [decide_eq_true h4, if_pos rfl]
    by_cases h5 : (f.2.2.2.length : Int) > 0
    · rw [if_pos h5, decide_eq_true (by omega)]
    · rw [if_neg h5]
      congr 1
      simp only [decide_eq_decide]
      omega
theorem sring_loop (K : Nat) (hK : 200 ≤ K) (fl : List Fl) (hs : Sml fl) (turn : Int) : ∀ (d k i : Nat), i + d = fl.length → d < k →
    spec_RingOk.l0 K k (fl.length : Int) (i : Int) fl turn false = some (okF (flB fl) i d) := by
  intro d
  have hn := hs.1
  induction d with
  | zero =>
    intro k i hi hk
    obtain ⟨k, rfl⟩ : ∃ m, k = m + 1 := ⟨k - 1, by omega⟩
    rw [spec_RingOk.l0_eq, if_neg (by omega)]
    rfl
  | succ d ih =>
    intro k i hi hk
    obtain ⟨k, rfl⟩ : ∃ m, k = m + 1 := ⟨k - 1, by omega⟩
    have hl := hs.at i
    rw [spec_RingOk.l0_eq, if_pos (by omega), if_pos (by omega), if_pos (by omega), if_neg (show ¬ (false = true) by decide), rdFD, sflow_f _ hl K (by omega), bs, not_ite, wrap_next (show i < fl.length by omega) (by omega), ih k (i + 1) (by omega) (by omega)]
    simp only [okF, flB]
    generalize hf : fl.getD i dF = f at hl ⊢
    cases decide (0 ≤ f.1 ∧ f.1 ≤ 99 ∧ 100 ≤ f.2.1 ∧ f.2.1 ≤ 100000) with
    | false => rfl
    | true =>
      cases lineB f.2.2.2 with
      | false => rfl
      | true =>
        cases decide (0 ≤ f.2.2.1 ∧ f.2.2.1 ≤ 199999 ∧ (f.2.2.2.length = 0 → f.2.2.1 = 0)) with
        | false => simp
        | true =>
          simp only [Bool.true_and, Bool.and_true, if_true]
          by_cases h0 : (i : Int) > 0
          · rw [if_pos h0, pred_wrap (by omega) (by omega), if_pos (by omega), if_pos (by omega), if_pos (by omega), if_pos (by omega), rdFD]
            by_cases h6 : (fl.getD (i - 1) dF).1 ≥ f.1
            · rw [if_pos h6, decide_eq_false (p := i = 0) (by omega), decide_eq_false (p := (fl.getD (i - 1) dF).1 < f.1) (by omega)]
              rfl
            · rw [if_neg h6, decide_eq_true (p := (fl.getD (i - 1) dF).1 < f.1) (by omega), Bool.or_true, Bool.true_and]
          · rw [if_neg h0, decide_eq_true (p := i = 0) (by omega), Bool.true_or, Bool.true_and]
theorem sring_f (fl : List Fl) (hs : Sml fl) (turn : Int) (k : Nat) (hk : 300 ≤ k) : spec_RingOk.f k fl turn false = some (ringB fl turn) := by
  obtain ⟨k, rfl⟩ : ∃ m, k = m + 1 := ⟨k - 1, by omega⟩
  have hn := hs.1
  have hloop := sring_loop k (by omega) fl hs turn fl.length k 0 (by omega) (by omega)
  rw [show ((0 : Nat) : Int) = 0 from rfl] at hloop
  rw [spec_RingOk.f_eq]
  unfold ringB
  by_cases h1 : (fl.length : Int) > 12
  · rw [if_pos h1, decide_eq_false (by omega), Bool.false_and]
  rw [if_neg h1]
  by_cases h2 : (fl.length : Int) = 0
  · rw [if_pos h2]
    by_cases h3 : turn = 0
    · have h0 : fl.length = 0 := by omega
      rw [if_pos h3, decide_eq_true (by omega), h0]
      rfl
    · rw [if_neg h3, decide_eq_false (by omega), Bool.false_and]
  · rw [if_neg h2, in_is _ _ _ _ (by omega), bs, not_ite, wrap_id (by omega) (by omega), hloop]
    by_cases h3 : 0 ≤ turn ∧ turn ≤ (fl.length : Int) - 1
    · rw [decide_eq_true h3, if_pos rfl, decide_eq_true (by omega), Bool.true_and]
    · rw [decide_eq_false h3, if_neg (by decide), decide_eq_false (by omega), Bool.false_and]
theorem ring_facts {fl : List Fl} {turn : Int} (h : ringB fl turn = true) : fl.length ≤ 12 ∧ (fl.length = 0 → turn = 0) ∧ (0 < fl.length → 0 ≤ turn ∧ turn < fl.length) ∧ ∀ i, i < fl.length → flB fl i = true := by
  unfold ringB at h
  simp only [Bool.and_eq_true, decide_eq_true_eq] at h
  exact ⟨h.1.1, h.1.2.1, h.1.2.2, fun i hi => okF_iff.1 h.2 i (by omega) (by omega)⟩
theorem flB_facts {fl : List Fl} {i : Nat} (h : flB fl i = true) (hi : i < fl.length) : (0 ≤ fl[i].1 ∧ fl[i].1 ≤ 99) ∧ lineB fl[i].2.2.2 = true ∧ (0 < i → (fl.getD (i - 1) dF).1 < fl[i].1) := by
  unfold flB at h
  have e : fl.getD i dF = fl[i] := by simp [List.getD, hi]
  rw [e] at h
  simp only [Bool.and_eq_true, Bool.or_eq_true, decide_eq_true_eq] at h
  exact ⟨⟨h.1.1, h.1.2.1⟩, h.2.1, fun h0 => h.2.2.1.resolve_left (by omega)⟩
end Go.Vm.Pu
namespace Go.Vm.Pu
open Go Go.RowKit Go.Vm
set_option linter.unusedVariables false
set_option linter.unusedSimpArgs false
/-! ### copies -/
theorem icopyLine_f (l : List Tk) (hn : l.length ≤ 2000000) (k : Nat) (hk : 1 ≤ k) : impl_copyLine.f k l = some l := by
  obtain ⟨k, rfl⟩ : ∃ m, k = m + 1 := ⟨k - 1, by omega⟩
  rw [impl_copyLine.f_eq, if_pos (by omega), List.nil_append]
theorem scopyLine_loop (K : Nat) (l : List Tk) (hn : l.length ≤ 2000000) : ∀ (d k i : Nat) (out : List Tk), i + d = l.length → d < k → out.length + d ≤ 2000000 →
    spec_l13Copy.l0 K k (i : Int) l out = some (out ++ l.drop i) := by
  intro d
  induction d with
  | zero =>
    intro k i out hi hk ho
    obtain ⟨k, rfl⟩ : ∃ m, k = m + 1 := ⟨k - 1, by omega⟩
    rw [spec_l13Copy.l0_eq, if_neg (by omega), List.drop_of_length_le (by omega), List.append_nil]
  | succ d ih =>
    intro k i out hi hk ho
    obtain ⟨k, rfl⟩ : ∃ m, k = m + 1 := ⟨k - 1, by omega⟩
    rw [spec_l13Copy.l0_eq, if_pos (by omega), if_pos (by omega), if_pos (by omega), if_pos (by omega), wrap_next (show i < l.length by omega) (by omega), ih k (i + 1) _ (by omega) (by omega) (by simp; omega), rdT l i (by omega), drop_cons l i (by omega), List.append_assoc]
    rfl
theorem scopyLine_f (l : List Tk) (hn : l.length ≤ 2000000) (k : Nat) (hk : l.length + 1 < k) : spec_l13Copy.f k l = some l := by
  obtain ⟨k, rfl⟩ : ∃ m, k = m + 1 := ⟨k - 1, by omega⟩
  rw [spec_l13Copy.f_eq]
  have := scopyLine_loop k l hn l.length k 0 [] (by omega) (by omega) (by simpa using hn)
  simpa using this
theorem icopy_loop (K : Nat) (hK : 1 ≤ K) (fl : List Fl) (hs : Sml fl) (a : Int) (b : Bool) (t : Int) (fr : Bool) : ∀ (d k i : Nat) (out : List Fl), i + d = fl.length → d < k → out.length + d ≤ 2000000 →
    impl_copyRing.l0 K k fl (fl.length : Int) (i : Int) a b t fr out = some (t, fr, out ++ fl.drop i) := by
  intro d
  have hn := hs.1
  induction d with
  | zero =>
    intro k i out hi hk ho
    obtain ⟨k, rfl⟩ : ∃ m, k = m + 1 := ⟨k - 1, by omega⟩
    rw [impl_copyRing.l0_eq, if_neg (by omega), List.drop_of_length_le (by omega), List.append_nil]
  | succ d ih =>
    intro k i out hi hk ho
    obtain ⟨k, rfl⟩ : ∃ m, k = m + 1 := ⟨k - 1, by omega⟩
    have hlt : i < fl.length := by omega
    have hl := hs.2 _ (List.getElem_mem hlt)
    rw [impl_copyRing.l0_eq, if_pos (by omega), if_pos (by omega), if_pos (by omega), rdF fl i hlt, icopyLine_f _ (by omega) K hK, bs, if_pos (by omega), wrap_next hlt (by omega), ih k (i + 1) _ (by omega) (by omega) (by simp; omega), drop_cons fl i hlt, List.append_assoc]
    rfl
theorem icopy_f (fl : List Fl) (hs : Sml fl) (t : Int) (fr : Bool) (k : Nat) (hk : 200 ≤ k) : impl_copyRing.f k fl t fr = some (t, fr, fl) := by
  obtain ⟨k, rfl⟩ : ∃ m, k = m + 1 := ⟨k - 1, by omega⟩
  have hn := hs.1
  rw [impl_copyRing.f_eq]
  have := icopy_loop k (by omega) fl hs 0 false t fr fl.length k 0 [] (by omega) (by omega) (by simp; omega)
  simpa using this
theorem scopy_loop (K : Nat) (hK : 200 ≤ K) (fl : List Fl) (hs : Sml fl) (r1 : Int) (r2 : Bool) (a : Int) (b : Bool) (t : Int) (fr : Bool) : ∀ (d k i : Nat) (out : List Fl), i + d = fl.length → d < k → out.length + d ≤ 2000000 →
    spec_l14Copy.l0 K k (i : Int) fl r1 r2 a b t fr out = some (t, fr, out ++ fl.drop i) := by
  intro d
  have hn := hs.1
  induction d with
  | zero =>
    intro k i out hi hk ho
    obtain ⟨k, rfl⟩ : ∃ m, k = m + 1 := ⟨k - 1, by omega⟩
    rw [spec_l14Copy.l0_eq, if_neg (by omega), List.drop_of_length_le (by omega), List.append_nil]
  | succ d ih =>
    intro k i out hi hk ho
    obtain ⟨k, rfl⟩ : ∃ m, k = m + 1 := ⟨k - 1, by omega⟩
    have hlt : i < fl.length := by omega
    have hl := hs.2 _ (List.getElem_mem hlt)
    rw [spec_l14Copy.l0_eq, if_pos (by omega), if_pos (by omega), if_pos (by omega), rdF fl i hlt, scopyLine_f _ (by omega) K (by omega), bs, if_pos (by omega), wrap_next hlt (by omega), ih k (i + 1) _ (by omega) (by omega) (by simp; omega), drop_cons fl i hlt, List.append_assoc]
    rfl
theorem scopy_f (fl : List Fl) (hs : Sml fl) (t : Int) (fr : Bool) (k : Nat) (hk : 300 ≤ k) : spec_l14Copy.f k fl t fr = some (t, fr, fl) := by
  obtain ⟨k, rfl⟩ : ∃ m, k = m + 1 := ⟨k - 1, by omega⟩
  have hn := hs.1
  rw [spec_l14Copy.f_eq]
  have := scopy_loop k (by omega) fl hs t fr 0 false t fr fl.length k 0 [] (by omega) (by omega) (by simp; omega)
  simpa using this
/-! ### places -/
def ixOf {α : Type} (p : α → Bool) : List α → Nat → Int
  | [], _ => -1
  | a :: l, i => if p a = true then (i : Int) else ixOf p l (i + 1)
theorem ixOf_is {α : Type} (p : α → Bool) : ∀ (l : List α) (i : Nat), (ixOf p l i = -1 ∧ ∀ x ∈ l, p x = false) ∨ ∃ n, ∃ h : n < l.length, ixOf p l i = ((i + n : Nat) : Int) ∧ p l[n] = true
  | [], i => .inl ⟨rfl, fun x hx => by cases hx⟩
  | a :: l, i => by
    cases e : p a with
    | true => exact .inr ⟨0, by simp, by simp [ixOf, e], by simpa using e⟩
    | false =>
      rcases ixOf_is p l (i + 1) with ⟨h1, h2⟩ | ⟨n, h, h1, h2⟩
      · refine .inl ⟨by simp [ixOf, e, h1], fun x hx => ?_⟩
        rcases List.mem_cons.1 hx with rfl | hx
        · exact e
        · exact h2 x hx
      · exact .inr ⟨n + 1, by simp; omega, by rw [ixOf, e, if_neg (by decide), h1]; congr 1; omega, by simpa using h2⟩
def atF (fl : List Fl) (t : Int) : Int := ixOf (fun f : Fl => decide (f.1 = t)) fl 0
def atT (l : List Tk) (t : Int) : Int := ixOf (fun f : Tk => decide (f.1 = t)) l 0
theorem atF_is (fl : List Fl) (t : Int) : (atF fl t = -1 ∧ ∀ x ∈ fl, x.1 ≠ t) ∨ ∃ n, ∃ h : n < fl.length, atF fl t = (n : Int) ∧ fl[n].1 = t := by
  rcases ixOf_is (fun f : Fl => decide (f.1 = t)) fl 0 with ⟨h1, h2⟩ | ⟨n, h, h1, h2⟩
  · exact .inl ⟨h1, fun x hx => by have := h2 x hx; simpa using this⟩
  · exact .inr ⟨n, h, by rw [atF, h1]; congr 1; omega, by simpa using h2⟩
theorem atT_is (l : List Tk) (t : Int) : (atT l t = -1 ∧ ∀ x ∈ l, x.1 ≠ t) ∨ ∃ n, ∃ h : n < l.length, atT l t = (n : Int) ∧ l[n].1 = t := by
  rcases ixOf_is (fun f : Tk => decide (f.1 = t)) l 0 with ⟨h1, h2⟩ | ⟨n, h, h1, h2⟩
  · exact .inl ⟨h1, fun x hx => by have := h2 x hx; simpa using this⟩
  · exact .inr ⟨n, h, by rw [atT, h1]; congr 1; omega, by simpa using h2⟩
theorem iat_loop (K : Nat) (hK : 1 ≤ K) (fl : List Fl) (hn : fl.length ≤ 2000000) (t : Int) : ∀ (d k i : Nat), i + d = fl.length → d < k →
    slices_IndexFunc_Flow.l0 K k fl (fl.length : Int) (i : Int) t = some (ixOf (fun f : Fl => decide (f.1 = t)) (fl.drop i) i, t) := by
  intro d
  induction d with
  | zero =>
    intro k i hi hk
    obtain ⟨k, rfl⟩ : ∃ m, k = m + 1 := ⟨k - 1, by omega⟩
    rw [slices_IndexFunc_Flow.l0_eq, if_neg (by omega), List.drop_of_length_le (by omega)]
    rfl
  | succ d ih =>
    intro k i hi hk
    obtain ⟨k, rfl⟩ : ∃ m, k = m + 1 := ⟨k - 1, by omega⟩
    obtain ⟨K, rfl⟩ : ∃ m, K = m + 1 := ⟨K - 1, by omega⟩
    rw [slices_IndexFunc_Flow.l0_eq, if_pos (by omega), if_pos (by omega), if_pos (by omega), impl_flowOf_1.f_eq, bs, rdF fl i (by omega), wrap_next (show i < fl.length by omega) (by omega), ih k (i + 1) (by omega) (by omega), drop_cons fl i (by omega)]
    simp only [ixOf]
    by_cases c : fl[i].1 = t
    · rw [if_pos (decide_eq_true c), if_pos (decide_eq_true c)]
    · rw [if_neg (by simpa using c), if_neg (by simpa using c)]
theorem iflowOf_f (fl : List Fl) (hn : fl.length ≤ 2000000) (r1 : Int) (r2 : Bool) (t : Int) (k : Nat) (hk : fl.length + 3 < k) : impl_flowOf.f k fl r1 r2 t = some (atF fl t) := by
  obtain ⟨k, rfl⟩ : ∃ m, k = m + 1 := ⟨k - 1, by omega⟩
  obtain ⟨k, rfl⟩ : ∃ m, k = m + 1 := ⟨k - 1, by omega⟩
  rw [impl_flowOf.f_eq, slices_IndexFunc_Flow.f_eq]
  have := iat_loop k (by omega) fl hn t fl.length k 0 (by omega) (by omega)
  rw [show ((0 : Nat) : Int) = 0 from rfl] at this
  rw [this, bs]
  rfl
theorem iplace_loop (K : Nat) (hK : 1 ≤ K) (l : List Tk) (hn : l.length ≤ 2000000) (t : Int) : ∀ (d k i : Nat), i + d = l.length → d < k →
    slices_IndexFunc_Ticket.l0 K k l (l.length : Int) (i : Int) t = some (ixOf (fun f : Tk => decide (f.1 = t)) (l.drop i) i, t) := by
  intro d
  induction d with
  | zero =>
    intro k i hi hk
    obtain ⟨k, rfl⟩ : ∃ m, k = m + 1 := ⟨k - 1, by omega⟩
    rw [slices_IndexFunc_Ticket.l0_eq, if_neg (by omega), List.drop_of_length_le (by omega)]
    rfl
  | succ d ih =>
    intro k i hi hk
    obtain ⟨k, rfl⟩ : ∃ m, k = m + 1 := ⟨k - 1, by omega⟩
    obtain ⟨K, rfl⟩ : ∃ m, K = m + 1 := ⟨K - 1, by omega⟩
    rw [slices_IndexFunc_Ticket.l0_eq, if_pos (by omega), if_pos (by omega), if_pos (by omega), impl_placeOf_1.f_eq, bs, rdT l i (by omega), wrap_next (show i < l.length by omega) (by omega), ih k (i + 1) (by omega) (by omega), drop_cons l i (by omega)]
    simp only [ixOf]
    by_cases c : l[i].1 = t
    · rw [if_pos (decide_eq_true c), if_pos (decide_eq_true c)]
    · rw [if_neg (by simpa using c), if_neg (by simpa using c)]
theorem iplaceOf_f (l : List Tk) (hn : l.length ≤ 2000000) (t : Int) (k : Nat) (hk : l.length + 3 < k) : impl_placeOf.f k l t = some (atT l t) := by
  obtain ⟨k, rfl⟩ : ∃ m, k = m + 1 := ⟨k - 1, by omega⟩
  obtain ⟨k, rfl⟩ : ∃ m, k = m + 1 := ⟨k - 1, by omega⟩
  rw [impl_placeOf.f_eq, slices_IndexFunc_Ticket.f_eq]
  have := iplace_loop k (by omega) l hn t l.length k 0 (by omega) (by omega)
  rw [show ((0 : Nat) : Int) = 0 from rfl] at this
  rw [this, bs]
  rfl
theorem sat_loop (K : Nat) (fl : List Fl) (hn : fl.length ≤ 2000000) (r1 : Int) (r2 : Bool) (t : Int) : ∀ (d k i : Nat), i + d = fl.length → d < k →
    spec_l14At.l0 K k t (i : Int) fl r1 r2 = some (ixOf (fun f : Fl => decide (f.1 = t)) (fl.drop i) i) := by
  intro d
  induction d with
  | zero =>
    intro k i hi hk
    obtain ⟨k, rfl⟩ : ∃ m, k = m + 1 := ⟨k - 1, by omega⟩
    rw [spec_l14At.l0_eq, if_neg (by omega), List.drop_of_length_le (by omega)]
    rfl
  | succ d ih =>
    intro k i hi hk
    obtain ⟨k, rfl⟩ : ∃ m, k = m + 1 := ⟨k - 1, by omega⟩
    rw [spec_l14At.l0_eq, if_pos (by omega), if_pos (by omega), if_pos (by omega), rdF fl i (by omega), wrap_next (show i < fl.length by omega) (by omega), ih k (i + 1) (by omega) (by omega), drop_cons fl i (by omega)]
    simp only [ixOf]
    by_cases c : fl[i].1 = t
    · rw [if_pos c, if_pos (decide_eq_true c)]
    · rw [if_neg c, if_neg (by simpa using c)]
theorem sat_f (fl : List Fl) (hn : fl.length ≤ 2000000) (r1 : Int) (r2 : Bool) (t : Int) (k : Nat) (hk : fl.length + 1 < k) : spec_l14At.f k fl r1 r2 t = some (atF fl t) := by
  obtain ⟨k, rfl⟩ : ∃ m, k = m + 1 := ⟨k - 1, by omega⟩
  rw [spec_l14At.f_eq]
  have := sat_loop k fl hn r1 r2 t fl.length k 0 (by omega) (by omega)
  rw [show ((0 : Nat) : Int) = 0 from rfl] at this
  rw [this]
  rfl
/-- What a step answers: the turn, not fresh, whether, the flows. -/
def res4 (o : Option (List Fl × Int)) (fl : List Fl) (turn : Int) : Int × Bool × Bool × List Fl := match o with
  | some s => (s.2, false, true, s.1)
  | none => (turn, false, false, fl)
/-! ### a flow added -/
def posN (t : Int) : List Fl → Nat
  | [] => 0
  | f :: l => if f.1 < t then posN t l + 1 else 0
theorem posN_le (t : Int) : ∀ l : List Fl, posN t l ≤ l.length
  | [] => Nat.le_refl _
  | f :: l => by
    have := posN_le t l
    simp only [posN, List.length_cons]
    split <;> omega
def addN (fl : List Fl) (t q : Int) : List Fl := fl.take (posN t fl) ++ (t, q, 0, []) :: fl.drop (posN t fl)
def addT (fl : List Fl) (turn t : Int) : Int := if 0 < fl.length ∧ (posN t fl : Int) ≤ turn then turn + 1 else turn
def addR (fl : List Fl) (turn t q : Int) : Option (List Fl × Int) :=
  if ringB fl turn = true ∧ atF fl t < 0 then (if ringB (addN fl t q) (addT fl turn t) = true then some (addN fl t q, addT fl turn t) else none) else none
theorem addN_sml {fl : List Fl} (h : fl.length ≤ 12) (hs : Sml fl) (t q : Int) : Sml (addN fl t q) := by
  refine ⟨by have := posN_le t fl; simp [addN]; omega, fun f hf => ?_⟩
  unfold addN at hf
  rcases List.mem_append.1 hf with hf | hf
  · exact hs.2 f (List.mem_of_mem_take hf)
  · rcases List.mem_cons.1 hf with rfl | hf
    · simp
    · exact hs.2 f (List.mem_of_mem_drop hf)
theorem iadd_loop (K : Nat) (fl : List Fl) (hn : fl.length ≤ 2000000) (t q r1 : Int) (r2 : Bool) (a : Int) (b : Bool) (o1 : Int) (o2 : Bool) (o0 : List Fl) : ∀ (d k i : Nat), i + d = fl.length → d < k →
    impl_AddFlow.l0 K k t q (i : Int) fl r1 r2 a b o1 o2 o0 = impl_AddFlow.j0 K t q ((i + posN t (fl.drop i) : Nat) : Int) fl r1 r2 a b o1 o2 o0 := by
  intro d
  induction d with
  | zero =>
    intro k i hi hk
    obtain ⟨k, rfl⟩ : ∃ m, k = m + 1 := ⟨k - 1, by omega⟩
    rw [impl_AddFlow.l0_eq, if_neg (by omega), List.drop_of_length_le (by omega)]
    rfl
  | succ d ih =>
    intro k i hi hk
    obtain ⟨k, rfl⟩ : ∃ m, k = m + 1 := ⟨k - 1, by omega⟩
    rw [impl_AddFlow.l0_eq, if_pos (by omega), if_pos (by omega), if_pos (by omega), rdF fl i (by omega), drop_cons fl i (by omega)]
    simp only [posN]
    by_cases c : fl[i].1 < t
    · rw [if_pos c, if_pos c, wrap_next (show i < fl.length by omega) (by omega), ih k (i + 1) (by omega) (by omega), show i + 1 + posN t (fl.drop (i + 1)) = i + (posN t (fl.drop (i + 1)) + 1) by omega]
    · rw [if_neg c, if_neg c]
      rfl
theorem iadd_f (fl : List Fl) (hs : Sml fl) (turn t q : Int) (k : Nat) (hk : 500 ≤ k) : impl_AddFlow.f k fl turn false t q = some (res4 (addR fl turn t q) fl turn) := by
  obtain ⟨k, rfl⟩ : ∃ m, k = m + 1 := ⟨k - 1, by omega⟩
  have hn := hs.1
  rw [impl_AddFlow.f_eq, icopy_f fl hs turn false k (by omega), bs, iring_f fl hs turn k (by omega), bs, not_ite]
  unfold addR
  cases h1 : ringB fl turn with
  | false => rw [if_neg (by decide), if_neg (by simp)]; rfl
  | true =>
    rw [if_pos rfl, iflowOf_f fl (by omega) turn false t k (by omega), bs]
    by_cases h2 : atF fl t ≥ 0
    · rw [if_pos h2, if_neg (by omega)]; rfl
    · rw [if_neg h2, if_pos ⟨rfl, by omega⟩]
      obtain ⟨f1, f2, f3, f4⟩ := ring_facts h1
      have hl := iadd_loop k fl (by omega) t q turn false 0 false turn false fl fl.length k 0 (by omega) (by omega)
      rw [show ((0 : Nat) : Int) = 0 from rfl, List.drop_zero, Nat.zero_add] at hl
      rw [hl]
      have hp := posN_le t fl
      have hj1 : ∀ o1, impl_AddFlow.j1 k t q (posN t fl : Int) fl turn false 0 false o1 false fl = if ringB (addN fl t q) o1 = true then some (o1, false, true, addN fl t q) else some (turn, false, false, fl) := fun o1 => by
        obtain ⟨k, rfl⟩ : ∃ m, k = m + 1 := ⟨k - 1, by omega⟩
        rw [impl_AddFlow.j1_eq, slices_Insert_Flow.f_eq, if_pos ⟨by omega, by omega, by omega⟩, bs]
        simp only [Int.toNat_natCast]
        rw [show fl.take (posN t fl) ++ (t, q, 0, []) :: fl.drop (posN t fl) = addN fl t q from rfl, iring_f _ (addN_sml f1 hs t q) _ _ (by omega), bs, not_ite, icopy_f fl hs turn false _ (by omega), bs]
      have hj0 : impl_AddFlow.j0 k t q (posN t fl : Int) fl turn false 0 false turn false fl = impl_AddFlow.j1 k t q (posN t fl : Int) fl turn false 0 false (addT fl turn t) false fl := by
        rw [impl_AddFlow.j0_eq]
        unfold addT
        by_cases c1 : (fl.length : Int) > 0
        · rw [if_pos c1]
          have := f3 (by omega)
          by_cases c2 : (posN t fl : Int) ≤ turn
          · rw [if_pos c2, if_pos ⟨by omega, c2⟩, wrap_id (by omega) (by omega)]
          · rw [if_neg c2, if_neg (by omega)]
        · rw [if_neg c1, if_neg (by omega)]
      rw [hj0, hj1]
      by_cases c : ringB (addN fl t q) (addT fl turn t) = true
      · rw [if_pos c, if_pos c]; rfl
      · rw [if_neg c, if_neg c]; rfl
theorem sadd_rest (K : Nat) (fl : List Fl) (hn : fl.length ≤ 100) (t q r1 : Int) (r2 : Bool) (a : Int) (b : Bool) (o1 : Int) (o2 : Bool) (p1 : Int) (p2 : Bool) : ∀ (d k i : Nat) (out : List Fl), i + d = fl.length → d < k → out.length + d ≤ 1000 →
    spec_AddFlow.l0 K k t q true (i : Int) fl r1 r2 a b o1 o2 p1 p2 out fl = spec_AddFlow.j2 K fl r1 r2 a b o1 o2 (out ++ fl.drop i) := by
  intro d
  induction d with
  | zero =>
    intro k i out hi hk ho
    obtain ⟨k, rfl⟩ : ∃ m, k = m + 1 := ⟨k - 1, by omega⟩
    rw [spec_AddFlow.l0_eq, if_neg (by omega), if_neg (by decide), List.drop_of_length_le (by omega), List.append_nil]
  | succ d ih =>
    intro k i out hi hk ho
    obtain ⟨k, rfl⟩ : ∃ m, k = m + 1 := ⟨k - 1, by omega⟩
    rw [spec_AddFlow.l0_eq, if_pos (by omega), if_neg (by decide), spec_AddFlow.j1_eq, if_neg (by decide), spec_AddFlow.j0_eq, if_pos (by omega), if_pos (by omega), if_pos (by omega), wrap_next (show i < fl.length by omega) (by omega),
      ih k (i + 1) _ (by omega) (by omega) (by simp; omega), rdF fl i (by omega), drop_cons fl i (by omega), List.append_assoc]
    rfl
theorem sadd_loop (K : Nat) (fl : List Fl) (hn : fl.length ≤ 100) (t q r1 : Int) (h0 : 0 ≤ r1) (h1 : r1 < fl.length) (r2 : Bool) (a : Int) (b : Bool) (o2 : Bool) (p1 : Int) (p2 : Bool) : ∀ (d k i p : Nat) (out : List Fl), i + d = fl.length → d < k → out.length + d ≤ 500 → (∀ f ∈ fl.drop i, f.1 ≠ t) → p = posN t (fl.drop i) →
    spec_AddFlow.l0 K k t q false (i : Int) fl r1 r2 a b r1 o2 p1 p2 out fl = spec_AddFlow.j2 K fl r1 r2 a b (if ((i + p : Nat) : Int) ≤ r1 then r1 + 1 else r1) o2 (out ++ ((fl.drop i).take p ++ (t, q, 0, []) :: (fl.drop i).drop p)) := by
  intro d
  induction d with
  | zero =>
    intro k i p out hi hk ho hne hp
    obtain ⟨k, rfl⟩ : ∃ m, k = m + 1 := ⟨k - 1, by omega⟩
    rw [List.drop_of_length_le (by omega)] at hp
    obtain rfl : p = 0 := hp
    rw [spec_AddFlow.l0_eq, if_neg (by omega), if_pos (by decide), if_pos (by omega), List.drop_of_length_le (by omega)]
    simp only [List.take_nil, List.drop_nil, List.nil_append]
    rw [if_neg (by omega)]
  | succ d ih =>
    intro k i p out hi hk ho hne hp
    obtain ⟨k, rfl⟩ : ∃ m, k = m + 1 := ⟨k - 1, by omega⟩
    have hlt : i < fl.length := by omega
    have hdr := drop_cons fl i hlt
    rw [hdr] at hne hp
    rw [hdr]
    have hti : fl[i].1 ≠ t := hne _ List.mem_cons_self
    simp only [posN] at hp
    rw [spec_AddFlow.l0_eq, if_pos (by omega), if_pos (by decide), if_pos (by omega), if_pos (by omega), rdF fl i hlt, spec_AddFlow.j1_eq]
    by_cases c : fl[i].1 < t
    · rw [if_pos c] at hp
      subst hp
      rw [if_neg (by simp; omega), spec_AddFlow.j0_eq, if_pos (by omega), if_pos (by omega), if_pos (by omega), wrap_next hlt (by omega), ih k (i + 1) _ _ (by omega) (by omega) (by simp; omega) (fun f hf => hne f (List.mem_cons_of_mem _ hf)) rfl, rdF fl i hlt,
        show i + 1 + posN t (fl.drop (i + 1)) = i + (posN t (fl.drop (i + 1)) + 1) by omega]
      simp only [List.take_succ_cons, List.drop_succ_cons, List.append_assoc, List.cons_append, List.nil_append]
    · rw [if_neg c] at hp
      subst hp
      rw [if_pos (by simp; omega), if_pos (by omega)]
      simp only [List.take_zero, List.drop_zero, List.nil_append, Nat.add_zero]
      have go : ∀ o1, spec_AddFlow.j0 K k t q true (i : Int) fl r1 r2 a b o1 o2 p1 p2 (out ++ [(t, q, 0, [])]) fl = spec_AddFlow.j2 K fl r1 r2 a b o1 o2 (out ++ (t, q, 0, []) :: fl[i] :: fl.drop (i + 1)) := fun o1 => by
        rw [spec_AddFlow.j0_eq, if_pos (by omega), if_pos (by omega), if_pos (by simp; omega), wrap_next hlt (by omega), sadd_rest K fl hn t q r1 r2 a b o1 o2 p1 p2 d k (i + 1) _ (by omega) (by omega) (by simp; omega), rdF fl i hlt]
        simp only [List.append_assoc, List.cons_append, List.nil_append]
      by_cases c2 : (i : Int) ≤ r1
      · rw [if_pos c2, if_pos c2, wrap_id (by omega) (by omega), go]
      · rw [if_neg c2, if_neg c2, go]
theorem sadd_f (fl : List Fl) (hs : Sml fl) (turn t q : Int) (k : Nat) (hk : 500 ≤ k) : spec_AddFlow.f k fl turn false t q = some (res4 (addR fl turn t q) fl turn) := by
  obtain ⟨k, rfl⟩ : ∃ m, k = m + 1 := ⟨k - 1, by omega⟩
  have hn := hs.1
  rw [spec_AddFlow.f_eq, sring_f fl hs turn k (by omega), bs, not_ite]
  unfold addR
  cases h1 : ringB fl turn with
  | false => rw [if_neg (by decide), if_neg (by simp), scopy_f fl hs turn false k (by omega), bs]; rfl
  | true =>
    rw [if_pos rfl, sat_f fl (by omega) turn false t k (by omega), bs, scopy_f fl hs turn false k (by omega)]
    simp only [bs]
    by_cases h2 : atF fl t ≥ 0
    · rw [if_pos h2, if_neg (by omega)]; rfl
    · rw [if_neg h2, if_pos ⟨trivial, by omega⟩]
      obtain ⟨f1, f2, f3, f4⟩ := ring_facts h1
      have hp := posN_le t fl
      have hj2 : ∀ o1, spec_AddFlow.j2 k fl turn false 0 false o1 false (addN fl t q) = if ringB (addN fl t q) o1 = true then some (o1, false, true, addN fl t q) else some (turn, false, false, fl) := fun o1 => by
        rw [spec_AddFlow.j2_eq, sring_f _ (addN_sml f1 hs t q) _ _ (by omega), bs, not_ite, scopy_f fl hs turn false _ (by omega), bs]
      have hne : ∀ f ∈ fl, f.1 ≠ t := by
        rcases atF_is fl t with ⟨_, h⟩ | ⟨n, h, e, _⟩
        · exact h
        · omega
      have hl : spec_AddFlow.l0 k k t q false 0 fl turn false 0 false turn false turn false [] fl = spec_AddFlow.j2 k fl turn false 0 false (addT fl turn t) false (addN fl t q) := by
        rcases Nat.eq_zero_or_pos fl.length with h0 | h0
        · have hnil := List.length_eq_zero_iff.1 h0
          obtain ⟨k, rfl⟩ : ∃ m, k = m + 1 := ⟨k - 1, by omega⟩
          rw [hnil, spec_AddFlow.l0_eq, if_neg (by simp), if_pos (by decide), if_pos (by simp)]
          rfl
        · have ht := f3 h0
          have := sadd_loop k fl hn t q turn ht.1 ht.2 false 0 false false turn false fl.length k 0 (posN t fl) [] (by omega) (by omega) (by simp; omega) (by simpa using hne) rfl
          rw [show ((0 : Nat) : Int) = 0 from rfl, List.drop_zero, Nat.zero_add, List.nil_append] at this
          rw [this]
          unfold addT
          by_cases c2 : (posN t fl : Int) ≤ turn
          · rw [if_pos c2, if_pos ⟨h0, c2⟩]; rfl
          · rw [if_neg c2, if_neg (by omega)]; rfl
      rw [hl, hj2]
      by_cases c : ringB (addN fl t q) (addT fl turn t) = true
      · rw [if_pos c, if_pos c]; rfl
      · rw [if_neg c, if_neg c]; rfl
end Go.Vm.Pu
namespace Go.Vm.Pu
open Go Go.RowKit Go.Vm
set_option linter.unusedVariables false
set_option linter.unusedSimpArgs false
/-! ### a flow dropped -/
def delN {α : Type} (l : List α) (n : Nat) : List α := l.take n ++ l.drop (n + 1)
theorem delN_length {α : Type} (l : List α) (n : Nat) (h : n < l.length) : (delN l n).length = l.length - 1 := by
  simp [delN]; omega
def dropR (fl : List Fl) (turn t : Int) : Option (List Fl × Int) :=
  if ringB fl turn = true ∧ 0 ≤ atF fl t ∧ (fl.getD (atF fl t).toNat dF).2.2.2.length = 0 then
    some (delN fl (atF fl t).toNat, if atF fl t < turn then turn - 1 else if turn = ((delN fl (atF fl t).toNat).length : Int) then 0 else turn)
  else none
theorem idrop_f (fl : List Fl) (hs : Sml fl) (turn t : Int) (k : Nat) (hk : 500 ≤ k) : impl_DropFlow.f k fl turn false t = some (res4 (dropR fl turn t) fl turn) := by
  obtain ⟨k, rfl⟩ : ∃ m, k = m + 1 := ⟨k - 1, by omega⟩
  have hn := hs.1
  rw [impl_DropFlow.f_eq, icopy_f fl hs turn false k (by omega), bs, iflowOf_f fl (by omega) turn false t k (by omega), bs, iring_f fl hs turn k (by omega), bs, not_ite]
  unfold dropR
  cases h1 : ringB fl turn with
  | false => rw [if_neg (by decide), if_neg (by simp)]; rfl
  | true =>
    obtain ⟨f1, f2, f3, f4⟩ := ring_facts h1
    rw [if_pos rfl]
    rcases atF_is fl t with ⟨h2, _⟩ | ⟨n, hlt, h2, _⟩
    · rw [if_pos (by omega), if_neg (by omega)]; rfl
    · have ht := f3 (by omega)
      rw [h2, if_neg (by omega), if_pos (by omega), if_pos (by omega), rdFD]
      simp only [Int.toNat_natCast]
      by_cases h3 : (((fl.getD n dF).2.2.2.length : Nat) : Int) > 0
      · rw [if_pos h3, if_neg (by omega)]; rfl
      · obtain ⟨k, rfl⟩ : ∃ m, k = m + 1 := ⟨k - 1, by omega⟩
        rw [if_neg h3, if_pos ⟨trivial, by omega, by omega⟩, slices_Delete_Flow.f_eq, wrap_next hlt (by omega), if_pos ⟨by omega, by omega, by omega⟩, bs]
        simp only [Int.toNat_natCast]
        rw [show fl.take n ++ fl.drop (n + 1) = delN fl n from rfl, wrap_id (x := turn - 1) (by omega) (by omega)]
        by_cases h4 : (n : Int) < turn
        · rw [if_pos h4, if_pos h4]; rfl
        · rw [if_neg h4, if_neg h4]
          by_cases h5 : turn = ((delN fl n).length : Int)
          · rw [if_pos h5, if_pos h5]; rfl
          · rw [if_neg h5, if_neg h5]; rfl
theorem sdrop_rest (K : Nat) (fl : List Fl) (hn : fl.length ≤ 100) (at_ r1 : Int) (r2 : Bool) (a : Int) (b : Bool) (o1 : Int) (o2 : Bool) (p1 : Int) (p2 : Bool) : ∀ (d k i : Nat) (out : List Fl), i + d = fl.length → d < k → out.length + d ≤ 1000 → at_ < (i : Int) →
    spec_DropFlow.l0 K k at_ (i : Int) fl r1 r2 a b o1 o2 p1 p2 out fl = (if at_ < r1 then spec_DropFlow.j0 K a b (wrap64 (r1 - 1)) o2 (out ++ fl.drop i) else spec_DropFlow.j0 K a b o1 o2 (out ++ fl.drop i)) := by
  intro d
  induction d with
  | zero =>
    intro k i out hi hk ho ha
    obtain ⟨k, rfl⟩ : ∃ m, k = m + 1 := ⟨k - 1, by omega⟩
    rw [spec_DropFlow.l0_eq, if_neg (by omega), List.drop_of_length_le (by omega), List.append_nil]
  | succ d ih =>
    intro k i out hi hk ho ha
    obtain ⟨k, rfl⟩ : ∃ m, k = m + 1 := ⟨k - 1, by omega⟩
    rw [spec_DropFlow.l0_eq, if_pos (by omega), if_pos (by omega), if_pos (by omega), if_pos (by omega), if_pos (by omega), wrap_next (show i < fl.length by omega) (by omega),
      ih k (i + 1) _ (by omega) (by omega) (by simp; omega) (by omega), rdF fl i (by omega), drop_cons fl i (by omega), List.append_assoc]
    rfl
theorem sdrop_loop (K : Nat) (fl : List Fl) (hn : fl.length ≤ 100) (n : Nat) (hlt : n < fl.length) (r1 : Int) (r2 : Bool) (a : Int) (b : Bool) (o1 : Int) (o2 : Bool) (p1 : Int) (p2 : Bool) : ∀ (d k i : Nat), i + d = n → fl.length - i < k →
    spec_DropFlow.l0 K k (n : Int) (i : Int) fl r1 r2 a b o1 o2 p1 p2 (fl.take i) fl = (if (n : Int) < r1 then spec_DropFlow.j0 K a b (wrap64 (r1 - 1)) o2 (delN fl n) else spec_DropFlow.j0 K a b o1 o2 (delN fl n)) := by
  intro d
  induction d with
  | zero =>
    intro k i hi hk
    obtain ⟨k, rfl⟩ : ∃ m, k = m + 1 := ⟨k - 1, by omega⟩
    obtain rfl : i = n := by omega
    rw [spec_DropFlow.l0_eq, if_pos (by omega), if_neg (by simp), wrap_next hlt (by omega), sdrop_rest K fl hn _ _ _ _ _ _ _ _ _ (fl.length - (i + 1)) k (i + 1) _ (by omega) (by omega) (by simp; omega) (by omega)]
    rfl
  | succ d ih =>
    intro k i hi hk
    obtain ⟨k, rfl⟩ : ∃ m, k = m + 1 := ⟨k - 1, by omega⟩
    rw [spec_DropFlow.l0_eq, if_pos (by omega), if_pos (by omega), if_pos (by omega), if_pos (by omega), if_pos (by simp; omega), wrap_next (show i < fl.length by omega) (by omega), rdF fl i (by omega), ← List.take_succ_eq_append_getElem (by omega), ih k (i + 1) (by omega) (by omega)]
theorem sdrop_f (fl : List Fl) (hs : Sml fl) (turn t : Int) (k : Nat) (hk : 500 ≤ k) : spec_DropFlow.f k fl turn false t = some (res4 (dropR fl turn t) fl turn) := by
  obtain ⟨k, rfl⟩ : ∃ m, k = m + 1 := ⟨k - 1, by omega⟩
  have hn := hs.1
  rw [spec_DropFlow.f_eq, sring_f fl hs turn k (by omega), bs, not_ite, scopy_f fl hs turn false k (by omega)]
  simp only [bs]
  unfold dropR
  cases h1 : ringB fl turn with
  | false => rw [if_neg (by decide), if_neg (by simp)]; rfl
  | true =>
    obtain ⟨f1, f2, f3, f4⟩ := ring_facts h1
    rw [if_pos rfl, sat_f fl (by omega) turn false t k (by omega), bs]
    rcases atF_is fl t with ⟨h2, _⟩ | ⟨n, hlt, h2, _⟩
    · rw [if_pos (by omega), if_neg (by omega)]; rfl
    · have ht := f3 (by omega)
      rw [h2, if_neg (by omega), if_pos (by omega), if_pos (by omega), rdFD]
      simp only [Int.toNat_natCast]
      by_cases h3 : (((fl.getD n dF).2.2.2.length : Nat) : Int) > 0
      · rw [if_pos h3, if_neg (by omega)]; rfl
      · have hl := sdrop_loop k fl hn n hlt turn false 0 false turn false turn false n k 0 (by omega) (by omega)
        rw [show ((0 : Nat) : Int) = 0 from rfl, List.take_zero] at hl
        rw [if_neg h3, if_pos ⟨trivial, by omega, by omega⟩, hl, wrap_id (x := turn - 1) (by omega) (by omega)]
        have hdl := delN_length fl n hlt
        by_cases h4 : (n : Int) < turn
        · rw [if_pos h4, if_pos h4, spec_DropFlow.j0_eq, if_neg (by omega)]; rfl
        · rw [if_neg h4, if_neg h4, spec_DropFlow.j0_eq]
          by_cases h5 : turn = ((delN fl n).length : Int)
          · rw [if_pos h5, if_pos h5]; rfl
          · rw [if_neg h5, if_neg h5]; rfl
/-! ### a ticket pushed -/
def withT (f : Fl) (l : List Tk) : Fl := (f.1, f.2.1, f.2.2.1, l)
def pushR (fl : List Fl) (turn t : Int) (tk : Tk) : Option (List Fl × Int) :=
  if ringB fl turn = true ∧ 0 ≤ atF fl t ∧ lineB ((fl.getD (atF fl t).toNat dF).2.2.2 ++ [tk]) = true then
    some (fl.set (atF fl t).toNat (withT (fl.getD (atF fl t).toNat dF) ((fl.getD (atF fl t).toNat dF).2.2.2 ++ [tk])), turn)
  else none
theorem ipush_f (l : List Tk) (hn : l.length ≤ 1000) (tk : Tk) (k : Nat) (hk : 1010 ≤ k) : impl_push.f k l tk.1 tk.2 = some (lineB (l ++ [tk]), if lineB (l ++ [tk]) = true then l ++ [tk] else l) := by
  obtain ⟨k, rfl⟩ : ∃ m, k = m + 1 := ⟨k - 1, by omega⟩
  rw [impl_push.f_eq, icopyLine_f l (by omega) k (by omega)]
  simp only [bs]
  rw [if_pos (by omega), iline_f (l ++ [(tk.1, tk.2)]) (by simp; omega) k (by simp; omega), bs, not_ite]
  show (if lineB (l ++ [tk]) = true then _ else _) = _
  cases h : lineB (l ++ [tk]) with
  | true => rfl
  | false => rfl
theorem set_self (fl : List Fl) (n : Nat) (h : n < fl.length) : fl.set n (withT (fl.getD n dF) (fl.getD n dF).2.2.2) = fl := by
  have e : fl.getD n dF = fl[n] := by simp [List.getD, h]
  rw [e]
  show fl.set n fl[n] = fl
  exact List.set_getElem_self h
theorem ipushT_f (fl : List Fl) (hs : Sml fl) (turn t : Int) (tk : Tk) (k : Nat) (hk : 1100 ≤ k) : impl_PushTicket.f k fl turn false t tk.1 tk.2 = some (res4 (pushR fl turn t tk) fl turn) := by
  obtain ⟨k, rfl⟩ : ∃ m, k = m + 1 := ⟨k - 1, by omega⟩
  have hn := hs.1
  rw [impl_PushTicket.f_eq, icopy_f fl hs turn false k (by omega), bs, iflowOf_f fl (by omega) turn false t k (by omega), bs, iring_f fl hs turn k (by omega), bs, not_ite]
  unfold pushR
  cases h1 : ringB fl turn with
  | false => rw [if_neg (by decide), if_neg (by simp)]; rfl
  | true =>
    rw [if_pos rfl]
    rcases atF_is fl t with ⟨h2, _⟩ | ⟨n, hlt, h2, _⟩
    · rw [if_pos (by omega), if_neg (by omega)]; rfl
    · have hl := hs.at n
      rw [h2, if_neg (by omega), if_pos (by omega), if_pos (by omega), rdFD, ipush_f _ (by omega) tk k (by omega), bs]
      simp only [Int.toNat_natCast]
      rw [if_pos (by omega), if_pos (by omega)]
      cases h3 : lineB ((fl.getD n dF).2.2.2 ++ [tk]) with
      | true => rw [if_pos rfl, if_pos (by simp)]; rfl
      | false =>
        rw [if_neg (by decide), if_neg (by simp)]
        show some (turn, false, false, fl.set n (withT (fl.getD n dF) (fl.getD n dF).2.2.2)) = _
        rw [set_self fl n hlt]
        rfl
theorem spush_f (l : List Tk) (hn : l.length ≤ 1000) (hv : lineB l = true) (tk : Tk) (k : Nat) (hk : 1010 ≤ k) : spec_Push.f k l tk.1 tk.2 = some (lineB (l ++ [tk]), if lineB (l ++ [tk]) = true then l ++ [tk] else l) := by
  obtain ⟨k, rfl⟩ : ∃ m, k = m + 1 := ⟨k - 1, by omega⟩
  rw [spec_Push.f_eq, scopyLine_f l (by omega) k (by omega)]
  simp only [bs]
  rw [if_pos (by omega), sline_f l (by omega) k (by omega), bs, hv, if_neg (by decide), sline_f (l ++ [(tk.1, tk.2)]) (by simp; omega) k (by simp; omega), bs, not_ite]
  show (if lineB (l ++ [tk]) = true then _ else _) = _
  cases h : lineB (l ++ [tk]) with
  | true => rfl
  | false => rfl
theorem spushT_f (fl : List Fl) (hs : Sml fl) (turn t : Int) (tk : Tk) (k : Nat) (hk : 1100 ≤ k) : spec_PushTicket.f k fl turn false t tk.1 tk.2 = some (res4 (pushR fl turn t tk) fl turn) := by
  obtain ⟨k, rfl⟩ : ∃ m, k = m + 1 := ⟨k - 1, by omega⟩
  have hn := hs.1
  rw [spec_PushTicket.f_eq, sring_f fl hs turn k (by omega), bs, not_ite, scopy_f fl hs turn false k (by omega)]
  simp only [bs]
  unfold pushR
  cases h1 : ringB fl turn with
  | false => rw [if_neg (by decide), if_neg (by simp)]; rfl
  | true =>
    obtain ⟨f1, f2, f3, f4⟩ := ring_facts h1
    rw [if_pos rfl, sat_f fl (by omega) turn false t k (by omega), bs]
    rcases atF_is fl t with ⟨h2, _⟩ | ⟨n, hlt, h2, _⟩
    · rw [if_pos (by omega), if_neg (by omega)]; rfl
    · have hl := hs.at n
      have hv : lineB (fl.getD n dF).2.2.2 = true := by
        have := (flB_facts (f4 n hlt) hlt).2.1
        have e : fl.getD n dF = fl[n] := by simp [List.getD, hlt]
        rw [e]
        exact this
      rw [h2, if_neg (by omega), if_pos (by omega), if_pos (by omega), rdFD, spush_f _ (by omega) hv tk k (by omega)]
      simp only [bs, Int.toNat_natCast]
      cases h3 : lineB ((fl.getD n dF).2.2.2 ++ [tk]) with
      | true => rw [if_pos rfl, if_pos (by omega), if_pos (by omega), if_pos (by simp)]; rfl
      | false => rw [if_neg (by decide), if_neg (by simp)]; rfl
end Go.Vm.Pu
namespace Go.Vm.Pu
open Go Go.RowKit Go.Vm
set_option linter.unusedVariables false
set_option linter.unusedSimpArgs false
theorem line_inc {l : List Tk} (h : lineB l = true) : ∀ (d i j : Nat) (hj : j < l.length) (hij : i + d + 1 = j), (l[i]'(by omega)).1 < l[j].1 := by
  unfold lineB at h
  simp only [Bool.and_eq_true, decide_eq_true_eq] at h
  have nx : ∀ j, (hj : j + 1 < l.length) → (l[j]'(by omega)).1 < l[j + 1].1 := fun j hj => by
    have := okF_iff.1 h.2 (j + 1) (by omega) (by omega)
    unfold lnB at this
    simp only [Bool.and_eq_true, Bool.or_eq_true, decide_eq_true_eq] at this
    have h2 := this.2.resolve_left (by omega)
    have e1 : l.getD (j + 1) (0, 0) = l[j + 1] := by simp [List.getD, hj]
    have e2 : l.getD (j + 1 - 1) (0, 0) = l[j]'(by omega) := by simp [List.getD, show j < l.length by omega]
    rw [e1, e2] at h2
    exact h2
  intro d
  induction d with
  | zero =>
    intro i j hj hij
    obtain rfl : j = i + 1 := by omega
    exact nx i hj
  | succ d ih =>
    intro i j hj hij
    obtain ⟨m, rfl⟩ : ∃ m, j = m + 1 := ⟨j - 1, by omega⟩
    have h1 := ih i m (by omega) (by omega)
    have h2 := nx m hj
    omega
theorem line_pos {l : List Tk} (h : lineB l = true) (i : Nat) (hi : i < l.length) : 1 ≤ l[i].1 := by
  unfold lineB at h
  simp only [Bool.and_eq_true, decide_eq_true_eq] at h
  have := okF_iff.1 h.2 i (by omega) (by omega)
  unfold lnB tkB at this
  simp only [Bool.and_eq_true, decide_eq_true_eq] at this
  have e1 : l.getD i (0, 0) = l[i] := by simp [List.getD, hi]
  rw [e1] at this
  exact this.1.1
theorem line_ne {l : List Tk} (h : lineB l = true) (i j : Nat) (hi : i < l.length) (hj : j < l.length) (hne : i ≠ j) : l[i].1 ≠ l[j].1 := by
  rcases Nat.lt_or_gt_of_ne hne with c | c
  · have := line_inc h (j - i - 1) i j hj (by omega)
    omega
  · have := line_inc h (i - j - 1) j i hi (by omega)
    omega
/-! ### a ticket cancelled -/
def offT (f : Fl) (l : List Tk) : Fl := (f.1, f.2.1, if l.length = 0 then 0 else f.2.2.1, l)
def cancR (fl : List Fl) (turn t id : Int) : Option (List Fl × Int × Tk) :=
  if ringB fl turn = true ∧ 0 ≤ atF fl t ∧ 0 ≤ atT (fl.getD (atF fl t).toNat dF).2.2.2 id then
    some (fl.set (atF fl t).toNat (offT (fl.getD (atF fl t).toNat dF) (delN (fl.getD (atF fl t).toNat dF).2.2.2 (atT (fl.getD (atF fl t).toNat dF).2.2.2 id).toNat)), turn,
      (fl.getD (atF fl t).toNat dF).2.2.2.getD (atT (fl.getD (atF fl t).toNat dF).2.2.2 id).toNat (0, 0))
  else none
def res6 (o : Option (List Fl × Int × Tk)) (fl : List Fl) (turn : Int) : Int × Bool × Int × Int × Bool × List Fl := match o with
  | some s => (s.2.1, false, s.2.2.1, s.2.2.2, true, s.1)
  | none => (turn, false, 0, 0, false, fl)
theorem iwithout_f (l : List Tk) (hn : l.length ≤ 1000) (n : Nat) (h : n < l.length) (k : Nat) (hk : 3 ≤ k) : impl_withoutTicket.f k l (n : Int) = some (delN l n) := by
  obtain ⟨k, rfl⟩ : ∃ m, k = m + 1 := ⟨k - 1, by omega⟩
  obtain ⟨k, rfl⟩ : ∃ m, k = m + 1 := ⟨k - 1, by omega⟩
  rw [impl_withoutTicket.f_eq, icopyLine_f l (by omega) _ (by omega), bs, slices_Delete_Ticket.f_eq, wrap_next h (by omega), if_pos ⟨by omega, by omega, by omega⟩, bs]
  rfl
theorem rd_setF (l : List Fl) (i : Nat) (h : i < l.length) (x : Fl) : rd FlT (l.set (Int.toNat (i : Int)) x) (i : Int) = x := by
  rw [rdF _ i (by simpa using h)]; simp
theorem icanc_f (fl : List Fl) (hs : Sml fl) (turn t id : Int) (k : Nat) (hk : 500 ≤ k) : impl_CancelTicket.f k fl turn false t id = some (res6 (cancR fl turn t id) fl turn) := by
  obtain ⟨k, rfl⟩ : ∃ m, k = m + 1 := ⟨k - 1, by omega⟩
  have hn := hs.1
  rw [impl_CancelTicket.f_eq, icopy_f fl hs turn false k (by omega), bs, iflowOf_f fl (by omega) turn false t k (by omega), bs, iring_f fl hs turn k (by omega), bs, not_ite]
  unfold cancR
  cases h1 : ringB fl turn with
  | false => rw [if_neg (by decide), if_neg (by simp)]; rfl
  | true =>
    obtain ⟨f1, f2, f3, f4⟩ := ring_facts h1
    rw [if_pos rfl]
    rcases atF_is fl t with ⟨h2, _⟩ | ⟨n, hlt, h2, _⟩
    · rw [if_pos (by omega), if_neg (by omega)]; rfl
    · have hl := hs.at n
      have hset := rd_setF fl n hlt
      rw [h2]
      simp only [rdFD, hset, List.set_set]
      rw [if_neg (by omega), if_pos (by omega), if_pos (by omega), iplaceOf_f _ (by omega) id k (by omega), bs]
      simp only [Int.toNat_natCast]
      rcases atT_is (fl.getD n dF).2.2.2 id with ⟨h3, _⟩ | ⟨m, hm, h3, _⟩
      · rw [if_pos (by omega), if_neg (by omega)]; rfl
      · rw [h3, if_neg (by omega), if_pos (by omega), if_pos (by omega), iwithout_f _ (by omega) m hm k (by omega), bs]
        simp only [impl_CancelTicket.j0_eq, rdTD, Int.toNat_natCast]
        rw [if_pos (show True ∧ 0 ≤ (n : Int) ∧ 0 ≤ (m : Int) from ⟨trivial, by omega, by omega⟩)]
        by_cases c : ((delN (fl.getD n dF).2.2.2 m).length : Int) = 0
        · rw [if_pos c, ite_self]
          simp only [res6, offT]
          rw [if_pos (by omega)]
        · rw [if_neg c]
          simp only [res6, offT]
          rw [if_neg (by omega)]
theorem scanc_rest (K : Nat) (l : List Tk) (hn : l.length ≤ 1000) (id a b g0 g1 : Int) : ∀ (d k i : Nat) (out : List Tk), i + d = l.length → d < k → out.length + d ≤ 5000 → (∀ x ∈ l.drop i, x.1 ≠ id) →
    spec_Cancel.l0 K k id (i : Int) l a b g0 g1 out = some (g0, g1, decide (g0 ≠ 0), out ++ l.drop i) := by
  intro d
  induction d with
  | zero =>
    intro k i out hi hk ho hne
    obtain ⟨k, rfl⟩ : ∃ m, k = m + 1 := ⟨k - 1, by omega⟩
    rw [spec_Cancel.l0_eq, if_neg (by omega), List.drop_of_length_le (by omega), List.append_nil]
  | succ d ih =>
    intro k i out hi hk ho hne
    obtain ⟨k, rfl⟩ : ∃ m, k = m + 1 := ⟨k - 1, by omega⟩
    have hlt : i < l.length := by omega
    have hdr := drop_cons l i hlt
    rw [hdr] at hne
    have hti : l[i].1 ≠ id := hne _ List.mem_cons_self
    rw [spec_Cancel.l0_eq, if_pos (by omega), if_pos (by omega), if_pos (by omega), rdT l i hlt, if_neg hti, if_pos (by omega), if_pos (by omega), if_pos (by omega), wrap_next hlt (by omega),
      ih k (i + 1) _ (by omega) (by omega) (by simp; omega) (fun x hx => hne x (List.mem_cons_of_mem _ hx)), hdr, List.append_assoc]
    rfl
theorem scanc_loop (K : Nat) (l : List Tk) (hn : l.length ≤ 1000) (hv : lineB l = true) (m : Nat) (hm : m < l.length) (a b : Int) : ∀ (d k i : Nat), i + d = m → l.length - i < k →
    spec_Cancel.l0 K k l[m].1 (i : Int) l a b 0 0 (l.take i) = some (l[m].1, l[m].2, true, delN l m) := by
  intro d
  induction d with
  | zero =>
    intro k i hi hk
    obtain ⟨k, rfl⟩ : ∃ m, k = m + 1 := ⟨k - 1, by omega⟩
    obtain rfl : i = m := by omega
    have h1 := line_pos hv i hm
    rw [spec_Cancel.l0_eq, if_pos (by omega), if_pos (by omega), if_pos (by omega), rdT l i hm, if_pos rfl, if_pos (by omega), if_pos (by omega), wrap_next hm (by omega),
      scanc_rest K l hn _ a b _ _ (l.length - (i + 1)) k (i + 1) _ (by omega) (by omega) (by simp; omega) (fun x hx => ?_), decide_eq_true (by omega)]
    · rfl
    · obtain ⟨q, hq, rfl⟩ := List.mem_iff_getElem.1 hx
      rw [List.getElem_drop]
      simp only [List.length_drop] at hq
      exact line_ne hv _ _ (by omega) hm (by omega)
  | succ d ih =>
    intro k i hi hk
    obtain ⟨k, rfl⟩ : ∃ m, k = m + 1 := ⟨k - 1, by omega⟩
    rw [spec_Cancel.l0_eq, if_pos (by omega), if_pos (by omega), if_pos (by omega), rdT l i (by omega), if_neg (line_ne hv i m (by omega) hm (by omega)), if_pos (by omega), if_pos (by omega), if_pos (by simp; omega), wrap_next (show i < l.length by omega) (by omega),
      ← List.take_succ_eq_append_getElem (by omega), ih k (i + 1) (by omega) (by omega)]
theorem scancel_f (l : List Tk) (hn : l.length ≤ 1000) (hv : lineB l = true) (id : Int) (k : Nat) (hk : 1010 ≤ k) : spec_Cancel.f k l id =
    some (if 0 ≤ atT l id then ((l.getD (atT l id).toNat (0, 0)).1, (l.getD (atT l id).toNat (0, 0)).2, true, delN l (atT l id).toNat) else (0, 0, false, l)) := by
  obtain ⟨k, rfl⟩ : ∃ m, k = m + 1 := ⟨k - 1, by omega⟩
  rw [spec_Cancel.f_eq, sline_f l (by omega) k (by omega), bs, hv, if_neg (by decide)]
  rcases atT_is l id with ⟨h3, h4⟩ | ⟨m, hm, h3, h4⟩
  · have := scanc_rest k l hn id 0 0 0 0 l.length k 0 [] (by omega) (by omega) (by simp; omega) (by simpa using h4)
    rw [show ((0 : Nat) : Int) = 0 from rfl] at this
    rw [this, if_neg (by omega)]
    rfl
  · have := scanc_loop k l hn hv m hm 0 0 m k 0 (by omega) (by omega)
    rw [show ((0 : Nat) : Int) = 0 from rfl, h4, List.take_zero] at this
    rw [this, if_pos (by omega), h3]
    simp only [Int.toNat_natCast]
    have e : l.getD m (0, 0) = l[m] := by simp [List.getD, hm]
    rw [e, h4]
theorem scanc_f (fl : List Fl) (hs : Sml fl) (turn t id : Int) (k : Nat) (hk : 1100 ≤ k) : spec_CancelTicket.f k fl turn false t id = some (res6 (cancR fl turn t id) fl turn) := by
  obtain ⟨k, rfl⟩ : ∃ m, k = m + 1 := ⟨k - 1, by omega⟩
  have hn := hs.1
  rw [spec_CancelTicket.f_eq, sring_f fl hs turn k (by omega), bs, not_ite, scopy_f fl hs turn false k (by omega)]
  simp only [bs]
  unfold cancR
  cases h1 : ringB fl turn with
  | false => rw [if_neg (by decide), if_neg (by simp)]; rfl
  | true =>
    obtain ⟨f1, f2, f3, f4⟩ := ring_facts h1
    rw [if_pos rfl, sat_f fl (by omega) turn false t k (by omega), bs]
    rcases atF_is fl t with ⟨h2, _⟩ | ⟨n, hlt, h2, _⟩
    · rw [if_pos (by omega), if_neg (by omega)]; rfl
    · have hl := hs.at n
      have hset := rd_setF fl n hlt
      have hv : lineB (fl.getD n dF).2.2.2 = true := by
        have := (flB_facts (f4 n hlt) hlt).2.1
        have e : fl.getD n dF = fl[n] := by simp [List.getD, hlt]
        rw [e]
        exact this
      have hc := scancel_f (fl.getD n dF).2.2.2 (by omega) hv id k (by omega)
      rw [h2, if_neg (by omega), if_pos (by omega), if_pos (by omega), rdFD]
      simp only [Int.toNat_natCast]
      rcases atT_is (fl.getD n dF).2.2.2 id with ⟨h3, _⟩ | ⟨m, hm, h3, _⟩
      · rw [if_neg (by omega)] at hc
        rw [hc]
        simp only [bs, Bool.not_false, if_true]
        rw [if_neg (by omega)]
        rfl
      · rw [if_pos (by omega), h3] at hc
        rw [hc, h3]
        simp only [Int.toNat_natCast] at hset
        simp only [bs, Bool.not_true, Bool.false_eq_true, if_false, Int.toNat_natCast, hset, List.set_set, List.length_set, spec_CancelTicket.j0_eq, rdFD]
        rw [if_pos (show True ∧ 0 ≤ (n : Int) ∧ 0 ≤ (m : Int) from ⟨trivial, by omega, by omega⟩), if_pos (by omega), if_pos (by omega)]
        by_cases c : ((delN (fl.getD n dF).2.2.2 m).length : Int) = 0
        · rw [if_pos c, if_pos (by omega), if_pos (by omega), ite_self]
          simp only [res6, offT]
          rw [if_pos (by omega)]
        · rw [if_neg c]
          simp only [res6, offT]
          rw [if_neg (by omega)]
end Go.Vm.Pu
namespace Go.Vm.Pu
open Go Go.RowKit Go.Vm
set_option linter.unusedVariables false
set_option linter.unusedSimpArgs false
abbrev RSt := List Fl × Int
def stepR (a0 a1 a2 a3 : Int) (s : RSt) : Option RSt :=
  if a0 = 1 then addR s.1 s.2 a1 a3 else if a0 = 2 then pushR s.1 s.2 a1 (a2, a3) else if a0 = 3 ∨ a0 = 4 then (match cancR s.1 s.2 a1 a2 with | some x => some (x.1, x.2.1) | none => none) else if a0 = 5 then dropR s.1 s.2 a1 else none
def doR (e : Evt) (s : RSt) : Option RSt := if EvP e.1 e.2.1 e.2.2.1 e.2.2.2.1 e.2.2.2.2 then stepR e.1 e.2.1 e.2.2.1 e.2.2.2.1 s else none
def rep : List Evt → RSt → Option RSt
  | [], s => some s
  | e :: l, s => match doR e s with
    | some s' => rep l s'
    | none => none
theorem Sml.set {fl : List Fl} (h : Sml fl) (n : Nat) (f : Fl) (hf : f.2.2.2.length ≤ 100) : Sml (fl.set n f) := by
  refine ⟨by rw [List.length_set]; exact h.1, fun g hg => ?_⟩
  rcases List.mem_or_eq_of_mem_set hg with hg | rfl
  · exact h.2 g hg
  · exact hf
theorem doR_sml {e : Evt} {s s' : RSt} (hs : Sml s.1) (h : doR e s = some s') : Sml s'.1 := by
  unfold doR at h
  split at h
  case isFalse => cases h
  unfold stepR at h
  split at h
  · unfold addR at h
    split at h
    · rename_i h1
      split at h
      · cases h
        exact addN_sml (ring_facts h1.1).1 hs _ _
      · cases h
    · cases h
  split at h
  · unfold pushR at h
    split at h
    · rename_i h1
      cases h
      exact hs.set _ _ (by have := line_len h1.2.2; simp only [withT]; omega)
    · cases h
  split at h
  · split at h
    · rename_i x hx
      cases h
      unfold cancR at hx
      split at hx
      · cases hx
        refine hs.set _ _ ?_
        have := hs.at (atF s.1 e.2.1).toNat
        simp only [offT, delN, List.length_append, List.length_take, List.length_drop]
        omega
      · cases hx
    · cases h
  split at h
  · unfold dropR at h
    split at h
    · cases h
      refine ⟨?_, fun f hf => ?_⟩
      · have := hs.1
        simp only [delN, List.length_append, List.length_take, List.length_drop]
        omega
      · simp only [delN] at hf
        rcases List.mem_append.1 hf with hf | hf
        · exact hs.2 f (List.mem_of_mem_take hf)
        · exact hs.2 f (List.mem_of_mem_drop hf)
    · cases h
  · cases h
def repI (o : Option RSt) : Int × Bool × Bool × List Fl := match o with
  | some s => (0, false, true, s.1)
  | none => (0, false, false, [])
theorem irep_loop (K : Nat) (hK : 5000 ≤ K) (evs : List Evt) (hn : evs.length ≤ 2000000) (hD : ∀ e ∈ evs, Bs e.2.2.2.2 ∧ e.2.2.2.2.length ≤ 2000000) : ∀ (d k i : Nat) (s : RSt), i + d = evs.length → d < k → Sml s.1 →
    impl_replayRing.l0 K k evs (evs.length : Int) (i : Int) 0 false s.2 false s.1 = some (repI (rep (evs.drop i) s)) := by
  intro d
  induction d with
  | zero =>
    intro k i s hi hk hs
    obtain ⟨k, rfl⟩ : ∃ m, k = m + 1 := ⟨k - 1, by omega⟩
    rw [impl_replayRing.l0_eq, if_neg (by omega), List.drop_of_length_le (by omega)]
    rfl
  | succ d ih =>
    intro k i s hi hk hs
    obtain ⟨k, rfl⟩ : ∃ m, k = m + 1 := ⟨k - 1, by omega⟩
    have hlt : i < evs.length := by omega
    obtain ⟨hb, hl⟩ := hD _ (List.getElem_mem hlt)
    have hj : ∀ o : Option RSt, (∀ s', o = some s' → Sml s'.1) → ∀ (ok : Bool) (tn : Int) (fl : List Fl), (∀ s', o = some s' → ok = true ∧ tn = s'.2 ∧ fl = s'.1) → (o = none → ok = false) →
        impl_replayRing.j0 K k ok evs (evs.length : Int) (i : Int) 0 false tn false fl = some (repI (match o with | some s' => rep (evs.drop (i + 1)) s' | none => none)) := fun o ho ok tn fl h1 h2 => by
      rw [impl_replayRing.j0_eq, not_ite]
      cases o with
      | none => rw [h2 rfl, if_neg (by decide)]; rfl
      | some s' =>
        obtain ⟨rfl, rfl, rfl⟩ := h1 s' rfl
        rw [if_pos rfl, wrap_next hlt (by omega), ih k (i + 1) s' (by omega) (by omega) (ho s' rfl)]
    have hsml : ∀ s', doR evs[i] s = some s' → Sml s'.1 := fun s' h => doR_sml hs h
    rw [drop_cons evs i hlt]
    simp only [rep]
    have hr4 : ∀ o : Option RSt, doR evs[i] s = o → impl_replayRing.j0 K k (res4 o s.1 s.2).2.2.1 evs (evs.length : Int) (i : Int) 0 false (res4 o s.1 s.2).1 false (res4 o s.1 s.2).2.2.2 = some (repI (match doR evs[i] s with | some s' => rep (evs.drop (i + 1)) s' | none => none)) := fun o h => by
      rw [h]
      refine hj o (fun s' h' => hsml s' (h.trans h')) _ _ _ (fun s' h' => ?_) (fun h' => ?_)
      · rw [h']; exact ⟨rfl, rfl, rfl⟩
      · rw [h']; rfl
    have f4 : ∀ o : Option RSt, (res4 o s.1 s.2).2.1 = false := fun o => by cases o <;> rfl
    have f6 : ∀ o, (res6 o s.1 s.2).2.1 = false := fun o => by cases o <;> rfl
    rw [impl_replayRing.l0_eq, if_pos (by omega), if_pos (by omega), if_pos (by omega), rdE evs i hlt, ievent_f _ _ _ _ _ hb hl K (by omega), bs, not_ite]
    by_cases hv : EvP evs[i].1 evs[i].2.1 evs[i].2.2.1 evs[i].2.2.2.1 evs[i].2.2.2.2
    case neg =>
      rw [decide_eq_false hv, if_neg (by decide)]
      unfold doR
      rw [if_neg hv]
      rfl
    have hdo : doR evs[i] s = stepR evs[i].1 evs[i].2.1 evs[i].2.2.1 evs[i].2.2.2.1 s := by
      unfold doR
      rw [if_pos hv]
    unfold stepR at hdo
    rw [decide_eq_true hv, if_pos rfl]
    by_cases c1 : evs[i].1 = 1
    · rw [if_pos c1] at hdo
      rw [if_pos c1, iadd_f s.1 hs _ _ _ K (by omega), bs, f4]
      exact hr4 _ hdo
    rw [if_neg c1] at hdo ⊢
    by_cases c2 : evs[i].1 = 2
    · rw [if_pos c2] at hdo
      rw [if_pos c2, ipushT_f s.1 hs s.2 _ (evs[i].2.2.1, evs[i].2.2.2.1) K (by omega), bs, f4]
      exact hr4 _ hdo
    rw [if_neg c2] at hdo ⊢
    have hc : ∀ (ok : Bool) (t24 : Int) (e0 e3 : Int) (e4 : List Int), evs[i].1 = 3 ∨ evs[i].1 = 4 → impl_replayRing.j1 K k ok evs (evs.length : Int) (i : Int) t24 true 0 false s.2 false e0 evs[i].2.1 evs[i].2.2.1 e3 e4 s.1 = some (repI (match doR evs[i] s with | some s' => rep (evs.drop (i + 1)) s' | none => none)) := fun ok t24 e0 e3 e4 c3 => by
      rw [impl_replayRing.j1_eq, if_pos rfl, icanc_f s.1 hs s.2 _ _ K (by omega), bs, f6]
      rw [if_pos c3] at hdo
      cases hx : cancR s.1 s.2 evs[i].2.1 evs[i].2.2.1 with
      | none =>
        rw [hx] at hdo
        rw [hdo]
        exact hj none (fun s' h => by cases h) _ _ _ (fun s' h => by cases h) (fun _ => rfl)
      | some x =>
        rw [hx] at hdo
        simp only at hdo
        rw [hdo]
        refine hj (some (x.1, x.2.1)) (fun s' h => hsml s' (hdo.trans h)) _ _ _ (fun s' h => ?_) (fun h => by cases h)
        cases h
        exact ⟨rfl, rfl, rfl⟩
    by_cases c3 : evs[i].1 = 3
    · rw [if_pos c3, decide_eq_true c3]
      exact hc _ _ _ _ _ (.inl c3)
    rw [if_neg c3]
    by_cases c4 : evs[i].1 = 4
    · rw [decide_eq_true c4]
      exact hc _ _ _ _ _ (.inr c4)
    rw [decide_eq_false c4, impl_replayRing.j1_eq, if_neg (by decide)]
    rw [if_neg (by omega)] at hdo
    have c5 : evs[i].1 = 5 := by
      unfold EvP at hv
      omega
    rw [if_pos c5] at hdo
    rw [if_pos c5, idrop_f s.1 hs _ _ K (by omega), bs, f4]
    exact hr4 _ hdo
theorem sml_nil : Sml [] := ⟨by simp, fun f hf => by cases hf⟩
/-- What the replay of a log answers. -/
def repO (evs : List Evt) : Option RSt := if evs.length ≤ 4096 then rep evs ([], 0) else none
theorem irep_f (evs : List Evt) (hn : evs.length ≤ 2000000) (hD : ∀ e ∈ evs, Bs e.2.2.2.2 ∧ e.2.2.2.2.length ≤ 2000000) (k : Nat) (hk : 2000010 ≤ k) : impl_replayRing.f k evs = some (repI (repO evs)) := by
  obtain ⟨k, rfl⟩ : ∃ m, k = m + 1 := ⟨k - 1, by omega⟩
  rw [impl_replayRing.f_eq]
  unfold repO
  by_cases c : (evs.length : Int) > 4096
  · rw [if_pos c, if_neg (by omega)]; rfl
  · have := irep_loop k (by omega) evs hn hD evs.length k 0 ([], 0) (by omega) (by omega) sml_nil
    rw [if_neg c, if_pos (by omega)]
    simpa using this
def resD (o : Option RSt) (s : RSt) : List Fl × Int × Bool × Bool := match o with
  | some s' => (s'.1, s'.2, false, true)
  | none => (s.1, s.2, false, false)
theorem sdo_f (e : Evt) (hb : Bs e.2.2.2.2) (hl : e.2.2.2.2.length ≤ 2000000) (s : RSt) (hs : Sml s.1) (k : Nat) (hk : 5001 ≤ k) :
    spec_l18Do.f k s.1 s.2 false e.1 e.2.1 e.2.2.1 e.2.2.2.1 e.2.2.2.2 = some (resD (doR e s) s) := by
  obtain ⟨k, rfl⟩ : ∃ m, k = m + 1 := ⟨k - 1, by omega⟩
  have h4 : ∀ o : Option RSt, some ((res4 o s.1 s.2).2.2.2, (res4 o s.1 s.2).1, (res4 o s.1 s.2).2.1, (res4 o s.1 s.2).2.2.1) = some (resD o s) := fun o => by cases o <;> rfl
  rw [spec_l18Do.f_eq, sevent_f _ _ _ _ _ hb hl k (by omega), bs, not_ite]
  unfold doR
  by_cases hv : EvP e.1 e.2.1 e.2.2.1 e.2.2.2.1 e.2.2.2.2
  case neg =>
    rw [decide_eq_false hv, if_neg (by decide), if_neg hv]
    rfl
  rw [decide_eq_true hv, if_pos rfl, if_pos hv]
  unfold stepR
  by_cases c1 : e.1 = 1
  · rw [if_pos c1, if_pos c1, sadd_f s.1 hs _ _ _ k (by omega), bs, spec_l18Do.j0_eq]
    exact h4 _
  rw [if_neg c1, if_neg c1]
  by_cases c2 : e.1 = 2
  · rw [if_pos c2, if_pos c2, spushT_f s.1 hs s.2 _ (e.2.2.1, e.2.2.2.1) k (by omega), bs, spec_l18Do.j0_eq]
    exact h4 _
  rw [if_neg c2, if_neg c2]
  have hc : ∀ (ok : Bool) (t14 e0 e3 : Int) (e4 : List Int) (a : Int) (b : Bool) (n0 : List Fl) (n1 : Int) (n2 : Bool), spec_l18Do.j1 k ok t14 true s.1 s.2 false e0 e.2.1 e.2.2.1 e3 e4 a b n0 n1 n2 =
      some (resD (match cancR s.1 s.2 e.2.1 e.2.2.1 with | some x => some (x.1, x.2.1) | none => none) s) := fun ok t14 e0 e3 e4 a b n0 n1 n2 => by
    rw [spec_l18Do.j1_eq, if_pos rfl, scanc_f s.1 hs s.2 _ _ k (by omega), bs, spec_l18Do.j0_eq]
    cases cancR s.1 s.2 e.2.1 e.2.2.1 with
    | none => rfl
    | some x => rfl
  by_cases c3 : e.1 = 3
  · rw [if_pos c3, decide_eq_true c3, if_pos (.inl c3)]
    exact hc _ _ _ _ _ _ _ _ _ _
  rw [if_neg c3]
  by_cases c4 : e.1 = 4
  · rw [decide_eq_true c4, if_pos (.inr c4)]
    exact hc _ _ _ _ _ _ _ _ _ _
  have c5 : e.1 = 5 := by
    unfold EvP at hv
    omega
  rw [decide_eq_false c4, spec_l18Do.j1_eq, if_neg (by decide), if_neg (show ¬ (e.1 = 3 ∨ e.1 = 4) by omega), if_pos c5, if_pos c5, sdrop_f s.1 hs _ _ k (by omega), bs, spec_l18Do.j0_eq]
  exact h4 _
def repS (o : Option RSt) : List Fl × Int × Bool × Bool := match o with
  | some s => (s.1, 0, false, true)
  | none => ([], 0, false, false)
theorem srep_loop (K : Nat) (hK : 5001 ≤ K) (evs : List Evt) (hn : evs.length ≤ 2000000) (hD : ∀ e ∈ evs, Bs e.2.2.2.2 ∧ e.2.2.2.2.length ≤ 2000000) : ∀ (d k i : Nat) (s : RSt), i + d = evs.length → d < k → Sml s.1 →
    spec_ReplayRing.l0 K k evs (i : Int) 0 false s.1 s.2 false = some (repS (rep (evs.drop i) s)) := by
  intro d
  induction d with
  | zero =>
    intro k i s hi hk hs
    obtain ⟨k, rfl⟩ : ∃ m, k = m + 1 := ⟨k - 1, by omega⟩
    rw [spec_ReplayRing.l0_eq, if_neg (by omega), List.drop_of_length_le (by omega)]
    rfl
  | succ d ih =>
    intro k i s hi hk hs
    obtain ⟨k, rfl⟩ : ∃ m, k = m + 1 := ⟨k - 1, by omega⟩
    have hlt : i < evs.length := by omega
    obtain ⟨hb, hl⟩ := hD _ (List.getElem_mem hlt)
    rw [drop_cons evs i hlt]
    simp only [rep]
    rw [spec_ReplayRing.l0_eq, if_pos (by omega), if_pos (by omega), if_pos (by omega), rdE evs i hlt, sdo_f _ hb hl s hs K (by omega), bs, not_ite]
    cases ho : doR evs[i] s with
    | none => rfl
    | some s' =>
      show (if true = true then spec_ReplayRing.l0 K k evs (wrap64 ((i : Int) + 1)) 0 false s'.1 s'.2 false else _) = _
      rw [if_pos rfl, wrap_next hlt (by omega), ih k (i + 1) s' (by omega) (by omega) (doR_sml hs ho)]
theorem srep_f (evs : List Evt) (hn : evs.length ≤ 2000000) (hD : ∀ e ∈ evs, Bs e.2.2.2.2 ∧ e.2.2.2.2.length ≤ 2000000) (k : Nat) (hk : 2000010 ≤ k) : spec_ReplayRing.f k evs = some (repS (repO evs)) := by
  obtain ⟨k, rfl⟩ : ∃ m, k = m + 1 := ⟨k - 1, by omega⟩
  rw [spec_ReplayRing.f_eq]
  unfold repO
  by_cases c : (evs.length : Int) > 4096
  · rw [if_pos c, if_neg (by omega)]; rfl
  · have := srep_loop k (by omega) evs hn hD evs.length k 0 ([], 0) (by omega) (by omega) sml_nil
    rw [if_neg c, if_pos (by omega)]
    simpa using this
/-! ### the next id -/
def nxt : List Evt → Int → Int
  | [], g => g
  | e :: l, g => nxt l (if e.1 = 2 ∧ e.2.2.1 > g then e.2.2.1 else g)
def nid (evs : List Evt) : Int := match repO evs with
  | some _ => wrap64 (nxt evs 0 + 1)
  | none => -1
end Go.Vm.Pu
namespace Go.Vm.Pu
open Go Go.RowKit Go.Vm
set_option linter.unusedVariables false
set_option linter.unusedSimpArgs false
def markTk : Int → List Tk → List Tk
  | _, [] => []
  | m, e :: l => (m, m + 1) :: markTk (m + 1 + 1) l
theorem markTk_length : ∀ (l : List Tk) (m : Int), (markTk m l).length = l.length
  | [], m => rfl
  | e :: l, m => by simp [markTk, markTk_length l]
theorem rd_setT (l : List Tk) (i : Nat) (h : i < l.length) (x : Tk) : rd TkT (l.set (Int.toNat (i : Int)) x) (i : Int) = x := by
  rw [rdT _ i (by simpa using h)]; simp
def flTot : List Fl → Int
  | [] => 0
  | e :: l => 3 + 2 * (e.2.2.2.length : Int) + flTot l
theorem flTot_pos : ∀ l, 0 ≤ flTot l
  | [] => by simp [flTot]
  | e :: l => by have := flTot_pos l; simp only [flTot]; omega
def markFl : Int → List Fl → List Fl
  | _, [] => []
  | m, e :: l => (m, m + 1, m + 1 + 1, markTk (m + 1 + 1 + 1) e.2.2.2) :: markFl (m + 1 + 1 + 1 + 2 * (e.2.2.2.length : Int)) l
theorem markFl_length : ∀ (l : List Fl) (m : Int), (markFl m l).length = l.length
  | [], m => rfl
  | e :: l, m => by simp [markFl, markFl_length l]
theorem flTot_le : ∀ (l : List Fl), (∀ e ∈ l, e.2.2.2.length ≤ 100) → flTot l ≤ 203 * (l.length : Int)
  | [], _ => by simp [flTot]
  | e :: l, h => by
    have h1 := flTot_le l fun x hx => h x (List.mem_cons_of_mem _ hx)
    have h2 := h e (by simp)
    simp only [flTot, List.length_cons]
    omega
theorem rep_sml : ∀ (l : List Evt) (s s' : RSt), Sml s.1 → rep l s = some s' → Sml s'.1
  | [], s, s', hs, h => by cases h; exact hs
  | e :: l, s, s', hs, h => by
    simp only [rep] at h
    cases ho : doR e s with
    | none => rw [ho] at h; cases h
    | some s1 =>
      rw [ho] at h
      exact rep_sml l s1 s' (doR_sml hs ho) h
def flO (o : Option RSt) : List Fl := match o with
  | some s => s.1
  | none => []
theorem repI_is (o : Option RSt) : repI o = (0, false, o.isSome, flO o) := by cases o <;> rfl
theorem repS_is (o : Option RSt) : repS o = (flO o, 0, false, o.isSome) := by cases o <;> rfl
theorem repO_sml (evs : List Evt) : Sml (flO (repO evs)) := by
  cases h : repO evs with
  | none => exact sml_nil
  | some s =>
    unfold repO at h
    split at h
    · exact rep_sml evs _ s sml_nil h
    · cases h
theorem iring_all (evs : List Evt) (hn : evs.length ≤ 2000000) (hD : ∀ e ∈ evs, Bs e.2.2.2.2 ∧ e.2.2.2.2.length ≤ 2000000) (k : Nat) (hk : 2000020 ≤ k) : impl_ReplayRing.f k evs = some (0, false, (repO evs).isSome, flO (repO evs)) := by
  obtain ⟨k, rfl⟩ : ∃ m, k = m + 1 := ⟨k - 1, by omega⟩
  rw [impl_ReplayRing.f_eq, irep_f evs hn hD k (by omega), bs, repI_is]
end Go.Vm.Pu
namespace Go.Vm.Pu
open Go Go.RowKit Go.Vm
set_option linter.unusedVariables false
set_option linter.unusedSimpArgs false
def dE : Evt := (0, 0, 0, 0, [])
/-- The last event of a ticket. -/
def findE (t id : Int) : List Evt → Evt → Evt
  | [], a => a
  | e :: l, a => findE t id l (if e.1 = 2 ∧ e.2.1 = t ∧ e.2.2.1 = id then e else a)
theorem findE_len (t id : Int) (B : Nat) : ∀ (l : List Evt) (a : Evt), a.2.2.2.2.length ≤ B → (∀ e ∈ l, e.2.2.2.2.length ≤ B) → (findE t id l a).2.2.2.2.length ≤ B
  | [], a, h, _ => h
  | e :: l, a, h, hD => by
    simp only [findE]
    split
    · exact findE_len t id B l e (hD e (by simp)) fun x hx => hD x (List.mem_cons_of_mem _ hx)
    · exact findE_len t id B l a h fun x hx => hD x (List.mem_cons_of_mem _ hx)
def cmpT (evs : List Evt) (t : Int) (l : List Tk) : List Evt := l.map fun tk => findE t tk.1 evs dE
def cmp (evs : List Evt) : List Fl → List Evt
  | [] => []
  | f :: l => (1, f.1, 0, f.2.1, []) :: (cmpT evs f.1 f.2.2.2 ++ cmp evs l)
theorem cmp_len (evs : List Evt) : ∀ (fl : List Fl), (∀ f ∈ fl, f.2.2.2.length ≤ 100) → (cmp evs fl).length ≤ 101 * fl.length
  | [], _ => by simp [cmp]
  | f :: l, h => by
    have h1 := cmp_len evs l fun x hx => h x (List.mem_cons_of_mem _ hx)
    have h2 := h f (by simp)
    simp only [cmp, cmpT, List.length_cons, List.length_append, List.length_map]
    omega
theorem cmp_data (evs : List Evt) (B : Nat) (hD : ∀ e ∈ evs, e.2.2.2.2.length ≤ B) : ∀ (fl : List Fl), ∀ e ∈ cmp evs fl, e.2.2.2.2.length ≤ B
  | [], e, he => by cases he
  | f :: l, e, he => by
    simp only [cmp] at he
    rcases List.mem_cons.1 he with rfl | he
    · simp
    rcases List.mem_append.1 he with he | he
    · unfold cmpT at he
      obtain ⟨tk, _, rfl⟩ := List.mem_map.1 he
      exact findE_len _ _ B evs dE (by simp [dE]) hD
    · exact cmp_data evs B hD l e he
theorem sbytes_f (l : List Int) (hn : l.length ≤ 2000000) (k : Nat) (hk : l.length + 1 < k) : spec_l01Bytes.f k l = some l := by
  obtain ⟨k, rfl⟩ : ∃ m, k = m + 1 := ⟨k - 1, by omega⟩
  rw [spec_l01Bytes.f_eq]
  have := append_loop (fun fu s i => spec_l01Bytes.l0 k fu l i s) l id 0 [] (by
    intro fu s _
    simp only [spec_l01Bytes.l0_eq]
    rw [if_neg (by omega)]) (by
    intro fu i s h _ hs
    simp only [spec_l01Bytes.l0_eq]
    simp only [List.length_nil, Nat.zero_add] at hs
    rw [if_pos (by omega), if_pos (by omega), if_pos (by omega), if_pos (by omega), rd_at l i h, wrap_next h (by omega)]
    rfl) k (by omega)
  simpa using this
section
variable (evs : List Evt) (hn : evs.length ≤ 2000000) (hD : ∀ e ∈ evs, e.2.2.2.2.length ≤ 2000000)
include hn hD
theorem ic2 (K F0 F1 : Nat) (t24 t25 : Int) (t39 : List Tk) (t40 t41 : Int) (f0 f1 f2 : Int) (f3 : List Tk) (t0 t1 : Int) (fl : List Fl) (out : List Evt) (ho : out.length ≤ 1000000) : ∀ (d k m : Nat) (a : Evt), m + d = evs.length → d < k → a.2.2.2.2.length ≤ 2000000 →
    impl_CompactLog.l2 K F0 F1 k evs t24 t25 t39 t40 t41 evs (evs.length : Int) (m : Int) out f0 f1 f2 f3 t0 t1 a.1 a.2.1 a.2.2.1 a.2.2.2.1 a.2.2.2.2 fl =
      impl_CompactLog.l1 K F0 F1 evs t24 t25 t39 t40 (wrap64 (t41 + 1)) (out ++ [findE f0 t0 (evs.drop m) a]) f0 f1 f2 f3 fl := by
  intro d
  induction d with
  | zero =>
    intro k m a hi hk ha
    obtain ⟨k, rfl⟩ : ∃ q, k = q + 1 := ⟨k - 1, by omega⟩
    rw [impl_CompactLog.l2_eq, if_neg (by omega), if_pos (by omega), if_pos (by omega), List.drop_of_length_le (by omega), List.nil_append]
    rfl
  | succ d ih =>
    intro k m a hi hk ha
    obtain ⟨k, rfl⟩ : ∃ q, k = q + 1 := ⟨k - 1, by omega⟩
    have hlt : m < evs.length := by omega
    have hl := hD _ (List.getElem_mem hlt)
    rw [impl_CompactLog.l2_eq, if_pos (by omega), if_pos (by omega), if_pos (by omega), rdE evs m hlt, wrap_next hlt (by omega), ih k (m + 1) evs[m] (by omega) (by omega) hl, ih k (m + 1) a (by omega) (by omega) ha, drop_cons evs m hlt]
    simp only [findE]
    by_cases c1 : evs[m].1 = 2
    · rw [if_pos c1]
      by_cases c2 : evs[m].2.1 = f0
      · rw [if_pos c2]
        by_cases c3 : evs[m].2.2.1 = t0
        · rw [if_pos c3, if_pos ⟨c1, c2, c3⟩]
        · rw [if_neg c3, if_neg (fun h => c3 h.2.2)]
      · rw [if_neg c2, if_neg (fun h => c2 h.2.1)]
    · rw [if_neg c1, if_neg (fun h => c1 h.1)]
theorem ic1 (K F0 : Nat) (hK : 2000002 ≤ K) (t24 t25 : Int) (f : Fl) (hl : f.2.2.2.length ≤ 100) (fl : List Fl) : ∀ (d k j : Nat) (out : List Evt), j + d = f.2.2.2.length → d < k → out.length + d ≤ 900000 →
    impl_CompactLog.l1 K F0 k evs t24 t25 f.2.2.2 (f.2.2.2.length : Int) (j : Int) out f.1 f.2.1 f.2.2.1 f.2.2.2 fl = impl_CompactLog.l0 K F0 evs t24 (wrap64 (t25 + 1)) (out ++ cmpT evs f.1 (f.2.2.2.drop j)) fl := by
  intro d
  induction d with
  | zero =>
    intro k j out hi hk ho
    obtain ⟨k, rfl⟩ : ∃ q, k = q + 1 := ⟨k - 1, by omega⟩
    rw [impl_CompactLog.l1_eq, if_neg (by omega), List.drop_of_length_le (by omega)]
    simp [cmpT]
  | succ d ih =>
    intro k j out hi hk ho
    obtain ⟨k, rfl⟩ : ∃ q, k = q + 1 := ⟨k - 1, by omega⟩
    have hlt : j < f.2.2.2.length := by omega
    rw [impl_CompactLog.l1_eq, if_pos (by omega), if_pos (by omega), if_pos (by omega), rdT _ j hlt]
    refine (ic2 evs hn hD K F0 k t24 t25 f.2.2.2 (f.2.2.2.length : Int) (j : Int) f.1 f.2.1 f.2.2.1 f.2.2.2 f.2.2.2[j].1 f.2.2.2[j].2 fl out (by omega) evs.length K 0 dE (by omega) (by omega) (by simp [dE])).trans ?_
    rw [wrap_next hlt (by omega), ih k (j + 1) _ (by omega) (by omega) (by simp; omega), drop_cons _ j hlt, List.drop_zero]
    simp only [cmpT, List.map_cons, List.append_assoc, List.singleton_append]
theorem ic0 (K : Nat) (hK : 2000002 ≤ K) (fl : List Fl) (hs : Sml fl) : ∀ (d k i : Nat) (out : List Evt), i + d = fl.length → d < k → out.length + 101 * d ≤ 800000 →
    impl_CompactLog.l0 K k evs (fl.length : Int) (i : Int) out fl = some (true, out ++ cmp evs (fl.drop i)) := by
  intro d
  have hnf := hs.1
  induction d with
  | zero =>
    intro k i out hi hk ho
    obtain ⟨k, rfl⟩ : ∃ q, k = q + 1 := ⟨k - 1, by omega⟩
    rw [impl_CompactLog.l0_eq, if_neg (by omega), List.drop_of_length_le (by omega)]
    simp [cmp]
  | succ d ih =>
    intro k i out hi hk ho
    obtain ⟨k, rfl⟩ : ∃ q, k = q + 1 := ⟨k - 1, by omega⟩
    have hlt : i < fl.length := by omega
    have hl := hs.2 _ (List.getElem_mem hlt)
    have h1 := ic1 evs hn hD K k hK (fl.length : Int) (i : Int) fl[i] hl fl fl[i].2.2.2.length K 0 (out ++ [(1, fl[i].1, 0, fl[i].2.1, [])]) (by omega) (by omega) (by simp; omega)
    rw [show ((0 : Nat) : Int) = 0 from rfl, List.drop_zero] at h1
    rw [impl_CompactLog.l0_eq, if_pos (by omega), if_pos (by omega), if_pos (by omega), if_pos (by omega), rdF fl i hlt, h1, wrap_next hlt (by omega), ih k (i + 1) _ (by omega) (by omega) (by simp [cmpT]; omega), drop_cons fl i hlt]
    simp only [cmp, List.append_assoc, List.cons_append, List.nil_append]
end
def cmpO (evs : List Evt) : Bool × List Evt := match repO evs with
  | some s => (true, cmp evs s.1)
  | none => (false, [])
theorem icmp_f (evs : List Evt) (hn : evs.length ≤ 2000000) (hE : ∀ e ∈ evs, Bs e.2.2.2.2 ∧ e.2.2.2.2.length ≤ 2000000) (k : Nat) (hk : 2000050 ≤ k) : impl_CompactLog.f k evs = some (cmpO evs) := by
  obtain ⟨k, rfl⟩ : ∃ m, k = m + 1 := ⟨k - 1, by omega⟩
  have hs := repO_sml evs
  rw [impl_CompactLog.f_eq, irep_f evs hn hE k (by omega), bs, not_ite]
  unfold cmpO
  cases h : repO evs with
  | none => rfl
  | some s =>
    rw [h] at hs
    have hs : Sml s.1 := hs
    have hl := hs.1
    have := ic0 evs hn (fun e he => (hE e he).2) k (by omega) s.1 hs s.1.length k 0 [] (by omega) (by omega) (by simp; omega)
    show (if true = true then impl_CompactLog.l0 k k evs (s.1.length : Int) 0 [] s.1 else _) = _
    rw [if_pos rfl]
    simpa using this
end Go.Vm.Pu
namespace Go.Vm.Pu
open Go Go.RowKit Go.Vm
set_option linter.unusedVariables false
set_option linter.unusedSimpArgs false
def mkI (a : Int) : Nat → List Int
  | 0 => []
  | n + 1 => a :: mkI (a + 1) n
theorem mkI_length (n : Nat) : ∀ a, (mkI a n).length = n := by
  induction n with
  | zero => intro a; rfl
  | succ n ih => intro a; simp [mkI, ih]
end Go.Vm.Pu
namespace Go.Vm.Pu
open Go Go.RowKit Go.Vm
set_option linter.unusedVariables false
set_option linter.unusedSimpArgs false
abbrev Hd := Int × Int × Int × Int × List Int × List Int × Int
abbrev HdT : Ty := .pair (.int .i64) (.pair (.int .i64) (.pair (.int .i64) (.pair (.int .i64) (.pair (.row (.int .i64)) (.pair (.row (.int .i64)) (.int .i64))))))
theorem rdH (l : List Hd) (i : Nat) (h : i < l.length) : rd HdT l (i : Int) = l[i] := by
  simp [rd, List.getD, h]
theorem rd_setH (l : List Hd) (i : Nat) (h : i < l.length) (x : Hd) : rd HdT (l.set (Int.toNat (i : Int)) x) (i : Int) = x := by
  rw [rdH _ i (by simpa using h)]; simp
def doneB (e x : Evt) : Bool := decide ((x.1 = 3 ∨ x.1 = 4) ∧ x.2.1 = e.2.1 ∧ x.2.2.1 = e.2.2.1)
def heldOf (e : Evt) : Hd := (e.2.1, e.2.2.1, (dj e.2.2.2.2).1, (dj e.2.2.2.2).2.1, (dj e.2.2.2.2).2.2.1, (dj e.2.2.2.2).2.2.2.1, (dj e.2.2.2.2).2.2.2.2.1)
def pend : List Evt → List Hd
  | [] => []
  | e :: l => if e.1 = 2 ∧ l.any (doneB e) = false then heldOf e :: pend l else pend l
theorem pend_len : ∀ l, (pend l).length ≤ l.length
  | [] => Nat.le_refl _
  | e :: l => by
    have := pend_len l
    simp only [pend]
    split <;> simp <;> omega
theorem pend_mem : ∀ l, ∀ h ∈ pend l, ∃ e ∈ l, h = heldOf e
  | [], h, hh => by cases hh
  | e :: l, h, hh => by
    simp only [pend] at hh
    split at hh
    · rcases List.mem_cons.1 hh with rfl | hh
      · exact ⟨e, by simp, rfl⟩
      · obtain ⟨x, hx, rfl⟩ := pend_mem l h hh
        exact ⟨x, List.mem_cons_of_mem _ hx, rfl⟩
    · obtain ⟨x, hx, rfl⟩ := pend_mem l h hh
      exact ⟨x, List.mem_cons_of_mem _ hx, rfl⟩
theorem heldOf_small (e : Evt) : (heldOf e).2.2.2.2.1.length ≤ 400 ∧ (heldOf e).2.2.2.2.2.1.length ≤ 400 := (dj_ok e.2.2.2.2).2
theorem idone_f (e x : Evt) (k : Nat) (hk : 1 ≤ k) : impl_PendingOf_1.f k x.1 x.2.1 x.2.2.1 x.2.2.2.1 x.2.2.2.2 e.1 e.2.1 e.2.2.1 e.2.2.2.1 e.2.2.2.2 = some (doneB e x, e.1, e.2.1, e.2.2.1, e.2.2.2.1, e.2.2.2.2) := by
  obtain ⟨k, rfl⟩ : ∃ m, k = m + 1 := ⟨k - 1, by omega⟩
  rw [impl_PendingOf_1.f_eq]
  unfold doneB
  by_cases c1 : x.1 = 3
  · rw [if_pos c1]
    by_cases c2 : x.2.1 = e.2.1
    · rw [if_pos c2]
      congr 2
      simp only [decide_eq_decide]
      exact ⟨fun h => ⟨.inl c1, c2, h⟩, fun h => h.2.2⟩
    · rw [if_neg c2, decide_eq_false (fun h => c2 h.2.1)]
  · rw [if_neg c1]
    by_cases c3 : x.1 = 4
    · rw [if_pos c3]
      by_cases c2 : x.2.1 = e.2.1
      · rw [if_pos c2]
        congr 2
        simp only [decide_eq_decide]
        exact ⟨fun h => ⟨.inr c3, c2, h⟩, fun h => h.2.2⟩
      · rw [if_neg c2, decide_eq_false (fun h => c2 h.2.1)]
    · rw [if_neg c3, decide_eq_false (fun h => h.1.elim c1 c3)]
theorem ix_any {α : Type} (p : α → Bool) : ∀ (l : List α) (i : Nat), decide (ixOf p l i ≥ 0) = l.any p
  | [], i => by simp [ixOf]
  | a :: l, i => by
    rw [show ixOf p (a :: l) i = if p a = true then (i : Int) else ixOf p l (i + 1) from rfl, List.any_cons]
    by_cases h : p a = true
    · rw [if_pos h, h, Bool.true_or]
      exact decide_eq_true (by omega)
    · rw [if_neg h, show p a = false by simpa using h, Bool.false_or]
      exact ix_any p l (i + 1)
theorem iany_loop (K : Nat) (hK : 1 ≤ K) (s0 : List Evt) (hn : s0.length ≤ 2000000) (e : Evt) : ∀ (d k i : Nat), i + d = s0.length → d < k →
    slices_IndexFunc_Event.l0 K k s0 (s0.length : Int) (i : Int) e.1 e.2.1 e.2.2.1 e.2.2.2.1 e.2.2.2.2 = some (ixOf (doneB e) (s0.drop i) i, e.1, e.2.1, e.2.2.1, e.2.2.2.1, e.2.2.2.2) := by
  intro d
  induction d with
  | zero =>
    intro k i hi hk
    obtain ⟨k, rfl⟩ : ∃ m, k = m + 1 := ⟨k - 1, by omega⟩
    rw [slices_IndexFunc_Event.l0_eq, if_neg (by omega), List.drop_of_length_le (by omega)]
    rfl
  | succ d ih =>
    intro k i hi hk
    obtain ⟨k, rfl⟩ : ∃ m, k = m + 1 := ⟨k - 1, by omega⟩
    have hlt : i < s0.length := by omega
    rw [slices_IndexFunc_Event.l0_eq, if_pos (by omega), if_pos (by omega), if_pos (by omega), rdE s0 i hlt, idone_f e s0[i] K hK, bs]
    simp only
    rw [wrap_next hlt (by omega), ih k (i + 1) (by omega) (by omega), drop_cons s0 i hlt]
    simp only [ixOf]
    cases doneB e s0[i] with
    | true => rw [if_pos rfl, if_pos rfl]
    | false => rw [if_neg (by decide), if_neg (by decide)]
theorem iany_f (s0 : List Evt) (hn : s0.length ≤ 2000000) (e : Evt) (k : Nat) (hk : s0.length + 3 < k) :
    slices_ContainsFunc_Event.f k s0 e.1 e.2.1 e.2.2.1 e.2.2.2.1 e.2.2.2.2 = some (s0.any (doneB e), e.1, e.2.1, e.2.2.1, e.2.2.2.1, e.2.2.2.2) := by
  obtain ⟨k, rfl⟩ : ∃ m, k = m + 1 := ⟨k - 1, by omega⟩
  obtain ⟨k, rfl⟩ : ∃ m, k = m + 1 := ⟨k - 1, by omega⟩
  have := iany_loop k (by omega) s0 hn e s0.length k 0 (by omega) (by omega)
  rw [show ((0 : Nat) : Int) = 0 from rfl, List.drop_zero] at this
  rw [slices_ContainsFunc_Event.f_eq, slices_IndexFunc_Event.f_eq, this, bs]
  simp only
  rw [ix_any]
section
variable (evs : List Evt) (hn : evs.length ≤ 2000000) (hE : ∀ e ∈ evs, Bs e.2.2.2.2 ∧ e.2.2.2.2.length ≤ 2000000)
include hn hE
theorem ipend_loop (K : Nat) (hK : 2000010 ≤ K) : ∀ (d k i : Nat) (out : List Hd), i + d = evs.length → d < k → out.length + d ≤ 5000000 →
    impl_PendingOf.l0 K k evs evs (evs.length : Int) (i : Int) out = some (true, out ++ pend (evs.drop i)) := by
  intro d
  induction d with
  | zero =>
    intro k i out hi hk ho
    obtain ⟨k, rfl⟩ : ∃ m, k = m + 1 := ⟨k - 1, by omega⟩
    rw [impl_PendingOf.l0_eq, if_neg (by omega), List.drop_of_length_le (by omega)]
    simp [pend]
  | succ d ih =>
    intro k i out hi hk ho
    obtain ⟨k, rfl⟩ : ∃ m, k = m + 1 := ⟨k - 1, by omega⟩
    have hlt : i < evs.length := by omega
    obtain ⟨hb, hl⟩ := hE _ (List.getElem_mem hlt)
    have hcut : cut evs ((i + 1 : Nat) : Int) (evs.length : Int) = evs.drop (i + 1) := by
      simp [cut]
    rw [impl_PendingOf.l0_eq, if_pos (by omega), if_pos (by omega), if_pos (by omega), rdE evs i hlt, wrap_next hlt (by omega), hcut, ih k (i + 1) out (by omega) (by omega) (by omega), drop_cons evs i hlt]
    simp only [pend]
    by_cases c1 : evs[i].1 = 2
    · rw [if_neg (by simpa using c1), if_pos (by omega), if_pos (by omega), iany_f (evs.drop (i + 1)) (by simp; omega) evs[i] K (by simp; omega), bs]
      simp only
      cases hd : (evs.drop (i + 1)).any (doneB evs[i]) with
      | true => rw [if_pos rfl, if_neg (by simp)]
      | false =>
        rw [if_neg (by decide), idecode_f _ hb hl K (by omega), bs, if_pos (by omega), ih k (i + 1) _ (by omega) (by omega) (by simp; omega), if_pos ⟨c1, rfl⟩, List.append_assoc]
        rfl
    · rw [if_pos (by simpa using c1), if_neg (fun h => c1 h.1)]
end
def pndO (evs : List Evt) : Bool × List Hd := match repO evs with
  | some s => (true, pend evs)
  | none => (false, [])
theorem ipnd_f (evs : List Evt) (hn : evs.length ≤ 2000000) (hE : ∀ e ∈ evs, Bs e.2.2.2.2 ∧ e.2.2.2.2.length ≤ 2000000) (k : Nat) (hk : 2000050 ≤ k) : impl_PendingOf.f k evs = some (pndO evs) := by
  obtain ⟨k, rfl⟩ : ∃ m, k = m + 1 := ⟨k - 1, by omega⟩
  rw [impl_PendingOf.f_eq, irep_f evs hn hE k (by omega), bs, not_ite]
  unfold pndO
  cases h : repO evs with
  | none => rfl
  | some s =>
    have := ipend_loop evs hn hE k (by omega) evs.length k 0 [] (by omega) (by omega) (by simp; omega)
    show (if true = true then impl_PendingOf.l0 k k evs evs (evs.length : Int) 0 [] else _) = _
    rw [if_pos rfl]
    simpa using this
end Go.Vm.Pu
namespace Go.Vm.Pu
open Go Go.RowKit Go.Vm
set_option linter.unusedVariables false
set_option linter.unusedSimpArgs false
section
variable (b : List Int) (hb : b.length ≤ 1048576)
include hb
theorem drawId_f (l : List Tk) (hl : l.length ≤ 100) (i h : Int) (hi : 0 ≤ i) (k : Nat) (hk : 5 ≤ k) : ∃ x i' h', spec_l13DrawId.f k l b i h = some (x, b, i', h') ∧ 0 ≤ i' := by
  obtain ⟨k, rfl⟩ : ∃ q, k = q + 1 := ⟨k - 1, by omega⟩
  have hj : ∀ (t : Bool) (i h : Int), 0 ≤ i → (t = true → 0 < l.length) → ∃ x i' h', spec_l13DrawId.j0 k t b i h l = some (x, b, i', h') ∧ 0 ≤ i' := fun t i h hi ht => by
    rw [spec_l13DrawId.j0_eq]
    cases t with
    | true =>
      have h0 := ht rfl
      rw [if_pos rfl]
      obtain ⟨x, i1, h1, e1, g0, g1, _, j1⟩ := below_f b hb (l.length : Int) i h hi k (by omega)
      have := g1 (by omega)
      simp only [e1, bs]
      rw [if_pos g0, if_pos this]
      exact ⟨_, _, _, rfl, j1⟩
    | false =>
      rw [if_neg (by decide)]
      obtain ⟨x, i1, h1, e1, _, j1⟩ := pick_f b hb [0, 1, 2, 3, (-1), 99] (by simp) i h hi k (by omega)
      simp only [e1, bs]
      exact ⟨_, _, _, rfl, j1⟩
  rw [spec_l13DrawId.f_eq]
  by_cases c : (l.length : Int) > 0
  · rw [if_pos c]
    obtain ⟨x, i1, h1, e1, j1⟩ := once_f b hb 5 i h hi k (by omega)
    simp only [e1, bs]
    exact hj _ _ _ j1 (fun _ => by omega)
  · rw [if_neg c]
    exact hj _ _ _ hi (fun h => by cases h)
def GoodE (e : Evt) : Prop := Bs e.2.2.2.2 ∧ e.2.2.2.2.length ≤ 1437
def DrE (b : List Int) (N : Nat) (r : Option (List Int × Int × Int × List Evt)) : Prop := ∃ i h out, r = some (b, i, h, out) ∧ 0 ≤ i ∧ (∀ e ∈ out, GoodE e) ∧ out.length ≤ N
theorem drawEvs_l0 (K : Nat) (hK : 200030 ≤ K) (N : Nat) (hN : N ≤ 100) : ∀ (d k m : Nat) (id i h : Int) (out : List Evt) (s : RSt), m + d = N → d < k → 0 ≤ i → Sml s.1 → (∀ e ∈ out, GoodE e) → out.length ≤ m →
    DrE b N (spec_l18DrawEvents.l0 K k (N : Int) id (m : Int) b i h out s.1 s.2 false) := by
  intro d
  induction d with
  | zero =>
    intro k m id i h out s hm hk hi hs ho hl
    obtain ⟨k, rfl⟩ : ∃ q, k = q + 1 := ⟨k - 1, by omega⟩
    rw [spec_l18DrawEvents.l0_eq, if_neg (by omega)]
    exact ⟨_, _, _, rfl, hi, ho, by omega⟩
  | succ d ih =>
    intro k m id i h out s hm hk hi hs ho hl
    obtain ⟨k, rfl⟩ : ∃ q, k = q + 1 := ⟨k - 1, by omega⟩
    have hn := hs.1
    have J4 : ∀ (t : Bool) (id i h : Int) (e : Evt) (s' : RSt), 0 ≤ i → GoodE e → Sml s'.1 → DrE b N (spec_l18DrawEvents.j4 K k (N : Int) id (m : Int) t b i h out s.1 s.2 false e.1 e.2.1 e.2.2.1 e.2.2.2.1 e.2.2.2.2 s'.1 s'.2 false) := fun t id i h e s' hi he hs' => by
      rw [spec_l18DrawEvents.j4_eq, wrap_next (show m < N by omega) (by omega)]
      cases t with
      | true =>
        rw [if_pos rfl, if_pos (by omega)]
        exact ih k (m + 1) id i h _ s' (by omega) (by omega) hi hs' (fun x hx => by
          rcases List.mem_append.1 hx with hx | hx
          · exact ho x hx
          · rw [List.mem_singleton] at hx
            rw [hx]
            exact he) (by simp; omega)
      | false =>
        rw [if_neg (by decide)]
        exact ih k (m + 1) id i h out s (by omega) (by omega) hi hs ho (by omega)
    have J0 : ∀ (id i h : Int) (e : Evt), 0 ≤ i → GoodE e → DrE b N (spec_l18DrawEvents.j0 K k (N : Int) id (m : Int) b i h out s.1 s.2 false e.1 e.2.1 e.2.2.1 e.2.2.2.1 e.2.2.2.2) := fun id i h e hi he => by
      have hE := he.2
      rw [spec_l18DrawEvents.j0_eq, sdo_f e he.1 (by omega) s hs K (by omega), bs]
      cases hd : doR e s with
      | some s' =>
        simp only [resD, if_true]
        exact J4 true id i h e s' hi he (doR_sml hs hd)
      | none =>
        simp only [resD, Bool.false_eq_true, if_false]
        obtain ⟨x, i1, h1, e1, j1⟩ := once_f b hb 60 i h hi K (by omega)
        simp only [e1, bs]
        exact J4 x id i1 h1 e s j1 he hs
    have nilG : ∀ a0 a1 a2 a3 : Int, GoodE (a0, a1, a2, a3, []) := fun a0 a1 a2 a3 => ⟨fun x hx => (by cases hx), by simp⟩
    have J3 : ∀ (t45 : Int) (t : Bool) (i h e0 e1 e2 e3 : Int) (f : Fl), 0 ≤ i → f.2.2.2.length ≤ 100 → DrE b N (spec_l18DrawEvents.j3 K k (N : Int) id (m : Int) t45 t b i h out s.1 s.2 false e0 e1 e2 e3 f.1 f.2.1 f.2.2.1 f.2.2.2) := fun t45 t i h e0 e1 e2 e3 f hi hf => by
      rw [spec_l18DrawEvents.j3_eq]
      cases t with
      | true =>
        rw [if_pos rfl]
        obtain ⟨x, i1, h1, q1, _, _, _, j1⟩ := below_f b hb 2 i h hi K (by omega)
        simp only [q1, bs]
        obtain ⟨y, i2, h2, q2, j2⟩ := drawId_f b hb f.2.2.2 hf i1 h1 j1 K (by omega)
        simp only [q2, bs]
        exact J0 id i2 h2 (wrap64 (3 + x), f.1, y, 0, []) j2 (nilG _ _ _ _)
      | false =>
        rw [if_neg (by decide)]
        by_cases c : t45 = 4
        · rw [if_pos c]
          exact J0 id i h (5, f.1, 0, 0, []) hi (nilG _ _ _ _)
        · rw [if_neg c]
          exact J0 id i h (e0, e1, e2, e3, []) hi (nilG _ _ _ _)
    have J2 : ∀ (t45 : Int) (t : Bool) (i h e0 e1 e2 e3 : Int) (f : Fl), 0 ≤ i → f.2.2.2.length ≤ 100 → DrE b N (spec_l18DrawEvents.j2 K k (N : Int) id (m : Int) t45 t b i h out s.1 s.2 false e0 e1 e2 e3 f.1 f.2.1 f.2.2.1 f.2.2.2) := fun t45 t i h e0 e1 e2 e3 f hi hf => by
      rw [spec_l18DrawEvents.j2_eq]
      cases t with
      | true =>
        rw [if_pos rfl]
        obtain ⟨x, i1, h1, q1, _, _, _, j1⟩ := below_f b hb 2 i h hi K (by omega)
        simp only [q1, bs]
        obtain ⟨c, i2, h2, D, q2, hD, hDl, j2⟩ := jobev_f b hb f.1 (wrap64 ((wrap64 (id + 1)) + x)) i1 h1 j1 K (by omega)
        simp only [q2, bs]
        exact J0 _ i2 h2 (2, f.1, wrap64 ((wrap64 (id + 1)) + x), c, D) j2 ⟨hD, hDl⟩
      | false =>
        rw [if_neg (by decide)]
        by_cases c : t45 = 2
        · rw [if_pos c]
          exact J3 _ _ _ _ _ _ _ _ f hi hf
        · rw [if_neg c]
          exact J3 _ _ _ _ _ _ _ _ f hi hf
    have J1 : ∀ (t : Bool) (i h e0 e1 e2 e3 : Int), 0 ≤ i → (t = true → 0 < s.1.length) → DrE b N (spec_l18DrawEvents.j1 K k (N : Int) id (m : Int) t b i h out s.1 s.2 false e0 e1 e2 e3) := fun t i h e0 e1 e2 e3 hi ht => by
      rw [spec_l18DrawEvents.j1_eq]
      cases t with
      | true =>
        have h0 := ht rfl
        rw [if_pos rfl]
        obtain ⟨x, i1, h1, q1, g0, g1, _, j1⟩ := below_f b hb (s.1.length : Int) i h hi K (by omega)
        have hx := g1 (by omega)
        obtain ⟨n, rfl⟩ := Int.eq_ofNat_of_zero_le g0
        simp only [q1, bs]
        rw [if_pos g0, if_pos hx, rdFD]
        obtain ⟨y, i2, h2, q2, _, _, _, j2⟩ := below_f b hb 5 i1 h1 j1 K (by omega)
        simp only [q2, bs]
        have hf := hs.at n
        by_cases c : y = 0
        · rw [if_pos c]
          exact J2 _ _ _ _ _ _ _ _ _ j2 hf
        · rw [if_neg c]
          exact J2 _ _ _ _ _ _ _ _ _ j2 hf
      | false =>
        rw [if_neg (by decide)]
        exact J0 id i h (e0, e1, e2, e3, []) hi (nilG _ _ _ _)
    rw [spec_l18DrawEvents.l0_eq, if_pos (by omega)]
    obtain ⟨x, i1, h1, q1, _, _, _, j1⟩ := below_f b hb 6 i h hi K (by omega)
    simp only [q1, bs]
    obtain ⟨y, i2, h2, q2, _, _, _, j2⟩ := below_f b hb 400 i1 h1 j1 K (by omega)
    simp only [q2, bs]
    by_cases c : (s.1.length : Int) > 0
    · rw [if_pos c]
      obtain ⟨z, i3, h3, q3, j3⟩ := once_f b hb 5 i2 h2 j2 K (by omega)
      simp only [q3, bs]
      exact J1 _ _ _ _ _ _ _ j3 (fun _ => by omega)
    · rw [if_neg c]
      exact J1 _ _ _ _ _ _ _ j2 (fun h => by cases h)
theorem drawEvs_f (k : Nat) (hk : 1048700 ≤ k) : ∃ evs, spec_l18Events.f k b = some evs ∧ (∀ e ∈ evs, GoodE e) ∧ evs.length ≤ 39 := by
  obtain ⟨k, rfl⟩ : ∃ q, k = q + 1 := ⟨k - 1, by omega⟩
  rw [spec_l18Events.f_eq]
  obtain ⟨h0, q0⟩ := new_f b hb k (by omega)
  simp only [q0, bs]
  obtain ⟨n, q1, n1, n2⟩ := size_f b hb 40 (by omega) k (by omega)
  simp only [q1, bs]
  obtain ⟨x, i1, h1, q2, g0, g1, _, j1⟩ := below_f b hb n 0 h0 (by omega) k (by omega)
  have hx := g1 (by omega)
  simp only [q2, bs]
  obtain ⟨N, rfl⟩ := Int.eq_ofNat_of_zero_le g0
  obtain ⟨k, rfl⟩ : ∃ q, k = q + 1 := ⟨k - 1, by omega⟩
  rw [spec_l18DrawEvents.f_eq]
  obtain ⟨i2, h2, out, q3, _, ho, hl⟩ := drawEvs_l0 b hb k (by omega) N (by omega) N k 0 0 i1 h1 [] ([], 0) (by omega) (by omega) j1 sml_nil (fun e he => (by cases he)) (by simp)
  have q3' : spec_l18DrawEvents.l0 k k (N : Int) 0 0 b i1 h1 [] [] 0 false = some (b, i2, h2, out) := q3
  rw [q3', bs]
  exact ⟨out, rfl, ho, by omega⟩
end
end Go.Vm.Pu
namespace Go.Vm.Pu
open Go Go.RowKit Go.Vm
set_option linter.unusedVariables false
set_option linter.unusedSimpArgs false
/-! ### validity without places -/
theorem lineB_iff (l : List Tk) : lineB l = true ↔ l.length ≤ 40 ∧ (∀ t ∈ l, tkB t = true) ∧ l.Pairwise (fun a b => a.1 < b.1) := by
  constructor
  · intro h
    refine ⟨line_len h, fun t ht => ?_, ?_⟩
    · obtain ⟨i, hi, rfl⟩ := List.mem_iff_getElem.1 ht
      unfold lineB at h
      simp only [Bool.and_eq_true, decide_eq_true_eq] at h
      have := okF_iff.1 h.2 i (by omega) (by omega)
      unfold lnB at this
      simp only [Bool.and_eq_true] at this
      have e : l.getD i (0, 0) = l[i] := by simp [List.getD, hi]
      rw [e] at this
      exact this.1
    · rw [List.pairwise_iff_getElem]
      intro i j hi hj hij
      exact line_inc h (j - i - 1) i j hj (by omega)
  · rintro ⟨h1, h2, h3⟩
    unfold lineB
    simp only [Bool.and_eq_true, decide_eq_true_eq]
    refine ⟨h1, okF_iff.2 fun j _ hj => ?_⟩
    simp only [Nat.zero_add] at hj
    unfold lnB
    simp only [Bool.and_eq_true, Bool.or_eq_true, decide_eq_true_eq]
    have e : l.getD j (0, 0) = l[j] := by simp [List.getD, hj]
    rw [e]
    refine ⟨h2 _ (List.getElem_mem hj), ?_⟩
    by_cases c : j = 0
    · exact .inl c
    · right
      have e' : l.getD (j - 1) (0, 0) = l[j - 1]'(by omega) := by simp [List.getD, show j - 1 < l.length by omega]
      rw [e']
      exact List.pairwise_iff_getElem.1 h3 (j - 1) j (by omega) hj (by omega)
/-- A flow by itself. -/
def flowB (f : Fl) : Prop := (0 ≤ f.1 ∧ f.1 ≤ 99 ∧ 100 ≤ f.2.1 ∧ f.2.1 ≤ 100000) ∧ lineB f.2.2.2 = true ∧ 0 ≤ f.2.2.1 ∧ f.2.2.1 ≤ 199999 ∧ (f.2.2.2.length = 0 → f.2.2.1 = 0)
theorem flB_iff (fl : List Fl) (i : Nat) (hi : i < fl.length) : flB fl i = true ↔ flowB fl[i] ∧ (0 < i → (fl.getD (i - 1) dF).1 < fl[i].1) := by
  unfold flB flowB
  have e : fl.getD i dF = fl[i] := by simp [List.getD, hi]
  rw [e]
  simp only [Bool.and_eq_true, Bool.or_eq_true, decide_eq_true_eq]
  constructor
  · rintro ⟨h1, h2, h3, h4⟩
    exact ⟨⟨h1, h2, h4⟩, fun h0 => h3.resolve_left (by omega)⟩
  · rintro ⟨⟨h1, h2, h4⟩, h3⟩
    refine ⟨h1, h2, ?_, h4⟩
    by_cases c : i = 0
    · exact .inl c
    · exact .inr (h3 (by omega))
theorem ring_inc {fl : List Fl} (h : ∀ i, i < fl.length → flB fl i = true) : ∀ (d i j : Nat) (hj : j < fl.length) (hij : i + d + 1 = j), (fl[i]'(by omega)).1 < fl[j].1 := by
  have nx : ∀ j, (hj : j + 1 < fl.length) → (fl[j]'(by omega)).1 < fl[j + 1].1 := fun j hj => by
    have := ((flB_iff fl (j + 1) hj).1 (h (j + 1) hj)).2 (by omega)
    have e2 : fl.getD (j + 1 - 1) dF = fl[j]'(by omega) := by simp [List.getD, show j < fl.length by omega]
    rw [e2] at this
    exact this
  intro d
  induction d with
  | zero =>
    intro i j hj hij
    obtain rfl : j = i + 1 := by omega
    exact nx i hj
  | succ d ih =>
    intro i j hj hij
    obtain ⟨m, rfl⟩ : ∃ m, j = m + 1 := ⟨j - 1, by omega⟩
    have h1 := ih i m (by omega) (by omega)
    have h2 := nx m hj
    omega
theorem ringB_iff (fl : List Fl) (t : Int) : ringB fl t = true ↔ (fl.length ≤ 12 ∧ (fl.length = 0 → t = 0) ∧ (0 < fl.length → 0 ≤ t ∧ t < fl.length)) ∧ (∀ f ∈ fl, flowB f) ∧ fl.Pairwise (fun a b => a.1 < b.1) := by
  constructor
  · intro h
    obtain ⟨h1, h2, h3, h4⟩ := ring_facts h
    refine ⟨⟨h1, h2, h3⟩, fun f hf => ?_, ?_⟩
    · obtain ⟨i, hi, rfl⟩ := List.mem_iff_getElem.1 hf
      exact ((flB_iff fl i hi).1 (h4 i hi)).1
    · rw [List.pairwise_iff_getElem]
      intro i j hi hj hij
      exact ring_inc h4 (j - i - 1) i j hj (by omega)
  · rintro ⟨h1, h2, h3⟩
    unfold ringB
    simp only [Bool.and_eq_true, decide_eq_true_eq]
    refine ⟨h1, okF_iff.2 fun j _ hj => ?_⟩
    simp only [Nat.zero_add] at hj
    refine (flB_iff fl j hj).2 ⟨h2 _ (List.getElem_mem hj), fun h0 => ?_⟩
    have e' : fl.getD (j - 1) dF = fl[j - 1]'(by omega) := by simp [List.getD, show j - 1 < fl.length by omega]
    rw [e']
    exact List.pairwise_iff_getElem.1 h3 (j - 1) j (by omega) hj (by omega)
theorem delN_sub {α : Type} (l : List α) (n : Nat) : List.Sublist (delN l n) l := by
  unfold delN
  have h := (List.Sublist.refl (l.take n)).append ((List.drop_sublist 1 (l.drop n)))
  rw [List.drop_drop, Nat.add_comm] at h
  rw [Nat.add_comm n 1]
  simpa using h
theorem lineB_sub {l m : List Tk} (h : lineB l = true) (hs : List.Sublist m l) : lineB m = true := by
  obtain ⟨h1, h2, h3⟩ := (lineB_iff l).1 h
  exact (lineB_iff m).2 ⟨Nat.le_trans hs.length_le h1, fun t ht => h2 t (hs.subset ht), h3.sublist hs⟩
theorem pw_set {fl : List Fl} (h : fl.Pairwise (fun a b => a.1 < b.1)) (n : Nat) (hn : n < fl.length) (f : Fl) (hf : f.1 = fl[n].1) : (fl.set n f).Pairwise (fun a b => a.1 < b.1) := by
  have e : (fl.set n f).map (·.1) = fl.map (·.1) := by
    rw [List.map_set, hf]
    have : fl[n].1 = (fl.map (·.1))[n]'(by simpa using hn) := by simp
    rw [this, List.set_getElem_self]
  have h' : (fl.map (·.1)).Pairwise (· < ·) := List.pairwise_map.2 h
  rw [← e] at h'
  exact List.pairwise_map.1 h'
theorem ring_set {fl : List Fl} {t : Int} (h : ringB fl t = true) (n : Nat) (hn : n < fl.length) (f : Fl) (hf : f.1 = fl[n].1) (hB : flowB f) : ringB (fl.set n f) t = true := by
  obtain ⟨h1, h2, h3⟩ := (ringB_iff fl t).1 h
  refine (ringB_iff _ _).2 ⟨by rw [List.length_set]; exact h1, fun g hg => ?_, pw_set h3 n hn f hf⟩
  rcases List.mem_or_eq_of_mem_set hg with hg | rfl
  · exact h2 g hg
  · exact hB
theorem tenants_ne {fl : List Fl} (h : fl.Pairwise (fun a b => a.1 < b.1)) (i j : Nat) (hi : i < fl.length) (hj : j < fl.length) (hne : i ≠ j) : fl[i].1 ≠ fl[j].1 := by
  rcases Nat.lt_or_gt_of_ne hne with c | c
  · have := List.pairwise_iff_getElem.1 h i j hi hj c
    omega
  · have := List.pairwise_iff_getElem.1 h j i hj hi c
    omega
/-! ### the events of tickets -/
def hit (t id : Int) (e : Evt) : Prop := e.1 = 2 ∧ e.2.1 = t ∧ e.2.2.1 = id
instance (t id : Int) (e : Evt) : Decidable (hit t id e) := by unfold hit; exact inferInstance
theorem findE_snoc (t id : Int) (e : Evt) : ∀ (l : List Evt) (a : Evt), findE t id (l ++ [e]) a = if hit t id e then e else findE t id l a
  | [], a => rfl
  | x :: l, a => by
    simp only [List.cons_append, findE]
    exact findE_snoc t id e l _
theorem findE_in (t id : Int) : ∀ (l : List Evt) (a : Evt), findE t id l a = a ∨ (findE t id l a ∈ l ∧ hit t id (findE t id l a))
  | [], a => .inl rfl
  | x :: l, a => by
    simp only [findE]
    rcases findE_in t id l (if x.1 = 2 ∧ x.2.1 = t ∧ x.2.2.1 = id then x else a) with h | ⟨h1, h2⟩
    · rw [h]
      by_cases c : x.1 = 2 ∧ x.2.1 = t ∧ x.2.2.1 = id
      · rw [if_pos c]
        exact .inr ⟨by simp, c⟩
      · rw [if_neg c]
        exact .inl rfl
    · exact .inr ⟨List.mem_cons_of_mem _ h1, h2⟩
theorem findE_hit (t id : Int) : ∀ (l : List Evt) (a : Evt), ((∃ x ∈ l, hit t id x) ∨ hit t id a) → hit t id (findE t id l a)
  | [], a, h => by
    rcases h with ⟨x, hx, _⟩ | h
    · cases hx
    · exact h
  | x :: l, a, h => by
    simp only [findE]
    refine findE_hit t id l _ ?_
    by_cases c : x.1 = 2 ∧ x.2.1 = t ∧ x.2.2.1 = id
    · rw [if_pos c]
      exact .inr c
    · rw [if_neg c]
      rcases h with ⟨y, hy, hh⟩ | h
      · rcases List.mem_cons.1 hy with rfl | hy
        · exact absurd hh c
        · exact .inl ⟨y, hy, hh⟩
      · exact .inr h
/-! ### what stays true -/
def wait : List Fl → Nat
  | [] => 0
  | f :: l => f.2.2.2.length + wait l
theorem wait_app : ∀ a b : List Fl, wait (a ++ b) = wait a + wait b
  | [], b => by simp [wait]
  | f :: a, b => by simp only [List.cons_append, wait, wait_app a b]; omega
theorem wait_set (fl : List Fl) (n : Nat) (hn : n < fl.length) (f : Fl) : wait (fl.set n f) + fl[n].2.2.2.length = wait fl + f.2.2.2.length := by
  have e1 : fl = fl.take n ++ fl[n] :: fl.drop (n + 1) := by rw [← drop_cons fl n hn, List.take_append_drop]
  have e2 : fl.set n f = fl.take n ++ f :: fl.drop (n + 1) := by rw [List.set_eq_take_append_cons_drop, if_pos hn]
  have h1 : wait fl = wait (fl.take n) + (fl[n].2.2.2.length + wait (fl.drop (n + 1))) := by
    conv => lhs; rw [e1]
    rw [wait_app]; rfl
  rw [e2, wait_app, h1]
  simp only [wait]
  omega
structure Inv (done : List Evt) (s : RSt) : Prop where
  ring : ringB s.1 s.2 = true
  zero : ∀ f ∈ s.1, f.2.2.1 = 0
  ev : ∀ f ∈ s.1, ∀ tk ∈ f.2.2.2, ∃ D, findE f.1 tk.1 done dE = (2, f.1, tk.1, tk.2, D) ∧ EvP 2 f.1 tk.1 tk.2 D
  few : s.1.length + wait s.1 ≤ done.length
theorem inv_nil : Inv [] ([], 0) := ⟨by rfl, fun f hf => (by cases hf), fun f hf => (by cases hf), by simp [wait]⟩
theorem getD_at (fl : List Fl) (n : Nat) (h : n < fl.length) : fl.getD n dF = fl[n] := by simp [List.getD, h]
theorem inv_step {done : List Evt} {s s' : RSt} (e : Evt) (h : Inv done s) (hd : doR e s = some s') : Inv (done ++ [e]) s' := by
  obtain ⟨fl, turn⟩ := s
  obtain ⟨hr, hz, he, hf⟩ := h
  simp only at hr hz he hf
  obtain ⟨r1, r2, r3⟩ := (ringB_iff fl turn).1 hr
  unfold doR at hd
  split at hd
  case isFalse => cases hd
  rename_i hv
  -- events that are no jobs leave what is found
  have keep : e.1 ≠ 2 → ∀ t id, findE t id (done ++ [e]) dE = findE t id done dE := fun hn t id => by
    rw [findE_snoc, if_neg (fun hh => hn hh.1)]
  unfold stepR at hd
  dsimp only at hd
  split at hd
  · -- a flow added
    rename_i c1
    unfold addR at hd
    split at hd
    case isFalse => cases hd
    rename_i ha
    split at hd
    case isFalse => cases hd
    rename_i hb
    cases hd
    have hm : ∀ f ∈ addN fl e.2.1 e.2.2.2.1, f ∈ fl ∨ f = (e.2.1, e.2.2.2.1, 0, []) := fun f hf' => by
      unfold addN at hf'
      rcases List.mem_append.1 hf' with h | h
      · exact .inl (List.mem_of_mem_take h)
      · rcases List.mem_cons.1 h with h | h
        · exact .inr h
        · exact .inl (List.mem_of_mem_drop h)
    refine ⟨hb, fun f hf' => ?_, fun f hf' tk htk => ?_, ?_⟩
    · rcases hm f hf' with h | rfl
      · exact hz f h
      · rfl
    · rcases hm f hf' with h | rfl
      · rw [keep (by omega)]
        exact he f h tk htk
      · cases htk
    · have hp := posN_le e.2.1 fl
      have hw : wait (addN fl e.2.1 e.2.2.2.1) = wait fl := by
        conv => rhs; rw [← List.take_append_drop (posN e.2.1 fl) fl]
        unfold addN
        rw [wait_app, wait_app]
        simp [wait]
      simp only [hw, List.length_append, List.length_singleton]
      have : (addN fl e.2.1 e.2.2.2.1).length = fl.length + 1 := by simp [addN]; omega
      omega
  split at hd
  · -- a ticket pushed
    rename_i c1 c2
    unfold pushR at hd
    split at hd
    case isFalse => cases hd
    rename_i hc
    obtain ⟨_, h0, hline⟩ := hc
    cases hd
    rcases atF_is fl e.2.1 with ⟨hx, _⟩ | ⟨n, hn, hx, ht⟩
    · omega
    rw [hx] at h0 hline ⊢
    simp only [Int.toNat_natCast] at hline ⊢
    rw [getD_at fl n hn] at hline ⊢
    obtain ⟨b1, b2, b3, b4, b5⟩ := r2 _ (List.getElem_mem hn)
    have hnew := (lineB_iff _).1 hline
    have hinc := List.pairwise_append.1 hnew.2.2
    refine ⟨ring_set hr n hn _ rfl ⟨b1, hline, b3, b4, fun h => by simp [withT] at h⟩, fun f hf' => ?_, fun f hf' tk htk => ?_, ?_⟩
    · rcases List.mem_or_eq_of_mem_set hf' with h | rfl
      · exact hz f h
      · show fl[n].2.2.1 = 0
        exact hz _ (List.getElem_mem hn)
    · by_cases same : f = withT fl[n] (fl[n].2.2.2 ++ [(e.2.2.1, e.2.2.2.1)])
      · subst same
        simp only [withT] at htk ⊢
        rcases List.mem_append.1 htk with h | h
        · have hlt : tk.1 < e.2.2.1 := hinc.2.2 tk h (e.2.2.1, e.2.2.2.1) (by simp)
          rw [findE_snoc, if_neg (fun hh => by have := hh.2.2; omega)]
          exact he _ (List.getElem_mem hn) tk h
        · rw [List.mem_singleton] at h
          subst h
          refine ⟨e.2.2.2.2, ?_, ?_⟩
          · rw [findE_snoc, if_pos ⟨c2, ht.symm, rfl⟩]
            obtain ⟨a0, a1, a2, a3, D⟩ := e
            simp only at c2 ht ⊢
            rw [c2, ht]
          · rw [c2] at hv
            rw [ht]
            exact hv
      · have hmem : f ∈ fl ∧ f.1 ≠ e.2.1 := by
          obtain ⟨i, hi, rfl⟩ := List.mem_iff_getElem.1 hf'
          have hi' : i < fl.length := by simpa using hi
          by_cases c : i = n
          · subst c
            exact absurd (by simp) same
          · rw [List.getElem_set_ne (by omega)]
            refine ⟨List.getElem_mem hi', ?_⟩
            rw [← ht]
            exact tenants_ne r3 i n hi' hn c
        rw [findE_snoc, if_neg (fun hh => hmem.2 hh.2.1.symm)]
        exact he f hmem.1 tk htk
    · have := wait_set fl n hn (withT fl[n] (fl[n].2.2.2 ++ [(e.2.2.1, e.2.2.2.1)]))
      simp only [withT, List.length_append, List.length_singleton] at this
      simp only [List.length_set, List.length_append, List.length_singleton, withT]
      omega
  split at hd
  · -- a ticket cancelled
    rename_i c1 c2 c3
    split at hd
    case h_2 => cases hd
    rename_i x hx'
    cases hd
    unfold cancR at hx'
    split at hx'
    case isFalse => cases hx'
    rename_i hc
    obtain ⟨_, h0, h00⟩ := hc
    cases hx'
    rcases atF_is fl e.2.1 with ⟨hx, _⟩ | ⟨n, hn, hx, ht⟩
    · omega
    rw [hx] at h0 h00 ⊢
    simp only [Int.toNat_natCast] at h00 ⊢
    rw [getD_at fl n hn] at h00 ⊢
    obtain ⟨b1, b2, b3, b4, b5⟩ := r2 _ (List.getElem_mem hn)
    generalize (atT fl[n].2.2.2 e.2.2.1).toNat = m
    have hsub := delN_sub fl[n].2.2.2 m
    have hzn := hz _ (List.getElem_mem hn)
    refine ⟨ring_set hr n hn _ rfl ⟨b1, lineB_sub b2 hsub, by simp only [offT]; split <;> omega, by simp only [offT]; split <;> omega, fun h => by simp only [offT] at h ⊢; rw [if_pos h]⟩, fun f hf' => ?_, fun f hf' tk htk => ?_, ?_⟩
    · rcases List.mem_or_eq_of_mem_set hf' with h | rfl
      · exact hz f h
      · simp only [offT]
        split
        · rfl
        · exact hzn
    · rw [keep (by omega)]
      rcases List.mem_or_eq_of_mem_set hf' with h | rfl
      · exact he f h tk htk
      · exact he _ (List.getElem_mem hn) tk (hsub.subset htk)
    · have := hsub.length_le
      have hw : wait (fl.set n (offT fl[n] (delN fl[n].2.2.2 m))) + fl[n].2.2.2.length = wait fl + (delN fl[n].2.2.2 m).length := wait_set fl n hn _
      show (fl.set n (offT fl[n] (delN fl[n].2.2.2 m))).length + wait (fl.set n (offT fl[n] (delN fl[n].2.2.2 m))) ≤ _
      rw [List.length_set, List.length_append, List.length_singleton]
      omega
  split at hd
  · -- a flow dropped
    rename_i c1 c2 c3 c4
    unfold dropR at hd
    split at hd
    case isFalse => cases hd
    rename_i hc
    obtain ⟨_, h0, hemp⟩ := hc
    cases hd
    rcases atF_is fl e.2.1 with ⟨hx, _⟩ | ⟨n, hn, hx, ht⟩
    · omega
    rw [hx] at h0 hemp ⊢
    simp only [Int.toNat_natCast] at hemp ⊢
    have hsub := delN_sub fl n
    have hdl := delN_length fl n hn
    have ht3 := r1.2.2 (by omega)
    refine ⟨(ringB_iff _ _).2 ⟨⟨?_, fun h => ?_, fun h => ?_⟩, fun f hf' => r2 f (hsub.subset hf'), r3.sublist hsub⟩, fun f hf' => hz f (hsub.subset hf'), fun f hf' tk htk => ?_, ?_⟩
    · show (delN fl n).length ≤ 12
      omega
    · have h : (delN fl n).length = 0 := h
      show (if (n : Int) < turn then turn - 1 else if turn = ((delN fl n).length : Int) then 0 else turn) = 0
      split
      · omega
      · split <;> omega
    · have h : 0 < (delN fl n).length := h
      show 0 ≤ (if (n : Int) < turn then turn - 1 else if turn = ((delN fl n).length : Int) then 0 else turn) ∧ (if (n : Int) < turn then turn - 1 else if turn = ((delN fl n).length : Int) then 0 else turn) < ((delN fl n).length : Int)
      split
      · omega
      · split <;> omega
    · rw [keep (by omega)]
      exact he f (hsub.subset hf') tk htk
    · have hw : wait (delN fl n) ≤ wait fl := by
        conv => rhs; rw [← List.take_append_drop n fl, drop_cons fl n hn]
        unfold delN
        rw [wait_app, wait_app]
        simp only [wait]
        omega
      simp only [List.length_append, List.length_singleton]
      omega
  · cases hd
theorem inv_rep : ∀ (l : List Evt) (done : List Evt) (s s' : RSt), Inv done s → rep l s = some s' → Inv (done ++ l) s'
  | [], done, s, s', h, hr => by
    cases hr
    rw [List.append_nil]
    exact h
  | e :: l, done, s, s', h, hr => by
    simp only [rep] at hr
    cases hd : doR e s with
    | none => rw [hd] at hr; cases hr
    | some s1 =>
      rw [hd] at hr
      have := inv_rep l (done ++ [e]) s1 s' (inv_step e h hd) hr
      simpa [List.append_assoc] using this
theorem inv_all {evs : List Evt} {s : RSt} (h : repO evs = some s) : Inv evs s := by
  unfold repO at h
  split at h
  · have := inv_rep evs [] _ s inv_nil h
    simpa using this
  · cases h
end Go.Vm.Pu
namespace Go.Vm.Pu
open Go Go.RowKit Go.Vm
set_option linter.unusedVariables false
set_option linter.unusedSimpArgs false
/-! ### the replay of a compacted log -/
theorem atF_none {fl : List Fl} {t : Int} (h : ∀ x ∈ fl, x.1 ≠ t) : atF fl t = -1 := by
  rcases atF_is fl t with ⟨h1, _⟩ | ⟨n, hn, _, e⟩
  · exact h1
  · exact absurd e (h _ (List.getElem_mem hn))
theorem atF_last {pre : List Fl} {f : Fl} (h : ∀ x ∈ pre, x.1 ≠ f.1) : atF (pre ++ [f]) f.1 = (pre.length : Int) := by
  rcases atF_is (pre ++ [f]) f.1 with ⟨_, h2⟩ | ⟨n, hn, e, g⟩
  · exact absurd rfl (h2 f (by simp))
  · rw [e]
    by_cases c : n < pre.length
    · rw [List.getElem_append_left c] at g
      exact absurd g (h _ (List.getElem_mem c))
    · simp at hn
      omega
theorem posN_all {t : Int} : ∀ {l : List Fl}, (∀ x ∈ l, x.1 < t) → posN t l = l.length
  | [], _ => rfl
  | f :: l, h => by
    simp only [posN, List.length_cons]
    rw [if_pos (h f (by simp)), posN_all fun x hx => h x (List.mem_cons_of_mem _ hx)]
theorem ring_pre {fl : List Fl} (hB : ∀ f ∈ fl, flowB f) (hP : fl.Pairwise (fun a b => a.1 < b.1)) (h12 : fl.length ≤ 12) (pre : List Fl) (f : Fl) (rest : List Fl) (e : fl = pre ++ f :: rest) (l : List Tk) (hl : lineB l = true) : ringB (pre ++ [(f.1, f.2.1, 0, l)]) 0 = true := by
  rw [e] at hP h12 hB
  have h1 := List.pairwise_append.1 hP
  obtain ⟨b1, b2, b3, b4, b5⟩ := hB f (by simp)
  refine (ringB_iff _ _).2 ⟨⟨by simp at h12 ⊢; omega, fun h => rfl, fun h => ⟨by omega, by simp⟩⟩, fun g hg => ?_, ?_⟩
  · rcases List.mem_append.1 hg with hg | hg
    · exact hB g (by simp [hg])
    · rw [List.mem_singleton] at hg
      subst hg
      exact ⟨b1, hl, by simp, by simp, fun _ => rfl⟩
  · rw [List.pairwise_append]
    refine ⟨h1.1, by simp, fun a ha c hc => ?_⟩
    rw [List.mem_singleton] at hc
    subst hc
    exact h1.2.2 a ha f (by simp)
theorem rep_push {evs : List Evt} {fl : List Fl} (hz : ∀ f ∈ fl, f.2.2.1 = 0) (he : ∀ f ∈ fl, ∀ tk ∈ f.2.2.2, ∃ D, findE f.1 tk.1 evs dE = (2, f.1, tk.1, tk.2, D) ∧ EvP 2 f.1 tk.1 tk.2 D) (hB : ∀ f ∈ fl, flowB f) (hP : fl.Pairwise (fun a b => a.1 < b.1)) (h12 : fl.length ≤ 12) (pre : List Fl) (f : Fl) (rest : List Fl) (e : fl = pre ++ f :: rest) : ∀ (todo done : List Tk) (tail : List Evt), f.2.2.2 = done ++ todo →
    rep (cmpT evs f.1 todo ++ tail) (pre ++ [(f.1, f.2.1, 0, done)], 0) = rep tail (pre ++ [(f.1, f.2.1, 0, f.2.2.2)], 0)
  | [], done, tail, h => by
    rw [List.append_nil] at h
    rw [h]
    rfl
  | tk :: todo, done, tail, h => by
    have hf : f ∈ fl := by rw [e]; simp
    obtain ⟨D, h1, h2⟩ := he f hf tk (by rw [h]; simp)
    obtain ⟨b1, b2, _⟩ := hB f hf
    have hne : ∀ x ∈ pre, x.1 ≠ f.1 := fun x hx => by
      have hP' := hP
      rw [e] at hP'
      have := (List.pairwise_append.1 hP').2.2 x hx f (by simp)
      omega
    have hsub1 : List.Sublist done f.2.2.2 := by rw [h]; exact List.sublist_append_left _ _
    have hsub2 : List.Sublist (done ++ [tk]) f.2.2.2 := by
      rw [h]
      exact List.Sublist.append (List.Sublist.refl _) (List.singleton_sublist.2 (by simp))
    have hr := ring_pre hB hP h12 pre f rest e done (lineB_sub b2 hsub1)
    have hat : atF (pre ++ [(f.1, f.2.1, 0, done)]) f.1 = (pre.length : Int) := atF_last (f := (f.1, f.2.1, 0, done)) hne
    have hg : (pre ++ [(f.1, f.2.1, 0, done)]).getD pre.length dF = (f.1, f.2.1, 0, done) := by
      rw [getD_at _ _ (by simp)]
      simp
    have hdo : doR (2, f.1, tk.1, tk.2, D) (pre ++ [(f.1, f.2.1, 0, done)], 0) = some (pre ++ [(f.1, f.2.1, 0, done ++ [tk])], 0) := by
      unfold doR
      rw [if_pos h2]
      unfold stepR
      rw [if_neg (show ¬ (2 : Int) = 1 by decide), if_pos rfl]
      unfold pushR
      simp only
      rw [hat]
      simp only [Int.toNat_natCast]
      rw [hg, if_pos ⟨hr, by omega, lineB_sub b2 hsub2⟩]
      simp [withT]
    simp only [cmpT, List.map_cons, List.cons_append, rep]
    rw [h1, hdo]
    simp only
    have := rep_push hz he hB hP h12 pre f rest e todo (done ++ [tk]) tail (by rw [h]; simp)
    exact this
theorem rep_cmp {evs : List Evt} {fl : List Fl} (hz : ∀ f ∈ fl, f.2.2.1 = 0) (he : ∀ f ∈ fl, ∀ tk ∈ f.2.2.2, ∃ D, findE f.1 tk.1 evs dE = (2, f.1, tk.1, tk.2, D) ∧ EvP 2 f.1 tk.1 tk.2 D) (hB : ∀ f ∈ fl, flowB f) (hP : fl.Pairwise (fun a b => a.1 < b.1)) (h12 : fl.length ≤ 12) : ∀ (rest pre : List Fl), fl = pre ++ rest → rep (cmp evs rest) (pre, 0) = some (fl, 0)
  | [], pre, e => by
    rw [List.append_nil] at e
    rw [e]
    rfl
  | f :: rest, pre, e => by
    have hf : f ∈ fl := by rw [e]; simp
    obtain ⟨b1, b2, b3, b4, b5⟩ := hB f hf
    have hP' := hP
    rw [e] at hP'
    have hPa := List.pairwise_append.1 hP'
    have hlt : ∀ x ∈ pre, x.1 < f.1 := fun x hx => hPa.2.2 x hx f (by simp)
    have hring0 : ringB pre 0 = true := by
      refine (ringB_iff _ _).2 ⟨⟨by rw [e] at h12; simp at h12; omega, fun _ => rfl, fun h => ⟨by omega, by omega⟩⟩, fun g hg => hB g (by rw [e]; simp [hg]), hPa.1⟩
    have hnil : lineB ([] : List Tk) = true := rfl
    have hring1 := ring_pre hB hP h12 pre f rest e [] hnil
    have hp := posN_all hlt
    have haN : addN pre f.1 f.2.1 = pre ++ [(f.1, f.2.1, 0, [])] := by
      unfold addN
      rw [hp, List.take_length, List.drop_length]
    have haT : addT pre 0 f.1 = 0 := by
      unfold addT
      rw [hp, if_neg (by omega)]
    have hdo : doR (1, f.1, 0, f.2.1, []) (pre, 0) = some (pre ++ [(f.1, f.2.1, 0, [])], 0) := by
      unfold doR
      rw [if_pos (show EvP 1 f.1 0 f.2.1 [] from ⟨⟨b1.1, b1.2.1⟩, .inl ⟨rfl, rfl, ⟨b1.2.2.1, b1.2.2.2⟩, rfl⟩⟩)]
      unfold stepR
      rw [if_pos rfl]
      unfold addR
      rw [haN, haT, if_pos ⟨hring0, by rw [atF_none (t := f.1) fun x hx => (by have := hlt x hx; omega)]; omega⟩, if_pos hring1]
    simp only [cmp, rep]
    rw [hdo]
    simp only
    rw [rep_push hz he hB hP h12 pre f rest e f.2.2.2 [] (cmp evs rest) rfl]
    have hfe : (f.1, f.2.1, (0 : Int), f.2.2.2) = f := by
      have := hz f hf
      obtain ⟨a, b, c, d⟩ := f
      simp only at this ⊢
      rw [this]
    rw [hfe]
    exact rep_cmp hz he hB hP h12 rest (pre ++ [f]) (by rw [e]; simp)
theorem cmp_mem {evs : List Evt} {fl : List Fl} : ∀ (rest : List Fl), (∀ f ∈ rest, f ∈ fl) → ∀ e ∈ cmp evs rest, e.1 = 1 ∨ ∃ f ∈ fl, ∃ tk ∈ f.2.2.2, e = findE f.1 tk.1 evs dE
  | [], _, e, h => by cases h
  | f :: rest, hs, e, h => by
    simp only [cmp] at h
    rcases List.mem_cons.1 h with rfl | h
    · exact .inl rfl
    rcases List.mem_append.1 h with h | h
    · unfold cmpT at h
      obtain ⟨tk, htk, rfl⟩ := List.mem_map.1 h
      exact .inr ⟨f, hs f (by simp), tk, htk, rfl⟩
    · exact cmp_mem rest (fun x hx => hs x (List.mem_cons_of_mem _ hx)) e h
theorem mem_cmp {evs : List Evt} : ∀ (rest : List Fl) (f : Fl) (tk : Tk), f ∈ rest → tk ∈ f.2.2.2 → findE f.1 tk.1 evs dE ∈ cmp evs rest
  | g :: rest, f, tk, hf, htk => by
    simp only [cmp]
    rcases List.mem_cons.1 hf with rfl | hf
    · refine List.mem_cons_of_mem _ (List.mem_append_left _ ?_)
      unfold cmpT
      exact List.mem_map.2 ⟨tk, htk, rfl⟩
    · exact List.mem_cons_of_mem _ (List.mem_append_right _ (mem_cmp rest f tk hf htk))
theorem find_cmp {evs : List Evt} {fl : List Fl} (hz : ∀ f ∈ fl, f.2.2.1 = 0) (he : ∀ f ∈ fl, ∀ tk ∈ f.2.2.2, ∃ D, findE f.1 tk.1 evs dE = (2, f.1, tk.1, tk.2, D) ∧ EvP 2 f.1 tk.1 tk.2 D) (hB : ∀ f ∈ fl, flowB f) (hP : fl.Pairwise (fun a b => a.1 < b.1)) (h12 : fl.length ≤ 12) (f : Fl) (hf : f ∈ fl) (tk : Tk) (htk : tk ∈ f.2.2.2) : findE f.1 tk.1 (cmp evs fl) dE = findE f.1 tk.1 evs dE := by
  obtain ⟨D, h1, h2⟩ := he f hf tk htk
  have hin := mem_cmp (evs := evs) fl f tk hf htk
  have hhit : hit f.1 tk.1 (findE f.1 tk.1 evs dE) := by rw [h1]; exact ⟨rfl, rfl, rfl⟩
  have hh := findE_hit f.1 tk.1 (cmp evs fl) dE (.inl ⟨_, hin, hhit⟩)
  rcases findE_in f.1 tk.1 (cmp evs fl) dE with h | ⟨h3, h4⟩
  · rw [h] at hh
    exact absurd hh.1 (by decide)
  · rcases cmp_mem fl (fun x hx => hx) _ h3 with c | ⟨g, hg, uk, huk, e⟩
    · rw [h4.1] at c
      omega
    · obtain ⟨D', e1, _⟩ := he g hg uk huk
      rw [e, e1] at h4
      have q1 : g.1 = f.1 := h4.2.1
      have q2 : uk.1 = tk.1 := h4.2.2
      rw [e, q1, q2]
theorem cmp_again {evs : List Evt} {fl : List Fl} (hz : ∀ f ∈ fl, f.2.2.1 = 0) (he : ∀ f ∈ fl, ∀ tk ∈ f.2.2.2, ∃ D, findE f.1 tk.1 evs dE = (2, f.1, tk.1, tk.2, D) ∧ EvP 2 f.1 tk.1 tk.2 D) (hB : ∀ f ∈ fl, flowB f) (hP : fl.Pairwise (fun a b => a.1 < b.1)) (h12 : fl.length ≤ 12) : ∀ (rest : List Fl), (∀ f ∈ rest, f ∈ fl) → cmp (cmp evs fl) rest = cmp evs rest
  | [], _ => rfl
  | f :: rest, hs => by
    simp only [cmp]
    rw [cmp_again hz he hB hP h12 rest fun x hx => hs x (List.mem_cons_of_mem _ hx)]
    congr 2
    unfold cmpT
    exact List.map_congr_left fun tk htk => find_cmp hz he hB hP h12 f (hs f (by simp)) tk htk
theorem cmp_length (evs : List Evt) : ∀ fl : List Fl, (cmp evs fl).length = fl.length + wait fl
  | [] => rfl
  | f :: l => by
    simp only [cmp, wait, cmpT, List.length_cons, List.length_append, List.length_map, cmp_length evs l]
    omega
theorem pend_calm : ∀ l : List Evt, (∀ e ∈ l, e.1 = 1 ∨ e.1 = 2) → (pend l).length = (l.filter fun e => decide (e.1 = 2)).length
  | [], _ => rfl
  | e :: l, h => by
    have ih := pend_calm l fun x hx => h x (List.mem_cons_of_mem _ hx)
    have hany : l.any (doneB e) = false := by
      rw [List.any_eq_false]
      intro x hx hd
      unfold doneB at hd
      have := (of_decide_eq_true hd).1
      have := h x (List.mem_cons_of_mem _ hx)
      omega
    simp only [pend]
    by_cases c : e.1 = 2
    · rw [if_pos ⟨c, hany⟩, List.filter_cons_of_pos (by simpa using c)]
      simp [ih]
    · rw [if_neg (fun hh => c hh.1), List.filter_cons_of_neg (by simpa using c), ih]
theorem calm_cmp (evs : List Evt) : ∀ fl : List Fl, (∀ f ∈ fl, ∀ tk ∈ f.2.2.2, (findE f.1 tk.1 evs dE).1 = 2) → (∀ e ∈ cmp evs fl, e.1 = 1 ∨ e.1 = 2) ∧ ((cmp evs fl).filter fun e => decide (e.1 = 2)).length = wait fl
  | [], _ => ⟨fun e he => (by cases he), rfl⟩
  | f :: l, h => by
    obtain ⟨h1, h2⟩ := calm_cmp evs l fun x hx => h x (List.mem_cons_of_mem _ hx)
    have hT : ∀ e ∈ cmpT evs f.1 f.2.2.2, e.1 = 2 := fun e he => by
      unfold cmpT at he
      obtain ⟨tk, htk, rfl⟩ := List.mem_map.1 he
      exact h f (by simp) tk htk
    have hfT : (cmpT evs f.1 f.2.2.2).filter (fun e => decide (e.1 = 2)) = cmpT evs f.1 f.2.2.2 := List.filter_eq_self.2 fun e he => decide_eq_true (hT e he)
    refine ⟨fun e he => ?_, ?_⟩
    · simp only [cmp] at he
      rcases List.mem_cons.1 he with rfl | he
      · exact .inl rfl
      rcases List.mem_append.1 he with he | he
      · exact .inr (hT e he)
      · exact h1 e he
    · simp only [cmp, wait]
      rw [List.filter_cons_of_neg (by simp), List.filter_append, hfT, List.length_append, h2]
      simp [cmpT]
/-! ### the law -/
theorem sameEvent_f' (e : Evt) (hl : e.2.2.2.2.length ≤ 1048576) (k : Nat) (hk : 1048590 ≤ k) : laws_sameEvent.f k e.1 e.2.1 e.2.2.1 e.2.2.2.1 e.2.2.2.2 e.1 e.2.1 e.2.2.1 e.2.2.2.1 e.2.2.2.2 = some true := by
  obtain ⟨k, rfl⟩ : ∃ m, k = m + 1 := ⟨k - 1, by omega⟩
  rw [laws_sameEvent.f_eq, if_pos rfl, if_pos rfl, if_pos rfl, if_pos rfl, sameBytes_f _ hl k (by omega), bs]
theorem sameAll_f (l : List Evt) (hn : l.length ≤ 2000000) (hD : ∀ e ∈ l, e.2.2.2.2.length ≤ 1048576) (K : Nat) (hK : 2000010 ≤ K) : laws_FnCompact.l0 K K 0 l l = some true :=
  count_loop (fun fu i => laws_FnCompact.l0 K fu i l l) l.length 0 true (by
    intro fu _
    simp only [laws_FnCompact.l0_eq]
    rw [if_neg (by omega)]) (by
    intro fu i h _
    simp only [laws_FnCompact.l0_eq]
    rw [if_pos (by omega), if_pos (by omega), if_pos (by omega), if_pos (by omega), if_pos (by omega), rdE l i h, sameEvent_f' l[i] (hD _ (List.getElem_mem h)) K (by omega), bs, if_neg (by decide), wrap_next h (by omega)]) K (by omega)
theorem sameTk (K F0 : Nat) (i5 : Int) (fl : List Fl) (t : Int) (fr : Bool) (f : Fl) (hl : f.2.2.2.length ≤ 100) : ∀ (d k j : Nat), j + d = f.2.2.2.length → d < k →
    laws_sameRing.l1 K F0 k i5 (j : Int) fl t fr fl t fr f.1 f.2.1 f.2.2.1 f.2.2.2 f.1 f.2.1 f.2.2.1 f.2.2.2 = laws_sameRing.l0 K F0 (wrap64 (i5 + 1)) fl t fr fl t fr := by
  intro d
  induction d with
  | zero =>
    intro k j hj hk
    obtain ⟨k, rfl⟩ : ∃ m, k = m + 1 := ⟨k - 1, by omega⟩
    rw [laws_sameRing.l1_eq, if_neg (by omega)]
  | succ d ih =>
    intro k j hj hk
    obtain ⟨k, rfl⟩ : ∃ m, k = m + 1 := ⟨k - 1, by omega⟩
    have hlt : j < f.2.2.2.length := by omega
    rw [laws_sameRing.l1_eq, if_pos (by omega), if_pos (by omega), if_pos (by omega), if_pos (by omega), if_pos (by omega), if_neg (by simp), wrap_next hlt (by omega), ih k (j + 1) (by omega) (by omega)]
theorem sameRing_f (fl : List Fl) (hs : Sml fl) (t : Int) (fr : Bool) (k : Nat) (hk : 300 ≤ k) : laws_sameRing.f k fl t fr fl t fr = some true := by
  obtain ⟨k, rfl⟩ : ∃ m, k = m + 1 := ⟨k - 1, by omega⟩
  have hn := hs.1
  rw [laws_sameRing.f_eq, if_neg (by simp), if_neg (by simp), if_neg (by simp)]
  exact count_loop (fun fu i => laws_sameRing.l0 k fu i fl t fr fl t fr) fl.length 0 true (by
    intro fu _
    simp only [laws_sameRing.l0_eq]
    rw [if_neg (by omega)]) (by
    intro fu i h _
    have hl := hs.2 _ (List.getElem_mem h)
    simp only [laws_sameRing.l0_eq]
    have := sameTk k fu (i : Int) fl t fr fl[i] hl fl[i].2.2.2.length k 0 (by omega) (by omega)
    rw [show ((0 : Nat) : Int) = 0 from rfl] at this
    simp only [rdF fl i h, ne_eq, not_true, if_false]
    rw [if_pos (by omega), if_pos (by omega), if_pos (by omega), if_pos (by omega), if_pos (by omega), this, wrap_next h (by omega)]) k (by omega)
theorem waiting_f (fl : List Fl) (hs : Sml fl) (hr : ringB fl 0 = true) (k : Nat) (hk : 400 ≤ k) : spec_Waiting.f k fl 0 false = some (wait fl : Int) := by
  obtain ⟨k, rfl⟩ : ∃ m, k = m + 1 := ⟨k - 1, by omega⟩
  have hn := hs.1
  rw [spec_Waiting.f_eq, sring_f fl hs 0 k (by omega), bs, hr, if_neg (by decide)]
  have key : ∀ (d q i : Nat) (n : Nat), i + d = fl.length → d < q → n ≤ 100 * i → spec_Waiting.l0 k q (n : Int) (i : Int) fl 0 false = some ((n + wait (fl.drop i) : Nat) : Int) := by
    intro d
    induction d with
    | zero =>
      intro q i n hi hq hb
      obtain ⟨q, rfl⟩ : ∃ m, q = m + 1 := ⟨q - 1, by omega⟩
      rw [spec_Waiting.l0_eq, if_neg (by omega), List.drop_of_length_le (by omega)]
      rfl
    | succ d ih =>
      intro q i n hi hq hb
      obtain ⟨q, rfl⟩ : ∃ m, q = m + 1 := ⟨q - 1, by omega⟩
      have hlt : i < fl.length := by omega
      have hl := hs.2 _ (List.getElem_mem hlt)
      rw [spec_Waiting.l0_eq, if_pos (by omega), if_pos (by omega), if_pos (by omega), rdF fl i hlt, wrap_next hlt (by omega), wrap_id (x := (n : Int) + (fl[i].2.2.2.length : Int)) (by omega) (by omega),
        show (n : Int) + (fl[i].2.2.2.length : Int) = ((n + fl[i].2.2.2.length : Nat) : Int) by omega, ih q (i + 1) _ (by omega) (by omega) (by omega), drop_cons fl i hlt]
      simp only [wait]
      rw [Nat.add_assoc]
  have := key fl.length k 0 0 (by omega) (by omega) (by omega)
  rw [List.drop_zero, Nat.zero_add] at this
  exact this
theorem law_Compact (code : List Int) : ∃ k, laws_FnCompact.f k code = some true := by
  refine ⟨2000200 + 1, ?_⟩
  obtain ⟨K, hK⟩ : ∃ K, K = 2000200 := ⟨_, rfl⟩
  rw [← hK, laws_FnCompact.f_eq, big_f code K (by omega), bs]
  by_cases c : (code.length : Int) > 1048576
  · rw [if_pos (decide_eq_true c)]
  rw [if_neg (by simpa using c)]
  obtain ⟨evs, q, hg, hd⟩ : ∃ evs, spec_DrawCompactLog.f K code = some evs ∧ (∀ e ∈ evs, GoodE e) ∧ evs.length ≤ 39 := by
    obtain ⟨K', rfl⟩ : ∃ m, K = m + 1 := ⟨K - 1, by omega⟩
    obtain ⟨evs, q, h1, h2⟩ := drawEvs_f code (by omega) K' (by omega)
    rw [spec_DrawCompactLog.f_eq, q, bs]
    exact ⟨_, rfl, h1, h2⟩
  have hE : ∀ e ∈ evs, Bs e.2.2.2.2 ∧ e.2.2.2.2.length ≤ 2000000 := fun e he => ⟨(hg e he).1, by have := (hg e he).2; omega⟩
  rw [q, bs, srep_f evs (by omega) hE K (by omega), bs]
  cases ho : repO evs with
  | none =>
    simp only [repS, Bool.not_false, if_true]
  | some s =>
    have hinv := inv_all ho
    obtain ⟨hr, hz, he, hf⟩ := hinv
    obtain ⟨fl, turn⟩ := s
    simp only at hr hz he hf
    obtain ⟨r1, r2, r3⟩ := (ringB_iff fl turn).1 hr
    have hs : Sml fl := by
      have := repO_sml evs
      rw [ho] at this
      exact this
    have hsm : (cmp evs fl).length ≤ evs.length := by rw [cmp_length]; exact hf
    have hring0 : ringB fl 0 = true := (ringB_iff fl 0).2 ⟨⟨r1.1, fun _ => rfl, fun h => ⟨by omega, by omega⟩⟩, r2, r3⟩
    have hrep := rep_cmp hz he r2 r3 r1.1 fl [] rfl
    have hrepO : repO (cmp evs fl) = some (fl, 0) := by
      unfold repO
      rw [if_pos (by omega)]
      exact hrep
    have hsE : ∀ e ∈ cmp evs fl, Bs e.2.2.2.2 ∧ e.2.2.2.2.length ≤ 2000000 := fun e h => by
      rcases cmp_mem fl (fun x hx => hx) e h with h1 | ⟨f, hf', tk, htk, rfl⟩
      · have h2 := cmp_data evs 2000000 (fun x hx => (hE x hx).2) fl e h
        refine ⟨?_, h2⟩
        -- an event that adds a flow bears no data
        have : ∀ (rest : List Fl), (∀ f ∈ rest, f ∈ fl) → ∀ x ∈ cmp evs rest, Bs x.2.2.2.2 := by
          intro rest
          induction rest with
          | nil => intro _ x hx; cases hx
          | cons f rest ih =>
            intro hs' x hx
            simp only [cmp] at hx
            rcases List.mem_cons.1 hx with rfl | hx
            · exact fun y hy => (by cases hy)
            rcases List.mem_append.1 hx with hx | hx
            · unfold cmpT at hx
              obtain ⟨tk, htk, rfl⟩ := List.mem_map.1 hx
              rcases findE_in f.1 tk.1 evs dE with h | ⟨h, _⟩
              · rw [h]; exact fun y hy => (by cases hy)
              · exact (hE _ h).1
            · exact ih (fun y hy => hs' y (List.mem_cons_of_mem _ hy)) x hx
        exact this fl (fun x hx => hx) e h
      · rcases findE_in f.1 tk.1 evs dE with h | ⟨h, _⟩
        · rw [h]; exact ⟨fun y hy => (by cases hy), by simp [dE]⟩
        · exact hE _ h
    have hc1 : cmpO evs = (true, cmp evs fl) := by unfold cmpO; rw [ho]
    have hc2 : cmpO (cmp evs fl) = (true, cmp evs fl) := by
      unfold cmpO
      rw [hrepO]
      simp only
      rw [cmp_again hz he r2 r3 r1.1 fl (fun x hx => hx)]
    have hp2 : pndO (cmp evs fl) = (true, pend (cmp evs fl)) := by unfold pndO; rw [hrepO]
    obtain ⟨q1, q2⟩ := calm_cmp evs fl fun f hf' tk htk => by
      obtain ⟨D, e1, _⟩ := he f hf' tk htk
      rw [e1]
    have hpl : (pend (cmp evs fl)).length = wait fl := by rw [pend_calm _ q1, q2]
    have hdl : ∀ e ∈ cmp evs fl, e.2.2.2.2.length ≤ 1048576 := fun e h => by
      have := cmp_data evs 1437 (fun x hx => (hg x hx).2) fl e h
      omega
    simp only [repS, Bool.not_true, Bool.false_eq_true, if_false]
    rw [icmp_f evs (by omega) hE K (by omega), bs, hc1]
    simp only [Bool.not_true, Bool.false_eq_true, if_false]
    rw [if_neg (by omega), iring_all (cmp evs fl) (by omega) hsE K (by omega), bs, icmp_f (cmp evs fl) (by omega) hsE K (by omega), bs, ipnd_f (cmp evs fl) (by omega) hsE K (by omega), bs, hc2, hp2, hrepO]
    simp only [Option.isSome_some, flO, Bool.not_true, Bool.false_eq_true, if_false]
    rw [sameRing_f fl hs 0 false K (by omega), bs, if_neg (by decide), if_neg (by simp), waiting_f fl hs hring0 K (by omega), bs, if_neg (by rw [hpl]; simp)]
    exact sameAll_f (cmp evs fl) (by omega) hdl K (by omega)
end Go.Vm.Pu
