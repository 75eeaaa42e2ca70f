/- The plain law of FnSynced; the conditions are what is known of the input. -/
import Derived.Test.YtlmpfcdajmngfaaVpA
import Derived.RowKit
import Derived.KernelRfl
namespace Go.Vm.Pu
open Go Go.RowKit Go.Vm
set_option linter.unusedVariables false
set_option linter.unusedSimpArgs false
abbrev TkT : Ty := .pair (.int .i64) (.int .i64)
abbrev FlT : Ty := .pair (.int .i64) (.pair (.int .i64) (.pair (.int .i64) (.row (.pair (.int .i64) (.int .i64)))))
abbrev Tk := Int × Int
abbrev Fl := Int × Int × Int × List (Int × Int)
theorem rdT (l : List Tk) (i : Nat) (h : i < l.length) : rd TkT l (i : Int) = l[i] := by
  simp [rd, List.getD, h]
theorem rdF (l : List Fl) (i : Nat) (h : i < l.length) : rd FlT l (i : Int) = l[i] := by
  simp [rd, List.getD, h]
/-- All of so many places from one on. -/
def okF (p : Nat → Bool) (i : Nat) : Nat → Bool
  | 0 => true
  | n + 1 => p i && okF p (i + 1) n
theorem okF_iff {p : Nat → Bool} : ∀ {n i : Nat}, okF p i n = true ↔ ∀ j, i ≤ j → j < i + n → p j = true
  | 0, i => by simp [okF]; intro j h1 h2; omega
  | n + 1, i => by
    simp only [okF, Bool.and_eq_true, okF_iff (n := n)]
    constructor
    · rintro ⟨h1, h2⟩ j hj hj2
      by_cases e : j = i
      · rw [e]; exact h1
      · exact h2 j (by omega) (by omega)
    · intro h
      exact ⟨h i (Nat.le_refl _) (by omega), fun j h1 h2 => h j (by omega) (by omega)⟩
/-! ### tickets and lines -/
def tkB (t : Tk) : Bool := decide (1 ≤ t.1 ∧ t.1 ≤ 1000000000 ∧ 1 ≤ t.2 ∧ t.2 ≤ 200000)
def lnB (l : List Tk) (i : Nat) : Bool := tkB (l.getD i (0, 0)) && (decide (i = 0) || decide ((l.getD (i - 1) (0, 0)).1 < (l.getD i (0, 0)).1))
def lineB (l : List Tk) : Bool := decide (l.length ≤ 40) && okF (lnB l) 0 l.length
theorem rdTD (l : List Tk) (i : Nat) : rd TkT l (i : Int) = l.getD i (0, 0) := rfl
theorem pred_wrap {i : Nat} (h : 0 < i) (h2 : i ≤ 2000000) : wrap64 ((i : Int) - 1) = ((i - 1 : Nat) : Int) := by
  rw [wrap_id (by omega) (by omega)]; omega
theorem sticket_f (t : Tk) (k : Nat) (hk : 2 ≤ k) : spec_l13Ticket.f k t.1 t.2 = some (tkB t) := by
  obtain ⟨k, rfl⟩ : ∃ m, k = m + 1 := ⟨k - 1, by omega⟩
  rw [spec_l13Ticket.f_eq, in_is _ _ _ _ (by omega), bs]
  unfold tkB
  by_cases h1 : 1 ≤ t.1 ∧ t.1 ≤ 1000000000
  · rw [decide_eq_true h1, if_pos rfl, in_is _ _ _ _ (by omega), bs]
    congr 1
    simp only [decide_eq_decide]
    omega
  · rw [decide_eq_false h1, if_neg (by decide), decide_eq_false (by omega)]
theorem sline_loop (K : Nat) (hK : 2 ≤ K) (l : List Tk) (hn : l.length ≤ 2000000) : ∀ (d k i : Nat), i + d = l.length → d < k →
    spec_LineOk.l0 K k (i : Int) l = some (okF (lnB l) i d) := by
  intro d
  induction d with
  | zero =>
    intro k i hi hk
    obtain ⟨k, rfl⟩ : ∃ m, k = m + 1 := ⟨k - 1, by omega⟩
    rw [spec_LineOk.l0_eq, if_neg (by omega)]
    rfl
  | succ d ih =>
    intro k i hi hk
    obtain ⟨k, rfl⟩ : ∃ m, k = m + 1 := ⟨k - 1, by omega⟩
    rw [spec_LineOk.l0_eq, if_pos (by omega), if_pos (by omega), if_pos (by omega), sticket_f _ _ hK, bs, not_ite, rdTD, wrap_next (show i < l.length by omega) (by omega), ih k (i + 1) (by omega) (by omega)]
    simp only [okF, lnB]
    cases h1 : tkB (l.getD i (0, 0)) with
    | false => simp
    | true =>
      rw [if_pos rfl]
      by_cases h0 : (i : Int) > 0
      · rw [if_pos h0, pred_wrap (by omega) (by omega), if_pos (by omega), if_pos (by omega), if_pos (by omega), if_pos (by omega), rdTD]
        by_cases h2 : (l.getD (i - 1) (0, 0)).1 ≥ (l.getD i (0, 0)).1
        · rw [if_pos h2, decide_eq_false (by omega), decide_eq_false (by omega)]
          rfl
        · rw [if_neg h2, decide_eq_true (p := (l.getD (i - 1) (0, 0)).1 < (l.getD i (0, 0)).1) (by omega)]
          simp
      · rw [if_neg h0, decide_eq_true (p := i = 0) (by omega)]
        simp
theorem sline_f (l : List Tk) (hn : l.length ≤ 2000000) (k : Nat) (hk : l.length + 3 < k) : spec_LineOk.f k l = some (lineB l) := by
  obtain ⟨k, rfl⟩ : ∃ m, k = m + 1 := ⟨k - 1, by omega⟩
  rw [spec_LineOk.f_eq]
  unfold lineB
  by_cases h : (l.length : Int) > 40
  · rw [if_pos h, decide_eq_false (by omega), Bool.false_and]
  · have := sline_loop k (by omega) l hn l.length k 0 (by omega) (by omega)
    rw [show ((0 : Nat) : Int) = 0 from rfl] at this
    rw [if_neg h, this, decide_eq_true (by omega), Bool.true_and]
theorem line_len {l : List Tk} (h : lineB l = true) : l.length ≤ 40 := by
  unfold lineB at h
  simp only [Bool.and_eq_true, decide_eq_true_eq] at h
  exact h.1
/-! ### rings whose turn is not fresh -/
def dF : Fl := (0, 0, 0, [])
theorem rdFD (l : List Fl) (i : Nat) : rd FlT l (i : Int) = l.getD i dF := rfl
def flB (fl : List Fl) (i : Nat) : Bool :=
  decide (0 ≤ (fl.getD i dF).1 ∧ (fl.getD i dF).1 ≤ 99 ∧ 100 ≤ (fl.getD i dF).2.1 ∧ (fl.getD i dF).2.1 ≤ 100000) && (lineB (fl.getD i dF).2.2.2 &&
    ((decide (i = 0) || decide ((fl.getD (i - 1) dF).1 < (fl.getD i dF).1)) && decide (0 ≤ (fl.getD i dF).2.2.1 ∧ (fl.getD i dF).2.2.1 ≤ 199999 ∧ ((fl.getD i dF).2.2.2.length = 0 → (fl.getD i dF).2.2.1 = 0))))
def ringB (fl : List Fl) (turn : Int) : Bool := decide (fl.length ≤ 12 ∧ (fl.length = 0 → turn = 0) ∧ (0 < fl.length → 0 ≤ turn ∧ turn < fl.length)) && okF (flB fl) 0 fl.length
/-- Small enough for the rounds that are counted. -/
def Sml (fl : List Fl) : Prop := fl.length ≤ 100 ∧ ∀ f ∈ fl, f.2.2.2.length ≤ 100
theorem Sml.at {fl : List Fl} (h : Sml fl) (i : Nat) : (fl.getD i dF).2.2.2.length ≤ 100 := by
  by_cases c : i < fl.length
  · have e : fl.getD i dF = fl[i] := by simp [List.getD, c]
    rw [e]
    exact h.2 _ (List.getElem_mem c)
  · have e : fl.getD i dF = dF := by simp [List.getD, c]
    rw [e]
    simp [dF]
theorem sflow_f (f : Fl) (hl : f.2.2.2.length ≤ 100) (k : Nat) (hk : 200 ≤ k) : spec_l14Flow.f k f.1 f.2.1 f.2.2.1 f.2.2.2 false =
    some (decide (0 ≤ f.1 ∧ f.1 ≤ 99 ∧ 100 ≤ f.2.1 ∧ f.2.1 ≤ 100000) && (lineB f.2.2.2 && decide (0 ≤ f.2.2.1 ∧ f.2.2.1 ≤ 199999 ∧ (f.2.2.2.length = 0 → f.2.2.1 = 0)))) := by
  obtain ⟨k, rfl⟩ : ∃ m, k = m + 1 := ⟨k - 1, by omega⟩
  rw [spec_l14Flow.f_eq, in_is _ _ _ _ (by omega), bs, not_ite]
  by_cases h1 : 0 ≤ f.1 ∧ f.1 ≤ 99
  case neg => rw [decide_eq_false h1, if_neg (by decide), decide_eq_false (by omega), Bool.false_and]
  rw [decide_eq_true h1, if_pos rfl, in_is _ _ _ _ (by omega), bs, not_ite]
  by_cases h2 : 100 ≤ f.2.1 ∧ f.2.1 ≤ 100000
  case neg => rw [decide_eq_false h2, if_neg (by decide), decide_eq_false (by omega), Bool.false_and]
  rw [decide_eq_true h2, if_pos rfl, sline_f _ (by omega) _ (by omega), bs, not_ite, decide_eq_true (p := 0 ≤ f.1 ∧ f.1 ≤ 99 ∧ 100 ≤ f.2.1 ∧ f.2.1 ≤ 100000) (by omega), Bool.true_and]
  cases h3 : lineB f.2.2.2 with
  | false => rfl
  | true =>
    rw [if_pos rfl, if_neg (by decide), in_is _ _ _ _ (by omega), bs, Bool.true_and]
    by_cases h4 : 0 ≤ f.2.2.1 ∧ f.2.2.1 ≤ 199999
    case neg => rw [decide_eq_false h4, if_neg (by decide), decide_eq_false (by omega)]
    rw [decide_eq_true h4, if_pos rfl]
    by_cases h5 : (f.2.2.2.length : Int) > 0
    · rw [if_pos h5, decide_eq_true (by omega)]
    · rw [if_neg h5]
      congr 1
      simp only [decide_eq_decide]
      omega
theorem sring_loop (K : Nat) (hK : 200 ≤ K) (fl : List Fl) (hs : Sml fl) (turn : Int) : ∀ (d k i : Nat), i + d = fl.length → d < k →
    spec_RingOk.l0 K k (fl.length : Int) (i : Int) fl turn false = some (okF (flB fl) i d) := by
  intro d
  have hn := hs.1
  induction d with
  | zero =>
    intro k i hi hk
    obtain ⟨k, rfl⟩ : ∃ m, k = m + 1 := ⟨k - 1, by omega⟩
    rw [spec_RingOk.l0_eq, if_neg (by omega)]
    rfl
  | succ d ih =>
    intro k i hi hk
    obtain ⟨k, rfl⟩ : ∃ m, k = m + 1 := ⟨k - 1, by omega⟩
    have hl := hs.at i
    rw [spec_RingOk.l0_eq, if_pos (by omega), if_pos (by omega), if_pos (by omega), if_neg (show ¬ (false = true) by decide), rdFD, sflow_f _ hl K (by omega), bs, not_ite, wrap_next (show i < fl.length by omega) (by omega), ih k (i + 1) (by omega) (by omega)]
    simp only [okF, flB]
    generalize hf : fl.getD i dF = f at hl ⊢
    cases decide (0 ≤ f.1 ∧ f.1 ≤ 99 ∧ 100 ≤ f.2.1 ∧ f.2.1 ≤ 100000) with
    | false => rfl
    | true =>
      cases lineB f.2.2.2 with
      | false => rfl
      | true =>
        cases decide (0 ≤ f.2.2.1 ∧ f.2.2.1 ≤ 199999 ∧ (f.2.2.2.length = 0 → f.2.2.1 = 0)) with
        | false => simp
        | true =>
          simp only [Bool.true_and, Bool.and_true, if_true]
          by_cases h0 : (i : Int) > 0
          · rw [if_pos h0, pred_wrap (by omega) (by omega), if_pos (by omega), if_pos (by omega), if_pos (by omega), if_pos (by omega), rdFD]
            by_cases h6 : (fl.getD (i - 1) dF).1 ≥ f.1
            · rw [if_pos h6, decide_eq_false (p := i = 0) (by omega), decide_eq_false (p := (fl.getD (i - 1) dF).1 < f.1) (by omega)]
              rfl
            · rw [if_neg h6, decide_eq_true (p := (fl.getD (i - 1) dF).1 < f.1) (by omega), Bool.or_true, Bool.true_and]
          · rw [if_neg h0, decide_eq_true (p := i = 0) (by omega), Bool.true_or, Bool.true_and]
theorem sring_f (fl : List Fl) (hs : Sml fl) (turn : Int) (k : Nat) (hk : 300 ≤ k) : spec_RingOk.f k fl turn false = some (ringB fl turn) := by
  obtain ⟨k, rfl⟩ : ∃ m, k = m + 1 := ⟨k - 1, by omega⟩
  have hn := hs.1
  have hloop := sring_loop k (by omega) fl hs turn fl.length k 0 (by omega) (by omega)
  rw [show ((0 : Nat) : Int) = 0 from rfl] at hloop
  rw [spec_RingOk.f_eq]
  unfold ringB
  by_cases h1 : (fl.length : Int) > 12
  · rw [if_pos h1, decide_eq_false (by omega), Bool.false_and]
  rw [if_neg h1]
  by_cases h2 : (fl.length : Int) = 0
  · rw [if_pos h2]
    by_cases h3 : turn = 0
    · have h0 : fl.length = 0 := by omega
      rw [if_pos h3, decide_eq_true (by omega), h0]
      rfl
    · rw [if_neg h3, decide_eq_false (by omega), Bool.false_and]
  · rw [if_neg h2, in_is _ _ _ _ (by omega), bs, not_ite, wrap_id (by omega) (by omega), hloop]
    by_cases h3 : 0 ≤ turn ∧ turn ≤ (fl.length : Int) - 1
    · rw [decide_eq_true h3, if_pos rfl, decide_eq_true (by omega), Bool.true_and]
    · rw [decide_eq_false h3, if_neg (by decide), decide_eq_false (by omega), Bool.false_and]
theorem ring_facts {fl : List Fl} {turn : Int} (h : ringB fl turn = true) : fl.length ≤ 12 ∧ (fl.length = 0 → turn = 0) ∧ (0 < fl.length → 0 ≤ turn ∧ turn < fl.length) ∧ ∀ i, i < fl.length → flB fl i = true := by
  unfold ringB at h
  simp only [Bool.and_eq_true, decide_eq_true_eq] at h
  exact ⟨h.1.1, h.1.2.1, h.1.2.2, fun i hi => okF_iff.1 h.2 i (by omega) (by omega)⟩
theorem flB_facts {fl : List Fl} {i : Nat} (h : flB fl i = true) (hi : i < fl.length) : (0 ≤ fl[i].1 ∧ fl[i].1 ≤ 99) ∧ lineB fl[i].2.2.2 = true ∧ (0 < i → (fl.getD (i - 1) dF).1 < fl[i].1) := by
  unfold flB at h
  have e : fl.getD i dF = fl[i] := by simp [List.getD, hi]
  rw [e] at h
  simp only [Bool.and_eq_true, Bool.or_eq_true, decide_eq_true_eq] at h
  exact ⟨⟨h.1.1, h.1.2.1⟩, h.2.1, fun h0 => h.2.2.1.resolve_left (by omega)⟩
end Go.Vm.Pu
namespace Go.Vm.Pu
open Go Go.RowKit Go.Vm
set_option linter.unusedVariables false
set_option linter.unusedSimpArgs false
theorem scopyLine_loop (K : Nat) (l : List Tk) (hn : l.length ≤ 2000000) : ∀ (d k i : Nat) (out : List Tk), i + d = l.length → d < k → out.length + d ≤ 2000000 →
    spec_l13Copy.l0 K k (i : Int) l out = some (out ++ l.drop i) := by
  intro d
  induction d with
  | zero =>
    intro k i out hi hk ho
    obtain ⟨k, rfl⟩ : ∃ m, k = m + 1 := ⟨k - 1, by omega⟩
    rw [spec_l13Copy.l0_eq, if_neg (by omega), List.drop_of_length_le (by omega), List.append_nil]
  | succ d ih =>
    intro k i out hi hk ho
    obtain ⟨k, rfl⟩ : ∃ m, k = m + 1 := ⟨k - 1, by omega⟩
    rw [spec_l13Copy.l0_eq, if_pos (by omega), if_pos (by omega), if_pos (by omega), if_pos (by omega), wrap_next (show i < l.length by omega) (by omega), ih k (i + 1) _ (by omega) (by omega) (by simp; omega), rdT l i (by omega), drop_cons l i (by omega), List.append_assoc]
    rfl
theorem scopyLine_f (l : List Tk) (hn : l.length ≤ 2000000) (k : Nat) (hk : l.length + 1 < k) : spec_l13Copy.f k l = some l := by
  obtain ⟨k, rfl⟩ : ∃ m, k = m + 1 := ⟨k - 1, by omega⟩
  rw [spec_l13Copy.f_eq]
  have := scopyLine_loop k l hn l.length k 0 [] (by omega) (by omega) (by simpa using hn)
  simpa using this
theorem scopy_loop (K : Nat) (hK : 200 ≤ K) (fl : List Fl) (hs : Sml fl) (r1 : Int) (r2 : Bool) (a : Int) (b : Bool) (t : Int) (fr : Bool) : ∀ (d k i : Nat) (out : List Fl), i + d = fl.length → d < k → out.length + d ≤ 2000000 →
    spec_l14Copy.l0 K k (i : Int) fl r1 r2 a b t fr out = some (t, fr, out ++ fl.drop i) := by
  intro d
  have hn := hs.1
  induction d with
  | zero =>
    intro k i out hi hk ho
    obtain ⟨k, rfl⟩ : ∃ m, k = m + 1 := ⟨k - 1, by omega⟩
    rw [spec_l14Copy.l0_eq, if_neg (by omega), List.drop_of_length_le (by omega), List.append_nil]
  | succ d ih =>
    intro k i out hi hk ho
    obtain ⟨k, rfl⟩ : ∃ m, k = m + 1 := ⟨k - 1, by omega⟩
    have hlt : i < fl.length := by omega
    have hl := hs.2 _ (List.getElem_mem hlt)
    rw [spec_l14Copy.l0_eq, if_pos (by omega), if_pos (by omega), if_pos (by omega), rdF fl i hlt, scopyLine_f _ (by omega) K (by omega), bs, if_pos (by omega), wrap_next hlt (by omega), ih k (i + 1) _ (by omega) (by omega) (by simp; omega), drop_cons fl i hlt, List.append_assoc]
    rfl
theorem scopy_f (fl : List Fl) (hs : Sml fl) (t : Int) (fr : Bool) (k : Nat) (hk : 300 ≤ k) : spec_l14Copy.f k fl t fr = some (t, fr, fl) := by
  obtain ⟨k, rfl⟩ : ∃ m, k = m + 1 := ⟨k - 1, by omega⟩
  have hn := hs.1
  rw [spec_l14Copy.f_eq]
  have := scopy_loop k (by omega) fl hs t fr 0 false t fr fl.length k 0 [] (by omega) (by omega) (by simp; omega)
  simpa using this
/-! ### places -/
def ixOf {α : Type} (p : α → Bool) : List α → Nat → Int
  | [], _ => -1
  | a :: l, i => if p a = true then (i : Int) else ixOf p l (i + 1)
theorem ixOf_is {α : Type} (p : α → Bool) : ∀ (l : List α) (i : Nat), (ixOf p l i = -1 ∧ ∀ x ∈ l, p x = false) ∨ ∃ n, ∃ h : n < l.length, ixOf p l i = ((i + n : Nat) : Int) ∧ p l[n] = true
  | [], i => .inl ⟨rfl, fun x hx => by cases hx⟩
  | a :: l, i => by
    cases e : p a with
    | true => exact .inr ⟨0, by simp, by simp [ixOf, e], by simpa using e⟩
    | false =>
      rcases ixOf_is p l (i + 1) with ⟨h1, h2⟩ | ⟨n, h, h1, h2⟩
      · refine .inl ⟨by simp [ixOf, e, h1], fun x hx => ?_⟩
        rcases List.mem_cons.1 hx with rfl | hx
        · exact e
        · exact h2 x hx
      · exact .inr ⟨n + 1, by simp; omega, by rw [ixOf, e, if_neg (by decide), h1]; congr 1; omega, by simpa using h2⟩
def atF (fl : List Fl) (t : Int) : Int := ixOf (fun f : Fl => decide (f.1 = t)) fl 0
def atT (l : List Tk) (t : Int) : Int := ixOf (fun f : Tk => decide (f.1 = t)) l 0
theorem atF_is (fl : List Fl) (t : Int) : (atF fl t = -1 ∧ ∀ x ∈ fl, x.1 ≠ t) ∨ ∃ n, ∃ h : n < fl.length, atF fl t = (n : Int) ∧ fl[n].1 = t := by
  rcases ixOf_is (fun f : Fl => decide (f.1 = t)) fl 0 with ⟨h1, h2⟩ | ⟨n, h, h1, h2⟩
  · exact .inl ⟨h1, fun x hx => by have := h2 x hx; simpa using this⟩
  · exact .inr ⟨n, h, by rw [atF, h1]; congr 1; omega, by simpa using h2⟩
theorem atT_is (l : List Tk) (t : Int) : (atT l t = -1 ∧ ∀ x ∈ l, x.1 ≠ t) ∨ ∃ n, ∃ h : n < l.length, atT l t = (n : Int) ∧ l[n].1 = t := by
  rcases ixOf_is (fun f : Tk => decide (f.1 = t)) l 0 with ⟨h1, h2⟩ | ⟨n, h, h1, h2⟩
  · exact .inl ⟨h1, fun x hx => by have := h2 x hx; simpa using this⟩
  · exact .inr ⟨n, h, by rw [atT, h1]; congr 1; omega, by simpa using h2⟩
theorem sat_loop (K : Nat) (fl : List Fl) (hn : fl.length ≤ 2000000) (r1 : Int) (r2 : Bool) (t : Int) : ∀ (d k i : Nat), i + d = fl.length → d < k →
    spec_l14At.l0 K k t (i : Int) fl r1 r2 = some (ixOf (fun f : Fl => decide (f.1 = t)) (fl.drop i) i) := by
  intro d
  induction d with
  | zero =>
    intro k i hi hk
    obtain ⟨k, rfl⟩ : ∃ m, k = m + 1 := ⟨k - 1, by omega⟩
    rw [spec_l14At.l0_eq, if_neg (by omega), List.drop_of_length_le (by omega)]
    rfl
  | succ d ih =>
    intro k i hi hk
    obtain ⟨k, rfl⟩ : ∃ m, k = m + 1 := ⟨k - 1, by omega⟩
    rw [spec_l14At.l0_eq, if_pos (by omega), if_pos (by omega), if_pos (by omega), rdF fl i (by omega), wrap_next (show i < fl.length by omega) (by omega), ih k (i + 1) (by omega) (by omega), drop_cons fl i (by omega)]
    simp only [ixOf]
    by_cases c : fl[i].1 = t
    · rw [if_pos c, if_pos (decide_eq_true c)]
    · rw [if_neg c, if_neg (by simpa using c)]
theorem sat_f (fl : List Fl) (hn : fl.length ≤ 2000000) (r1 : Int) (r2 : Bool) (t : Int) (k : Nat) (hk : fl.length + 1 < k) : spec_l14At.f k fl r1 r2 t = some (atF fl t) := by
  obtain ⟨k, rfl⟩ : ∃ m, k = m + 1 := ⟨k - 1, by omega⟩
  rw [spec_l14At.f_eq]
  have := sat_loop k fl hn r1 r2 t fl.length k 0 (by omega) (by omega)
  rw [show ((0 : Nat) : Int) = 0 from rfl] at this
  rw [this]
  rfl
/-- What a step answers: the turn, not fresh, whether, the flows. -/
def res4 (o : Option (List Fl × Int)) (fl : List Fl) (turn : Int) : Int × Bool × Bool × List Fl := match o with
  | some s => (s.2, false, true, s.1)
  | none => (turn, false, false, fl)
/-! ### a flow added -/
def posN (t : Int) : List Fl → Nat
  | [] => 0
  | f :: l => if f.1 < t then posN t l + 1 else 0
theorem posN_le (t : Int) : ∀ l : List Fl, posN t l ≤ l.length
  | [] => Nat.le_refl _
  | f :: l => by
    have := posN_le t l
    simp only [posN, List.length_cons]
    split <;> omega
def addN (fl : List Fl) (t q : Int) : List Fl := fl.take (posN t fl) ++ (t, q, 0, []) :: fl.drop (posN t fl)
def addT (fl : List Fl) (turn t : Int) : Int := if 0 < fl.length ∧ (posN t fl : Int) ≤ turn then turn + 1 else turn
def addR (fl : List Fl) (turn t q : Int) : Option (List Fl × Int) :=
  if ringB fl turn = true ∧ atF fl t < 0 then (if ringB (addN fl t q) (addT fl turn t) = true then some (addN fl t q, addT fl turn t) else none) else none
theorem addN_sml {fl : List Fl} (h : fl.length ≤ 12) (hs : Sml fl) (t q : Int) : Sml (addN fl t q) := by
  refine ⟨by have := posN_le t fl; simp [addN]; omega, fun f hf => ?_⟩
  unfold addN at hf
  rcases List.mem_append.1 hf with hf | hf
  · exact hs.2 f (List.mem_of_mem_take hf)
  · rcases List.mem_cons.1 hf with rfl | hf
    · simp
    · exact hs.2 f (List.mem_of_mem_drop hf)
theorem sadd_rest (K : Nat) (fl : List Fl) (hn : fl.length ≤ 100) (t q r1 : Int) (r2 : Bool) (a : Int) (b : Bool) (o1 : Int) (o2 : Bool) (p1 : Int) (p2 : Bool) : ∀ (d k i : Nat) (out : List Fl), i + d = fl.length → d < k → out.length + d ≤ 1000 →
    spec_AddFlow.l0 K k t q true (i : Int) fl r1 r2 a b o1 o2 p1 p2 out fl = spec_AddFlow.j2 K fl r1 r2 a b o1 o2 (out ++ fl.drop i) := by
  intro d
  induction d with
  | zero =>
    intro k i out hi hk ho
    obtain ⟨k, rfl⟩ : ∃ m, k = m + 1 := ⟨k - 1, by omega⟩
    rw [spec_AddFlow.l0_eq, if_neg (by omega), if_neg (by decide), List.drop_of_length_le (by omega), List.append_nil]
  | succ d ih =>
    intro k i out hi hk ho
    obtain ⟨k, rfl⟩ : ∃ m, k = m + 1 := ⟨k - 1, by omega⟩
    rw [spec_AddFlow.l0_eq, if_pos (by omega), if_neg (by decide), spec_AddFlow.j1_eq, if_neg (by decide), spec_AddFlow.j0_eq, if_pos (by omega), if_pos (by omega), if_pos (by omega), wrap_next (show i < fl.length by omega) (by omega),
      ih k (i + 1) _ (by omega) (by omega) (by simp; omega), rdF fl i (by omega), drop_cons fl i (by omega), List.append_assoc]
    rfl
theorem sadd_loop (K : Nat) (fl : List Fl) (hn : fl.length ≤ 100) (t q r1 : Int) (h0 : 0 ≤ r1) (h1 : r1 < fl.length) (r2 : Bool) (a : Int) (b : Bool) (o2 : Bool) (p1 : Int) (p2 : Bool) : ∀ (d k i p : Nat) (out : List Fl), i + d = fl.length → d < k → out.length + d ≤ 500 → (∀ f ∈ fl.drop i, f.1 ≠ t) → p = posN t (fl.drop i) →
    spec_AddFlow.l0 K k t q false (i : Int) fl r1 r2 a b r1 o2 p1 p2 out fl = spec_AddFlow.j2 K fl r1 r2 a b (if ((i + p : Nat) : Int) ≤ r1 then r1 + 1 else r1) o2 (out ++ ((fl.drop i).take p ++ (t, q, 0, []) :: (fl.drop i).drop p)) := by
  intro d
  induction d with
  | zero =>
    intro k i p out hi hk ho hne hp
    obtain ⟨k, rfl⟩ : ∃ m, k = m + 1 := ⟨k - 1, by omega⟩
    rw [List.drop_of_length_le (by omega)] at hp
    obtain rfl : p = 0 := hp
    rw [spec_AddFlow.l0_eq, if_neg (by omega), if_pos (by decide), if_pos (by omega), List.drop_of_length_le (by omega)]
    simp only [List.take_nil, List.drop_nil, List.nil_append]
    rw [if_neg (by omega)]
  | succ d ih =>
    intro k i p out hi hk ho hne hp
    obtain ⟨k, rfl⟩ : ∃ m, k = m + 1 := ⟨k - 1, by omega⟩
    have hlt : i < fl.length := by omega
    have hdr := drop_cons fl i hlt
    rw [hdr] at hne hp
    rw [hdr]
    have hti : fl[i].1 ≠ t := hne _ List.mem_cons_self
    simp only [posN] at hp
    rw [spec_AddFlow.l0_eq, if_pos (by omega), if_pos (by decide), if_pos (by omega), if_pos (by omega), rdF fl i hlt, spec_AddFlow.j1_eq]
    by_cases c : fl[i].1 < t
    · rw [if_pos c] at hp
      subst hp
      rw [if_neg (by simp; omega), spec_AddFlow.j0_eq, if_pos (by omega), if_pos (by omega), if_pos (by omega), wrap_next hlt (by omega), ih k (i + 1) _ _ (by omega) (by omega) (by simp; omega) (fun f hf => hne f (List.mem_cons_of_mem _ hf)) rfl, rdF fl i hlt,
        show i + 1 + posN t (fl.drop (i + 1)) = i + (posN t (fl.drop (i + 1)) + 1) by omega]
      simp only [List.take_succ_cons, List.drop_succ_cons, List.append_assoc, List.cons_append, List.nil_append]
    · rw [if_neg c] at hp
      subst hp
      rw [if_pos (by simp; omega), if_pos (by omega)]
      simp only [List.take_zero, List.drop_zero, List.nil_append, Nat.add_zero]
      have go : ∀ o1, spec_AddFlow.j0 K k t q true (i : Int) fl r1 r2 a b o1 o2 p1 p2 (out ++ [(t, q, 0, [])]) fl = spec_AddFlow.j2 K fl r1 r2 a b o1 o2 (out ++ (t, q, 0, []) :: fl[i] :: fl.drop (i + 1)) := fun o1 => by
        rw [spec_AddFlow.j0_eq, if_pos (by omega), if_pos (by omega), if_pos (by simp; omega), wrap_next hlt (by omega), sadd_rest K fl hn t q r1 r2 a b o1 o2 p1 p2 d k (i + 1) _ (by omega) (by omega) (by simp; omega), rdF fl i hlt]
        simp only [List.append_assoc, List.cons_append, List.nil_append]
      by_cases c2 : (i : Int) ≤ r1
      · rw [if_pos c2, if_pos c2, wrap_id (by omega) (by omega), go]
      · rw [if_neg c2, if_neg c2, go]
theorem sadd_f (fl : List Fl) (hs : Sml fl) (turn t q : Int) (k : Nat) (hk : 500 ≤ k) : spec_AddFlow.f k fl turn false t q = some (res4 (addR fl turn t q) fl turn) := by
  obtain ⟨k, rfl⟩ : ∃ m, k = m + 1 := ⟨k - 1, by omega⟩
  have hn := hs.1
  rw [spec_AddFlow.f_eq, sring_f fl hs turn k (by omega), bs, not_ite]
  unfold addR
  cases h1 : ringB fl turn with
  | false => rw [if_neg (by decide), if_neg (by simp), scopy_f fl hs turn false k (by omega), bs]; rfl
  | true =>
    rw [if_pos rfl, sat_f fl (by omega) turn false t k (by omega), bs, scopy_f fl hs turn false k (by omega)]
    simp only [bs]
    by_cases h2 : atF fl t ≥ 0
    · rw [if_pos h2, if_neg (by omega)]; rfl
    · rw [if_neg h2, if_pos ⟨trivial, by omega⟩]
      obtain ⟨f1, f2, f3, f4⟩ := ring_facts h1
      have hp := posN_le t fl
      have hj2 : ∀ o1, spec_AddFlow.j2 k fl turn false 0 false o1 false (addN fl t q) = if ringB (addN fl t q) o1 = true then some (o1, false, true, addN fl t q) else some (turn, false, false, fl) := fun o1 => by
        rw [spec_AddFlow.j2_eq, sring_f _ (addN_sml f1 hs t q) _ _ (by omega), bs, not_ite, scopy_f fl hs turn false _ (by omega), bs]
      have hne : ∀ f ∈ fl, f.1 ≠ t := by
        rcases atF_is fl t with ⟨_, h⟩ | ⟨n, h, e, _⟩
        · exact h
        · omega
      have hl : spec_AddFlow.l0 k k t q false 0 fl turn false 0 false turn false turn false [] fl = spec_AddFlow.j2 k fl turn false 0 false (addT fl turn t) false (addN fl t q) := by
        rcases Nat.eq_zero_or_pos fl.length with h0 | h0
        · have hnil := List.length_eq_zero_iff.1 h0
          obtain ⟨k, rfl⟩ : ∃ m, k = m + 1 := ⟨k - 1, by omega⟩
          rw [hnil, spec_AddFlow.l0_eq, if_neg (by simp), if_pos (by decide), if_pos (by simp)]
          rfl
        · have ht := f3 h0
          have := sadd_loop k fl hn t q turn ht.1 ht.2 false 0 false false turn false fl.length k 0 (posN t fl) [] (by omega) (by omega) (by simp; omega) (by simpa using hne) rfl
          rw [show ((0 : Nat) : Int) = 0 from rfl, List.drop_zero, Nat.zero_add, List.nil_append] at this
          rw [this]
          unfold addT
          by_cases c2 : (posN t fl : Int) ≤ turn
          · rw [if_pos c2, if_pos ⟨h0, c2⟩]; rfl
          · rw [if_neg c2, if_neg (by omega)]; rfl
      rw [hl, hj2]
      by_cases c : ringB (addN fl t q) (addT fl turn t) = true
      · rw [if_pos c, if_pos c]; rfl
      · rw [if_neg c, if_neg c]; rfl
end Go.Vm.Pu
namespace Go.Vm.Pu
open Go Go.RowKit Go.Vm
set_option linter.unusedVariables false
set_option linter.unusedSimpArgs false
/-! ### a flow dropped -/
def delN {α : Type} (l : List α) (n : Nat) : List α := l.take n ++ l.drop (n + 1)
theorem delN_length {α : Type} (l : List α) (n : Nat) (h : n < l.length) : (delN l n).length = l.length - 1 := by
  simp [delN]; omega
def dropR (fl : List Fl) (turn t : Int) : Option (List Fl × Int) :=
  if ringB fl turn = true ∧ 0 ≤ atF fl t ∧ (fl.getD (atF fl t).toNat dF).2.2.2.length = 0 then
    some (delN fl (atF fl t).toNat, if atF fl t < turn then turn - 1 else if turn = ((delN fl (atF fl t).toNat).length : Int) then 0 else turn)
  else none
theorem sdrop_rest (K : Nat) (fl : List Fl) (hn : fl.length ≤ 100) (at_ r1 : Int) (r2 : Bool) (a : Int) (b : Bool) (o1 : Int) (o2 : Bool) (p1 : Int) (p2 : Bool) : ∀ (d k i : Nat) (out : List Fl), i + d = fl.length → d < k → out.length + d ≤ 1000 → at_ < (i : Int) →
    spec_DropFlow.l0 K k at_ (i : Int) fl r1 r2 a b o1 o2 p1 p2 out fl = (if at_ < r1 then spec_DropFlow.j0 K a b (wrap64 (r1 - 1)) o2 (out ++ fl.drop i) else spec_DropFlow.j0 K a b o1 o2 (out ++ fl.drop i)) := by
  intro d
  induction d with
  | zero =>
    intro k i out hi hk ho ha
    obtain ⟨k, rfl⟩ : ∃ m, k = m + 1 := ⟨k - 1, by omega⟩
    rw [spec_DropFlow.l0_eq, if_neg (by omega), List.drop_of_length_le (by omega), List.append_nil]
  | succ d ih =>
    intro k i out hi hk ho ha
    obtain ⟨k, rfl⟩ : ∃ m, k = m + 1 := ⟨k - 1, by omega⟩
    rw [spec_DropFlow.l0_eq, if_pos (by omega), if_pos (by omega), if_pos (by omega), if_pos (by omega), if_pos (by omega), wrap_next (show i < fl.length by omega) (by omega),
      ih k (i + 1) _ (by omega) (by omega) (by simp; omega) (by omega), rdF fl i (by omega), drop_cons fl i (by omega), List.append_assoc]
    rfl
theorem sdrop_loop (K : Nat) (fl : List Fl) (hn : fl.length ≤ 100) (n : Nat) (hlt : n < fl.length) (r1 : Int) (r2 : Bool) (a : Int) (b : Bool) (o1 : Int) (o2 : Bool) (p1 : Int) (p2 : Bool) : ∀ (d k i : Nat), i + d = n → fl.length - i < k →
    spec_DropFlow.l0 K k (n : Int) (i : Int) fl r1 r2 a b o1 o2 p1 p2 (fl.take i) fl = (if (n : Int) < r1 then spec_DropFlow.j0 K a b (wrap64 (r1 - 1)) o2 (delN fl n) else spec_DropFlow.j0 K a b o1 o2 (delN fl n)) := by
  intro d
  induction d with
  | zero =>
    intro k i hi hk
    obtain ⟨k, rfl⟩ : ∃ m, k = m + 1 := ⟨k - 1, by omega⟩
    obtain rfl : i = n := by omega
    rw [spec_DropFlow.l0_eq, if_pos (by omega), if_neg (by simp), wrap_next hlt (by omega), sdrop_rest K fl hn _ _ _ _ _ _ _ _ _ (fl.length - (i + 1)) k (i + 1) _ (by omega) (by omega) (by simp; omega) (by omega)]
    rfl
  | succ d ih =>
    intro k i hi hk
    obtain ⟨k, rfl⟩ : ∃ m, k = m + 1 := ⟨k - 1, by omega⟩
    rw [spec_DropFlow.l0_eq, if_pos (by omega), if_pos (by omega), if_pos (by omega), if_pos (by omega), if_pos (by simp; omega), wrap_next (show i < fl.length by omega) (by omega), rdF fl i (by omega), ← List.take_succ_eq_append_getElem (by omega), ih k (i + 1) (by omega) (by omega)]
theorem sdrop_f (fl : List Fl) (hs : Sml fl) (turn t : Int) (k : Nat) (hk : 500 ≤ k) : spec_DropFlow.f k fl turn false t = some (res4 (dropR fl turn t) fl turn) := by
  obtain ⟨k, rfl⟩ : ∃ m, k = m + 1 := ⟨k - 1, by omega⟩
  have hn := hs.1
  rw [spec_DropFlow.f_eq, sring_f fl hs turn k (by omega), bs, not_ite, scopy_f fl hs turn false k (by omega)]
  simp only [bs]
  unfold dropR
  cases h1 : ringB fl turn with
  | false => rw [if_neg (by decide), if_neg (by simp)]; rfl
  | true =>
    obtain ⟨f1, f2, f3, f4⟩ := ring_facts h1
    rw [if_pos rfl, sat_f fl (by omega) turn false t k (by omega), bs]
    rcases atF_is fl t with ⟨h2, _⟩ | ⟨n, hlt, h2, _⟩
    · rw [if_pos (by omega), if_neg (by omega)]; rfl
    · have ht := f3 (by omega)
      rw [h2, if_neg (by omega), if_pos (by omega), if_pos (by omega), rdFD]
      simp only [Int.toNat_natCast]
      by_cases h3 : (((fl.getD n dF).2.2.2.length : Nat) : Int) > 0
      · rw [if_pos h3, if_neg (by omega)]; rfl
      · have hl := sdrop_loop k fl hn n hlt turn false 0 false turn false turn false n k 0 (by omega) (by omega)
        rw [show ((0 : Nat) : Int) = 0 from rfl, List.take_zero] at hl
        rw [if_neg h3, if_pos ⟨trivial, by omega, by omega⟩, hl, wrap_id (x := turn - 1) (by omega) (by omega)]
        have hdl := delN_length fl n hlt
        by_cases h4 : (n : Int) < turn
        · rw [if_pos h4, if_pos h4, spec_DropFlow.j0_eq, if_neg (by omega)]; rfl
        · rw [if_neg h4, if_neg h4, spec_DropFlow.j0_eq]
          by_cases h5 : turn = ((delN fl n).length : Int)
          · rw [if_pos h5, if_pos h5]; rfl
          · rw [if_neg h5, if_neg h5]; rfl
/-! ### a ticket pushed -/
def withT (f : Fl) (l : List Tk) : Fl := (f.1, f.2.1, f.2.2.1, l)
def pushR (fl : List Fl) (turn t : Int) (tk : Tk) : Option (List Fl × Int) :=
  if ringB fl turn = true ∧ 0 ≤ atF fl t ∧ lineB ((fl.getD (atF fl t).toNat dF).2.2.2 ++ [tk]) = true then
    some (fl.set (atF fl t).toNat (withT (fl.getD (atF fl t).toNat dF) ((fl.getD (atF fl t).toNat dF).2.2.2 ++ [tk])), turn)
  else none
theorem set_self (fl : List Fl) (n : Nat) (h : n < fl.length) : fl.set n (withT (fl.getD n dF) (fl.getD n dF).2.2.2) = fl := by
  have e : fl.getD n dF = fl[n] := by simp [List.getD, h]
  rw [e]
  show fl.set n fl[n] = fl
  exact List.set_getElem_self h
theorem spush_f (l : List Tk) (hn : l.length ≤ 1000) (hv : lineB l = true) (tk : Tk) (k : Nat) (hk : 1010 ≤ k) : spec_Push.f k l tk.1 tk.2 = some (lineB (l ++ [tk]), if lineB (l ++ [tk]) = true then l ++ [tk] else l) := by
  obtain ⟨k, rfl⟩ : ∃ m, k = m + 1 := ⟨k - 1, by omega⟩
  rw [spec_Push.f_eq, scopyLine_f l (by omega) k (by omega)]
  simp only [bs]
  rw [if_pos (by omega), sline_f l (by omega) k (by omega), bs, hv, if_neg (by decide), sline_f (l ++ [(tk.1, tk.2)]) (by simp; omega) k (by simp; omega), bs, not_ite]
  show (if lineB (l ++ [tk]) = true then _ else _) = _
  cases h : lineB (l ++ [tk]) with
  | true => rfl
  | false => rfl
theorem spushT_f (fl : List Fl) (hs : Sml fl) (turn t : Int) (tk : Tk) (k : Nat) (hk : 1100 ≤ k) : spec_PushTicket.f k fl turn false t tk.1 tk.2 = some (res4 (pushR fl turn t tk) fl turn) := by
  obtain ⟨k, rfl⟩ : ∃ m, k = m + 1 := ⟨k - 1, by omega⟩
  have hn := hs.1
  rw [spec_PushTicket.f_eq, sring_f fl hs turn k (by omega), bs, not_ite, scopy_f fl hs turn false k (by omega)]
  simp only [bs]
  unfold pushR
  cases h1 : ringB fl turn with
  | false => rw [if_neg (by decide), if_neg (by simp)]; rfl
  | true =>
    obtain ⟨f1, f2, f3, f4⟩ := ring_facts h1
    rw [if_pos rfl, sat_f fl (by omega) turn false t k (by omega), bs]
    rcases atF_is fl t with ⟨h2, _⟩ | ⟨n, hlt, h2, _⟩
    · rw [if_pos (by omega), if_neg (by omega)]; rfl
    · have hl := hs.at n
      have hv : lineB (fl.getD n dF).2.2.2 = true := by
        have := (flB_facts (f4 n hlt) hlt).2.1
        have e : fl.getD n dF = fl[n] := by simp [List.getD, hlt]
        rw [e]
        exact this
      rw [h2, if_neg (by omega), if_pos (by omega), if_pos (by omega), rdFD, spush_f _ (by omega) hv tk k (by omega)]
      simp only [bs, Int.toNat_natCast]
      cases h3 : lineB ((fl.getD n dF).2.2.2 ++ [tk]) with
      | true => rw [if_pos rfl, if_pos (by omega), if_pos (by omega), if_pos (by simp)]; rfl
      | false => rw [if_neg (by decide), if_neg (by simp)]; rfl
end Go.Vm.Pu
namespace Go.Vm.Pu
open Go Go.RowKit Go.Vm
set_option linter.unusedVariables false
set_option linter.unusedSimpArgs false
theorem line_inc {l : List Tk} (h : lineB l = true) : ∀ (d i j : Nat) (hj : j < l.length) (hij : i + d + 1 = j), (l[i]'(by omega)).1 < l[j].1 := by
  unfold lineB at h
  simp only [Bool.and_eq_true, decide_eq_true_eq] at h
  have nx : ∀ j, (hj : j + 1 < l.length) → (l[j]'(by omega)).1 < l[j + 1].1 := fun j hj => by
    have := okF_iff.1 h.2 (j + 1) (by omega) (by omega)
    unfold lnB at this
    simp only [Bool.and_eq_true, Bool.or_eq_true, decide_eq_true_eq] at this
    have h2 := this.2.resolve_left (by omega)
    have e1 : l.getD (j + 1) (0, 0) = l[j + 1] := by simp [List.getD, hj]
    have e2 : l.getD (j + 1 - 1) (0, 0) = l[j]'(by omega) := by simp [List.getD, show j < l.length by omega]
    rw [e1, e2] at h2
    exact h2
  intro d
  induction d with
  | zero =>
    intro i j hj hij
    obtain rfl : j = i + 1 := by omega
    exact nx i hj
  | succ d ih =>
    intro i j hj hij
    obtain ⟨m, rfl⟩ : ∃ m, j = m + 1 := ⟨j - 1, by omega⟩
    have h1 := ih i m (by omega) (by omega)
    have h2 := nx m hj
    omega
theorem line_pos {l : List Tk} (h : lineB l = true) (i : Nat) (hi : i < l.length) : 1 ≤ l[i].1 := by
  unfold lineB at h
  simp only [Bool.and_eq_true, decide_eq_true_eq] at h
  have := okF_iff.1 h.2 i (by omega) (by omega)
  unfold lnB tkB at this
  simp only [Bool.and_eq_true, decide_eq_true_eq] at this
  have e1 : l.getD i (0, 0) = l[i] := by simp [List.getD, hi]
  rw [e1] at this
  exact this.1.1
theorem line_ne {l : List Tk} (h : lineB l = true) (i j : Nat) (hi : i < l.length) (hj : j < l.length) (hne : i ≠ j) : l[i].1 ≠ l[j].1 := by
  rcases Nat.lt_or_gt_of_ne hne with c | c
  · have := line_inc h (j - i - 1) i j hj (by omega)
    omega
  · have := line_inc h (i - j - 1) j i hi (by omega)
    omega
/-! ### a ticket cancelled -/
def offT (f : Fl) (l : List Tk) : Fl := (f.1, f.2.1, if l.length = 0 then 0 else f.2.2.1, l)
def cancR (fl : List Fl) (turn t id : Int) : Option (List Fl × Int × Tk) :=
  if ringB fl turn = true ∧ 0 ≤ atF fl t ∧ 0 ≤ atT (fl.getD (atF fl t).toNat dF).2.2.2 id then
    some (fl.set (atF fl t).toNat (offT (fl.getD (atF fl t).toNat dF) (delN (fl.getD (atF fl t).toNat dF).2.2.2 (atT (fl.getD (atF fl t).toNat dF).2.2.2 id).toNat)), turn,
      (fl.getD (atF fl t).toNat dF).2.2.2.getD (atT (fl.getD (atF fl t).toNat dF).2.2.2 id).toNat (0, 0))
  else none
def res6 (o : Option (List Fl × Int × Tk)) (fl : List Fl) (turn : Int) : Int × Bool × Int × Int × Bool × List Fl := match o with
  | some s => (s.2.1, false, s.2.2.1, s.2.2.2, true, s.1)
  | none => (turn, false, 0, 0, false, fl)
theorem rd_setF (l : List Fl) (i : Nat) (h : i < l.length) (x : Fl) : rd FlT (l.set (Int.toNat (i : Int)) x) (i : Int) = x := by
  rw [rdF _ i (by simpa using h)]; simp
theorem scanc_rest (K : Nat) (l : List Tk) (hn : l.length ≤ 1000) (id a b g0 g1 : Int) : ∀ (d k i : Nat) (out : List Tk), i + d = l.length → d < k → out.length + d ≤ 5000 → (∀ x ∈ l.drop i, x.1 ≠ id) →
    spec_Cancel.l0 K k id (i : Int) l a b g0 g1 out = some (g0, g1, decide (g0 ≠ 0), out ++ l.drop i) := by
  intro d
  induction d with
  | zero =>
    intro k i out hi hk ho hne
    obtain ⟨k, rfl⟩ : ∃ m, k = m + 1 := ⟨k - 1, by omega⟩
    rw [spec_Cancel.l0_eq, if_neg (by omega), List.drop_of_length_le (by omega), List.append_nil]
  | succ d ih =>
    intro k i out hi hk ho hne
    obtain ⟨k, rfl⟩ : ∃ m, k = m + 1 := ⟨k - 1, by omega⟩
    have hlt : i < l.length := by omega
    have hdr := drop_cons l i hlt
    rw [hdr] at hne
    have hti : l[i].1 ≠ id := hne _ List.mem_cons_self
    rw [spec_Cancel.l0_eq, if_pos (by omega), if_pos (by omega), if_pos (by omega), rdT l i hlt, if_neg hti, if_pos (by omega), if_pos (by omega), if_pos (by omega), wrap_next hlt (by omega),
      ih k (i + 1) _ (by omega) (by omega) (by simp; omega) (fun x hx => hne x (List.mem_cons_of_mem _ hx)), hdr, List.append_assoc]
    rfl
theorem scanc_loop (K : Nat) (l : List Tk) (hn : l.length ≤ 1000) (hv : lineB l = true) (m : Nat) (hm : m < l.length) (a b : Int) : ∀ (d k i : Nat), i + d = m → l.length - i < k →
    spec_Cancel.l0 K k l[m].1 (i : Int) l a b 0 0 (l.take i) = some (l[m].1, l[m].2, true, delN l m) := by
  intro d
  induction d with
  | zero =>
    intro k i hi hk
    obtain ⟨k, rfl⟩ : ∃ m, k = m + 1 := ⟨k - 1, by omega⟩
    obtain rfl : i = m := by omega
    have h1 := line_pos hv i hm
    rw [spec_Cancel.l0_eq, if_pos (by omega), if_pos (by omega), if_pos (by omega), rdT l i hm, if_pos rfl, if_pos (by omega), if_pos (by omega), wrap_next hm (by omega),
      scanc_rest K l hn _ a b _ _ (l.length - (i + 1)) k (i + 1) _ (by omega) (by omega) (by simp; omega) (fun x hx => ?_), decide_eq_true (by omega)]
    · rfl
    · obtain ⟨q, hq, rfl⟩ := List.mem_iff_getElem.1 hx
      rw [List.getElem_drop]
      simp only [List.length_drop] at hq
      exact line_ne hv _ _ (by omega) hm (by omega)
  | succ d ih =>
    intro k i hi hk
    obtain ⟨k, rfl⟩ : ∃ m, k = m + 1 := ⟨k - 1, by omega⟩
    rw [spec_Cancel.l0_eq, if_pos (by omega), if_pos (by omega), if_pos (by omega), rdT l i (by omega), if_neg (line_ne hv i m (by omega) hm (by omega)), if_pos (by omega), if_pos (by omega), if_pos (by simp; omega), wrap_next (show i < l.length by omega) (by omega),
      ← List.take_succ_eq_append_getElem (by omega), ih k (i + 1) (by omega) (by omega)]
theorem scancel_f (l : List Tk) (hn : l.length ≤ 1000) (hv : lineB l = true) (id : Int) (k : Nat) (hk : 1010 ≤ k) : spec_Cancel.f k l id =
    some (if 0 ≤ atT l id then ((l.getD (atT l id).toNat (0, 0)).1, (l.getD (atT l id).toNat (0, 0)).2, true, delN l (atT l id).toNat) else (0, 0, false, l)) := by
  obtain ⟨k, rfl⟩ : ∃ m, k = m + 1 := ⟨k - 1, by omega⟩
  rw [spec_Cancel.f_eq, sline_f l (by omega) k (by omega), bs, hv, if_neg (by decide)]
  rcases atT_is l id with ⟨h3, h4⟩ | ⟨m, hm, h3, h4⟩
  · have := scanc_rest k l hn id 0 0 0 0 l.length k 0 [] (by omega) (by omega) (by simp; omega) (by simpa using h4)
    rw [show ((0 : Nat) : Int) = 0 from rfl] at this
    rw [this, if_neg (by omega)]
    rfl
  · have := scanc_loop k l hn hv m hm 0 0 m k 0 (by omega) (by omega)
    rw [show ((0 : Nat) : Int) = 0 from rfl, h4, List.take_zero] at this
    rw [this, if_pos (by omega), h3]
    simp only [Int.toNat_natCast]
    have e : l.getD m (0, 0) = l[m] := by simp [List.getD, hm]
    rw [e, h4]
theorem scanc_f (fl : List Fl) (hs : Sml fl) (turn t id : Int) (k : Nat) (hk : 1100 ≤ k) : spec_CancelTicket.f k fl turn false t id = some (res6 (cancR fl turn t id) fl turn) := by
  obtain ⟨k, rfl⟩ : ∃ m, k = m + 1 := ⟨k - 1, by omega⟩
  have hn := hs.1
  rw [spec_CancelTicket.f_eq, sring_f fl hs turn k (by omega), bs, not_ite, scopy_f fl hs turn false k (by omega)]
  simp only [bs]
  unfold cancR
  cases h1 : ringB fl turn with
  | false => rw [if_neg (by decide), if_neg (by simp)]; rfl
  | true =>
    obtain ⟨f1, f2, f3, f4⟩ := ring_facts h1
    rw [if_pos rfl, sat_f fl (by omega) turn false t k (by omega), bs]
    rcases atF_is fl t with ⟨h2, _⟩ | ⟨n, hlt, h2, _⟩
    · rw [if_pos (by omega), if_neg (by omega)]; rfl
    · have hl := hs.at n
      have hset := rd_setF fl n hlt
      have hv : lineB (fl.getD n dF).2.2.2 = true := by
        have := (flB_facts (f4 n hlt) hlt).2.1
        have e : fl.getD n dF = fl[n] := by simp [List.getD, hlt]
        rw [e]
        exact this
      have hc := scancel_f (fl.getD n dF).2.2.2 (by omega) hv id k (by omega)
      rw [h2, if_neg (by omega), if_pos (by omega), if_pos (by omega), rdFD]
      simp only [Int.toNat_natCast]
      rcases atT_is (fl.getD n dF).2.2.2 id with ⟨h3, _⟩ | ⟨m, hm, h3, _⟩
      · rw [if_neg (by omega)] at hc
        rw [hc]
        simp only [bs, Bool.not_false, if_true]
        rw [if_neg (by omega)]
        rfl
      · rw [if_pos (by omega), h3] at hc
        rw [hc, h3]
        simp only [Int.toNat_natCast] at hset
        simp only [bs, Bool.not_true, Bool.false_eq_true, if_false, Int.toNat_natCast, hset, List.set_set, List.length_set, spec_CancelTicket.j0_eq, rdFD]
        rw [if_pos (show True ∧ 0 ≤ (n : Int) ∧ 0 ≤ (m : Int) from ⟨trivial, by omega, by omega⟩), if_pos (by omega), if_pos (by omega)]
        by_cases c : ((delN (fl.getD n dF).2.2.2 m).length : Int) = 0
        · rw [if_pos c, if_pos (by omega), if_pos (by omega), ite_self]
          simp only [res6, offT]
          rw [if_pos (by omega)]
        · rw [if_neg c]
          simp only [res6, offT]
          rw [if_neg (by omega)]
end Go.Vm.Pu
namespace Go.Vm.Pu
open Go Go.RowKit Go.Vm
set_option linter.unusedVariables false
set_option linter.unusedSimpArgs false
abbrev RSt := List Fl × Int
def stepR (a0 a1 a2 a3 : Int) (s : RSt) : Option RSt :=
  if a0 = 1 then addR s.1 s.2 a1 a3 else if a0 = 2 then pushR s.1 s.2 a1 (a2, a3) else if a0 = 3 ∨ a0 = 4 then (match cancR s.1 s.2 a1 a2 with | some x => some (x.1, x.2.1) | none => none) else if a0 = 5 then dropR s.1 s.2 a1 else none
def doR (e : Evt) (s : RSt) : Option RSt := if EvP e.1 e.2.1 e.2.2.1 e.2.2.2.1 e.2.2.2.2 then stepR e.1 e.2.1 e.2.2.1 e.2.2.2.1 s else none
def rep : List Evt → RSt → Option RSt
  | [], s => some s
  | e :: l, s => match doR e s with
    | some s' => rep l s'
    | none => none
theorem Sml.set {fl : List Fl} (h : Sml fl) (n : Nat) (f : Fl) (hf : f.2.2.2.length ≤ 100) : Sml (fl.set n f) := by
  refine ⟨by rw [List.length_set]; exact h.1, fun g hg => ?_⟩
  rcases List.mem_or_eq_of_mem_set hg with hg | rfl
  · exact h.2 g hg
  · exact hf
theorem doR_sml {e : Evt} {s s' : RSt} (hs : Sml s.1) (h : doR e s = some s') : Sml s'.1 := by
  unfold doR at h
  split at h
  case isFalse => cases h
  unfold stepR at h
  split at h
  · unfold addR at h
    split at h
    · rename_i h1
      split at h
      · cases h
        exact addN_sml (ring_facts h1.1).1 hs _ _
      · cases h
    · cases h
  split at h
  · unfold pushR at h
    split at h
    · rename_i h1
      cases h
      exact hs.set _ _ (by have := line_len h1.2.2; simp only [withT]; omega)
    · cases h
  split at h
  · split at h
    · rename_i x hx
      cases h
      unfold cancR at hx
      split at hx
      · cases hx
        refine hs.set _ _ ?_
        have := hs.at (atF s.1 e.2.1).toNat
        simp only [offT, delN, List.length_append, List.length_take, List.length_drop]
        omega
      · cases hx
    · cases h
  split at h
  · unfold dropR at h
    split at h
    · cases h
      refine ⟨?_, fun f hf => ?_⟩
      · have := hs.1
        simp only [delN, List.length_append, List.length_take, List.length_drop]
        omega
      · simp only [delN] at hf
        rcases List.mem_append.1 hf with hf | hf
        · exact hs.2 f (List.mem_of_mem_take hf)
        · exact hs.2 f (List.mem_of_mem_drop hf)
    · cases h
  · cases h
def repI (o : Option RSt) : Int × Bool × Bool × List Fl := match o with
  | some s => (0, false, true, s.1)
  | none => (0, false, false, [])
theorem sml_nil : Sml [] := ⟨by simp, fun f hf => by cases hf⟩
/-- What the replay of a log answers. -/
def repO (evs : List Evt) : Option RSt := if evs.length ≤ 4096 then rep evs ([], 0) else none
def resD (o : Option RSt) (s : RSt) : List Fl × Int × Bool × Bool := match o with
  | some s' => (s'.1, s'.2, false, true)
  | none => (s.1, s.2, false, false)
theorem sdo_f (e : Evt) (hb : Bs e.2.2.2.2) (hl : e.2.2.2.2.length ≤ 2000000) (s : RSt) (hs : Sml s.1) (k : Nat) (hk : 5001 ≤ k) :
    spec_l18Do.f k s.1 s.2 false e.1 e.2.1 e.2.2.1 e.2.2.2.1 e.2.2.2.2 = some (resD (doR e s) s) := by
  obtain ⟨k, rfl⟩ : ∃ m, k = m + 1 := ⟨k - 1, by omega⟩
  have h4 : ∀ o : Option RSt, some ((res4 o s.1 s.2).2.2.2, (res4 o s.1 s.2).1, (res4 o s.1 s.2).2.1, (res4 o s.1 s.2).2.2.1) = some (resD o s) := fun o => by cases o <;> rfl
  rw [spec_l18Do.f_eq, sevent_f _ _ _ _ _ hb hl k (by omega), bs, not_ite]
  unfold doR
  by_cases hv : EvP e.1 e.2.1 e.2.2.1 e.2.2.2.1 e.2.2.2.2
  case neg =>
    rw [decide_eq_false hv, if_neg (by decide), if_neg hv]
    rfl
  rw [decide_eq_true hv, if_pos rfl, if_pos hv]
  unfold stepR
  by_cases c1 : e.1 = 1
  · rw [if_pos c1, if_pos c1, sadd_f s.1 hs _ _ _ k (by omega), bs, spec_l18Do.j0_eq]
    exact h4 _
  rw [if_neg c1, if_neg c1]
  by_cases c2 : e.1 = 2
  · rw [if_pos c2, if_pos c2, spushT_f s.1 hs s.2 _ (e.2.2.1, e.2.2.2.1) k (by omega), bs, spec_l18Do.j0_eq]
    exact h4 _
  rw [if_neg c2, if_neg c2]
  have hc : ∀ (ok : Bool) (t14 e0 e3 : Int) (e4 : List Int) (a : Int) (b : Bool) (n0 : List Fl) (n1 : Int) (n2 : Bool), spec_l18Do.j1 k ok t14 true s.1 s.2 false e0 e.2.1 e.2.2.1 e3 e4 a b n0 n1 n2 =
      some (resD (match cancR s.1 s.2 e.2.1 e.2.2.1 with | some x => some (x.1, x.2.1) | none => none) s) := fun ok t14 e0 e3 e4 a b n0 n1 n2 => by
    rw [spec_l18Do.j1_eq, if_pos rfl, scanc_f s.1 hs s.2 _ _ k (by omega), bs, spec_l18Do.j0_eq]
    cases cancR s.1 s.2 e.2.1 e.2.2.1 with
    | none => rfl
    | some x => rfl
  by_cases c3 : e.1 = 3
  · rw [if_pos c3, decide_eq_true c3, if_pos (.inl c3)]
    exact hc _ _ _ _ _ _ _ _ _ _
  rw [if_neg c3]
  by_cases c4 : e.1 = 4
  · rw [decide_eq_true c4, if_pos (.inr c4)]
    exact hc _ _ _ _ _ _ _ _ _ _
  have c5 : e.1 = 5 := by
    unfold EvP at hv
    omega
  rw [decide_eq_false c4, spec_l18Do.j1_eq, if_neg (by decide), if_neg (show ¬ (e.1 = 3 ∨ e.1 = 4) by omega), if_pos c5, if_pos c5, sdrop_f s.1 hs _ _ k (by omega), bs, spec_l18Do.j0_eq]
  exact h4 _
def repS (o : Option RSt) : List Fl × Int × Bool × Bool := match o with
  | some s => (s.1, 0, false, true)
  | none => ([], 0, false, false)
/-! ### the next id -/
def nxt : List Evt → Int → Int
  | [], g => g
  | e :: l, g => nxt l (if e.1 = 2 ∧ e.2.2.1 > g then e.2.2.1 else g)
def nid (evs : List Evt) : Int := match repO evs with
  | some _ => wrap64 (nxt evs 0 + 1)
  | none => -1
end Go.Vm.Pu
namespace Go.Vm.Pu
open Go Go.RowKit Go.Vm
set_option linter.unusedVariables false
set_option linter.unusedSimpArgs false
theorem L_take (l : List Int) (p n : Nat) (h : n < p) : L (l.take p) n = L l n := by
  simp [L, List.getD, List.getElem?_take, h]
theorem cmpS_part (b : List Int) (n : Nat) (s : List Int) : ∀ (d i : Nat), n + i ≤ b.length → b.length < n + i + d → (∀ j, i ≤ j → n + j < b.length → L b (n + j) = L s j) → cmpS b n s d i = 1 := by
  intro d
  induction d with
  | zero => intro i h1 h2 _; omega
  | succ d ih =>
    intro i h1 h2 h
    rw [cmpS]
    by_cases c : n + i = b.length
    · rw [if_pos c]
    · rw [if_neg c, if_neg (by simpa using h i (Nat.le_refl _) (by omega))]
      exact ih (i + 1) (by omega) (by omega) fun j hj hj2 => h j (by omega) hj2
section
variable (t s : Int) (b : List Int)
def headL : List Int := [199, 77, t % 256, s / 16777216 % 256, s / 65536 % 256, s / 256 % 256, s % 256, (b.length : Int) / 256 % 256, (b.length : Int) % 256]
theorem ef_is (h : FrP t s b) : ef t s b = headL t s b ++ (b ++ w4 (ck (mid t s b) (1, 0))) ∧ [199, 77] ++ mid t s b = headL t s b ++ b ∧ (ef t s b).length = 13 + b.length := by
  have hmid : [199, 77] ++ mid t s b = headL t s b ++ b := by simp [mid, w4, w2, headL]
  have e : ef t s b = headL t s b ++ (b ++ w4 (ck (mid t s b) (1, 0))) := by
    unfold ef
    rw [if_pos h, hmid, List.append_assoc]
  refine ⟨e, hmid, ?_⟩
  rw [e]
  simp [headL, w4]
  omega
theorem head_facts (h : FrP t s b) (F : List Int) (hF : ∃ r, F = headL t s b ++ r) :
    (∀ n, n < 9 → L F n = L (headL t s b) n) ∧ F.take 9 = headL t s b ∧ lg2 F = (b.length : Int) ∧ be ((F.take 7).drop 3) 0 = s := by
  obtain ⟨r, hF⟩ := hF
  obtain ⟨⟨t0, t1⟩, ⟨s0, s1⟩, hl⟩ := id h
  have hH : (headL t s b).length = 9 := rfl
  have ht9 : F.take 9 = headL t s b := by rw [hF, List.take_append_of_le_length (by rw [hH]; omega), List.take_of_length_le (by rw [hH]; omega)]
  refine ⟨fun n hn => by rw [hF]; exact L_left _ _ _ (by rw [hH]; exact hn), ht9, ?_, ?_⟩
  · unfold lg2
    rw [ht9]
    show be (w2 (b.length : Int)) 0 = _
    exact be2 _ (by omega) (by omega)
  · have : F.take 7 = (headL t s b).take 7 := by rw [← ht9, List.take_take]; rfl
    rw [this]
    show be (w4 s) 0 = s
    exact be4 s s0 (by omega)
theorem df_more (h : FrP t s b) (rest : List Int) : df (ef t s b ++ rest) = (t, s, ((ef t s b).length : Int), 0, b) := by
  obtain ⟨⟨t0, t1⟩, ⟨s0, s1⟩, hl⟩ := id h
  obtain ⟨he, hmid, hlen⟩ := ef_is t s b h
  obtain ⟨c, hc⟩ : ∃ c, c = ck (mid t s b) (1, 0) := ⟨_, rfl⟩
  rw [← hc] at he
  obtain ⟨F, hF⟩ : ∃ F, F = ef t s b ++ rest := ⟨_, rfl⟩
  have hF' : F = headL t s b ++ (b ++ w4 c ++ rest) := by rw [hF, he]; simp [List.append_assoc]
  obtain ⟨hL, ht9, hlg, hs⟩ := head_facts t s b h F ⟨_, hF'⟩
  have l0 : L F 0 = 199 := hL 0 (by omega)
  have l1 : L F 1 = 77 := hL 1 (by omega)
  have l2 : L F 2 = t % 256 := hL 2 (by omega)
  have l3 : L F 3 = s / 16777216 % 256 := hL 3 (by omega)
  have l7 : L F 7 = (b.length : Int) / 256 % 256 := hL 7 (by omega)
  have hH : (headL t s b).length = 9 := rfl
  have hFl : F.length = 13 + b.length + rest.length := by rw [hF, List.length_append, hlen]
  have hnat : (9 + (b.length : Int)).toNat = 9 + b.length := by omega
  have htk : F.take (9 + b.length) = headL t s b ++ b := by
    rw [hF', ← List.append_assoc, ← List.append_assoc, List.append_assoc, List.take_append_of_le_length (by simp [hH]), List.take_of_length_le (by simp [hH])]
  have hd2 : (headL t s b ++ b).drop 2 = mid t s b := by rw [← hmid]; rfl
  have hd9 : (headL t s b ++ b).drop 9 = b := by
    rw [show 9 = (headL t s b).length from rfl, List.drop_append_of_le_length (Nat.le_refl _), List.drop_of_length_le (Nat.le_refl _), List.nil_append]
  rw [← hF]
  have hbad : ¬ hdBad9 F := by
    unfold hdBad9 hdBad
    rw [l0, l1, l2, l3, l7, hlg]
    omega
  unfold df
  rw [if_neg hbad, if_neg (by omega), hlg, if_neg (by omega), hnat, htk, hd2, hd9, ← hc]
  have hcmp : cmpS F (9 + b.length) (w4 c) 4 0 = 0 := cmpS_same _ _ _ 4 0 fun j hj hj2 => by
    refine ⟨by omega, ?_⟩
    have : F = (headL t s b ++ b) ++ (w4 c ++ rest) := by rw [hF']; simp [List.append_assoc]
    rw [this, show 9 + b.length = (headL t s b ++ b).length by simp [hH], L_app, L_left _ _ _ (by rw [w4_length]; omega)]
  rw [if_pos hcmp, l2, hs, show t % 256 = t by omega]
  rw [show (13 : Int) + (b.length : Int) = ((ef t s b).length : Int) by omega]
theorem df_part (h : FrP t s b) (p : Nat) (hp : p < (ef t s b).length) : df ((ef t s b).take p) = (0, 0, 0, 1, []) := by
  obtain ⟨⟨t0, t1⟩, ⟨s0, s1⟩, hl⟩ := id h
  obtain ⟨he, hmid, hlen⟩ := ef_is t s b h
  obtain ⟨c, hc⟩ : ∃ c, c = ck (mid t s b) (1, 0) := ⟨_, rfl⟩
  rw [← hc] at he
  obtain ⟨F, hF⟩ : ∃ F, F = ef t s b := ⟨_, rfl⟩
  rw [← hF] at hp he hlen ⊢
  obtain ⟨hL, ht9, hlg, hs⟩ := head_facts t s b h F ⟨_, he⟩
  have hH : (headL t s b).length = 9 := rfl
  obtain ⟨G, hG⟩ : ∃ G, G = F.take p := ⟨_, rfl⟩
  have hGl : G.length = p := by rw [hG, List.length_take]; omega
  have gL : ∀ n, n < p → L G n = L F n := fun n hn => by rw [hG]; exact L_take _ _ _ hn
  have glg : 9 ≤ p → lg2 G = (b.length : Int) := fun h9 => by
    unfold lg2 at hlg ⊢
    rw [hG, List.take_take, Nat.min_eq_left h9]
    exact hlg
  rw [← hG]
  have hbad : ¬ hdBad9 G := by
    unfold hdBad9 hdBad
    rintro ((⟨g1, g2⟩ | ⟨g1, g2⟩ | ⟨g1, g2⟩ | ⟨g1, g2⟩ | ⟨g1, g2⟩) | ⟨g1, g2⟩)
    · rw [gL 0 (by omega), hL 0 (by omega)] at g2
      exact g2 rfl
    · rw [gL 1 (by omega), hL 1 (by omega)] at g2
      exact g2 rfl
    · rw [gL 2 (by omega), hL 2 (by omega), show L (headL t s b) 2 = t % 256 from rfl] at g2
      omega
    · rw [gL 3 (by omega), hL 3 (by omega), show L (headL t s b) 3 = s / 16777216 % 256 from rfl] at g2
      omega
    · rw [gL 7 (by omega), hL 7 (by omega), show L (headL t s b) 7 = (b.length : Int) / 256 % 256 from rfl] at g2
      omega
    · rw [glg (by omega)] at g2
      omega
  unfold df
  rw [if_neg hbad]
  by_cases c9 : G.length < 9
  · rw [if_pos c9]
  rw [if_neg c9, glg (by omega)]
  by_cases cl : (G.length : Int) < 9 + (b.length : Int)
  · rw [if_pos cl]
  have hnat : (9 + (b.length : Int)).toNat = 9 + b.length := by omega
  have htk : G.take (9 + b.length) = headL t s b ++ b := by
    rw [hG, List.take_take, Nat.min_eq_left (by omega), he, ← List.append_assoc, List.take_append_of_le_length (by simp [hH]), List.take_of_length_le (by simp [hH])]
  have hd2 : (headL t s b ++ b).drop 2 = mid t s b := by rw [← hmid]; rfl
  rw [if_neg cl, hnat, htk, hd2, ← hc]
  have hcmp : cmpS G (9 + b.length) (w4 c) 4 0 = 1 := cmpS_part _ _ _ 4 0 (by omega) (by omega) fun j hj hj2 => by
    have : F = (headL t s b ++ b) ++ w4 c := by rw [he]; simp [List.append_assoc]
    rw [gL _ (by omega), this, show 9 + b.length = (headL t s b ++ b).length by simp [hH], L_app]
  rw [hcmp, if_neg (by decide)]
end
/-! ### events behind each other -/
abbrev EvV (e : Evt) : Prop := EvP e.1 e.2.1 e.2.2.1 e.2.2.2.1 e.2.2.2.2
def pv (e : Evt) : List Int := pe e.1 e.2.1 e.2.2.1 e.2.2.2.1 e.2.2.2.2
def cat : List Evt → List Int
  | [] => []
  | e :: l => pv e ++ cat l
theorem cat_app : ∀ a b : List Evt, cat (a ++ b) = cat a ++ cat b
  | [], b => rfl
  | e :: a, b => by simp [cat, cat_app a b]
theorem pv_is {e : Evt} (h : EvV e) : pv e = ef e.2.1 e.2.2.1 ([e.1 % 256] ++ vi 6 (unz e.2.2.2.1) ++ e.2.2.2.2) := by
  unfold pv pe
  rw [if_pos h]
theorem pv_len {e : Evt} (h : EvV e) : 13 ≤ (pv e).length ∧ (pv e).length ≤ 21 + e.2.2.2.2.length := by
  rw [pv_is h, (ef_is _ _ _ (ev_frame h)).2.2]
  have := body_len e.1 e.2.2.2.1 e.2.2.2.2
  omega
theorem pv_bs {e : Evt} (h : EvV e) (hb : Bs e.2.2.2.2) : Bs (pv e) := by
  rw [pv_is h]
  obtain ⟨he, _, _⟩ := ef_is _ _ _ (ev_frame h)
  rw [he]
  have hbb := body_bs e.1 e.2.2.2.1 e.2.2.2.2 hb
  refine Bs.app ?_ (Bs.app hbb (Bs.w4 _))
  intro x hx
  simp only [headL, List.mem_cons, List.not_mem_nil, or_false] at hx
  rcases hx with rfl | rfl | rfl | rfl | rfl | rfl | rfl | rfl | rfl <;> omega
theorem cat_bs : ∀ {l : List Evt}, (∀ e ∈ l, EvV e ∧ Bs e.2.2.2.2) → Bs (cat l)
  | [], _ => fun x hx => by cases hx
  | e :: l, h => (pv_bs (h e (by simp)).1 (h e (by simp)).2).app (cat_bs fun x hx => h x (List.mem_cons_of_mem _ hx))
theorem cat_len : ∀ {l : List Evt}, (∀ e ∈ l, EvV e ∧ e.2.2.2.2.length ≤ 1437) → 13 * l.length ≤ (cat l).length ∧ (cat l).length ≤ 1458 * l.length
  | [], _ => by simp [cat]
  | e :: l, h => by
    have h1 := pv_len (h e (by simp)).1
    have h2 := (h e (by simp)).2
    have h3 := cat_len fun x hx => h x (List.mem_cons_of_mem _ hx)
    simp only [cat, List.length_append, List.length_cons]
    omega
/-- What is read of whole events and a beginning of a further one. -/
theorem scn_cat (all : List Int) (t : List Int) (ht : t = [] ∨ (0 < t.length ∧ df t = (0, 0, 0, 1, []))) : ∀ (l : List Evt) (d at_ : Nat) (out : List Evt), (∀ e ∈ l, EvV e) → at_ ≤ all.length → all.drop at_ = cat l ++ t → l.length ≤ d → (t ≠ [] → l.length < d) →
    scn all d at_ out = (at_ + (cat l).length, if t.length = 0 then 0 else 1, out ++ l) := by
  intro l
  induction l with
  | nil =>
    intro d at_ out hv ha hd h1 h2
    simp only [cat, List.nil_append] at hd
    have hlen : all.length - at_ = t.length := by rw [← hd, List.length_drop]
    simp only [cat, List.length_nil, Nat.add_zero, List.append_nil]
    rcases ht with rfl | ⟨h0, hdf⟩
    · simp only [List.length_nil] at hlen
      cases d with
      | zero => rfl
      | succ d => rw [scn, if_neg (by omega)]; rfl
    · have hne : t ≠ [] := by
        rintro rfl
        simp at h0
      obtain ⟨d, rfl⟩ : ∃ q, d = q + 1 := ⟨d - 1, by have := h2 hne; omega⟩
      rw [scn, if_pos (by omega), hd, hdf, if_pos rfl, if_neg (by omega)]
  | cons e l ih =>
    intro d at_ out hv ha hd h1 h2
    have he := hv e (by simp)
    have hp := pv_len he
    obtain ⟨d, rfl⟩ : ∃ q, d = q + 1 := ⟨d - 1, by simp at h1; omega⟩
    have hd' : all.drop at_ = pv e ++ (cat l ++ t) := by rw [hd]; simp [cat]
    have hdf : df (all.drop at_) = (e.2.1, e.2.2.1, ((pv e).length : Int), 0, [e.1 % 256] ++ vi 6 (unz e.2.2.2.1) ++ e.2.2.2.2) := by
      rw [hd', pv_is he]
      exact df_more _ _ _ (ev_frame he) _
    have hlen : all.length - at_ = (pv e).length + (cat l ++ t).length := by rw [← List.length_append, ← hd', List.length_drop]
    have hte := te_put he
    rw [scn, if_pos (by omega), hdf]
    simp only [hte]
    rw [if_neg (by decide), if_neg (by decide), if_pos trivial]
    simp only [Int.toNat_natCast]
    have hev : evOf (e.1, e.2.1, e.2.2.1, e.2.2.2.1, e.2.2.2.2, true) = e := rfl
    rw [hev, ih d (at_ + (pv e).length) (out ++ [e]) (fun x hx => hv x (List.mem_cons_of_mem _ hx)) (by omega) (by
      rw [← List.drop_drop, hd', List.drop_append_of_le_length (Nat.le_refl _), List.drop_of_length_le (Nat.le_refl _), List.nil_append]) (by simp at h1; omega) (fun h => by have := h2 h; simp at this; omega)]
    simp only [cat, List.length_append, List.append_assoc, List.singleton_append]
    rw [show at_ + (pv e).length + (cat l).length = at_ + ((pv e).length + (cat l).length) by omega]
/-- A beginning of a log is whole events and a beginning of a further one. -/
theorem cut_cat : ∀ (l : List Evt) (q : Nat), (∀ e ∈ l, EvV e) → q ≤ (cat l).length → ∃ (j : Nat) (t : List Int), j ≤ l.length ∧ (cat l).take q = cat (l.take j) ++ t ∧ (t = [] ∨ (0 < t.length ∧ df t = (0, 0, 0, 1, []))) ∧ (∀ n, n ≤ l.length → (cat (l.take n)).length ≤ q → n ≤ j)
  | [], q, hv, hq => by
    refine ⟨0, [], Nat.le_refl _, by simp [cat], .inl rfl, fun n hn _ => by simpa using hn⟩
  | e :: l, q, hv, hq => by
    have he := hv e (by simp)
    have hp := pv_len he
    by_cases c : (pv e).length ≤ q
    · obtain ⟨j, t, h1, h2, h3, h4⟩ := cut_cat l (q - (pv e).length) (fun x hx => hv x (List.mem_cons_of_mem _ hx)) (by simp [cat] at hq; omega)
      refine ⟨j + 1, t, by simp; omega, ?_, h3, fun n hn hle => ?_⟩
      · simp only [cat, List.take_succ_cons]
        rw [List.take_append, List.take_of_length_le c, h2, List.append_assoc]
      · cases n with
        | zero => omega
        | succ n =>
          simp only [List.take_succ_cons, cat, List.length_append] at hle
          have := h4 n (by simpa using hn) (by omega)
          omega
    · refine ⟨0, (pv e).take q, Nat.zero_le _, ?_, ?_, fun n hn hle => ?_⟩
      · simp only [cat, List.take_zero, List.nil_append]
        rw [List.take_append_of_le_length (by omega)]
      · by_cases h0 : q = 0
        · left; rw [h0, List.take_zero]
        · right
          refine ⟨by rw [List.length_take]; omega, ?_⟩
          rw [pv_is he] at c ⊢
          exact df_part _ _ _ (ev_frame he) q (by omega)
      · cases n with
        | zero => omega
        | succ n =>
          simp only [List.take_succ_cons, cat, List.length_append] at hle
          omega
end Go.Vm.Pu
namespace Go.Vm.Pu
open Go Go.RowKit Go.Vm
set_option linter.unusedVariables false
set_option linter.unusedSimpArgs false
section
variable (b : List Int) (hb : b.length ≤ 1048576)
include hb
theorem drawId_f (l : List Tk) (hl : l.length ≤ 100) (i h : Int) (hi : 0 ≤ i) (k : Nat) (hk : 5 ≤ k) : ∃ x i' h', spec_l13DrawId.f k l b i h = some (x, b, i', h') ∧ 0 ≤ i' := by
  obtain ⟨k, rfl⟩ : ∃ q, k = q + 1 := ⟨k - 1, by omega⟩
  have hj : ∀ (t : Bool) (i h : Int), 0 ≤ i → (t = true → 0 < l.length) → ∃ x i' h', spec_l13DrawId.j0 k t b i h l = some (x, b, i', h') ∧ 0 ≤ i' := fun t i h hi ht => by
    rw [spec_l13DrawId.j0_eq]
    cases t with
    | true =>
      have h0 := ht rfl
      rw [if_pos rfl]
      obtain ⟨x, i1, h1, e1, g0, g1, _, j1⟩ := below_f b hb (l.length : Int) i h hi k (by omega)
      have := g1 (by omega)
      simp only [e1, bs]
      rw [if_pos g0, if_pos this]
      exact ⟨_, _, _, rfl, j1⟩
    | false =>
      rw [if_neg (by decide)]
      obtain ⟨x, i1, h1, e1, _, j1⟩ := pick_f b hb [0, 1, 2, 3, (-1), 99] (by simp) i h hi k (by omega)
      simp only [e1, bs]
      exact ⟨_, _, _, rfl, j1⟩
  rw [spec_l13DrawId.f_eq]
  by_cases c : (l.length : Int) > 0
  · rw [if_pos c]
    obtain ⟨x, i1, h1, e1, j1⟩ := once_f b hb 5 i h hi k (by omega)
    simp only [e1, bs]
    exact hj _ _ _ j1 (fun _ => by omega)
  · rw [if_neg c]
    exact hj _ _ _ hi (fun h => by cases h)
def GoodE (e : Evt) : Prop := Bs e.2.2.2.2 ∧ e.2.2.2.2.length ≤ 1437
def DrE (b : List Int) (N : Nat) (r : Option (List Int × Int × Int × List Evt)) : Prop := ∃ i h out, r = some (b, i, h, out) ∧ 0 ≤ i ∧ (∀ e ∈ out, GoodE e) ∧ out.length ≤ N
theorem drawEvs_l0 (K : Nat) (hK : 200030 ≤ K) (N : Nat) (hN : N ≤ 100) : ∀ (d k m : Nat) (id i h : Int) (out : List Evt) (s : RSt), m + d = N → d < k → 0 ≤ i → Sml s.1 → (∀ e ∈ out, GoodE e) → out.length ≤ m →
    DrE b N (spec_l18DrawEvents.l0 K k (N : Int) id (m : Int) b i h out s.1 s.2 false) := by
  intro d
  induction d with
  | zero =>
    intro k m id i h out s hm hk hi hs ho hl
    obtain ⟨k, rfl⟩ : ∃ q, k = q + 1 := ⟨k - 1, by omega⟩
    rw [spec_l18DrawEvents.l0_eq, if_neg (by omega)]
    exact ⟨_, _, _, rfl, hi, ho, by omega⟩
  | succ d ih =>
    intro k m id i h out s hm hk hi hs ho hl
    obtain ⟨k, rfl⟩ : ∃ q, k = q + 1 := ⟨k - 1, by omega⟩
    have hn := hs.1
    have J4 : ∀ (t : Bool) (id i h : Int) (e : Evt) (s' : RSt), 0 ≤ i → GoodE e → Sml s'.1 → DrE b N (spec_l18DrawEvents.j4 K k (N : Int) id (m : Int) t b i h out s.1 s.2 false e.1 e.2.1 e.2.2.1 e.2.2.2.1 e.2.2.2.2 s'.1 s'.2 false) := fun t id i h e s' hi he hs' => by
      rw [spec_l18DrawEvents.j4_eq, wrap_next (show m < N by omega) (by omega)]
      cases t with
      | true =>
        rw [if_pos rfl, if_pos (by omega)]
        exact ih k (m + 1) id i h _ s' (by omega) (by omega) hi hs' (fun x hx => by
          rcases List.mem_append.1 hx with hx | hx
          · exact ho x hx
          · rw [List.mem_singleton] at hx
            rw [hx]
            exact he) (by simp; omega)
      | false =>
        rw [if_neg (by decide)]
        exact ih k (m + 1) id i h out s (by omega) (by omega) hi hs ho (by omega)
    have J0 : ∀ (id i h : Int) (e : Evt), 0 ≤ i → GoodE e → DrE b N (spec_l18DrawEvents.j0 K k (N : Int) id (m : Int) b i h out s.1 s.2 false e.1 e.2.1 e.2.2.1 e.2.2.2.1 e.2.2.2.2) := fun id i h e hi he => by
      have hE := he.2
      rw [spec_l18DrawEvents.j0_eq, sdo_f e he.1 (by omega) s hs K (by omega), bs]
      cases hd : doR e s with
      | some s' =>
        simp only [resD, if_true]
        exact J4 true id i h e s' hi he (doR_sml hs hd)
      | none =>
        simp only [resD, Bool.false_eq_true, if_false]
        obtain ⟨x, i1, h1, e1, j1⟩ := once_f b hb 60 i h hi K (by omega)
        simp only [e1, bs]
        exact J4 x id i1 h1 e s j1 he hs
    have nilG : ∀ a0 a1 a2 a3 : Int, GoodE (a0, a1, a2, a3, []) := fun a0 a1 a2 a3 => ⟨fun x hx => (by cases hx), by simp⟩
    have J3 : ∀ (t45 : Int) (t : Bool) (i h e0 e1 e2 e3 : Int) (f : Fl), 0 ≤ i → f.2.2.2.length ≤ 100 → DrE b N (spec_l18DrawEvents.j3 K k (N : Int) id (m : Int) t45 t b i h out s.1 s.2 false e0 e1 e2 e3 f.1 f.2.1 f.2.2.1 f.2.2.2) := fun t45 t i h e0 e1 e2 e3 f hi hf => by
      rw [spec_l18DrawEvents.j3_eq]
      cases t with
      | true =>
        rw [if_pos rfl]
        obtain ⟨x, i1, h1, q1, _, _, _, j1⟩ := below_f b hb 2 i h hi K (by omega)
        simp only [q1, bs]
        obtain ⟨y, i2, h2, q2, j2⟩ := drawId_f b hb f.2.2.2 hf i1 h1 j1 K (by omega)
        simp only [q2, bs]
        exact J0 id i2 h2 (wrap64 (3 + x), f.1, y, 0, []) j2 (nilG _ _ _ _)
      | false =>
        rw [if_neg (by decide)]
        by_cases c : t45 = 4
        · rw [if_pos c]
          exact J0 id i h (5, f.1, 0, 0, []) hi (nilG _ _ _ _)
        · rw [if_neg c]
          exact J0 id i h (e0, e1, e2, e3, []) hi (nilG _ _ _ _)
    have J2 : ∀ (t45 : Int) (t : Bool) (i h e0 e1 e2 e3 : Int) (f : Fl), 0 ≤ i → f.2.2.2.length ≤ 100 → DrE b N (spec_l18DrawEvents.j2 K k (N : Int) id (m : Int) t45 t b i h out s.1 s.2 false e0 e1 e2 e3 f.1 f.2.1 f.2.2.1 f.2.2.2) := fun t45 t i h e0 e1 e2 e3 f hi hf => by
      rw [spec_l18DrawEvents.j2_eq]
      cases t with
      | true =>
        rw [if_pos rfl]
        obtain ⟨x, i1, h1, q1, _, _, _, j1⟩ := below_f b hb 2 i h hi K (by omega)
        simp only [q1, bs]
        obtain ⟨c, i2, h2, D, q2, hD, hDl, j2⟩ := jobev_f b hb f.1 (wrap64 ((wrap64 (id + 1)) + x)) i1 h1 j1 K (by omega)
        simp only [q2, bs]
        exact J0 _ i2 h2 (2, f.1, wrap64 ((wrap64 (id + 1)) + x), c, D) j2 ⟨hD, hDl⟩
      | false =>
        rw [if_neg (by decide)]
        by_cases c : t45 = 2
        · rw [if_pos c]
          exact J3 _ _ _ _ _ _ _ _ f hi hf
        · rw [if_neg c]
          exact J3 _ _ _ _ _ _ _ _ f hi hf
    have J1 : ∀ (t : Bool) (i h e0 e1 e2 e3 : Int), 0 ≤ i → (t = true → 0 < s.1.length) → DrE b N (spec_l18DrawEvents.j1 K k (N : Int) id (m : Int) t b i h out s.1 s.2 false e0 e1 e2 e3) := fun t i h e0 e1 e2 e3 hi ht => by
      rw [spec_l18DrawEvents.j1_eq]
      cases t with
      | true =>
        have h0 := ht rfl
        rw [if_pos rfl]
        obtain ⟨x, i1, h1, q1, g0, g1, _, j1⟩ := below_f b hb (s.1.length : Int) i h hi K (by omega)
        have hx := g1 (by omega)
        obtain ⟨n, rfl⟩ := Int.eq_ofNat_of_zero_le g0
        simp only [q1, bs]
        rw [if_pos g0, if_pos hx, rdFD]
        obtain ⟨y, i2, h2, q2, _, _, _, j2⟩ := below_f b hb 5 i1 h1 j1 K (by omega)
        simp only [q2, bs]
        have hf := hs.at n
        by_cases c : y = 0
        · rw [if_pos c]
          exact J2 _ _ _ _ _ _ _ _ _ j2 hf
        · rw [if_neg c]
          exact J2 _ _ _ _ _ _ _ _ _ j2 hf
      | false =>
        rw [if_neg (by decide)]
        exact J0 id i h (e0, e1, e2, e3, []) hi (nilG _ _ _ _)
    rw [spec_l18DrawEvents.l0_eq, if_pos (by omega)]
    obtain ⟨x, i1, h1, q1, _, _, _, j1⟩ := below_f b hb 6 i h hi K (by omega)
    simp only [q1, bs]
    obtain ⟨y, i2, h2, q2, _, _, _, j2⟩ := below_f b hb 400 i1 h1 j1 K (by omega)
    simp only [q2, bs]
    by_cases c : (s.1.length : Int) > 0
    · rw [if_pos c]
      obtain ⟨z, i3, h3, q3, j3⟩ := once_f b hb 5 i2 h2 j2 K (by omega)
      simp only [q3, bs]
      exact J1 _ _ _ _ _ _ _ j3 (fun _ => by omega)
    · rw [if_neg c]
      exact J1 _ _ _ _ _ _ _ j2 (fun h => by cases h)
theorem drawEvs_f (k : Nat) (hk : 1048700 ≤ k) : ∃ evs, spec_l18Events.f k b = some evs ∧ (∀ e ∈ evs, GoodE e) ∧ evs.length ≤ 39 := by
  obtain ⟨k, rfl⟩ : ∃ q, k = q + 1 := ⟨k - 1, by omega⟩
  rw [spec_l18Events.f_eq]
  obtain ⟨h0, q0⟩ := new_f b hb k (by omega)
  simp only [q0, bs]
  obtain ⟨n, q1, n1, n2⟩ := size_f b hb 40 (by omega) k (by omega)
  simp only [q1, bs]
  obtain ⟨x, i1, h1, q2, g0, g1, _, j1⟩ := below_f b hb n 0 h0 (by omega) k (by omega)
  have hx := g1 (by omega)
  simp only [q2, bs]
  obtain ⟨N, rfl⟩ := Int.eq_ofNat_of_zero_le g0
  obtain ⟨k, rfl⟩ : ∃ q, k = q + 1 := ⟨k - 1, by omega⟩
  rw [spec_l18DrawEvents.f_eq]
  obtain ⟨i2, h2, out, q3, _, ho, hl⟩ := drawEvs_l0 b hb k (by omega) N (by omega) N k 0 0 i1 h1 [] ([], 0) (by omega) (by omega) j1 sml_nil (fun e he => (by cases he)) (by simp)
  have q3' : spec_l18DrawEvents.l0 k k (N : Int) 0 0 b i1 h1 [] [] 0 false = some (b, i2, h2, out) := q3
  rw [q3', bs]
  exact ⟨out, rfl, ho, by omega⟩
theorem drawRing_f (k : Nat) (hk : 1048710 ≤ k) : ∃ evs, spec_DrawReplayRing.f k b = some evs ∧ (∀ e ∈ evs, GoodE e) ∧ evs.length ≤ 39 := by
  obtain ⟨k, rfl⟩ : ∃ q, k = q + 1 := ⟨k - 1, by omega⟩
  obtain ⟨evs, q, h1, h2⟩ := drawEvs_f b hb k (by omega)
  rw [spec_DrawReplayRing.f_eq, q, bs]
  exact ⟨_, rfl, h1, h2⟩
end
end Go.Vm.Pu
namespace Go.Vm.Pu
open Go Go.RowKit Go.Vm
set_option linter.unusedVariables false
set_option linter.unusedSimpArgs false
theorem isync_f (a b : List Int) (h : a.length + b.length ≤ 60000) (k : Nat) (hk : 2 ≤ k) : impl_SyncDisk.f k a b = some (a ++ b, []) := by
  obtain ⟨k, rfl⟩ : ∃ m, k = m + 1 := ⟨k - 1, by omega⟩
  rw [impl_SyncDisk.f_eq, copyDisk_f a b (by omega) k (by omega), bs, isDisk_f a b (by omega) k (by omega), bs, decide_eq_true h, if_neg (by decide), if_pos (by simp only; omega)]
theorem icrash_f (a b : List Int) (h : a.length + b.length ≤ 60000) (keep : Nat) (hk0 : keep ≤ b.length) (k : Nat) (hk : 2 ≤ k) : impl_CrashDisk.f k a b (keep : Int) = some (a ++ b.take keep, []) := by
  obtain ⟨k, rfl⟩ : ∃ m, k = m + 1 := ⟨k - 1, by omega⟩
  have e1 : (if (0 : Int) > (keep : Int) then (0 : Int) else (keep : Int)) = keep := if_neg (by omega)
  have e2 : (if (b.length : Int) < (keep : Int) then (b.length : Int) else (keep : Int)) = keep := if_neg (by omega)
  rw [impl_CrashDisk.f_eq, copyDisk_f a b (by omega) k (by omega), bs, isDisk_f a b (by omega) k (by omega), bs, decide_eq_true h, if_neg (by decide)]
  simp only [e1, e2, cut_front]
  rw [if_pos (by omega), if_pos (by omega), if_pos (by rw [List.length_take]; omega)]
theorem at_f (c : List Int) (hc : Bs c) (hl : c.length ≤ 1048576) (i : Int) (h0 : 0 ≤ i) (h1 : i ≤ 2) (k : Nat) (hk : 1 ≤ k) : ∃ x, laws_at.f k c i = some x ∧ 0 ≤ x ∧ x ≤ 255 := by
  obtain ⟨k, rfl⟩ : ∃ m, k = m + 1 := ⟨k - 1, by omega⟩
  rw [laws_at.f_eq]
  by_cases c1 : i < (c.length : Int)
  · rw [if_pos c1, if_pos h0, if_pos c1]
    have := hc _ (rd_mem c i h0 (by omega))
    rw [wrap_id (by omega) (by omega)]
    exact ⟨_, rfl, by omega, by omega⟩
  · rw [if_neg c1, wrap_id (x := i * 13) (by omega) (by omega), wrap_id (x := (c.length : Int) * 5) (by omega) (by omega), wrap_id (by omega) (by omega)]
    have : Int.tmod (i * 13 + (c.length : Int) * 5) 256 = (i * 13 + (c.length : Int) * 5) % 256 := Int.tmod_eq_emod_of_nonneg (by omega)
    rw [this]
    exact ⟨_, rfl, by omega, by omega⟩
/-- Drawn events that are valid. -/
def VG (l : List Evt) : Prop := l.length ≤ 39 ∧ ∀ e ∈ l, EvV e ∧ Bs e.2.2.2.2 ∧ e.2.2.2.2.length ≤ 1437
theorem VG.sub {l m : List Evt} (h : VG l) (hl : m.length ≤ l.length) (hm : ∀ e ∈ m, e ∈ l) : VG m := ⟨by have := h.1; omega, fun e he => h.2 e (hm e he)⟩
theorem VG.len {l : List Evt} (h : VG l) : 13 * l.length ≤ (cat l).length ∧ (cat l).length ≤ 56862 := by
  have := cat_len (l := l) fun e he => ⟨(h.2 e he).1, (h.2 e he).2.2⟩
  have := h.1
  omega
theorem VG.bs {l : List Evt} (h : VG l) : Bs (cat l) := cat_bs fun e he => ⟨(h.2 e he).1, (h.2 e he).2.1⟩
theorem VG.take {l : List Evt} (h : VG l) (n : Nat) : VG (l.take n) := h.sub (by rw [List.length_take]; omega) fun e he => List.mem_of_mem_take he
theorem VG.drop {l : List Evt} (h : VG l) (n : Nat) : VG (l.drop n) := h.sub (by rw [List.length_drop]; omega) fun e he => List.mem_of_mem_drop he
theorem cat_split (l : List Evt) (n : Nat) : cat (l.take n) ++ cat (l.drop n) = cat l := by rw [← cat_app, List.take_append_drop]
theorem iap_ev (a b : List Int) (e : Evt) (hv : EvV e) (hb : Bs e.2.2.2.2) (hl : e.2.2.2.2.length ≤ 1437) (h : a.length + (b ++ pv e).length ≤ 60000) (k : Nat) (hk : 1600005 ≤ k) :
    impl_AppendEvent.f k a b e.1 e.2.1 e.2.2.1 e.2.2.2.1 e.2.2.2.2 = some (true, a, b ++ pv e) := by
  have h0 : a.length + b.length ≤ 60000 := by rw [List.length_append] at h; omega
  rw [iap_f a b _ _ _ _ _ hb (by omega) (by omega) k hk]
  unfold ap
  rw [if_pos ⟨h0, hv, h⟩]
  rfl
theorem logOf_loop (evs : List Evt) (hv : VG evs) (n : Nat) (hn : n ≤ evs.length) (K : Nat) (hK : 1600010 ≤ K) : ∀ (d k i : Nat), i + d = evs.length → d < k →
    laws_logOf.l0 K k evs (n : Int) (i : Int) (if i ≤ n then [] else cat (evs.take n)) (if i ≤ n then cat (evs.take i) else cat ((evs.take i).drop n)) =
      some (true, if n = evs.length then ([], cat evs) else (cat (evs.take n), cat (evs.drop n))) := by
  intro d
  have hev := hv.1
  induction d with
  | zero =>
    intro k i hi hk
    obtain ⟨k, rfl⟩ : ∃ q, k = q + 1 := ⟨k - 1, by omega⟩
    obtain rfl : i = evs.length := by omega
    rw [laws_logOf.l0_eq, if_neg (by omega)]
    by_cases c : n = evs.length
    · rw [if_pos (by omega), if_pos (by omega), if_pos c, List.take_length]
    · rw [if_neg (by omega), if_neg (by omega), if_neg c, List.take_length]
  | succ d ih =>
    intro k i hi hk
    obtain ⟨k, rfl⟩ : ∃ q, k = q + 1 := ⟨k - 1, by omega⟩
    have hlt : i < evs.length := by omega
    obtain ⟨he, hb, hl⟩ := hv.2 _ (List.getElem_mem hlt)
    have hall := hv.len
    have hT : ∀ m, (cat (evs.take m)).length ≤ (cat evs).length := fun m => by
      rw [← cat_split evs m, List.length_append]; omega
    have hsn : evs.take (i + 1) = evs.take i ++ [evs[i]] := List.take_succ_eq_append_getElem hlt
    have hc1 : cat (evs.take (i + 1)) = cat (evs.take i) ++ pv evs[i] := by rw [hsn, cat_app]; simp [cat]
    rw [laws_logOf.l0_eq, if_pos (by omega)]
    have J : ∀ (a b a' b' : List Int), a.length + (b ++ pv evs[i]).length ≤ 60000 → a' = a → b' = b ++ pv evs[i] → laws_logOf.j0 K k evs (n : Int) (i : Int) a b = laws_logOf.l0 K k evs (n : Int) ((i + 1 : Nat) : Int) a' b' := fun a b a' b' h ea eb => by
      rw [laws_logOf.j0_eq, if_pos (by omega), if_pos (by omega), rdE evs i hlt, iap_ev a b evs[i] he hb hl h K (by omega), bs]
      simp only [Bool.not_true, Bool.false_eq_true, if_false]
      rw [wrap_next hlt (by omega), ea, eb]
    have hnext := ih k (i + 1) (by omega) (by omega)
    by_cases c : i = n
    · subst c
      rw [if_pos rfl, if_pos (Nat.le_refl _), if_pos (Nat.le_refl _), isync_f [] _ (by have := hT i; simp; omega) K (by omega), bs, List.nil_append]
      rw [if_neg (by omega), if_neg (by omega)] at hnext
      rw [J (cat (evs.take i)) [] _ _ (by rw [List.nil_append, ← List.length_append, ← hc1]; have := hT (i + 1); omega) rfl rfl]
      rw [List.nil_append]
      have hd : cat ((evs.take (i + 1)).drop i) = pv evs[i] := by
        rw [hsn, List.drop_append_of_le_length (by rw [List.length_take]; omega), List.drop_of_length_le (by rw [List.length_take]; omega)]
        simp [cat]
      rw [hd] at hnext
      exact hnext
    · rw [if_neg (by omega)]
      by_cases c2 : i ≤ n
      · rw [if_pos c2, if_pos c2]
        rw [if_pos (by omega), if_pos (by omega)] at hnext
        rw [J [] (cat (evs.take i)) [] (cat (evs.take (i + 1))) (by rw [← hc1]; have := hT (i + 1); simp; omega) rfl hc1]
        exact hnext
      · rw [if_neg c2, if_neg c2]
        rw [if_neg (by omega), if_neg (by omega)] at hnext
        have hd : cat ((evs.take (i + 1)).drop n) = cat ((evs.take i).drop n) ++ pv evs[i] := by
          rw [hsn, List.drop_append_of_le_length (by rw [List.length_take]; omega), cat_app]
          simp [cat]
        have hsum : (cat (evs.take n)).length + (cat ((evs.take i).drop n) ++ pv evs[i]).length = (cat (evs.take (i + 1))).length := by
          rw [← hd, ← List.length_append, ← cat_app]
          have : evs.take n = (evs.take (i + 1)).take n := by rw [List.take_take, Nat.min_eq_left (by omega)]
          rw [this, List.take_append_drop]
        rw [J (cat (evs.take n)) (cat ((evs.take i).drop n)) (cat (evs.take n)) (cat ((evs.take (i + 1)).drop n)) (by rw [hsum]; have := hT (i + 1); omega) rfl hd]
        exact hnext
theorem logOf_f (evs : List Evt) (hv : VG evs) (n : Nat) (hn : n ≤ evs.length) (k : Nat) (hk : 1600020 ≤ k) :
    laws_logOf.f k evs (n : Int) = some (true, if n = evs.length then ([], cat evs) else (cat (evs.take n), cat (evs.drop n))) := by
  obtain ⟨k, rfl⟩ : ∃ q, k = q + 1 := ⟨k - 1, by omega⟩
  have hl := hv.1
  have := logOf_loop evs hv n hn k (by omega) evs.length k 0 (by omega) (by omega)
  rw [if_pos (Nat.zero_le _), if_pos (Nat.zero_le _)] at this
  rw [laws_logOf.f_eq]
  exact this
theorem read_cat (l : List Evt) (t : List Int) (hv : VG l) (ht : t = [] ∨ (0 < t.length ∧ df t = (0, 0, 0, 1, []))) (hl : (cat l ++ t).length ≤ 60000) :
    scn (cat l ++ t) (cat l ++ t).length 0 [] = ((cat l).length, if t.length = 0 then 0 else 1, l) := by
  have h1 := hv.len
  rw [List.length_append] at hl
  have := scn_cat (cat l ++ t) t ht l (cat l ++ t).length 0 [] (fun e he => (hv.2 e he).1) (Nat.zero_le _) rfl (by rw [List.length_append]; omega) (fun hne => by
    have : 0 < t.length := List.length_pos_iff.2 hne
    rw [List.length_append]; omega)
  simpa using this
theorem ird_cat (l : List Evt) (t : List Int) (hv : VG l) (ht : t = [] ∨ (0 < t.length ∧ df t = (0, 0, 0, 1, []))) (hb : Bs t) (hl : (cat l ++ t).length ≤ 60000) (k : Nat) (hk : 2000050 ≤ k) :
    impl_ReadDisk.f k (cat l ++ t) [] = some (if t.length = 0 then 0 else 1, l) := by
  rw [ird_f _ _ (hv.bs.app hb) (fun x hx => (by cases hx)) (by simp only [List.length_nil]; omega) k hk]
  unfold rdk
  rw [if_pos (by simp only [List.length_nil]; omega), List.append_nil, read_cat l t hv ht hl]
theorem irp_cat (l : List Evt) (t : List Int) (hv : VG l) (ht : t = [] ∨ (0 < t.length ∧ df t = (0, 0, 0, 1, []))) (hb : Bs t) (hl : (cat l ++ t).length ≤ 60000) (k : Nat) (hk : 2000050 ≤ k) :
    impl_RepairDisk.f k (cat l ++ t) [] = some (true, cat l, []) := by
  rw [irp_f _ _ (hv.bs.app hb) (fun x hx => (by cases hx)) (by simp only [List.length_nil]; omega) k hk]
  unfold rp
  rw [if_pos (by simp only [List.length_nil]; omega), List.append_nil, read_cat l t hv ht hl, if_neg (by simp only; split <;> omega)]
  simp only
  rw [List.take_append_of_le_length (Nat.le_refl _), List.take_of_length_le (Nat.le_refl _)]
theorem sameEvent_f (e : Evt) (hl : e.2.2.2.2.length ≤ 1048576) (k : Nat) (hk : 1048590 ≤ k) : laws_sameEvent.f k e.1 e.2.1 e.2.2.1 e.2.2.2.1 e.2.2.2.2 e.1 e.2.1 e.2.2.1 e.2.2.2.1 e.2.2.2.2 = some true := by
  obtain ⟨k, rfl⟩ : ∃ m, k = m + 1 := ⟨k - 1, by omega⟩
  rw [laws_sameEvent.f_eq, if_pos rfl, if_pos rfl, if_pos rfl, if_pos rfl, sameBytes_f _ hl k (by omega), bs]
/-- Behind the crash. -/
theorem syn_l1 (K : Nat) (hK : 2000060 ≤ K) (evs : List Evt) (hv : VG evs) (j : Nat) (hj : j ≤ evs.length) (t : List Int) (ht : t = [] ∨ (0 < t.length ∧ df t = (0, 0, 0, 1, []))) (hb : Bs t) (hl : (cat (evs.take j) ++ t).length ≤ 60000) (n : Nat) :
    ∀ (d k i : Nat), i + d = j → d < k → laws_FnSynced.l1 K k (i : Int) evs (evs.take j) (cat (evs.take n)) (cat (evs.drop n)) (cat (evs.take j) ++ t) [] = some true := by
  intro d
  have hev := hv.1
  have hjl : (evs.take j).length = j := by rw [List.length_take]; omega
  induction d with
  | zero =>
    intro k i hi hk
    obtain ⟨k, rfl⟩ : ∃ q, k = q + 1 := ⟨k - 1, by omega⟩
    obtain rfl : i = j := by omega
    have hall := hv.len
    have hsp := cat_split evs n
    have hsl : (cat (evs.take n)).length + (cat (evs.drop n)).length = (cat evs).length := by rw [← List.length_append, hsp]
    have hti := (hv.take i).len
    have r2 := ird_cat (evs.take i) [] (hv.take i) (.inl rfl) (fun x hx => (by cases hx)) (by rw [List.append_nil]; omega) K (by omega)
    rw [List.append_nil] at r2
    have r3 := ird_cat evs [] hv (.inl rfl) (fun x hx => (by cases hx)) (by rw [List.append_nil]; omega) K (by omega)
    rw [List.append_nil] at r3
    rw [laws_FnSynced.l1_eq, if_neg (by omega), irp_cat (evs.take i) t (hv.take i) ht hb hl K (by omega), bs]
    simp only
    rw [r2, bs, icrash_f _ _ (by omega) _ (Nat.le_refl _) K (by omega)]
    simp only [Bool.not_true, Bool.false_eq_true, if_false, List.length_nil, if_true, ne_eq, not_true, bs, Int.natCast_zero]
    rw [List.take_of_length_le (Nat.le_refl _), hsp, r3, bs]
    simp
  | succ d ih =>
    intro k i hi hk
    obtain ⟨k, rfl⟩ : ∃ q, k = q + 1 := ⟨k - 1, by omega⟩
    have hlt : i < evs.length := by omega
    have hlj : i < (evs.take j).length := by omega
    obtain ⟨he, hb', hl'⟩ := hv.2 _ (List.getElem_mem hlt)
    have hget : (evs.take j)[i] = evs[i] := List.getElem_take
    rw [laws_FnSynced.l1_eq, if_pos (by omega), if_pos (by omega), if_pos (by omega), if_pos (by omega), if_pos (by omega), rdE _ i hlj, rdE evs i hlt, hget, sameEvent_f evs[i] (by omega) K (by omega), bs, if_neg (by decide), wrap_next hlt (by omega), ih k (i + 1) (by omega) (by omega)]
theorem syn_j1 (code : List Int) (hc : Bs code) (hcl : code.length ≤ 1048576) (evs : List Evt) (hv : VG evs) (n : Nat) (hn : n ≤ evs.length) (k : Nat) (hk : 2000070 ≤ k) :
    laws_FnSynced.j1 k code (n : Int) evs (cat (evs.take n)) (cat (evs.drop n)) = some true := by
  have hall := hv.len
  have hsp := cat_split evs n
  have hsl : (cat (evs.take n)).length + (cat (evs.drop n)).length = (cat evs).length := by rw [← List.length_append, hsp]
  obtain ⟨x, q1, x0, x1⟩ := at_f code hc hcl 1 (by omega) (by omega) k (by omega)
  obtain ⟨y, q2, y0, y1⟩ := at_f code hc hcl 2 (by omega) (by omega) k (by omega)
  have hxy := mul_range x0 x1 y0 y1
  rw [laws_FnSynced.j1_eq, q1, bs, q2, bs, wrap_id (x := x * y) (by omega) (by omega), wrap_id (x := 1 + ((cat (evs.drop n)).length : Int)) (by omega) (by omega), if_pos (by omega)]
  have hmod : Int.tmod (x * y) (1 + ((cat (evs.drop n)).length : Int)) = (x * y) % (1 + ((cat (evs.drop n)).length : Int)) := Int.tmod_eq_emod_of_nonneg hxy.1
  have hm0 := Int.emod_nonneg (x * y) (show 1 + ((cat (evs.drop n)).length : Int) ≠ 0 by omega)
  have hm1 := Int.emod_lt_of_pos (x * y) (show 0 < 1 + ((cat (evs.drop n)).length : Int) by omega)
  rw [hmod]
  generalize (x * y) % (1 + ((cat (evs.drop n)).length : Int)) = kp at hm0 hm1
  obtain ⟨keep, rfl⟩ := Int.eq_ofNat_of_zero_le hm0
  rw [icrash_f _ _ (by omega) keep (by omega) k (by omega)]
  simp only [bs]
  have hq : cat (evs.take n) ++ (cat (evs.drop n)).take keep = (cat evs).take ((cat (evs.take n)).length + keep) := by
    have h1 : (cat (evs.take n)).take ((cat (evs.take n)).length + keep) = cat (evs.take n) := List.take_of_length_le (by omega)
    rw [← hsp, List.take_append, h1, Nat.add_sub_cancel_left]
  obtain ⟨j, t, j1, j2, j3, j4⟩ := cut_cat evs ((cat (evs.take n)).length + keep) (fun e he => (hv.2 e he).1) (by omega)
  have hnj := j4 n hn (by omega)
  have hbt : Bs t := fun z hz => hv.bs z (by
    have : z ∈ (cat evs).take ((cat (evs.take n)).length + keep) := by rw [j2]; exact List.mem_append_right _ hz
    exact List.mem_of_mem_take this)
  have hlt : (cat (evs.take j) ++ t).length ≤ 60000 := by rw [← j2, List.length_take]; omega
  have hjl : (evs.take j).length = j := by rw [List.length_take]; omega
  rw [hq, j2, ird_cat (evs.take j) t (hv.take j) j3 hbt hlt k (by omega)]
  simp only [bs]
  have hfin : laws_FnSynced.j2 k evs (evs.take j) (cat (evs.take n)) (cat (evs.drop n)) (cat (evs.take j) ++ t) [] = some true := by
    have hev := hv.1
    rw [laws_FnSynced.j2_eq]
    exact syn_l1 k (by omega) evs hv j j1 t j3 hbt hlt n j k 0 (by omega) (by omega)
  by_cases c : t.length = 0
  · rw [if_pos c, if_neg (by decide), if_neg (by omega), if_neg (by omega), hfin]
  · rw [if_neg c, if_pos (by decide), if_neg (by decide), if_neg (by omega), if_neg (by omega), hfin]
theorem syn_j0 (code : List Int) (hc : Bs code) (hcl : code.length ≤ 1048576) (evs : List Evt) (hv : VG evs) (k : Nat) (hk : 2000080 ≤ k) : laws_FnSynced.j0 k code evs = some true := by
  have hev := hv.1
  obtain ⟨x, q1, x0, x1⟩ := at_f code hc hcl 0 (by omega) (by omega) k (by omega)
  rw [laws_FnSynced.j0_eq, q1, bs, wrap_id (x := (evs.length : Int) + 1) (by omega) (by omega), if_pos (by omega)]
  have hmod : Int.tmod x ((evs.length : Int) + 1) = x % ((evs.length : Int) + 1) := Int.tmod_eq_emod_of_nonneg x0
  have hm0 := Int.emod_nonneg x (show (evs.length : Int) + 1 ≠ 0 by omega)
  have hm1 := Int.emod_lt_of_pos x (show 0 < (evs.length : Int) + 1 by omega)
  rw [hmod]
  generalize x % ((evs.length : Int) + 1) = nn at hm0 hm1
  obtain ⟨n, rfl⟩ := Int.eq_ofNat_of_zero_le hm0
  rw [logOf_f evs hv n (by omega) k (by omega), bs]
  simp only [Bool.not_true, Bool.false_eq_true, if_false]
  by_cases c : n = evs.length
  · rw [if_pos (by omega), if_pos c, isync_f [] (cat evs) (by have := hv.len; simp; omega) k (by omega)]
    simp only [bs, List.nil_append]
    have := syn_j1 code hc hcl evs hv n (by omega) k (by omega)
    rw [c, List.take_length, List.drop_length] at this
    rw [c]
    exact this
  · rw [if_neg (by omega), if_neg c]
    exact syn_j1 code hc hcl evs hv n (by omega) k (by omega)
theorem syn_l0 (code : List Int) (hc : Bs code) (hcl : code.length ≤ 1048576) (drawn : List Evt) (hg : ∀ e ∈ drawn, GoodE e) (hd : drawn.length ≤ 39) (K : Nat) (hK : 2000080 ≤ K) : ∀ (d k i : Nat) (evs : List Evt), i + d = drawn.length → d < k → (∀ e ∈ evs, EvV e ∧ Bs e.2.2.2.2 ∧ e.2.2.2.2.length ≤ 1437) → evs.length ≤ i →
    laws_FnSynced.l0 K k code (i : Int) evs drawn = some true := by
  intro d
  induction d with
  | zero =>
    intro k i evs hi hk he hl
    obtain ⟨k, rfl⟩ : ∃ q, k = q + 1 := ⟨k - 1, by omega⟩
    rw [laws_FnSynced.l0_eq, if_neg (by omega)]
    exact syn_j0 code hc hcl evs ⟨by omega, he⟩ K hK
  | succ d ih =>
    intro k i evs hi hk he hl
    obtain ⟨k, rfl⟩ : ∃ q, k = q + 1 := ⟨k - 1, by omega⟩
    have hlt : i < drawn.length := by omega
    obtain ⟨hb, hdl⟩ := hg _ (List.getElem_mem hlt)
    rw [laws_FnSynced.l0_eq, if_pos (by omega), if_pos (by omega), if_pos (by omega), if_pos (by omega), rdE drawn i hlt, sevent_f _ _ _ _ _ hb (by omega) K (by omega), bs]
    by_cases c : EvP drawn[i].1 drawn[i].2.1 drawn[i].2.2.1 drawn[i].2.2.2.1 drawn[i].2.2.2.2
    · rw [if_pos (decide_eq_true c), if_pos (by omega), if_pos (by omega), if_pos (by omega), wrap_next hlt (by omega), ih k (i + 1) _ (by omega) (by omega) (fun e hm => by
        rcases List.mem_append.1 hm with hm | hm
        · exact he e hm
        · rw [List.mem_singleton] at hm
          rw [hm]
          exact ⟨c, hb, hdl⟩) (by simp; omega)]
    · rw [if_neg (by simpa using c), wrap_next hlt (by omega), ih k (i + 1) evs (by omega) (by omega) he (by omega)]
theorem law_Synced (code : List Int) (hc : Bs code) : ∃ k, laws_FnSynced.f k code = some true := by
  refine ⟨2000200 + 1, ?_⟩
  obtain ⟨K, hK⟩ : ∃ K, K = 2000200 := ⟨_, rfl⟩
  rw [← hK, laws_FnSynced.f_eq, big_f code K (by omega), bs]
  by_cases c : (code.length : Int) > 1048576
  · rw [if_pos (decide_eq_true c)]
  rw [if_neg (by simpa using c)]
  obtain ⟨drawn, q, hg, hd⟩ := drawRing_f code (by omega) K (by omega)
  rw [q, bs]
  exact syn_l0 code hc (by omega) drawn hg hd K (by omega) drawn.length K 0 [] (by omega) (by omega) (fun e he => (by cases he)) (by simp)
end Go.Vm.Pu
