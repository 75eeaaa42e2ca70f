/- The plain law of FnExactRecovered; the conditions are what is known of the input. -/
import Derived.Test.YtcbeaccdcbhmeaaGreatRVpA
import Derived.RowKit
import Derived.KernelRfl
namespace Go.Vm.Pu
open Go Go.RowKit Go.Vm
set_option linter.unusedVariables false
set_option linter.unusedSimpArgs false
/-- What is read is small. -/
theorem scn_small (all : List Int) (hb : Bs all) : ∀ (d at_ : Nat) (out : List Evt), (scn all d at_ out).2.2.length ≤ out.length + d ∧ ∀ e ∈ (scn all d at_ out).2.2, e ∈ out ∨ e.2.2.2.2.length ≤ all.length := by
  intro d
  induction d with
  | zero => intro at_ out; exact ⟨by simp [scn], fun e he => .inl he⟩
  | succ d ih =>
    intro at_ out
    have triv : out.length ≤ out.length + (d + 1) ∧ ∀ e ∈ out, e ∈ out ∨ e.2.2.2.2.length ≤ all.length := ⟨by omega, fun e he => .inl he⟩
    rw [scn]
    split
    · split
      · exact triv
      · split
        · exact triv
        · split
          · obtain ⟨h1, h2⟩ := ih (at_ + (df (all.drop at_)).2.2.1.toNat) (out ++ [evOf (te (df (all.drop at_)).1 (df (all.drop at_)).2.1 (df (all.drop at_)).2.2.2.2)])
            refine ⟨by simp at h1; omega, fun e he => ?_⟩
            rcases h2 e he with h | h
            · rcases List.mem_append.1 h with h | h
              · exact .inl h
              · right
                simp only [List.mem_singleton] at h
                rw [h]
                have e1 := te_len (df (all.drop at_)).1 (df (all.drop at_)).2.1 (df (all.drop at_)).2.2.2.2
                have e2 := (df_ok (all.drop at_) (hb.drop _)).2.2.2
                rw [List.length_drop] at e2
                simp only [evOf]
                omega
            · exact .inr h
          · exact triv
    · exact triv
/-- What ReadDisk answers: the kind, the events. -/
def rdk (a b : List Int) : Int × List Evt := if a.length + b.length ≤ 60000 then ((scn (a ++ b) (a ++ b).length 0 []).2.1, (scn (a ++ b) (a ++ b).length 0 []).2.2) else (3, [])
theorem rdk_small (a b : List Int) (ha : Bs a) (hb : Bs b) : (rdk a b).2.length ≤ 60000 ∧ ∀ e ∈ (rdk a b).2, e.2.2.2.2.length ≤ 60000 := by
  unfold rdk
  split
  · rename_i h
    obtain ⟨h1, h2⟩ := scn_small (a ++ b) (ha.app hb) (a ++ b).length 0 []
    have hl : (a ++ b).length = a.length + b.length := List.length_append
    refine ⟨by simp only [List.length_nil] at h1; show (scn (a ++ b) (a ++ b).length 0 []).2.2.length ≤ 60000; omega, fun e he => ?_⟩
    rcases h2 e he with h | h
    · cases h
    · omega
  · exact ⟨by simp, fun e he => by cases he⟩
theorem srd_f (a b : List Int) (ha : Bs a) (hb : Bs b) (hlen : a.length + b.length ≤ 1048576) (k : Nat) (hk : 2000050 ≤ k) : spec_ReadDisk.f k a b = some (rdk a b) := by
  obtain ⟨k, rfl⟩ : ∃ m, k = m + 1 := ⟨k - 1, by omega⟩
  have hl : (a ++ b).length = a.length + b.length := List.length_append
  rw [spec_ReadDisk.f_eq, specDiskOk_f a b hlen k (by omega), bs]
  unfold rdk
  by_cases h : a.length + b.length ≤ 60000
  · rw [decide_eq_true h, if_neg (by decide), join_is a b (by omega) (by omega) k (by omega) (by omega)]
    simp only [bs]
    rw [sscan_f (a ++ b) (ha.app hb) (by omega) k (by omega)]
    simp only [bs]
    rw [if_pos h]
  · rw [decide_eq_false h, if_pos (by decide), if_neg h]
theorem ird_f (a b : List Int) (ha : Bs a) (hb : Bs b) (hlen : a.length + b.length ≤ 1048576) (k : Nat) (hk : 2000050 ≤ k) : impl_ReadDisk.f k a b = some (rdk a b) := by
  obtain ⟨k, rfl⟩ : ∃ m, k = m + 1 := ⟨k - 1, by omega⟩
  rw [impl_ReadDisk.f_eq, isDisk_f a b hlen k (by omega), bs]
  unfold rdk
  by_cases h : a.length + b.length ≤ 60000
  · rw [decide_eq_true h, if_neg (by decide), iread_disk a b ha hb (by omega) k (by omega)]
    simp only [bs]
    rw [if_pos h]
  · rw [decide_eq_false h, if_pos (by decide), if_neg h]
end Go.Vm.Pu
namespace Go.Vm.Pu
open Go Go.RowKit Go.Vm
set_option linter.unusedVariables false
set_option linter.unusedSimpArgs false
abbrev TkT : Ty := .pair (.int .i64) (.int .i64)
abbrev FlT : Ty := .pair (.int .i64) (.pair (.int .i64) (.pair (.int .i64) (.row (.pair (.int .i64) (.int .i64)))))
abbrev Tk := Int × Int
abbrev Fl := Int × Int × Int × List (Int × Int)
theorem rdT (l : List Tk) (i : Nat) (h : i < l.length) : rd TkT l (i : Int) = l[i] := by
  simp [rd, List.getD, h]
theorem rdF (l : List Fl) (i : Nat) (h : i < l.length) : rd FlT l (i : Int) = l[i] := by
  simp [rd, List.getD, h]
/-- All of so many places from one on. -/
def okF (p : Nat → Bool) (i : Nat) : Nat → Bool
  | 0 => true
  | n + 1 => p i && okF p (i + 1) n
theorem okF_iff {p : Nat → Bool} : ∀ {n i : Nat}, okF p i n = true ↔ ∀ j, i ≤ j → j < i + n → p j = true
  | 0, i => by simp [okF]; intro j h1 h2; omega
  | n + 1, i => by
    simp only [okF, Bool.and_eq_true, okF_iff (n := n)]
    constructor
    · rintro ⟨h1, h2⟩ j hj hj2
      by_cases e : j = i
      · rw [e]; exact h1
      · exact h2 j (by omega) (by omega)
    · intro h
      exact ⟨h i (Nat.le_refl _) (by omega), fun j h1 h2 => h j (by omega) (by omega)⟩
/-! ### tickets and lines -/
def tkB (t : Tk) : Bool := decide (1 ≤ t.1 ∧ t.1 ≤ 1000000000 ∧ 1 ≤ t.2 ∧ t.2 ≤ 200000)
def lnB (l : List Tk) (i : Nat) : Bool := tkB (l.getD i (0, 0)) && (decide (i = 0) || decide ((l.getD (i - 1) (0, 0)).1 < (l.getD i (0, 0)).1))
def lineB (l : List Tk) : Bool := decide (l.length ≤ 40) && okF (lnB l) 0 l.length
theorem rdTD (l : List Tk) (i : Nat) : rd TkT l (i : Int) = l.getD i (0, 0) := rfl
theorem pred_wrap {i : Nat} (h : 0 < i) (h2 : i ≤ 2000000) : wrap64 ((i : Int) - 1) = ((i - 1 : Nat) : Int) := by
  rw [wrap_id (by omega) (by omega)]; omega
theorem iticket_f (t : Tk) (k : Nat) (hk : 1 ≤ k) : impl_isTicket.f k t.1 t.2 = some (tkB t) := by
  obtain ⟨k, rfl⟩ : ∃ m, k = m + 1 := ⟨k - 1, by omega⟩
  rw [impl_isTicket.f_eq]
  unfold tkB
  by_cases h1 : t.1 ≥ 1
  · rw [if_pos h1]
    by_cases h2 : t.1 ≤ 1000000000
    · rw [if_pos h2]
      by_cases h3 : t.2 ≥ 1
      · rw [if_pos h3]
        congr 1
        simp only [decide_eq_decide]
        omega
      · rw [if_neg h3, decide_eq_false (by omega)]
    · rw [if_neg h2, decide_eq_false (by omega)]
  · rw [if_neg h1, decide_eq_false (by omega)]
theorem sticket_f (t : Tk) (k : Nat) (hk : 2 ≤ k) : spec_l13Ticket.f k t.1 t.2 = some (tkB t) := by
  obtain ⟨k, rfl⟩ : ∃ m, k = m + 1 := ⟨k - 1, by omega⟩
  rw [spec_l13Ticket.f_eq, in_is _ _ _ _ (by omega), bs]
  unfold tkB
  by_cases h1 : 1 ≤ t.1 ∧ t.1 ≤ 1000000000
  · rw [decide_eq_true h1, if_pos rfl, in_is _ _ _ _ (by omega), bs]
    congr 1
    simp only [decide_eq_decide]
    omega
  · rw [decide_eq_false h1, if_neg (by decide), decide_eq_false (by omega)]
theorem iline_loop (K : Nat) (hK : 1 ≤ K) (l : List Tk) (hn : l.length ≤ 2000000) : ∀ (d k i : Nat), i + d = l.length → d < k →
    impl_isLine.l0 K k l (l.length : Int) (i : Int) l = some (okF (lnB l) i d && decide (l.length ≤ 40)) := by
  intro d
  induction d with
  | zero =>
    intro k i hi hk
    obtain ⟨k, rfl⟩ : ∃ m, k = m + 1 := ⟨k - 1, by omega⟩
    rw [impl_isLine.l0_eq, if_neg (by omega)]
    congr 1
    simp only [okF, Bool.true_and, decide_eq_decide]
    omega
  | succ d ih =>
    intro k i hi hk
    obtain ⟨k, rfl⟩ : ∃ m, k = m + 1 := ⟨k - 1, by omega⟩
    rw [impl_isLine.l0_eq, if_pos (by omega), if_pos (by omega), if_pos (by omega), iticket_f _ _ hK, bs, not_ite, rdTD, wrap_next (show i < l.length by omega) (by omega), ih k (i + 1) (by omega) (by omega)]
    simp only [okF, lnB]
    cases h1 : tkB (l.getD i (0, 0)) with
    | false => simp
    | true =>
      rw [if_pos rfl]
      by_cases h0 : (i : Int) > 0
      · rw [if_pos h0, pred_wrap (by omega) (by omega), if_pos (by omega), if_pos (by omega), rdTD]
        by_cases h2 : (l.getD (i - 1) (0, 0)).1 ≥ (l.getD i (0, 0)).1
        · rw [if_pos h2, decide_eq_false (by omega), decide_eq_false (by omega)]
          rfl
        · rw [if_neg h2, decide_eq_true (p := (l.getD (i - 1) (0, 0)).1 < (l.getD i (0, 0)).1) (by omega)]
          simp
      · rw [if_neg h0, decide_eq_true (p := i = 0) (by omega)]
        simp
theorem iline_f (l : List Tk) (hn : l.length ≤ 2000000) (k : Nat) (hk : l.length + 2 < k) : impl_isLine.f k l = some (lineB l) := by
  obtain ⟨k, rfl⟩ : ∃ m, k = m + 1 := ⟨k - 1, by omega⟩
  rw [impl_isLine.f_eq]
  have := iline_loop k (by omega) l hn l.length k 0 (by omega) (by omega)
  rw [show ((0 : Nat) : Int) = 0 from rfl] at this
  rw [this, lineB, Bool.and_comm]
theorem sline_loop (K : Nat) (hK : 2 ≤ K) (l : List Tk) (hn : l.length ≤ 2000000) : ∀ (d k i : Nat), i + d = l.length → d < k →
    spec_LineOk.l0 K k (i : Int) l = some (okF (lnB l) i d) := by
  intro d
  induction d with
  | zero =>
    intro k i hi hk
    obtain ⟨k, rfl⟩ : ∃ m, k = m + 1 := ⟨k - 1, by omega⟩
    rw [spec_LineOk.l0_eq, if_neg (by omega)]
    rfl
  | succ d ih =>
    intro k i hi hk
    obtain ⟨k, rfl⟩ : ∃ m, k = m + 1 := ⟨k - 1, by omega⟩
    rw [spec_LineOk.l0_eq, if_pos (by omega), if_pos (by omega), if_pos (by omega), sticket_f _ _ hK, bs, not_ite, rdTD, wrap_next (show i < l.length by omega) (by omega), ih k (i + 1) (by omega) (by omega)]
    simp only [okF, lnB]
    cases h1 : tkB (l.getD i (0, 0)) with
    | false => simp
    | true =>
      rw [if_pos rfl]
      by_cases h0 : (i : Int) > 0
      · rw [if_pos h0, pred_wrap (by omega) (by omega), if_pos (by omega), if_pos (by omega), if_pos (by omega), if_pos (by omega), rdTD]
        by_cases h2 : (l.getD (i - 1) (0, 0)).1 ≥ (l.getD i (0, 0)).1
        · rw [if_pos h2, decide_eq_false (by omega), decide_eq_false (by omega)]
          rfl
        · rw [if_neg h2, decide_eq_true (p := (l.getD (i - 1) (0, 0)).1 < (l.getD i (0, 0)).1) (by omega)]
          simp
      · rw [if_neg h0, decide_eq_true (p := i = 0) (by omega)]
        simp
theorem sline_f (l : List Tk) (hn : l.length ≤ 2000000) (k : Nat) (hk : l.length + 3 < k) : spec_LineOk.f k l = some (lineB l) := by
  obtain ⟨k, rfl⟩ : ∃ m, k = m + 1 := ⟨k - 1, by omega⟩
  rw [spec_LineOk.f_eq]
  unfold lineB
  by_cases h : (l.length : Int) > 40
  · rw [if_pos h, decide_eq_false (by omega), Bool.false_and]
  · have := sline_loop k (by omega) l hn l.length k 0 (by omega) (by omega)
    rw [show ((0 : Nat) : Int) = 0 from rfl] at this
    rw [if_neg h, this, decide_eq_true (by omega), Bool.true_and]
theorem line_len {l : List Tk} (h : lineB l = true) : l.length ≤ 40 := by
  unfold lineB at h
  simp only [Bool.and_eq_true, decide_eq_true_eq] at h
  exact h.1
/-! ### rings whose turn is not fresh -/
def dF : Fl := (0, 0, 0, [])
theorem rdFD (l : List Fl) (i : Nat) : rd FlT l (i : Int) = l.getD i dF := rfl
def flB (fl : List Fl) (i : Nat) : Bool :=
  decide (0 ≤ (fl.getD i dF).1 ∧ (fl.getD i dF).1 ≤ 99 ∧ 100 ≤ (fl.getD i dF).2.1 ∧ (fl.getD i dF).2.1 ≤ 100000) && (lineB (fl.getD i dF).2.2.2 &&
    ((decide (i = 0) || decide ((fl.getD (i - 1) dF).1 < (fl.getD i dF).1)) && decide (0 ≤ (fl.getD i dF).2.2.1 ∧ (fl.getD i dF).2.2.1 ≤ 199999 ∧ ((fl.getD i dF).2.2.2.length = 0 → (fl.getD i dF).2.2.1 = 0))))
def ringB (fl : List Fl) (turn : Int) : Bool := decide (fl.length ≤ 12 ∧ (fl.length = 0 → turn = 0) ∧ (0 < fl.length → 0 ≤ turn ∧ turn < fl.length)) && okF (flB fl) 0 fl.length
/-- Small enough for the rounds that are counted. -/
def Sml (fl : List Fl) : Prop := fl.length ≤ 100 ∧ ∀ f ∈ fl, f.2.2.2.length ≤ 100
theorem Sml.at {fl : List Fl} (h : Sml fl) (i : Nat) : (fl.getD i dF).2.2.2.length ≤ 100 := by
  by_cases c : i < fl.length
  · have e : fl.getD i dF = fl[i] := by simp [List.getD, c]
    rw [e]
    exact h.2 _ (List.getElem_mem c)
  · have e : fl.getD i dF = dF := by simp [List.getD, c]
    rw [e]
    simp [dF]
theorem iring_loop (K : Nat) (hK : 200 ≤ K) (fl : List Fl) (hs : Sml fl) (turn : Int) : ∀ (d k i : Nat), i + d = fl.length → d < k →
    impl_isRing.l0 K k fl (fl.length : Int) (i : Int) fl turn false = some (okF (flB fl) i d) := by
  intro d
  have hn := hs.1
  induction d with
  | zero =>
    intro k i hi hk
    obtain ⟨k, rfl⟩ : ∃ m, k = m + 1 := ⟨k - 1, by omega⟩
    rw [impl_isRing.l0_eq, if_neg (by omega)]
    rfl
  | succ d ih =>
    intro k i hi hk
    obtain ⟨k, rfl⟩ : ∃ m, k = m + 1 := ⟨k - 1, by omega⟩
    have hl := hs.at i
    rw [impl_isRing.l0_eq, if_pos (by omega), if_pos (by omega), if_pos (by omega), rdFD, impl_isRing.j1_eq, if_neg (show ¬ (false = true) by decide), impl_isRing.j2_eq, wrap_next (show i < fl.length by omega) (by omega), ih k (i + 1) (by omega) (by omega)]
    simp only [okF, flB]
    generalize hf : fl.getD i dF = f at hl ⊢
    by_cases h1 : f.1 < 0
    · rw [if_pos h1, decide_eq_false (by omega)]; rfl
    rw [if_neg h1]
    by_cases h2 : f.1 > 99
    · rw [if_pos h2, decide_eq_false (by omega)]; rfl
    rw [if_neg h2]
    by_cases h3 : f.2.1 < 100
    · rw [if_pos h3, decide_eq_false (by omega)]; rfl
    rw [if_neg h3]
    by_cases h4 : f.2.1 > 100000
    · rw [if_pos h4, decide_eq_false (by omega)]; rfl
    rw [if_neg h4, decide_eq_true (p := 0 ≤ f.1 ∧ f.1 ≤ 99 ∧ 100 ≤ f.2.1 ∧ f.2.1 ≤ 100000) (by omega), Bool.true_and, iline_f f.2.2.2 (by omega) K (by omega), bs, not_ite]
    cases h5 : lineB f.2.2.2 with
    | false => rfl
    | true =>
      rw [if_pos rfl, Bool.true_and]
      have key : (if f.2.2.1 < 0 then some false else (if f.2.2.1 > 199999 then some false else (if decide ((f.2.2.2.length : Int) = 0) = true then (if f.2.2.1 ≠ 0 then some false else some (okF (flB fl) (i + 1) d)) else some (okF (flB fl) (i + 1) d)))) =
          some (decide (0 ≤ f.2.2.1 ∧ f.2.2.1 ≤ 199999 ∧ (f.2.2.2.length = 0 → f.2.2.1 = 0)) && okF (flB fl) (i + 1) d) := by
        by_cases g1 : f.2.2.1 < 0
        · rw [if_pos g1, decide_eq_false (by omega), Bool.false_and]
        rw [if_neg g1]
        by_cases g2 : f.2.2.1 > 199999
        · rw [if_pos g2, decide_eq_false (by omega), Bool.false_and]
        rw [if_neg g2]
        by_cases g3 : (f.2.2.2.length : Int) = 0
        · rw [if_pos (decide_eq_true g3)]
          by_cases g4 : f.2.2.1 ≠ 0
          · rw [if_pos g4, decide_eq_false (by omega), Bool.false_and]
          · rw [if_neg g4, decide_eq_true (by omega), Bool.true_and]
        · rw [if_neg (by simpa using g3), decide_eq_true (by omega), Bool.true_and]
      rw [key]
      by_cases h0 : (i : Int) > 0
      · rw [if_pos h0, pred_wrap (by omega) (by omega), if_pos (by omega), if_pos (by omega), rdFD]
        by_cases h6 : (fl.getD (i - 1) dF).1 ≥ f.1
        · rw [if_pos h6, decide_eq_false (p := i = 0) (by omega), decide_eq_false (p := (fl.getD (i - 1) dF).1 < f.1) (by omega)]
          rfl
        · rw [if_neg h6, decide_eq_true (p := (fl.getD (i - 1) dF).1 < f.1) (by omega), Bool.or_true, Bool.true_and]
      · rw [if_neg h0, decide_eq_true (p := i = 0) (by omega), Bool.true_or, Bool.true_and]
theorem iring_f (fl : List Fl) (hs : Sml fl) (turn : Int) (k : Nat) (hk : 300 ≤ k) : impl_isRing.f k fl turn false = some (ringB fl turn) := by
  obtain ⟨k, rfl⟩ : ∃ m, k = m + 1 := ⟨k - 1, by omega⟩
  have hn := hs.1
  have hloop := iring_loop k (by omega) fl hs turn fl.length k 0 (by omega) (by omega)
  rw [show ((0 : Nat) : Int) = 0 from rfl] at hloop
  have ht : impl_isRing.j0 k true fl turn false = some false := by rw [impl_isRing.j0_eq, if_pos rfl]
  have hff : impl_isRing.j0 k false fl turn false = some (okF (flB fl) 0 fl.length) := by rw [impl_isRing.j0_eq, if_neg (by decide), hloop]
  rw [impl_isRing.f_eq]
  unfold ringB
  by_cases h1 : (fl.length : Int) > 12
  · rw [if_pos h1, ht, decide_eq_false (by omega), Bool.false_and]
  rw [if_neg h1]
  by_cases h2 : (fl.length : Int) = 0
  · rw [if_pos h2]
    by_cases h3 : turn ≠ 0
    · rw [if_pos h3, ht, decide_eq_false (by omega), Bool.false_and]
    · rw [if_neg h3, if_neg (by decide), if_neg (by omega), hff, decide_eq_true (by omega), Bool.true_and]
  · rw [if_neg h2, if_pos (by omega)]
    by_cases h3 : turn < 0
    · rw [if_pos h3, ht, decide_eq_false (by omega), Bool.false_and]
    · rw [if_neg h3]
      by_cases h4 : turn ≥ (fl.length : Int)
      · rw [decide_eq_true h4, ht, decide_eq_false (by omega), Bool.false_and]
      · rw [decide_eq_false h4, hff, decide_eq_true (by omega), Bool.true_and]
theorem sflow_f (f : Fl) (hl : f.2.2.2.length ≤ 100) (k : Nat) (hk : 200 ≤ k) : spec_l14Flow.f k f.1 f.2.1 f.2.2.1 f.2.2.2 false =
    some (decide (0 ≤ f.1 ∧ f.1 ≤ 99 ∧ 100 ≤ f.2.1 ∧ f.2.1 ≤ 100000) && (lineB f.2.2.2 && decide (0 ≤ f.2.2.1 ∧ f.2.2.1 ≤ 199999 ∧ (f.2.2.2.length = 0 → f.2.2.1 = 0)))) := by
  obtain ⟨k, rfl⟩ : ∃ m, k = m + 1 := ⟨k - 1, by omega⟩
  rw [spec_l14Flow.f_eq, in_is _ _ _ _ (by omega), bs, not_ite]
  by_cases h1 : 0 ≤ f.1 ∧ f.1 ≤ 99
  case neg => rw [decide_eq_false h1, if_neg (by decide), decide_eq_false (by omega), Bool.false_and]
  rw [decide_eq_true h1, if_pos rfl, in_is _ _ _ _ (by omega), bs, not_ite]
  by_cases h2 : 100 ≤ f.2.1 ∧ f.2.1 ≤ 100000
  case neg => rw [decide_eq_false h2, if_neg (by decide), decide_eq_false (by omega), Bool.false_and]
  rw [decide_eq_true h2, if_pos rfl, sline_f _ (by omega) _ (by omega), bs, not_ite, decide_eq_true (p := 0 ≤ f.1 ∧ f.1 ≤ 99 ∧ 100 ≤ f.2.1 ∧ f.2.1 ≤ 100000) (by omega), Bool.true_and]
  cases h3 : lineB f.2.2.2 with
  | false => rfl
  | true =>
    rw [if_pos rfl, if_neg (by decide), in_is _ _ _ _ (by omega), bs, Bool.true_and]
    by_cases h4 : 0 ≤ f.2.2.1 ∧ f.2.2.1 ≤ 199999
    case neg => rw [decide_eq_false h4, if_neg (by decide), decide_eq_false (by omega)]
    rw [decide_eq_true h4, if_pos rfl]
    by_cases h5 : (f.2.2.2.length : Int) > 0
    · rw [if_pos h5, decide_eq_true (by omega)]
    · rw [if_neg h5]
      congr 1
      simp only [decide_eq_decide]
      omega
theorem sring_loop (K : Nat) (hK : 200 ≤ K) (fl : List Fl) (hs : Sml fl) (turn : Int) : ∀ (d k i : Nat), i + d = fl.length → d < k →
    spec_RingOk.l0 K k (fl.length : Int) (i : Int) fl turn false = some (okF (flB fl) i d) := by
  intro d
  have hn := hs.1
  induction d with
  | zero =>
    intro k i hi hk
    obtain ⟨k, rfl⟩ : ∃ m, k = m + 1 := ⟨k - 1, by omega⟩
    rw [spec_RingOk.l0_eq, if_neg (by omega)]
    rfl
  | succ d ih =>
    intro k i hi hk
    obtain ⟨k, rfl⟩ : ∃ m, k = m + 1 := ⟨k - 1, by omega⟩
    have hl := hs.at i
    rw [spec_RingOk.l0_eq, if_pos (by omega), if_pos (by omega), if_pos (by omega), if_neg (show ¬ (false = true) by decide), rdFD, sflow_f _ hl K (by omega), bs, not_ite, wrap_next (show i < fl.length by omega) (by omega), ih k (i + 1) (by omega) (by omega)]
    simp only [okF, flB]
    generalize hf : fl.getD i dF = f at hl ⊢
    cases decide (0 ≤ f.1 ∧ f.1 ≤ 99 ∧ 100 ≤ f.2.1 ∧ f.2.1 ≤ 100000) with
    | false => rfl
    | true =>
      cases lineB f.2.2.2 with
      | false => rfl
      | true =>
        cases decide (0 ≤ f.2.2.1 ∧ f.2.2.1 ≤ 199999 ∧ (f.2.2.2.length = 0 → f.2.2.1 = 0)) with
        | false => simp
        | true =>
          simp only [Bool.true_and, Bool.and_true, if_true]
          by_cases h0 : (i : Int) > 0
          · rw [if_pos h0, pred_wrap (by omega) (by omega), if_pos (by omega), if_pos (by omega), if_pos (by omega), if_pos (by omega), rdFD]
            by_cases h6 : (fl.getD (i - 1) dF).1 ≥ f.1
            · rw [if_pos h6, decide_eq_false (p := i = 0) (by omega), decide_eq_false (p := (fl.getD (i - 1) dF).1 < f.1) (by omega)]
              rfl
            · rw [if_neg h6, decide_eq_true (p := (fl.getD (i - 1) dF).1 < f.1) (by omega), Bool.or_true, Bool.true_and]
          · rw [if_neg h0, decide_eq_true (p := i = 0) (by omega), Bool.true_or, Bool.true_and]
theorem sring_f (fl : List Fl) (hs : Sml fl) (turn : Int) (k : Nat) (hk : 300 ≤ k) : spec_RingOk.f k fl turn false = some (ringB fl turn) := by
  obtain ⟨k, rfl⟩ : ∃ m, k = m + 1 := ⟨k - 1, by omega⟩
  have hn := hs.1
  have hloop := sring_loop k (by omega) fl hs turn fl.length k 0 (by omega) (by omega)
  rw [show ((0 : Nat) : Int) = 0 from rfl] at hloop
  rw [spec_RingOk.f_eq]
  unfold ringB
  by_cases h1 : (fl.length : Int) > 12
  · rw [if_pos h1, decide_eq_false (by omega), Bool.false_and]
  rw [if_neg h1]
  by_cases h2 : (fl.length : Int) = 0
  · rw [if_pos h2]
    by_cases h3 : turn = 0
    · have h0 : fl.length = 0 := by omega
      rw [if_pos h3, decide_eq_true (by omega), h0]
      rfl
    · rw [if_neg h3, decide_eq_false (by omega), Bool.false_and]
  · rw [if_neg h2, in_is _ _ _ _ (by omega), bs, not_ite, wrap_id (by omega) (by omega), hloop]
    by_cases h3 : 0 ≤ turn ∧ turn ≤ (fl.length : Int) - 1
    · rw [decide_eq_true h3, if_pos rfl, decide_eq_true (by omega), Bool.true_and]
    · rw [decide_eq_false h3, if_neg (by decide), decide_eq_false (by omega), Bool.false_and]
theorem ring_facts {fl : List Fl} {turn : Int} (h : ringB fl turn = true) : fl.length ≤ 12 ∧ (fl.length = 0 → turn = 0) ∧ (0 < fl.length → 0 ≤ turn ∧ turn < fl.length) ∧ ∀ i, i < fl.length → flB fl i = true := by
  unfold ringB at h
  simp only [Bool.and_eq_true, decide_eq_true_eq] at h
  exact ⟨h.1.1, h.1.2.1, h.1.2.2, fun i hi => okF_iff.1 h.2 i (by omega) (by omega)⟩
theorem flB_facts {fl : List Fl} {i : Nat} (h : flB fl i = true) (hi : i < fl.length) : (0 ≤ fl[i].1 ∧ fl[i].1 ≤ 99) ∧ lineB fl[i].2.2.2 = true ∧ (0 < i → (fl.getD (i - 1) dF).1 < fl[i].1) := by
  unfold flB at h
  have e : fl.getD i dF = fl[i] := by simp [List.getD, hi]
  rw [e] at h
  simp only [Bool.and_eq_true, Bool.or_eq_true, decide_eq_true_eq] at h
  exact ⟨⟨h.1.1, h.1.2.1⟩, h.2.1, fun h0 => h.2.2.1.resolve_left (by omega)⟩
end Go.Vm.Pu
namespace Go.Vm.Pu
open Go Go.RowKit Go.Vm
set_option linter.unusedVariables false
set_option linter.unusedSimpArgs false
/-! ### copies -/
theorem icopyLine_f (l : List Tk) (hn : l.length ≤ 2000000) (k : Nat) (hk : 1 ≤ k) : impl_copyLine.f k l = some l := by
  obtain ⟨k, rfl⟩ : ∃ m, k = m + 1 := ⟨k - 1, by omega⟩
  rw [impl_copyLine.f_eq, if_pos (by omega), List.nil_append]
theorem scopyLine_loop (K : Nat) (l : List Tk) (hn : l.length ≤ 2000000) : ∀ (d k i : Nat) (out : List Tk), i + d = l.length → d < k → out.length + d ≤ 2000000 →
    spec_l13Copy.l0 K k (i : Int) l out = some (out ++ l.drop i) := by
  intro d
  induction d with
  | zero =>
    intro k i out hi hk ho
    obtain ⟨k, rfl⟩ : ∃ m, k = m + 1 := ⟨k - 1, by omega⟩
    rw [spec_l13Copy.l0_eq, if_neg (by omega), List.drop_of_length_le (by omega), List.append_nil]
  | succ d ih =>
    intro k i out hi hk ho
    obtain ⟨k, rfl⟩ : ∃ m, k = m + 1 := ⟨k - 1, by omega⟩
    rw [spec_l13Copy.l0_eq, if_pos (by omega), if_pos (by omega), if_pos (by omega), if_pos (by omega), wrap_next (show i < l.length by omega) (by omega), ih k (i + 1) _ (by omega) (by omega) (by simp; omega), rdT l i (by omega), drop_cons l i (by omega), List.append_assoc]
    rfl
theorem scopyLine_f (l : List Tk) (hn : l.length ≤ 2000000) (k : Nat) (hk : l.length + 1 < k) : spec_l13Copy.f k l = some l := by
  obtain ⟨k, rfl⟩ : ∃ m, k = m + 1 := ⟨k - 1, by omega⟩
  rw [spec_l13Copy.f_eq]
  have := scopyLine_loop k l hn l.length k 0 [] (by omega) (by omega) (by simpa using hn)
  simpa using this
theorem icopy_loop (K : Nat) (hK : 1 ≤ K) (fl : List Fl) (hs : Sml fl) (a : Int) (b : Bool) (t : Int) (fr : Bool) : ∀ (d k i : Nat) (out : List Fl), i + d = fl.length → d < k → out.length + d ≤ 2000000 →
    impl_copyRing.l0 K k fl (fl.length : Int) (i : Int) a b t fr out = some (t, fr, out ++ fl.drop i) := by
  intro d
  have hn := hs.1
  induction d with
  | zero =>
    intro k i out hi hk ho
    obtain ⟨k, rfl⟩ : ∃ m, k = m + 1 := ⟨k - 1, by omega⟩
    rw [impl_copyRing.l0_eq, if_neg (by omega), List.drop_of_length_le (by omega), List.append_nil]
  | succ d ih =>
    intro k i out hi hk ho
    obtain ⟨k, rfl⟩ : ∃ m, k = m + 1 := ⟨k - 1, by omega⟩
    have hlt : i < fl.length := by omega
    have hl := hs.2 _ (List.getElem_mem hlt)
    rw [impl_copyRing.l0_eq, if_pos (by omega), if_pos (by omega), if_pos (by omega), rdF fl i hlt, icopyLine_f _ (by omega) K hK, bs, if_pos (by omega), wrap_next hlt (by omega), ih k (i + 1) _ (by omega) (by omega) (by simp; omega), drop_cons fl i hlt, List.append_assoc]
    rfl
theorem icopy_f (fl : List Fl) (hs : Sml fl) (t : Int) (fr : Bool) (k : Nat) (hk : 200 ≤ k) : impl_copyRing.f k fl t fr = some (t, fr, fl) := by
  obtain ⟨k, rfl⟩ : ∃ m, k = m + 1 := ⟨k - 1, by omega⟩
  have hn := hs.1
  rw [impl_copyRing.f_eq]
  have := icopy_loop k (by omega) fl hs 0 false t fr fl.length k 0 [] (by omega) (by omega) (by simp; omega)
  simpa using this
theorem scopy_loop (K : Nat) (hK : 200 ≤ K) (fl : List Fl) (hs : Sml fl) (r1 : Int) (r2 : Bool) (a : Int) (b : Bool) (t : Int) (fr : Bool) : ∀ (d k i : Nat) (out : List Fl), i + d = fl.length → d < k → out.length + d ≤ 2000000 →
    spec_l14Copy.l0 K k (i : Int) fl r1 r2 a b t fr out = some (t, fr, out ++ fl.drop i) := by
  intro d
  have hn := hs.1
  induction d with
  | zero =>
    intro k i out hi hk ho
    obtain ⟨k, rfl⟩ : ∃ m, k = m + 1 := ⟨k - 1, by omega⟩
    rw [spec_l14Copy.l0_eq, if_neg (by omega), List.drop_of_length_le (by omega), List.append_nil]
  | succ d ih =>
    intro k i out hi hk ho
    obtain ⟨k, rfl⟩ : ∃ m, k = m + 1 := ⟨k - 1, by omega⟩
    have hlt : i < fl.length := by omega
    have hl := hs.2 _ (List.getElem_mem hlt)
    rw [spec_l14Copy.l0_eq, if_pos (by omega), if_pos (by omega), if_pos (by omega), rdF fl i hlt, scopyLine_f _ (by omega) K (by omega), bs, if_pos (by omega), wrap_next hlt (by omega), ih k (i + 1) _ (by omega) (by omega) (by simp; omega), drop_cons fl i hlt, List.append_assoc]
    rfl
theorem scopy_f (fl : List Fl) (hs : Sml fl) (t : Int) (fr : Bool) (k : Nat) (hk : 300 ≤ k) : spec_l14Copy.f k fl t fr = some (t, fr, fl) := by
  obtain ⟨k, rfl⟩ : ∃ m, k = m + 1 := ⟨k - 1, by omega⟩
  have hn := hs.1
  rw [spec_l14Copy.f_eq]
  have := scopy_loop k (by omega) fl hs t fr 0 false t fr fl.length k 0 [] (by omega) (by omega) (by simp; omega)
  simpa using this
/-! ### places -/
def ixOf {α : Type} (p : α → Bool) : List α → Nat → Int
  | [], _ => -1
  | a :: l, i => if p a = true then (i : Int) else ixOf p l (i + 1)
theorem ixOf_is {α : Type} (p : α → Bool) : ∀ (l : List α) (i : Nat), (ixOf p l i = -1 ∧ ∀ x ∈ l, p x = false) ∨ ∃ n, ∃ h : n < l.length, ixOf p l i = ((i + n : Nat) : Int) ∧ p l[n] = true
  | [], i => .inl ⟨rfl, fun x hx => by cases hx⟩
  | a :: l, i => by
    cases e : p a with
    | true => exact .inr ⟨0, by simp, by simp [ixOf, e], by simpa using e⟩
    | false =>
      rcases ixOf_is p l (i + 1) with ⟨h1, h2⟩ | ⟨n, h, h1, h2⟩
      · refine .inl ⟨by simp [ixOf, e, h1], fun x hx => ?_⟩
        rcases List.mem_cons.1 hx with rfl | hx
        · exact e
        · exact h2 x hx
      · exact .inr ⟨n + 1, by simp; omega, by rw [ixOf, e, if_neg (by decide), h1]; congr 1; omega, by simpa using h2⟩
def atF (fl : List Fl) (t : Int) : Int := ixOf (fun f : Fl => decide (f.1 = t)) fl 0
def atT (l : List Tk) (t : Int) : Int := ixOf (fun f : Tk => decide (f.1 = t)) l 0
theorem atF_is (fl : List Fl) (t : Int) : (atF fl t = -1 ∧ ∀ x ∈ fl, x.1 ≠ t) ∨ ∃ n, ∃ h : n < fl.length, atF fl t = (n : Int) ∧ fl[n].1 = t := by
  rcases ixOf_is (fun f : Fl => decide (f.1 = t)) fl 0 with ⟨h1, h2⟩ | ⟨n, h, h1, h2⟩
  · exact .inl ⟨h1, fun x hx => by have := h2 x hx; simpa using this⟩
  · exact .inr ⟨n, h, by rw [atF, h1]; congr 1; omega, by simpa using h2⟩
theorem atT_is (l : List Tk) (t : Int) : (atT l t = -1 ∧ ∀ x ∈ l, x.1 ≠ t) ∨ ∃ n, ∃ h : n < l.length, atT l t = (n : Int) ∧ l[n].1 = t := by
  rcases ixOf_is (fun f : Tk => decide (f.1 = t)) l 0 with ⟨h1, h2⟩ | ⟨n, h, h1, h2⟩
  · exact .inl ⟨h1, fun x hx => by have := h2 x hx; simpa using this⟩
  · exact .inr ⟨n, h, by rw [atT, h1]; congr 1; omega, by simpa using h2⟩
theorem iat_loop (K : Nat) (hK : 1 ≤ K) (fl : List Fl) (hn : fl.length ≤ 2000000) (t : Int) : ∀ (d k i : Nat), i + d = fl.length → d < k →
    slices_IndexFunc_Flow.l0 K k fl (fl.length : Int) (i : Int) t = some (ixOf (fun f : Fl => decide (f.1 = t)) (fl.drop i) i, t) := by
  intro d
  induction d with
  | zero =>
    intro k i hi hk
    obtain ⟨k, rfl⟩ : ∃ m, k = m + 1 := ⟨k - 1, by omega⟩
    rw [slices_IndexFunc_Flow.l0_eq, if_neg (by omega), List.drop_of_length_le (by omega)]
    rfl
  | succ d ih =>
    intro k i hi hk
    obtain ⟨k, rfl⟩ : ∃ m, k = m + 1 := ⟨k - 1, by omega⟩
    obtain ⟨K, rfl⟩ : ∃ m, K = m + 1 := ⟨K - 1, by omega⟩
    rw [slices_IndexFunc_Flow.l0_eq, if_pos (by omega), if_pos (by omega), if_pos (by omega), impl_flowOf_1.f_eq, bs, rdF fl i (by omega), wrap_next (show i < fl.length by omega) (by omega), ih k (i + 1) (by omega) (by omega), drop_cons fl i (by omega)]
    simp only [ixOf]
    by_cases c : fl[i].1 = t
    · rw [if_pos (decide_eq_true c), if_pos (decide_eq_true c)]
    · rw [if_neg (by simpa using c), if_neg (by simpa using c)]
theorem iflowOf_f (fl : List Fl) (hn : fl.length ≤ 2000000) (r1 : Int) (r2 : Bool) (t : Int) (k : Nat) (hk : fl.length + 3 < k) : impl_flowOf.f k fl r1 r2 t = some (atF fl t) := by
  obtain ⟨k, rfl⟩ : ∃ m, k = m + 1 := ⟨k - 1, by omega⟩
  obtain ⟨k, rfl⟩ : ∃ m, k = m + 1 := ⟨k - 1, by omega⟩
  rw [impl_flowOf.f_eq, slices_IndexFunc_Flow.f_eq]
  have := iat_loop k (by omega) fl hn t fl.length k 0 (by omega) (by omega)
  rw [show ((0 : Nat) : Int) = 0 from rfl] at this
  rw [this, bs]
  rfl
theorem iplace_loop (K : Nat) (hK : 1 ≤ K) (l : List Tk) (hn : l.length ≤ 2000000) (t : Int) : ∀ (d k i : Nat), i + d = l.length → d < k →
    slices_IndexFunc_Ticket.l0 K k l (l.length : Int) (i : Int) t = some (ixOf (fun f : Tk => decide (f.1 = t)) (l.drop i) i, t) := by
  intro d
  induction d with
  | zero =>
    intro k i hi hk
    obtain ⟨k, rfl⟩ : ∃ m, k = m + 1 := ⟨k - 1, by omega⟩
    rw [slices_IndexFunc_Ticket.l0_eq, if_neg (by omega), List.drop_of_length_le (by omega)]
    rfl
  | succ d ih =>
    intro k i hi hk
    obtain ⟨k, rfl⟩ : ∃ m, k = m + 1 := ⟨k - 1, by omega⟩
    obtain ⟨K, rfl⟩ : ∃ m, K = m + 1 := ⟨K - 1, by omega⟩
    rw [slices_IndexFunc_Ticket.l0_eq, if_pos (by omega), if_pos (by omega), if_pos (by omega), impl_placeOf_1.f_eq, bs, rdT l i (by omega), wrap_next (show i < l.length by omega) (by omega), ih k (i + 1) (by omega) (by omega), drop_cons l i (by omega)]
    simp only [ixOf]
    by_cases c : l[i].1 = t
    · rw [if_pos (decide_eq_true c), if_pos (decide_eq_true c)]
    · rw [if_neg (by simpa using c), if_neg (by simpa using c)]
theorem iplaceOf_f (l : List Tk) (hn : l.length ≤ 2000000) (t : Int) (k : Nat) (hk : l.length + 3 < k) : impl_placeOf.f k l t = some (atT l t) := by
  obtain ⟨k, rfl⟩ : ∃ m, k = m + 1 := ⟨k - 1, by omega⟩
  obtain ⟨k, rfl⟩ : ∃ m, k = m + 1 := ⟨k - 1, by omega⟩
  rw [impl_placeOf.f_eq, slices_IndexFunc_Ticket.f_eq]
  have := iplace_loop k (by omega) l hn t l.length k 0 (by omega) (by omega)
  rw [show ((0 : Nat) : Int) = 0 from rfl] at this
  rw [this, bs]
  rfl
theorem sat_loop (K : Nat) (fl : List Fl) (hn : fl.length ≤ 2000000) (r1 : Int) (r2 : Bool) (t : Int) : ∀ (d k i : Nat), i + d = fl.length → d < k →
    spec_l14At.l0 K k t (i : Int) fl r1 r2 = some (ixOf (fun f : Fl => decide (f.1 = t)) (fl.drop i) i) := by
  intro d
  induction d with
  | zero =>
    intro k i hi hk
    obtain ⟨k, rfl⟩ : ∃ m, k = m + 1 := ⟨k - 1, by omega⟩
    rw [spec_l14At.l0_eq, if_neg (by omega), List.drop_of_length_le (by omega)]
    rfl
  | succ d ih =>
    intro k i hi hk
    obtain ⟨k, rfl⟩ : ∃ m, k = m + 1 := ⟨k - 1, by omega⟩
    rw [spec_l14At.l0_eq, if_pos (by omega), if_pos (by omega), if_pos (by omega), rdF fl i (by omega), wrap_next (show i < fl.length by omega) (by omega), ih k (i + 1) (by omega) (by omega), drop_cons fl i (by omega)]
    simp only [ixOf]
    by_cases c : fl[i].1 = t
    · rw [if_pos c, if_pos (decide_eq_true c)]
    · rw [if_neg c, if_neg (by simpa using c)]
theorem sat_f (fl : List Fl) (hn : fl.length ≤ 2000000) (r1 : Int) (r2 : Bool) (t : Int) (k : Nat) (hk : fl.length + 1 < k) : spec_l14At.f k fl r1 r2 t = some (atF fl t) := by
  obtain ⟨k, rfl⟩ : ∃ m, k = m + 1 := ⟨k - 1, by omega⟩
  rw [spec_l14At.f_eq]
  have := sat_loop k fl hn r1 r2 t fl.length k 0 (by omega) (by omega)
  rw [show ((0 : Nat) : Int) = 0 from rfl] at this
  rw [this]
  rfl
/-- What a step answers: the turn, not fresh, whether, the flows. -/
def res4 (o : Option (List Fl × Int)) (fl : List Fl) (turn : Int) : Int × Bool × Bool × List Fl := match o with
  | some s => (s.2, false, true, s.1)
  | none => (turn, false, false, fl)
/-! ### a flow added -/
def posN (t : Int) : List Fl → Nat
  | [] => 0
  | f :: l => if f.1 < t then posN t l + 1 else 0
theorem posN_le (t : Int) : ∀ l : List Fl, posN t l ≤ l.length
  | [] => Nat.le_refl _
  | f :: l => by
    have := posN_le t l
    simp only [posN, List.length_cons]
    split <;> omega
def addN (fl : List Fl) (t q : Int) : List Fl := fl.take (posN t fl) ++ (t, q, 0, []) :: fl.drop (posN t fl)
def addT (fl : List Fl) (turn t : Int) : Int := if 0 < fl.length ∧ (posN t fl : Int) ≤ turn then turn + 1 else turn
def addR (fl : List Fl) (turn t q : Int) : Option (List Fl × Int) :=
  if ringB fl turn = true ∧ atF fl t < 0 then (if ringB (addN fl t q) (addT fl turn t) = true then some (addN fl t q, addT fl turn t) else none) else none
theorem addN_sml {fl : List Fl} (h : fl.length ≤ 12) (hs : Sml fl) (t q : Int) : Sml (addN fl t q) := by
  refine ⟨by have := posN_le t fl; simp [addN]; omega, fun f hf => ?_⟩
  unfold addN at hf
  rcases List.mem_append.1 hf with hf | hf
  · exact hs.2 f (List.mem_of_mem_take hf)
  · rcases List.mem_cons.1 hf with rfl | hf
    · simp
    · exact hs.2 f (List.mem_of_mem_drop hf)
theorem iadd_loop (K : Nat) (fl : List Fl) (hn : fl.length ≤ 2000000) (t q r1 : Int) (r2 : Bool) (a : Int) (b : Bool) (o1 : Int) (o2 : Bool) (o0 : List Fl) : ∀ (d k i : Nat), i + d = fl.length → d < k →
    impl_AddFlow.l0 K k t q (i : Int) fl r1 r2 a b o1 o2 o0 = impl_AddFlow.j0 K t q ((i + posN t (fl.drop i) : Nat) : Int) fl r1 r2 a b o1 o2 o0 := by
  intro d
  induction d with
  | zero =>
    intro k i hi hk
    obtain ⟨k, rfl⟩ : ∃ m, k = m + 1 := ⟨k - 1, by omega⟩
    rw [impl_AddFlow.l0_eq, if_neg (by omega), List.drop_of_length_le (by omega)]
    rfl
  | succ d ih =>
    intro k i hi hk
    obtain ⟨k, rfl⟩ : ∃ m, k = m + 1 := ⟨k - 1, by omega⟩
    rw [impl_AddFlow.l0_eq, if_pos (by omega), if_pos (by omega), if_pos (by omega), rdF fl i (by omega), drop_cons fl i (by omega)]
    simp only [posN]
    by_cases c : fl[i].1 < t
    · rw [if_pos c, if_pos c, wrap_next (show i < fl.length by omega) (by omega), ih k (i + 1) (by omega) (by omega), show i + 1 + posN t (fl.drop (i + 1)) = i + (posN t (fl.drop (i + 1)) + 1) by omega]
    · rw [if_neg c, if_neg c]
      rfl
theorem iadd_f (fl : List Fl) (hs : Sml fl) (turn t q : Int) (k : Nat) (hk : 500 ≤ k) : impl_AddFlow.f k fl turn false t q = some (res4 (addR fl turn t q) fl turn) := by
  obtain ⟨k, rfl⟩ : ∃ m, k = m + 1 := ⟨k - 1, by omega⟩
  have hn := hs.1
  rw [impl_AddFlow.f_eq, icopy_f fl hs turn false k (by omega), bs, iring_f fl hs turn k (by omega), bs, not_ite]
  unfold addR
  cases h1 : ringB fl turn with
  | false => rw [if_neg (by decide), if_neg (by simp)]; rfl
  | true =>
    rw [if_pos rfl, iflowOf_f fl (by omega) turn false t k (by omega), bs]
    by_cases h2 : atF fl t ≥ 0
    · rw [if_pos h2, if_neg (by omega)]; rfl
    · rw [if_neg h2, if_pos ⟨rfl, by omega⟩]
      obtain ⟨f1, f2, f3, f4⟩ := ring_facts h1
      have hl := iadd_loop k fl (by omega) t q turn false 0 false turn false fl fl.length k 0 (by omega) (by omega)
      rw [show ((0 : Nat) : Int) = 0 from rfl, List.drop_zero, Nat.zero_add] at hl
      rw [hl]
      have hp := posN_le t fl
      have hj1 : ∀ o1, impl_AddFlow.j1 k t q (posN t fl : Int) fl turn false 0 false o1 false fl = if ringB (addN fl t q) o1 = true then some (o1, false, true, addN fl t q) else some (turn, false, false, fl) := fun o1 => by
        obtain ⟨k, rfl⟩ : ∃ m, k = m + 1 := ⟨k - 1, by omega⟩
        rw [impl_AddFlow.j1_eq, slices_Insert_Flow.f_eq, if_pos ⟨by omega, by omega, by omega⟩, bs]
        simp only [Int.toNat_natCast]
        rw [show fl.take (posN t fl) ++ (t, q, 0, []) :: fl.drop (posN t fl) = addN fl t q from rfl, iring_f _ (addN_sml f1 hs t q) _ _ (by omega), bs, not_ite, icopy_f fl hs turn false _ (by omega), bs]
      have hj0 : impl_AddFlow.j0 k t q (posN t fl : Int) fl turn false 0 false turn false fl = impl_AddFlow.j1 k t q (posN t fl : Int) fl turn false 0 false (addT fl turn t) false fl := by
        rw [impl_AddFlow.j0_eq]
        unfold addT
        by_cases c1 : (fl.length : Int) > 0
        · rw [if_pos c1]
          have := f3 (by omega)
          by_cases c2 : (posN t fl : Int) ≤ turn
          · rw [if_pos c2, if_pos ⟨by omega, c2⟩, wrap_id (by omega) (by omega)]
          · rw [if_neg c2, if_neg (by omega)]
        · rw [if_neg c1, if_neg (by omega)]
      rw [hj0, hj1]
      by_cases c : ringB (addN fl t q) (addT fl turn t) = true
      · rw [if_pos c, if_pos c]; rfl
      · rw [if_neg c, if_neg c]; rfl
theorem sadd_rest (K : Nat) (fl : List Fl) (hn : fl.length ≤ 100) (t q r1 : Int) (r2 : Bool) (a : Int) (b : Bool) (o1 : Int) (o2 : Bool) (p1 : Int) (p2 : Bool) : ∀ (d k i : Nat) (out : List Fl), i + d = fl.length → d < k → out.length + d ≤ 1000 →
    spec_AddFlow.l0 K k t q true (i : Int) fl r1 r2 a b o1 o2 p1 p2 out fl = spec_AddFlow.j2 K fl r1 r2 a b o1 o2 (out ++ fl.drop i) := by
  intro d
  induction d with
  | zero =>
    intro k i out hi hk ho
    obtain ⟨k, rfl⟩ : ∃ m, k = m + 1 := ⟨k - 1, by omega⟩
    rw [spec_AddFlow.l0_eq, if_neg (by omega), if_neg (by decide), List.drop_of_length_le (by omega), List.append_nil]
  | succ d ih =>
    intro k i out hi hk ho
    obtain ⟨k, rfl⟩ : ∃ m, k = m + 1 := ⟨k - 1, by omega⟩
    rw [spec_AddFlow.l0_eq, if_pos (by omega), if_neg (by decide), spec_AddFlow.j1_eq, if_neg (by decide), spec_AddFlow.j0_eq, if_pos (by omega), if_pos (by omega), if_pos (by omega), wrap_next (show i < fl.length by omega) (by omega),
      ih k (i + 1) _ (by omega) (by omega) (by simp; omega), rdF fl i (by omega), drop_cons fl i (by omega), List.append_assoc]
    rfl
theorem sadd_loop (K : Nat) (fl : List Fl) (hn : fl.length ≤ 100) (t q r1 : Int) (h0 : 0 ≤ r1) (h1 : r1 < fl.length) (r2 : Bool) (a : Int) (b : Bool) (o2 : Bool) (p1 : Int) (p2 : Bool) : ∀ (d k i p : Nat) (out : List Fl), i + d = fl.length → d < k → out.length + d ≤ 500 → (∀ f ∈ fl.drop i, f.1 ≠ t) → p = posN t (fl.drop i) →
    spec_AddFlow.l0 K k t q false (i : Int) fl r1 r2 a b r1 o2 p1 p2 out fl = spec_AddFlow.j2 K fl r1 r2 a b (if ((i + p : Nat) : Int) ≤ r1 then r1 + 1 else r1) o2 (out ++ ((fl.drop i).take p ++ (t, q, 0, []) :: (fl.drop i).drop p)) := by
  intro d
  induction d with
  | zero =>
    intro k i p out hi hk ho hne hp
    obtain ⟨k, rfl⟩ : ∃ m, k = m + 1 := ⟨k - 1, by omega⟩
    rw [List.drop_of_length_le (by omega)] at hp
    obtain rfl : p = 0 := hp
    rw [spec_AddFlow.l0_eq, if_neg (by omega), if_pos (by decide), if_pos (by omega), List.drop_of_length_le (by omega)]
    simp only [List.take_nil, List.drop_nil, List.nil_append]
    rw [if_neg (by omega)]
  | succ d ih =>
    intro k i p out hi hk ho hne hp
    obtain ⟨k, rfl⟩ : ∃ m, k = m + 1 := ⟨k - 1, by omega⟩
    have hlt : i < fl.length := by omega
    have hdr := drop_cons fl i hlt
    rw [hdr] at hne hp
    rw [hdr]
    have hti : fl[i].1 ≠ t := hne _ List.mem_cons_self
    simp only [posN] at hp
    rw [spec_AddFlow.l0_eq, if_pos (by omega), if_pos (by decide), if_pos (by omega), if_pos (by omega), rdF fl i hlt, spec_AddFlow.j1_eq]
    by_cases c : fl[i].1 < t
    · rw [if_pos c] at hp
      subst hp
      rw [if_neg (by simp; omega), spec_AddFlow.j0_eq, if_pos (by omega), if_pos (by omega), if_pos (by omega), wrap_next hlt (by omega), ih k (i + 1) _ _ (by omega) (by omega) (by simp; omega) (fun f hf => hne f (List.mem_cons_of_mem _ hf)) rfl, rdF fl i hlt,
        show i + 1 + posN t (fl.drop (i + 1)) = i + (posN t (fl.drop (i + 1)) + 1) by omega]
      simp only [List.take_succ_cons, List.drop_succ_cons, List.append_assoc, List.cons_append, List.nil_append]
    · rw [if_neg c] at hp
      subst hp
      rw [if_pos (by simp; omega), if_pos (by omega)]
      simp only [List.take_zero, List.drop_zero, List.nil_append, Nat.add_zero]
      have go : ∀ o1, spec_AddFlow.j0 K k t q true (i : Int) fl r1 r2 a b o1 o2 p1 p2 (out ++ [(t, q, 0, [])]) fl = spec_AddFlow.j2 K fl r1 r2 a b o1 o2 (out ++ (t, q, 0, []) :: fl[i] :: fl.drop (i + 1)) := fun o1 => by
        rw [spec_AddFlow.j0_eq, if_pos (by omega), if_pos (by omega), if_pos (by simp; omega), wrap_next hlt (by omega), sadd_rest K fl hn t q r1 r2 a b o1 o2 p1 p2 d k (i + 1) _ (by omega) (by omega) (by simp; omega), rdF fl i hlt]
        simp only [List.append_assoc, List.cons_append, List.nil_append]
      by_cases c2 : (i : Int) ≤ r1
      · rw [if_pos c2, if_pos c2, wrap_id (by omega) (by omega), go]
      · rw [if_neg c2, if_neg c2, go]
theorem sadd_f (fl : List Fl) (hs : Sml fl) (turn t q : Int) (k : Nat) (hk : 500 ≤ k) : spec_AddFlow.f k fl turn false t q = some (res4 (addR fl turn t q) fl turn) := by
  obtain ⟨k, rfl⟩ : ∃ m, k = m + 1 := ⟨k - 1, by omega⟩
  have hn := hs.1
  rw [spec_AddFlow.f_eq, sring_f fl hs turn k (by omega), bs, not_ite]
  unfold addR
  cases h1 : ringB fl turn with
  | false => rw [if_neg (by decide), if_neg (by simp), scopy_f fl hs turn false k (by omega), bs]; rfl
  | true =>
    rw [if_pos rfl, sat_f fl (by omega) turn false t k (by omega), bs, scopy_f fl hs turn false k (by omega)]
    simp only [bs]
    by_cases h2 : atF fl t ≥ 0
    · rw [if_pos h2, if_neg (by omega)]; rfl
    · rw [if_neg h2, if_pos ⟨trivial, by omega⟩]
      obtain ⟨f1, f2, f3, f4⟩ := ring_facts h1
      have hp := posN_le t fl
      have hj2 : ∀ o1, spec_AddFlow.j2 k fl turn false 0 false o1 false (addN fl t q) = if ringB (addN fl t q) o1 = true then some (o1, false, true, addN fl t q) else some (turn, false, false, fl) := fun o1 => by
        rw [spec_AddFlow.j2_eq, sring_f _ (addN_sml f1 hs t q) _ _ (by omega), bs, not_ite, scopy_f fl hs turn false _ (by omega), bs]
      have hne : ∀ f ∈ fl, f.1 ≠ t := by
        rcases atF_is fl t with ⟨_, h⟩ | ⟨n, h, e, _⟩
        · exact h
        · omega
      have hl : spec_AddFlow.l0 k k t q false 0 fl turn false 0 false turn false turn false [] fl = spec_AddFlow.j2 k fl turn false 0 false (addT fl turn t) false (addN fl t q) := by
        rcases Nat.eq_zero_or_pos fl.length with h0 | h0
        · have hnil := List.length_eq_zero_iff.1 h0
          obtain ⟨k, rfl⟩ : ∃ m, k = m + 1 := ⟨k - 1, by omega⟩
          rw [hnil, spec_AddFlow.l0_eq, if_neg (by simp), if_pos (by decide), if_pos (by simp)]
          rfl
        · have ht := f3 h0
          have := sadd_loop k fl hn t q turn ht.1 ht.2 false 0 false false turn false fl.length k 0 (posN t fl) [] (by omega) (by omega) (by simp; omega) (by simpa using hne) rfl
          rw [show ((0 : Nat) : Int) = 0 from rfl, List.drop_zero, Nat.zero_add, List.nil_append] at this
          rw [this]
          unfold addT
          by_cases c2 : (posN t fl : Int) ≤ turn
          · rw [if_pos c2, if_pos ⟨h0, c2⟩]; rfl
          · rw [if_neg c2, if_neg (by omega)]; rfl
      rw [hl, hj2]
      by_cases c : ringB (addN fl t q) (addT fl turn t) = true
      · rw [if_pos c, if_pos c]; rfl
      · rw [if_neg c, if_neg c]; rfl
end Go.Vm.Pu
namespace Go.Vm.Pu
open Go Go.RowKit Go.Vm
set_option linter.unusedVariables false
set_option linter.unusedSimpArgs false
/-! ### a flow dropped -/
def delN {α : Type} (l : List α) (n : Nat) : List α := l.take n ++ l.drop (n + 1)
theorem delN_length {α : Type} (l : List α) (n : Nat) (h : n < l.length) : (delN l n).length = l.length - 1 := by
  simp [delN]; omega
def dropR (fl : List Fl) (turn t : Int) : Option (List Fl × Int) :=
  if ringB fl turn = true ∧ 0 ≤ atF fl t ∧ (fl.getD (atF fl t).toNat dF).2.2.2.length = 0 then
    some (delN fl (atF fl t).toNat, if atF fl t < turn then turn - 1 else if turn = ((delN fl (atF fl t).toNat).length : Int) then 0 else turn)
  else none
theorem idrop_f (fl : List Fl) (hs : Sml fl) (turn t : Int) (k : Nat) (hk : 500 ≤ k) : impl_DropFlow.f k fl turn false t = some (res4 (dropR fl turn t) fl turn) := by
  obtain ⟨k, rfl⟩ : ∃ m, k = m + 1 := ⟨k - 1, by omega⟩
  have hn := hs.1
  rw [impl_DropFlow.f_eq, icopy_f fl hs turn false k (by omega), bs, iflowOf_f fl (by omega) turn false t k (by omega), bs, iring_f fl hs turn k (by omega), bs, not_ite]
  unfold dropR
  cases h1 : ringB fl turn with
  | false => rw [if_neg (by decide), if_neg (by simp)]; rfl
  | true =>
    obtain ⟨f1, f2, f3, f4⟩ := ring_facts h1
    rw [if_pos rfl]
    rcases atF_is fl t with ⟨h2, _⟩ | ⟨n, hlt, h2, _⟩
    · rw [if_pos (by omega), if_neg (by omega)]; rfl
    · have ht := f3 (by omega)
      rw [h2, if_neg (by omega), if_pos (by omega), if_pos (by omega), rdFD]
      simp only [Int.toNat_natCast]
      by_cases h3 : (((fl.getD n dF).2.2.2.length : Nat) : Int) > 0
      · rw [if_pos h3, if_neg (by omega)]; rfl
      · obtain ⟨k, rfl⟩ : ∃ m, k = m + 1 := ⟨k - 1, by omega⟩
        rw [if_neg h3, if_pos ⟨trivial, by omega, by omega⟩, slices_Delete_Flow.f_eq, wrap_next hlt (by omega), if_pos ⟨by omega, by omega, by omega⟩, bs]
        simp only [Int.toNat_natCast]
        rw [show fl.take n ++ fl.drop (n + 1) = delN fl n from rfl, wrap_id (x := turn - 1) (by omega) (by omega)]
        by_cases h4 : (n : Int) < turn
        · rw [if_pos h4, if_pos h4]; rfl
        · rw [if_neg h4, if_neg h4]
          by_cases h5 : turn = ((delN fl n).length : Int)
          · rw [if_pos h5, if_pos h5]; rfl
          · rw [if_neg h5, if_neg h5]; rfl
theorem sdrop_rest (K : Nat) (fl : List Fl) (hn : fl.length ≤ 100) (at_ r1 : Int) (r2 : Bool) (a : Int) (b : Bool) (o1 : Int) (o2 : Bool) (p1 : Int) (p2 : Bool) : ∀ (d k i : Nat) (out : List Fl), i + d = fl.length → d < k → out.length + d ≤ 1000 → at_ < (i : Int) →
    spec_DropFlow.l0 K k at_ (i : Int) fl r1 r2 a b o1 o2 p1 p2 out fl = (if at_ < r1 then spec_DropFlow.j0 K a b (wrap64 (r1 - 1)) o2 (out ++ fl.drop i) else spec_DropFlow.j0 K a b o1 o2 (out ++ fl.drop i)) := by
  intro d
  induction d with
  | zero =>
    intro k i out hi hk ho ha
    obtain ⟨k, rfl⟩ : ∃ m, k = m + 1 := ⟨k - 1, by omega⟩
    rw [spec_DropFlow.l0_eq, if_neg (by omega), List.drop_of_length_le (by omega), List.append_nil]
  | succ d ih =>
    intro k i out hi hk ho ha
    obtain ⟨k, rfl⟩ : ∃ m, k = m + 1 := ⟨k - 1, by omega⟩
    rw [spec_DropFlow.l0_eq, if_pos (by omega), if_pos (by omega), if_pos (by omega), if_pos (by omega), if_pos (by omega), wrap_next (show i < fl.length by omega) (by omega),
      ih k (i + 1) _ (by omega) (by omega) (by simp; omega) (by omega), rdF fl i (by omega), drop_cons fl i (by omega), List.append_assoc]
    rfl
theorem sdrop_loop (K : Nat) (fl : List Fl) (hn : fl.length ≤ 100) (n : Nat) (hlt : n < fl.length) (r1 : Int) (r2 : Bool) (a : Int) (b : Bool) (o1 : Int) (o2 : Bool) (p1 : Int) (p2 : Bool) : ∀ (d k i : Nat), i + d = n → fl.length - i < k →
    spec_DropFlow.l0 K k (n : Int) (i : Int) fl r1 r2 a b o1 o2 p1 p2 (fl.take i) fl = (if (n : Int) < r1 then spec_DropFlow.j0 K a b (wrap64 (r1 - 1)) o2 (delN fl n) else spec_DropFlow.j0 K a b o1 o2 (delN fl n)) := by
  intro d
  induction d with
  | zero =>
    intro k i hi hk
    obtain ⟨k, rfl⟩ : ∃ m, k = m + 1 := ⟨k - 1, by omega⟩
    obtain rfl : i = n := by omega
    rw [spec_DropFlow.l0_eq, if_pos (by omega), if_neg (by simp), wrap_next hlt (by omega), sdrop_rest K fl hn _ _ _ _ _ _ _ _ _ (fl.length - (i + 1)) k (i + 1) _ (by omega) (by omega) (by simp; omega) (by omega)]
    rfl
  | succ d ih =>
    intro k i hi hk
    obtain ⟨k, rfl⟩ : ∃ m, k = m + 1 := ⟨k - 1, by omega⟩
    rw [spec_DropFlow.l0_eq, if_pos (by omega), if_pos (by omega), if_pos (by omega), if_pos (by omega), if_pos (by simp; omega), wrap_next (show i < fl.length by omega) (by omega), rdF fl i (by omega), ← List.take_succ_eq_append_getElem (by omega), ih k (i + 1) (by omega) (by omega)]
theorem sdrop_f (fl : List Fl) (hs : Sml fl) (turn t : Int) (k : Nat) (hk : 500 ≤ k) : spec_DropFlow.f k fl turn false t = some (res4 (dropR fl turn t) fl turn) := by
  obtain ⟨k, rfl⟩ : ∃ m, k = m + 1 := ⟨k - 1, by omega⟩
  have hn := hs.1
  rw [spec_DropFlow.f_eq, sring_f fl hs turn k (by omega), bs, not_ite, scopy_f fl hs turn false k (by omega)]
  simp only [bs]
  unfold dropR
  cases h1 : ringB fl turn with
  | false => rw [if_neg (by decide), if_neg (by simp)]; rfl
  | true =>
    obtain ⟨f1, f2, f3, f4⟩ := ring_facts h1
    rw [if_pos rfl, sat_f fl (by omega) turn false t k (by omega), bs]
    rcases atF_is fl t with ⟨h2, _⟩ | ⟨n, hlt, h2, _⟩
    · rw [if_pos (by omega), if_neg (by omega)]; rfl
    · have ht := f3 (by omega)
      rw [h2, if_neg (by omega), if_pos (by omega), if_pos (by omega), rdFD]
      simp only [Int.toNat_natCast]
      by_cases h3 : (((fl.getD n dF).2.2.2.length : Nat) : Int) > 0
      · rw [if_pos h3, if_neg (by omega)]; rfl
      · have hl := sdrop_loop k fl hn n hlt turn false 0 false turn false turn false n k 0 (by omega) (by omega)
        rw [show ((0 : Nat) : Int) = 0 from rfl, List.take_zero] at hl
        rw [if_neg h3, if_pos ⟨trivial, by omega, by omega⟩, hl, wrap_id (x := turn - 1) (by omega) (by omega)]
        have hdl := delN_length fl n hlt
        by_cases h4 : (n : Int) < turn
        · rw [if_pos h4, if_pos h4, spec_DropFlow.j0_eq, if_neg (by omega)]; rfl
        · rw [if_neg h4, if_neg h4, spec_DropFlow.j0_eq]
          by_cases h5 : turn = ((delN fl n).length : Int)
          · rw [if_pos h5, if_pos h5]; rfl
          · rw [if_neg h5, if_neg h5]; rfl
/-! ### a ticket pushed -/
def withT (f : Fl) (l : List Tk) : Fl := (f.1, f.2.1, f.2.2.1, l)
def pushR (fl : List Fl) (turn t : Int) (tk : Tk) : Option (List Fl × Int) :=
  if ringB fl turn = true ∧ 0 ≤ atF fl t ∧ lineB ((fl.getD (atF fl t).toNat dF).2.2.2 ++ [tk]) = true then
    some (fl.set (atF fl t).toNat (withT (fl.getD (atF fl t).toNat dF) ((fl.getD (atF fl t).toNat dF).2.2.2 ++ [tk])), turn)
  else none
theorem ipush_f (l : List Tk) (hn : l.length ≤ 1000) (tk : Tk) (k : Nat) (hk : 1010 ≤ k) : impl_push.f k l tk.1 tk.2 = some (lineB (l ++ [tk]), if lineB (l ++ [tk]) = true then l ++ [tk] else l) := by
  obtain ⟨k, rfl⟩ : ∃ m, k = m + 1 := ⟨k - 1, by omega⟩
  rw [impl_push.f_eq, icopyLine_f l (by omega) k (by omega)]
  simp only [bs]
  rw [if_pos (by omega), iline_f (l ++ [(tk.1, tk.2)]) (by simp; omega) k (by simp; omega), bs, not_ite]
  show (if lineB (l ++ [tk]) = true then _ else _) = _
  cases h : lineB (l ++ [tk]) with
  | true => rfl
  | false => rfl
theorem set_self (fl : List Fl) (n : Nat) (h : n < fl.length) : fl.set n (withT (fl.getD n dF) (fl.getD n dF).2.2.2) = fl := by
  have e : fl.getD n dF = fl[n] := by simp [List.getD, h]
  rw [e]
  show fl.set n fl[n] = fl
  exact List.set_getElem_self h
theorem ipushT_f (fl : List Fl) (hs : Sml fl) (turn t : Int) (tk : Tk) (k : Nat) (hk : 1100 ≤ k) : impl_PushTicket.f k fl turn false t tk.1 tk.2 = some (res4 (pushR fl turn t tk) fl turn) := by
  obtain ⟨k, rfl⟩ : ∃ m, k = m + 1 := ⟨k - 1, by omega⟩
  have hn := hs.1
  rw [impl_PushTicket.f_eq, icopy_f fl hs turn false k (by omega), bs, iflowOf_f fl (by omega) turn false t k (by omega), bs, iring_f fl hs turn k (by omega), bs, not_ite]
  unfold pushR
  cases h1 : ringB fl turn with
  | false => rw [if_neg (by decide), if_neg (by simp)]; rfl
  | true =>
    rw [if_pos rfl]
    rcases atF_is fl t with ⟨h2, _⟩ | ⟨n, hlt, h2, _⟩
    · rw [if_pos (by omega), if_neg (by omega)]; rfl
    · have hl := hs.at n
      rw [h2, if_neg (by omega), if_pos (by omega), if_pos (by omega), rdFD, ipush_f _ (by omega) tk k (by omega), bs]
      simp only [Int.toNat_natCast]
      rw [if_pos (by omega), if_pos (by omega)]
      cases h3 : lineB ((fl.getD n dF).2.2.2 ++ [tk]) with
      | true => rw [if_pos rfl, if_pos (by simp)]; rfl
      | false =>
        rw [if_neg (by decide), if_neg (by simp)]
        show some (turn, false, false, fl.set n (withT (fl.getD n dF) (fl.getD n dF).2.2.2)) = _
        rw [set_self fl n hlt]
        rfl
theorem spush_f (l : List Tk) (hn : l.length ≤ 1000) (hv : lineB l = true) (tk : Tk) (k : Nat) (hk : 1010 ≤ k) : spec_Push.f k l tk.1 tk.2 = some (lineB (l ++ [tk]), if lineB (l ++ [tk]) = true then l ++ [tk] else l) := by
  obtain ⟨k, rfl⟩ : ∃ m, k = m + 1 := ⟨k - 1, by omega⟩
  rw [spec_Push.f_eq, scopyLine_f l (by omega) k (by omega)]
  simp only [bs]
  rw [if_pos (by omega), sline_f l (by omega) k (by omega), bs, hv, if_neg (by decide), sline_f (l ++ [(tk.1, tk.2)]) (by simp; omega) k (by simp; omega), bs, not_ite]
  show (if lineB (l ++ [tk]) = true then _ else _) = _
  cases h : lineB (l ++ [tk]) with
  | true => rfl
  | false => rfl
theorem spushT_f (fl : List Fl) (hs : Sml fl) (turn t : Int) (tk : Tk) (k : Nat) (hk : 1100 ≤ k) : spec_PushTicket.f k fl turn false t tk.1 tk.2 = some (res4 (pushR fl turn t tk) fl turn) := by
  obtain ⟨k, rfl⟩ : ∃ m, k = m + 1 := ⟨k - 1, by omega⟩
  have hn := hs.1
  rw [spec_PushTicket.f_eq, sring_f fl hs turn k (by omega), bs, not_ite, scopy_f fl hs turn false k (by omega)]
  simp only [bs]
  unfold pushR
  cases h1 : ringB fl turn with
  | false => rw [if_neg (by decide), if_neg (by simp)]; rfl
  | true =>
    obtain ⟨f1, f2, f3, f4⟩ := ring_facts h1
    rw [if_pos rfl, sat_f fl (by omega) turn false t k (by omega), bs]
    rcases atF_is fl t with ⟨h2, _⟩ | ⟨n, hlt, h2, _⟩
    · rw [if_pos (by omega), if_neg (by omega)]; rfl
    · have hl := hs.at n
      have hv : lineB (fl.getD n dF).2.2.2 = true := by
        have := (flB_facts (f4 n hlt) hlt).2.1
        have e : fl.getD n dF = fl[n] := by simp [List.getD, hlt]
        rw [e]
        exact this
      rw [h2, if_neg (by omega), if_pos (by omega), if_pos (by omega), rdFD, spush_f _ (by omega) hv tk k (by omega)]
      simp only [bs, Int.toNat_natCast]
      cases h3 : lineB ((fl.getD n dF).2.2.2 ++ [tk]) with
      | true => rw [if_pos rfl, if_pos (by omega), if_pos (by omega), if_pos (by simp)]; rfl
      | false => rw [if_neg (by decide), if_neg (by simp)]; rfl
end Go.Vm.Pu
namespace Go.Vm.Pu
open Go Go.RowKit Go.Vm
set_option linter.unusedVariables false
set_option linter.unusedSimpArgs false
theorem line_inc {l : List Tk} (h : lineB l = true) : ∀ (d i j : Nat) (hj : j < l.length) (hij : i + d + 1 = j), (l[i]'(by omega)).1 < l[j].1 := by
  unfold lineB at h
  simp only [Bool.and_eq_true, decide_eq_true_eq] at h
  have nx : ∀ j, (hj : j + 1 < l.length) → (l[j]'(by omega)).1 < l[j + 1].1 := fun j hj => by
    have := okF_iff.1 h.2 (j + 1) (by omega) (by omega)
    unfold lnB at this
    simp only [Bool.and_eq_true, Bool.or_eq_true, decide_eq_true_eq] at this
    have h2 := this.2.resolve_left (by omega)
    have e1 : l.getD (j + 1) (0, 0) = l[j + 1] := by simp [List.getD, hj]
    have e2 : l.getD (j + 1 - 1) (0, 0) = l[j]'(by omega) := by simp [List.getD, show j < l.length by omega]
    rw [e1, e2] at h2
    exact h2
  intro d
  induction d with
  | zero =>
    intro i j hj hij
    obtain rfl : j = i + 1 := by omega
    exact nx i hj
  | succ d ih =>
    intro i j hj hij
    obtain ⟨m, rfl⟩ : ∃ m, j = m + 1 := ⟨j - 1, by omega⟩
    have h1 := ih i m (by omega) (by omega)
    have h2 := nx m hj
    omega
theorem line_pos {l : List Tk} (h : lineB l = true) (i : Nat) (hi : i < l.length) : 1 ≤ l[i].1 := by
  unfold lineB at h
  simp only [Bool.and_eq_true, decide_eq_true_eq] at h
  have := okF_iff.1 h.2 i (by omega) (by omega)
  unfold lnB tkB at this
  simp only [Bool.and_eq_true, decide_eq_true_eq] at this
  have e1 : l.getD i (0, 0) = l[i] := by simp [List.getD, hi]
  rw [e1] at this
  exact this.1.1
theorem line_ne {l : List Tk} (h : lineB l = true) (i j : Nat) (hi : i < l.length) (hj : j < l.length) (hne : i ≠ j) : l[i].1 ≠ l[j].1 := by
  rcases Nat.lt_or_gt_of_ne hne with c | c
  · have := line_inc h (j - i - 1) i j hj (by omega)
    omega
  · have := line_inc h (i - j - 1) j i hi (by omega)
    omega
/-! ### a ticket cancelled -/
def offT (f : Fl) (l : List Tk) : Fl := (f.1, f.2.1, if l.length = 0 then 0 else f.2.2.1, l)
def cancR (fl : List Fl) (turn t id : Int) : Option (List Fl × Int × Tk) :=
  if ringB fl turn = true ∧ 0 ≤ atF fl t ∧ 0 ≤ atT (fl.getD (atF fl t).toNat dF).2.2.2 id then
    some (fl.set (atF fl t).toNat (offT (fl.getD (atF fl t).toNat dF) (delN (fl.getD (atF fl t).toNat dF).2.2.2 (atT (fl.getD (atF fl t).toNat dF).2.2.2 id).toNat)), turn,
      (fl.getD (atF fl t).toNat dF).2.2.2.getD (atT (fl.getD (atF fl t).toNat dF).2.2.2 id).toNat (0, 0))
  else none
def res6 (o : Option (List Fl × Int × Tk)) (fl : List Fl) (turn : Int) : Int × Bool × Int × Int × Bool × List Fl := match o with
  | some s => (s.2.1, false, s.2.2.1, s.2.2.2, true, s.1)
  | none => (turn, false, 0, 0, false, fl)
theorem iwithout_f (l : List Tk) (hn : l.length ≤ 1000) (n : Nat) (h : n < l.length) (k : Nat) (hk : 3 ≤ k) : impl_withoutTicket.f k l (n : Int) = some (delN l n) := by
  obtain ⟨k, rfl⟩ : ∃ m, k = m + 1 := ⟨k - 1, by omega⟩
  obtain ⟨k, rfl⟩ : ∃ m, k = m + 1 := ⟨k - 1, by omega⟩
  rw [impl_withoutTicket.f_eq, icopyLine_f l (by omega) _ (by omega), bs, slices_Delete_Ticket.f_eq, wrap_next h (by omega), if_pos ⟨by omega, by omega, by omega⟩, bs]
  rfl
theorem rd_setF (l : List Fl) (i : Nat) (h : i < l.length) (x : Fl) : rd FlT (l.set (Int.toNat (i : Int)) x) (i : Int) = x := by
  rw [rdF _ i (by simpa using h)]; simp
theorem icanc_f (fl : List Fl) (hs : Sml fl) (turn t id : Int) (k : Nat) (hk : 500 ≤ k) : impl_CancelTicket.f k fl turn false t id = some (res6 (cancR fl turn t id) fl turn) := by
  obtain ⟨k, rfl⟩ : ∃ m, k = m + 1 := ⟨k - 1, by omega⟩
  have hn := hs.1
  rw [impl_CancelTicket.f_eq, icopy_f fl hs turn false k (by omega), bs, iflowOf_f fl (by omega) turn false t k (by omega), bs, iring_f fl hs turn k (by omega), bs, not_ite]
  unfold cancR
  cases h1 : ringB fl turn with
  | false => rw [if_neg (by decide), if_neg (by simp)]; rfl
  | true =>
    obtain ⟨f1, f2, f3, f4⟩ := ring_facts h1
    rw [if_pos rfl]
    rcases atF_is fl t with ⟨h2, _⟩ | ⟨n, hlt, h2, _⟩
    · rw [if_pos (by omega), if_neg (by omega)]; rfl
    · have hl := hs.at n
      have hset := rd_setF fl n hlt
      rw [h2]
      simp only [rdFD, hset, List.set_set]
      rw [if_neg (by omega), if_pos (by omega), if_pos (by omega), iplaceOf_f _ (by omega) id k (by omega), bs]
      simp only [Int.toNat_natCast]
      rcases atT_is (fl.getD n dF).2.2.2 id with ⟨h3, _⟩ | ⟨m, hm, h3, _⟩
      · rw [if_pos (by omega), if_neg (by omega)]; rfl
      · rw [h3, if_neg (by omega), if_pos (by omega), if_pos (by omega), iwithout_f _ (by omega) m hm k (by omega), bs]
        simp only [impl_CancelTicket.j0_eq, rdTD, Int.toNat_natCast]
        rw [if_pos (show True ∧ 0 ≤ (n : Int) ∧ 0 ≤ (m : Int) from ⟨trivial, by omega, by omega⟩)]
        by_cases c : ((delN (fl.getD n dF).2.2.2 m).length : Int) = 0
        · rw [if_pos c, ite_self]
          simp only [res6, offT]
          rw [if_pos (by omega)]
        · rw [if_neg c]
          simp only [res6, offT]
          rw [if_neg (by omega)]
theorem scanc_rest (K : Nat) (l : List Tk) (hn : l.length ≤ 1000) (id a b g0 g1 : Int) : ∀ (d k i : Nat) (out : List Tk), i + d = l.length → d < k → out.length + d ≤ 5000 → (∀ x ∈ l.drop i, x.1 ≠ id) →
    spec_Cancel.l0 K k id (i : Int) l a b g0 g1 out = some (g0, g1, decide (g0 ≠ 0), out ++ l.drop i) := by
  intro d
  induction d with
  | zero =>
    intro k i out hi hk ho hne
    obtain ⟨k, rfl⟩ : ∃ m, k = m + 1 := ⟨k - 1, by omega⟩
    rw [spec_Cancel.l0_eq, if_neg (by omega), List.drop_of_length_le (by omega), List.append_nil]
  | succ d ih =>
    intro k i out hi hk ho hne
    obtain ⟨k, rfl⟩ : ∃ m, k = m + 1 := ⟨k - 1, by omega⟩
    have hlt : i < l.length := by omega
    have hdr := drop_cons l i hlt
    rw [hdr] at hne
    have hti : l[i].1 ≠ id := hne _ List.mem_cons_self
    rw [spec_Cancel.l0_eq, if_pos (by omega), if_pos (by omega), if_pos (by omega), rdT l i hlt, if_neg hti, if_pos (by omega), if_pos (by omega), if_pos (by omega), wrap_next hlt (by omega),
      ih k (i + 1) _ (by omega) (by omega) (by simp; omega) (fun x hx => hne x (List.mem_cons_of_mem _ hx)), hdr, List.append_assoc]
    rfl
theorem scanc_loop (K : Nat) (l : List Tk) (hn : l.length ≤ 1000) (hv : lineB l = true) (m : Nat) (hm : m < l.length) (a b : Int) : ∀ (d k i : Nat), i + d = m → l.length - i < k →
    spec_Cancel.l0 K k l[m].1 (i : Int) l a b 0 0 (l.take i) = some (l[m].1, l[m].2, true, delN l m) := by
  intro d
  induction d with
  | zero =>
    intro k i hi hk
    obtain ⟨k, rfl⟩ : ∃ m, k = m + 1 := ⟨k - 1, by omega⟩
    obtain rfl : i = m := by omega
    have h1 := line_pos hv i hm
    rw [spec_Cancel.l0_eq, if_pos (by omega), if_pos (by omega), if_pos (by omega), rdT l i hm, if_pos rfl, if_pos (by omega), if_pos (by omega), wrap_next hm (by omega),
      scanc_rest K l hn _ a b _ _ (l.length - (i + 1)) k (i + 1) _ (by omega) (by omega) (by simp; omega) (fun x hx => ?_), decide_eq_true (by omega)]
    · rfl
    · obtain ⟨q, hq, rfl⟩ := List.mem_iff_getElem.1 hx
      rw [List.getElem_drop]
      simp only [List.length_drop] at hq
      exact line_ne hv _ _ (by omega) hm (by omega)
  | succ d ih =>
    intro k i hi hk
    obtain ⟨k, rfl⟩ : ∃ m, k = m + 1 := ⟨k - 1, by omega⟩
    rw [spec_Cancel.l0_eq, if_pos (by omega), if_pos (by omega), if_pos (by omega), rdT l i (by omega), if_neg (line_ne hv i m (by omega) hm (by omega)), if_pos (by omega), if_pos (by omega), if_pos (by simp; omega), wrap_next (show i < l.length by omega) (by omega),
      ← List.take_succ_eq_append_getElem (by omega), ih k (i + 1) (by omega) (by omega)]
theorem scancel_f (l : List Tk) (hn : l.length ≤ 1000) (hv : lineB l = true) (id : Int) (k : Nat) (hk : 1010 ≤ k) : spec_Cancel.f k l id =
    some (if 0 ≤ atT l id then ((l.getD (atT l id).toNat (0, 0)).1, (l.getD (atT l id).toNat (0, 0)).2, true, delN l (atT l id).toNat) else (0, 0, false, l)) := by
  obtain ⟨k, rfl⟩ : ∃ m, k = m + 1 := ⟨k - 1, by omega⟩
  rw [spec_Cancel.f_eq, sline_f l (by omega) k (by omega), bs, hv, if_neg (by decide)]
  rcases atT_is l id with ⟨h3, h4⟩ | ⟨m, hm, h3, h4⟩
  · have := scanc_rest k l hn id 0 0 0 0 l.length k 0 [] (by omega) (by omega) (by simp; omega) (by simpa using h4)
    rw [show ((0 : Nat) : Int) = 0 from rfl] at this
    rw [this, if_neg (by omega)]
    rfl
  · have := scanc_loop k l hn hv m hm 0 0 m k 0 (by omega) (by omega)
    rw [show ((0 : Nat) : Int) = 0 from rfl, h4, List.take_zero] at this
    rw [this, if_pos (by omega), h3]
    simp only [Int.toNat_natCast]
    have e : l.getD m (0, 0) = l[m] := by simp [List.getD, hm]
    rw [e, h4]
theorem scanc_f (fl : List Fl) (hs : Sml fl) (turn t id : Int) (k : Nat) (hk : 1100 ≤ k) : spec_CancelTicket.f k fl turn false t id = some (res6 (cancR fl turn t id) fl turn) := by
  obtain ⟨k, rfl⟩ : ∃ m, k = m + 1 := ⟨k - 1, by omega⟩
  have hn := hs.1
  rw [spec_CancelTicket.f_eq, sring_f fl hs turn k (by omega), bs, not_ite, scopy_f fl hs turn false k (by omega)]
  simp only [bs]
  unfold cancR
  cases h1 : ringB fl turn with
  | false => rw [if_neg (by decide), if_neg (by simp)]; rfl
  | true =>
    obtain ⟨f1, f2, f3, f4⟩ := ring_facts h1
    rw [if_pos rfl, sat_f fl (by omega) turn false t k (by omega), bs]
    rcases atF_is fl t with ⟨h2, _⟩ | ⟨n, hlt, h2, _⟩
    · rw [if_pos (by omega), if_neg (by omega)]; rfl
    · have hl := hs.at n
      have hset := rd_setF fl n hlt
      have hv : lineB (fl.getD n dF).2.2.2 = true := by
        have := (flB_facts (f4 n hlt) hlt).2.1
        have e : fl.getD n dF = fl[n] := by simp [List.getD, hlt]
        rw [e]
        exact this
      have hc := scancel_f (fl.getD n dF).2.2.2 (by omega) hv id k (by omega)
      rw [h2, if_neg (by omega), if_pos (by omega), if_pos (by omega), rdFD]
      simp only [Int.toNat_natCast]
      rcases atT_is (fl.getD n dF).2.2.2 id with ⟨h3, _⟩ | ⟨m, hm, h3, _⟩
      · rw [if_neg (by omega)] at hc
        rw [hc]
        simp only [bs, Bool.not_false, if_true]
        rw [if_neg (by omega)]
        rfl
      · rw [if_pos (by omega), h3] at hc
        rw [hc, h3]
        simp only [Int.toNat_natCast] at hset
        simp only [bs, Bool.not_true, Bool.false_eq_true, if_false, Int.toNat_natCast, hset, List.set_set, List.length_set, spec_CancelTicket.j0_eq, rdFD]
        rw [if_pos (show True ∧ 0 ≤ (n : Int) ∧ 0 ≤ (m : Int) from ⟨trivial, by omega, by omega⟩), if_pos (by omega), if_pos (by omega)]
        by_cases c : ((delN (fl.getD n dF).2.2.2 m).length : Int) = 0
        · rw [if_pos c, if_pos (by omega), if_pos (by omega), ite_self]
          simp only [res6, offT]
          rw [if_pos (by omega)]
        · rw [if_neg c]
          simp only [res6, offT]
          rw [if_neg (by omega)]
end Go.Vm.Pu
namespace Go.Vm.Pu
open Go Go.RowKit Go.Vm
set_option linter.unusedVariables false
set_option linter.unusedSimpArgs false
abbrev RSt := List Fl × Int
def stepR (a0 a1 a2 a3 : Int) (s : RSt) : Option RSt :=
  if a0 = 1 then addR s.1 s.2 a1 a3 else if a0 = 2 then pushR s.1 s.2 a1 (a2, a3) else if a0 = 3 ∨ a0 = 4 then (match cancR s.1 s.2 a1 a2 with | some x => some (x.1, x.2.1) | none => none) else if a0 = 5 then dropR s.1 s.2 a1 else none
def doR (e : Evt) (s : RSt) : Option RSt := if EvP e.1 e.2.1 e.2.2.1 e.2.2.2.1 e.2.2.2.2 then stepR e.1 e.2.1 e.2.2.1 e.2.2.2.1 s else none
def rep : List Evt → RSt → Option RSt
  | [], s => some s
  | e :: l, s => match doR e s with
    | some s' => rep l s'
    | none => none
theorem Sml.set {fl : List Fl} (h : Sml fl) (n : Nat) (f : Fl) (hf : f.2.2.2.length ≤ 100) : Sml (fl.set n f) := by
  refine ⟨by rw [List.length_set]; exact h.1, fun g hg => ?_⟩
  rcases List.mem_or_eq_of_mem_set hg with hg | rfl
  · exact h.2 g hg
  · exact hf
theorem doR_sml {e : Evt} {s s' : RSt} (hs : Sml s.1) (h : doR e s = some s') : Sml s'.1 := by
  unfold doR at h
  split at h
  case isFalse => cases h
  unfold stepR at h
  split at h
  · unfold addR at h
    split at h
    · rename_i h1
      split at h
      · cases h
        exact addN_sml (ring_facts h1.1).1 hs _ _
      · cases h
    · cases h
  split at h
  · unfold pushR at h
    split at h
    · rename_i h1
      cases h
      exact hs.set _ _ (by have := line_len h1.2.2; simp only [withT]; omega)
    · cases h
  split at h
  · split at h
    · rename_i x hx
      cases h
      unfold cancR at hx
      split at hx
      · cases hx
        refine hs.set _ _ ?_
        have := hs.at (atF s.1 e.2.1).toNat
        simp only [offT, delN, List.length_append, List.length_take, List.length_drop]
        omega
      · cases hx
    · cases h
  split at h
  · unfold dropR at h
    split at h
    · cases h
      refine ⟨?_, fun f hf => ?_⟩
      · have := hs.1
        simp only [delN, List.length_append, List.length_take, List.length_drop]
        omega
      · simp only [delN] at hf
        rcases List.mem_append.1 hf with hf | hf
        · exact hs.2 f (List.mem_of_mem_take hf)
        · exact hs.2 f (List.mem_of_mem_drop hf)
    · cases h
  · cases h
def repI (o : Option RSt) : Int × Bool × Bool × List Fl := match o with
  | some s => (0, false, true, s.1)
  | none => (0, false, false, [])
theorem irep_loop (K : Nat) (hK : 5000 ≤ K) (evs : List Evt) (hn : evs.length ≤ 2000000) (hD : ∀ e ∈ evs, Bs e.2.2.2.2 ∧ e.2.2.2.2.length ≤ 2000000) : ∀ (d k i : Nat) (s : RSt), i + d = evs.length → d < k → Sml s.1 →
    impl_replayRing.l0 K k evs (evs.length : Int) (i : Int) 0 false s.2 false s.1 = some (repI (rep (evs.drop i) s)) := by
  intro d
  induction d with
  | zero =>
    intro k i s hi hk hs
    obtain ⟨k, rfl⟩ : ∃ m, k = m + 1 := ⟨k - 1, by omega⟩
    rw [impl_replayRing.l0_eq, if_neg (by omega), List.drop_of_length_le (by omega)]
    rfl
  | succ d ih =>
    intro k i s hi hk hs
    obtain ⟨k, rfl⟩ : ∃ m, k = m + 1 := ⟨k - 1, by omega⟩
    have hlt : i < evs.length := by omega
    obtain ⟨hb, hl⟩ := hD _ (List.getElem_mem hlt)
    have hj : ∀ o : Option RSt, (∀ s', o = some s' → Sml s'.1) → ∀ (ok : Bool) (tn : Int) (fl : List Fl), (∀ s', o = some s' → ok = true ∧ tn = s'.2 ∧ fl = s'.1) → (o = none → ok = false) →
        impl_replayRing.j0 K k ok evs (evs.length : Int) (i : Int) 0 false tn false fl = some (repI (match o with | some s' => rep (evs.drop (i + 1)) s' | none => none)) := fun o ho ok tn fl h1 h2 => by
      rw [impl_replayRing.j0_eq, not_ite]
      cases o with
      | none => rw [h2 rfl, if_neg (by decide)]; rfl
      | some s' =>
        obtain ⟨rfl, rfl, rfl⟩ := h1 s' rfl
        rw [if_pos rfl, wrap_next hlt (by omega), ih k (i + 1) s' (by omega) (by omega) (ho s' rfl)]
    have hsml : ∀ s', doR evs[i] s = some s' → Sml s'.1 := fun s' h => doR_sml hs h
    rw [drop_cons evs i hlt]
    simp only [rep]
    have hr4 : ∀ o : Option RSt, doR evs[i] s = o → impl_replayRing.j0 K k (res4 o s.1 s.2).2.2.1 evs (evs.length : Int) (i : Int) 0 false (res4 o s.1 s.2).1 false (res4 o s.1 s.2).2.2.2 = some (repI (match doR evs[i] s with | some s' => rep (evs.drop (i + 1)) s' | none => none)) := fun o h => by
      rw [h]
      refine hj o (fun s' h' => hsml s' (h.trans h')) _ _ _ (fun s' h' => ?_) (fun h' => ?_)
      · rw [h']; exact ⟨rfl, rfl, rfl⟩
      · rw [h']; rfl
    have f4 : ∀ o : Option RSt, (res4 o s.1 s.2).2.1 = false := fun o => by cases o <;> rfl
    have f6 : ∀ o, (res6 o s.1 s.2).2.1 = false := fun o => by cases o <;> rfl
    rw [impl_replayRing.l0_eq, if_pos (by omega), if_pos (by omega), if_pos (by omega), rdE evs i hlt, ievent_f _ _ _ _ _ hb hl K (by omega), bs, not_ite]
    by_cases hv : EvP evs[i].1 evs[i].2.1 evs[i].2.2.1 evs[i].2.2.2.1 evs[i].2.2.2.2
    case neg =>
      rw [decide_eq_false hv, if_neg (by decide)]
      unfold doR
      rw [if_neg hv]
      rfl
    have hdo : doR evs[i] s = stepR evs[i].1 evs[i].2.1 evs[i].2.2.1 evs[i].2.2.2.1 s := by
      unfold doR
      rw [if_pos hv]
    unfold stepR at hdo
    rw [decide_eq_true hv, if_pos rfl]
    by_cases c1 : evs[i].1 = 1
    · rw [if_pos c1] at hdo
      rw [if_pos c1, iadd_f s.1 hs _ _ _ K (by omega), bs, f4]
      exact hr4 _ hdo
    rw [if_neg c1] at hdo ⊢
    by_cases c2 : evs[i].1 = 2
    · rw [if_pos c2] at hdo
      rw [if_pos c2, ipushT_f s.1 hs s.2 _ (evs[i].2.2.1, evs[i].2.2.2.1) K (by omega), bs, f4]
      exact hr4 _ hdo
    rw [if_neg c2] at hdo ⊢
    have hc : ∀ (ok : Bool) (t24 : Int) (e0 e3 : Int) (e4 : List Int), evs[i].1 = 3 ∨ evs[i].1 = 4 → impl_replayRing.j1 K k ok evs (evs.length : Int) (i : Int) t24 true 0 false s.2 false e0 evs[i].2.1 evs[i].2.2.1 e3 e4 s.1 = some (repI (match doR evs[i] s with | some s' => rep (evs.drop (i + 1)) s' | none => none)) := fun ok t24 e0 e3 e4 c3 => by
      rw [impl_replayRing.j1_eq, if_pos rfl, icanc_f s.1 hs s.2 _ _ K (by omega), bs, f6]
      rw [if_pos c3] at hdo
      cases hx : cancR s.1 s.2 evs[i].2.1 evs[i].2.2.1 with
      | none =>
        rw [hx] at hdo
        rw [hdo]
        exact hj none (fun s' h => by cases h) _ _ _ (fun s' h => by cases h) (fun _ => rfl)
      | some x =>
        rw [hx] at hdo
        simp only at hdo
        rw [hdo]
        refine hj (some (x.1, x.2.1)) (fun s' h => hsml s' (hdo.trans h)) _ _ _ (fun s' h => ?_) (fun h => by cases h)
        cases h
        exact ⟨rfl, rfl, rfl⟩
    by_cases c3 : evs[i].1 = 3
    · rw [if_pos c3, decide_eq_true c3]
      exact hc _ _ _ _ _ (.inl c3)
    rw [if_neg c3]
    by_cases c4 : evs[i].1 = 4
    · rw [decide_eq_true c4]
      exact hc _ _ _ _ _ (.inr c4)
    rw [decide_eq_false c4, impl_replayRing.j1_eq, if_neg (by decide)]
    rw [if_neg (by omega)] at hdo
    have c5 : evs[i].1 = 5 := by
      unfold EvP at hv
      omega
    rw [if_pos c5] at hdo
    rw [if_pos c5, idrop_f s.1 hs _ _ K (by omega), bs, f4]
    exact hr4 _ hdo
theorem sml_nil : Sml [] := ⟨by simp, fun f hf => by cases hf⟩
/-- What the replay of a log answers. -/
def repO (evs : List Evt) : Option RSt := if evs.length ≤ 4096 then rep evs ([], 0) else none
theorem irep_f (evs : List Evt) (hn : evs.length ≤ 2000000) (hD : ∀ e ∈ evs, Bs e.2.2.2.2 ∧ e.2.2.2.2.length ≤ 2000000) (k : Nat) (hk : 2000010 ≤ k) : impl_replayRing.f k evs = some (repI (repO evs)) := by
  obtain ⟨k, rfl⟩ : ∃ m, k = m + 1 := ⟨k - 1, by omega⟩
  rw [impl_replayRing.f_eq]
  unfold repO
  by_cases c : (evs.length : Int) > 4096
  · rw [if_pos c, if_neg (by omega)]; rfl
  · have := irep_loop k (by omega) evs hn hD evs.length k 0 ([], 0) (by omega) (by omega) sml_nil
    rw [if_neg c, if_pos (by omega)]
    simpa using this
def resD (o : Option RSt) (s : RSt) : List Fl × Int × Bool × Bool := match o with
  | some s' => (s'.1, s'.2, false, true)
  | none => (s.1, s.2, false, false)
theorem sdo_f (e : Evt) (hb : Bs e.2.2.2.2) (hl : e.2.2.2.2.length ≤ 2000000) (s : RSt) (hs : Sml s.1) (k : Nat) (hk : 5001 ≤ k) :
    spec_l18Do.f k s.1 s.2 false e.1 e.2.1 e.2.2.1 e.2.2.2.1 e.2.2.2.2 = some (resD (doR e s) s) := by
  obtain ⟨k, rfl⟩ : ∃ m, k = m + 1 := ⟨k - 1, by omega⟩
  have h4 : ∀ o : Option RSt, some ((res4 o s.1 s.2).2.2.2, (res4 o s.1 s.2).1, (res4 o s.1 s.2).2.1, (res4 o s.1 s.2).2.2.1) = some (resD o s) := fun o => by cases o <;> rfl
  rw [spec_l18Do.f_eq, sevent_f _ _ _ _ _ hb hl k (by omega), bs, not_ite]
  unfold doR
  by_cases hv : EvP e.1 e.2.1 e.2.2.1 e.2.2.2.1 e.2.2.2.2
  case neg =>
    rw [decide_eq_false hv, if_neg (by decide), if_neg hv]
    rfl
  rw [decide_eq_true hv, if_pos rfl, if_pos hv]
  unfold stepR
  by_cases c1 : e.1 = 1
  · rw [if_pos c1, if_pos c1, sadd_f s.1 hs _ _ _ k (by omega), bs, spec_l18Do.j0_eq]
    exact h4 _
  rw [if_neg c1, if_neg c1]
  by_cases c2 : e.1 = 2
  · rw [if_pos c2, if_pos c2, spushT_f s.1 hs s.2 _ (e.2.2.1, e.2.2.2.1) k (by omega), bs, spec_l18Do.j0_eq]
    exact h4 _
  rw [if_neg c2, if_neg c2]
  have hc : ∀ (ok : Bool) (t14 e0 e3 : Int) (e4 : List Int) (a : Int) (b : Bool) (n0 : List Fl) (n1 : Int) (n2 : Bool), spec_l18Do.j1 k ok t14 true s.1 s.2 false e0 e.2.1 e.2.2.1 e3 e4 a b n0 n1 n2 =
      some (resD (match cancR s.1 s.2 e.2.1 e.2.2.1 with | some x => some (x.1, x.2.1) | none => none) s) := fun ok t14 e0 e3 e4 a b n0 n1 n2 => by
    rw [spec_l18Do.j1_eq, if_pos rfl, scanc_f s.1 hs s.2 _ _ k (by omega), bs, spec_l18Do.j0_eq]
    cases cancR s.1 s.2 e.2.1 e.2.2.1 with
    | none => rfl
    | some x => rfl
  by_cases c3 : e.1 = 3
  · rw [if_pos c3, decide_eq_true c3, if_pos (.inl c3)]
    exact hc _ _ _ _ _ _ _ _ _ _
  rw [if_neg c3]
  by_cases c4 : e.1 = 4
  · rw [decide_eq_true c4, if_pos (.inr c4)]
    exact hc _ _ _ _ _ _ _ _ _ _
  have c5 : e.1 = 5 := by
    unfold EvP at hv
    omega
  rw [decide_eq_false c4, spec_l18Do.j1_eq, if_neg (by decide), if_neg (show ¬ (e.1 = 3 ∨ e.1 = 4) by omega), if_pos c5, if_pos c5, sdrop_f s.1 hs _ _ k (by omega), bs, spec_l18Do.j0_eq]
  exact h4 _
def repS (o : Option RSt) : List Fl × Int × Bool × Bool := match o with
  | some s => (s.1, 0, false, true)
  | none => ([], 0, false, false)
theorem srep_loop (K : Nat) (hK : 5001 ≤ K) (evs : List Evt) (hn : evs.length ≤ 2000000) (hD : ∀ e ∈ evs, Bs e.2.2.2.2 ∧ e.2.2.2.2.length ≤ 2000000) : ∀ (d k i : Nat) (s : RSt), i + d = evs.length → d < k → Sml s.1 →
    spec_ReplayRing.l0 K k evs (i : Int) 0 false s.1 s.2 false = some (repS (rep (evs.drop i) s)) := by
  intro d
  induction d with
  | zero =>
    intro k i s hi hk hs
    obtain ⟨k, rfl⟩ : ∃ m, k = m + 1 := ⟨k - 1, by omega⟩
    rw [spec_ReplayRing.l0_eq, if_neg (by omega), List.drop_of_length_le (by omega)]
    rfl
  | succ d ih =>
    intro k i s hi hk hs
    obtain ⟨k, rfl⟩ : ∃ m, k = m + 1 := ⟨k - 1, by omega⟩
    have hlt : i < evs.length := by omega
    obtain ⟨hb, hl⟩ := hD _ (List.getElem_mem hlt)
    rw [drop_cons evs i hlt]
    simp only [rep]
    rw [spec_ReplayRing.l0_eq, if_pos (by omega), if_pos (by omega), if_pos (by omega), rdE evs i hlt, sdo_f _ hb hl s hs K (by omega), bs, not_ite]
    cases ho : doR evs[i] s with
    | none => rfl
    | some s' =>
      show (if true = true then spec_ReplayRing.l0 K k evs (wrap64 ((i : Int) + 1)) 0 false s'.1 s'.2 false else _) = _
      rw [if_pos rfl, wrap_next hlt (by omega), ih k (i + 1) s' (by omega) (by omega) (doR_sml hs ho)]
theorem srep_f (evs : List Evt) (hn : evs.length ≤ 2000000) (hD : ∀ e ∈ evs, Bs e.2.2.2.2 ∧ e.2.2.2.2.length ≤ 2000000) (k : Nat) (hk : 2000010 ≤ k) : spec_ReplayRing.f k evs = some (repS (repO evs)) := by
  obtain ⟨k, rfl⟩ : ∃ m, k = m + 1 := ⟨k - 1, by omega⟩
  rw [spec_ReplayRing.f_eq]
  unfold repO
  by_cases c : (evs.length : Int) > 4096
  · rw [if_pos c, if_neg (by omega)]; rfl
  · have := srep_loop k (by omega) evs hn hD evs.length k 0 ([], 0) (by omega) (by omega) sml_nil
    rw [if_neg c, if_pos (by omega)]
    simpa using this
/-! ### the next id -/
def nxt : List Evt → Int → Int
  | [], g => g
  | e :: l, g => nxt l (if e.1 = 2 ∧ e.2.2.1 > g then e.2.2.1 else g)
theorem inxt_loop (K : Nat) (evs : List Evt) (hn : evs.length ≤ 2000000) : ∀ (d k i : Nat) (g : Int), i + d = evs.length → d < k →
    impl_NextId.l0 K k g evs (evs.length : Int) (i : Int) = some (wrap64 (nxt (evs.drop i) g + 1)) := by
  intro d
  induction d with
  | zero =>
    intro k i g hi hk
    obtain ⟨k, rfl⟩ : ∃ m, k = m + 1 := ⟨k - 1, by omega⟩
    rw [impl_NextId.l0_eq, if_neg (by omega), List.drop_of_length_le (by omega)]
    rfl
  | succ d ih =>
    intro k i g hi hk
    obtain ⟨k, rfl⟩ : ∃ m, k = m + 1 := ⟨k - 1, by omega⟩
    have hlt : i < evs.length := by omega
    rw [impl_NextId.l0_eq, if_pos (by omega), if_pos (by omega), if_pos (by omega), rdE evs i hlt, drop_cons evs i hlt, wrap_next hlt (by omega), ih k (i + 1) _ (by omega) (by omega), ih k (i + 1) _ (by omega) (by omega)]
    simp only [nxt]
    by_cases c : evs[i].1 = 2
    · rw [if_pos c]
      by_cases c2 : evs[i].2.2.1 > g
      · rw [if_pos c2, if_pos ⟨c, c2⟩]
      · rw [if_neg c2, if_neg (fun h => c2 h.2)]
    · rw [if_neg c, if_neg (fun h => c h.1)]
theorem snxt_loop (K : Nat) (evs : List Evt) (hn : evs.length ≤ 2000000) : ∀ (d k i : Nat) (g : Int), i + d = evs.length → d < k →
    spec_NextId.l0 K k evs g (i : Int) = some (wrap64 (nxt (evs.drop i) g + 1)) := by
  intro d
  induction d with
  | zero =>
    intro k i g hi hk
    obtain ⟨k, rfl⟩ : ∃ m, k = m + 1 := ⟨k - 1, by omega⟩
    rw [spec_NextId.l0_eq, if_neg (by omega), List.drop_of_length_le (by omega)]
    rfl
  | succ d ih =>
    intro k i g hi hk
    obtain ⟨k, rfl⟩ : ∃ m, k = m + 1 := ⟨k - 1, by omega⟩
    have hlt : i < evs.length := by omega
    rw [spec_NextId.l0_eq, if_pos (by omega), if_pos (by omega), if_pos (by omega), rdE evs i hlt, drop_cons evs i hlt, wrap_next hlt (by omega), ih k (i + 1) _ (by omega) (by omega), ih k (i + 1) _ (by omega) (by omega)]
    simp only [nxt]
    by_cases c : evs[i].1 = 2
    · rw [if_pos c, if_pos (by omega), if_pos (by omega)]
      by_cases c2 : evs[i].2.2.1 > g
      · rw [if_pos c2, if_pos (by omega), if_pos (by omega), if_pos ⟨c, c2⟩]
      · rw [if_neg c2, if_neg (fun h => c2 h.2)]
    · rw [if_neg c, if_neg (fun h => c h.1)]
def nid (evs : List Evt) : Int := match repO evs with
  | some _ => wrap64 (nxt evs 0 + 1)
  | none => -1
theorem inid_f (evs : List Evt) (hn : evs.length ≤ 2000000) (hD : ∀ e ∈ evs, Bs e.2.2.2.2 ∧ e.2.2.2.2.length ≤ 2000000) (k : Nat) (hk : 2000020 ≤ k) : impl_NextId.f k evs = some (nid evs) := by
  obtain ⟨k, rfl⟩ : ∃ m, k = m + 1 := ⟨k - 1, by omega⟩
  rw [impl_NextId.f_eq, irep_f evs hn hD k (by omega), bs, not_ite]
  unfold nid
  cases repO evs with
  | none => rfl
  | some s =>
    have := inxt_loop k evs hn evs.length k 0 0 (by omega) (by omega)
    rw [show ((0 : Nat) : Int) = 0 from rfl, List.drop_zero] at this
    show (if true = true then _ else _) = _
    rw [if_pos rfl, this]
theorem snid_f (evs : List Evt) (hn : evs.length ≤ 2000000) (hD : ∀ e ∈ evs, Bs e.2.2.2.2 ∧ e.2.2.2.2.length ≤ 2000000) (k : Nat) (hk : 2000020 ≤ k) : spec_NextId.f k evs = some (nid evs) := by
  obtain ⟨k, rfl⟩ : ∃ m, k = m + 1 := ⟨k - 1, by omega⟩
  rw [spec_NextId.f_eq, srep_f evs hn hD k (by omega), bs, not_ite]
  unfold nid
  cases repO evs with
  | none => rfl
  | some s =>
    have := snxt_loop k evs hn evs.length k 0 0 (by omega) (by omega)
    rw [show ((0 : Nat) : Int) = 0 from rfl, List.drop_zero] at this
    show (if true = true then _ else _) = _
    rw [if_pos rfl, this]
end Go.Vm.Pu
namespace Go.Vm.Pu
open Go Go.RowKit Go.Vm
set_option linter.unusedVariables false
set_option linter.unusedSimpArgs false
theorem eqTicketS_f (l : List Tk) (hn : l.length ≤ 2000000) (k : Nat) (hk : l.length + 3 < k) : laws_eqTicketS.f k l l = some true := by
  obtain ⟨k, rfl⟩ : ∃ m, k = m + 1 := ⟨k - 1, by omega⟩
  rw [laws_eqTicketS.f_eq, if_neg (by simp)]
  exact count_loop (fun fu i => laws_eqTicketS.l0 k fu l l i) l.length 0 true (by
    intro fu _
    simp only [laws_eqTicketS.l0_eq]
    rw [if_neg (by omega)]) (by
    intro fu i h _
    obtain ⟨k, rfl⟩ : ∃ m, k = m + 1 := ⟨k - 1, by omega⟩
    simp only [laws_eqTicketS.l0_eq, laws_eqTicket.f_eq, rdT l i h, ne_eq, not_true, if_false, bs, not_ite, if_true]
    rw [if_pos (by omega), if_pos (by omega), if_pos (by omega), if_pos (by omega), if_pos (by omega), wrap_next h (by omega)]) k (by omega)
theorem eqFlowS_f (fl : List Fl) (hs : Sml fl) (k : Nat) (hk : 300 ≤ k) : laws_eqFlowS.f k fl fl = some true := by
  obtain ⟨k, rfl⟩ : ∃ m, k = m + 1 := ⟨k - 1, by omega⟩
  have hn := hs.1
  rw [laws_eqFlowS.f_eq, if_neg (by simp)]
  exact count_loop (fun fu i => laws_eqFlowS.l0 k fu fl fl i) fl.length 0 true (by
    intro fu _
    simp only [laws_eqFlowS.l0_eq]
    rw [if_neg (by omega)]) (by
    intro fu i h _
    have hl := hs.2 _ (List.getElem_mem h)
    obtain ⟨k, rfl⟩ : ∃ m, k = m + 1 := ⟨k - 1, by omega⟩
    obtain ⟨k, rfl⟩ : ∃ m, k = m + 1 := ⟨k - 1, by omega⟩
    have e1 := eqTicketS_f fl[i].2.2.2 (by omega) k (by omega)
    simp only [laws_eqFlowS.l0_eq, laws_eqFlow.f_eq, laws_eqLine.f_eq, rdF fl i h, e1, ne_eq, not_true, if_false, bs, not_ite, if_true]
    rw [if_pos (by omega), if_pos (by omega), if_pos (by omega), if_pos (by omega), if_pos (by omega), wrap_next h (by omega)]) k (by omega)
theorem eqRing_f (fl : List Fl) (hs : Sml fl) (t : Int) (fr : Bool) (k : Nat) (hk : 301 ≤ k) : laws_eqRing.f k fl t fr fl t fr = some true := by
  obtain ⟨k, rfl⟩ : ∃ m, k = m + 1 := ⟨k - 1, by omega⟩
  rw [laws_eqRing.f_eq, eqFlowS_f fl hs k (by omega), bs]
  simp
def markTk : Int → List Tk → List Tk
  | _, [] => []
  | m, e :: l => (m, m + 1) :: markTk (m + 1 + 1) l
theorem markTk_length : ∀ (l : List Tk) (m : Int), (markTk m l).length = l.length
  | [], m => rfl
  | e :: l, m => by simp [markTk, markTk_length l]
theorem rd_setT (l : List Tk) (i : Nat) (h : i < l.length) (x : Tk) : rd TkT (l.set (Int.toNat (i : Int)) x) (i : Int) = x := by
  rw [rdT _ i (by simpa using h)]; simp
theorem markT_l0 (K : Nat) (n : Nat) (hn : n ≤ 2000000) : ∀ (d k i : Nat) (x0 : List Tk) (m : Int), i + d = n → x0.length = n → d < k → 0 ≤ m → m + 2 * (d : Int) ≤ 900000000000 →
    laws_markTicketS.l0 K k m (i : Int) x0 = some (m + 2 * (d : Int), x0.take i ++ markTk m (x0.drop i)) := by
  intro d
  induction d with
  | zero =>
    intro k i x0 m hi hl hk h0 h1
    obtain ⟨k, rfl⟩ : ∃ q, k = q + 1 := ⟨k - 1, by omega⟩
    rw [laws_markTicketS.l0_eq, if_neg (by omega), List.drop_of_length_le (by omega), List.take_of_length_le (by omega)]
    simp [markTk]
  | succ d ih =>
    intro k i x0 m hi hl hk h0 h1
    obtain ⟨k, rfl⟩ : ∃ q, k = q + 1 := ⟨k - 1, by omega⟩
    have hlt : i < x0.length := by omega
    have hset := rd_setT x0 i hlt
    have hrd := rdT x0 i hlt
    have w1 : wrap64 (m + 1) = m + 1 := wrap_id (by omega) (by omega)
    have w2 : wrap64 (m + 1 + 1) = m + 1 + 1 := wrap_id (by omega) (by omega)
    rw [laws_markTicketS.l0_eq]
    simp only [hset, List.set_set, List.length_set, hrd, w1, w2]
    repeat rw [if_pos (by omega)]
    have hlen : (x0.set (Int.toNat (i : Int)) (m, m + 1)).length = n := by simpa using hl
    have hdrop : (x0.set (Int.toNat (i : Int)) (m, m + 1)).drop (i + 1) = x0.drop (i + 1) := by
      rw [List.drop_set_of_lt (by simp)]
    rw [wrap_next (show i < n by omega) (by omega), ih k (i + 1) _ _ (by omega) hlen (by omega) (by omega) (by omega), hdrop, drop_cons x0 i hlt]
    simp only [Int.toNat_natCast]
    rw [set_take _ _ _ hlt, List.append_assoc]
    simp only [markTk, List.singleton_append]
    congr 2
    omega
theorem markT_f (l : List Tk) (m : Int) (hn : l.length ≤ 2000000) (h0 : 0 ≤ m) (h1 : m + 2 * (l.length : Int) ≤ 900000000000) (k : Nat) (hk : l.length + 1 < k) :
    laws_markTicketS.f k m l = some (m + 2 * (l.length : Int), markTk m l) := by
  obtain ⟨k, rfl⟩ : ∃ q, k = q + 1 := ⟨k - 1, by omega⟩
  rw [laws_markTicketS.f_eq]
  have := markT_l0 k l.length hn l.length k 0 l m (by omega) rfl (by omega) h0 h1
  simpa using this
theorem heldT_l0 (K : Nat) (L : List Tk) (hn : L.length ≤ 2000000) : ∀ (l : List Tk) (k i : Nat) (m : Int), i + l.length = L.length → L.drop i = markTk m l → l.length < k → 0 ≤ m → m + 2 * (l.length : Int) ≤ 900000000000 →
    laws_heldTicketS.l0 K k L m (i : Int) = some (m + 2 * (l.length : Int)) := by
  intro l
  induction l with
  | nil =>
    intro k i m hi hd hk h0 h1
    obtain ⟨k, rfl⟩ : ∃ q, k = q + 1 := ⟨k - 1, by omega⟩
    simp at hi
    rw [laws_heldTicketS.l0_eq, if_neg (by omega)]
    simp
  | cons e l ih =>
    intro k i m hi hd hk h0 h1
    obtain ⟨k, rfl⟩ : ∃ q, k = q + 1 := ⟨k - 1, by omega⟩
    simp only [List.length_cons] at hi hk h1
    have hlt : i < L.length := by omega
    rw [drop_cons L i hlt] at hd
    simp only [markTk, List.cons.injEq] at hd
    have w1 : wrap64 (m + 1) = m + 1 := wrap_id (by omega) (by omega)
    have w2 : wrap64 (m + 1 + 1) = m + 1 + 1 := wrap_id (by omega) (by omega)
    rw [laws_heldTicketS.l0_eq]
    simp only [rdT L i hlt, hd.1, w1, w2, ne_eq, not_true, if_false]
    rw [if_pos (by omega), if_pos (by omega), if_pos (by omega), if_pos (by omega), if_pos (by omega), wrap_next hlt (by omega), ih k (i + 1) _ (by omega) hd.2 (by omega) (by omega) (by omega)]
    simp only [List.length_cons]
    congr 1
    omega
theorem heldT_f (l : List Tk) (m : Int) (hn : l.length ≤ 2000000) (h0 : 0 ≤ m) (h1 : m + 2 * (l.length : Int) ≤ 900000000000) (k : Nat) (hk : l.length + 1 < k) :
    laws_heldTicketS.f k (markTk m l) m = some (m + 2 * (l.length : Int)) := by
  obtain ⟨k, rfl⟩ : ∃ q, k = q + 1 := ⟨k - 1, by omega⟩
  rw [laws_heldTicketS.f_eq]
  exact heldT_l0 k (markTk m l) (by rw [markTk_length]; exact hn) l k 0 m (by rw [markTk_length]; omega) (by simp) (by omega) h0 h1
def flTot : List Fl → Int
  | [] => 0
  | e :: l => 3 + 2 * (e.2.2.2.length : Int) + flTot l
theorem flTot_pos : ∀ l, 0 ≤ flTot l
  | [] => by simp [flTot]
  | e :: l => by have := flTot_pos l; simp only [flTot]; omega
def markFl : Int → List Fl → List Fl
  | _, [] => []
  | m, e :: l => (m, m + 1, m + 1 + 1, markTk (m + 1 + 1 + 1) e.2.2.2) :: markFl (m + 1 + 1 + 1 + 2 * (e.2.2.2.length : Int)) l
theorem markFl_length : ∀ (l : List Fl) (m : Int), (markFl m l).length = l.length
  | [], m => rfl
  | e :: l, m => by simp [markFl, markFl_length l]
theorem markFl_l0 (K : Nat) (hK : 200 ≤ K) (n : Nat) (hn : n ≤ 100) : ∀ (d k i : Nat) (x0 : List Fl) (m : Int), i + d = n → x0.length = n → d < k → 0 ≤ m → m + flTot (x0.drop i) ≤ 900000000000 → (∀ e ∈ x0, e.2.2.2.length ≤ 100) →
    laws_markFlowS.l0 K k m (i : Int) x0 = some (m + flTot (x0.drop i), x0.take i ++ markFl m (x0.drop i)) := by
  intro d
  induction d with
  | zero =>
    intro k i x0 m hi hl hk h0 h1 hD
    obtain ⟨k, rfl⟩ : ∃ q, k = q + 1 := ⟨k - 1, by omega⟩
    rw [laws_markFlowS.l0_eq, if_neg (by omega), List.drop_of_length_le (by omega), List.take_of_length_le (by omega)]
    simp [flTot, markFl]
  | succ d ih =>
    intro k i x0 m hi hl hk h0 h1 hD
    obtain ⟨k, rfl⟩ : ∃ q, k = q + 1 := ⟨k - 1, by omega⟩
    have hlt : i < x0.length := by omega
    have hDi := hD _ (List.getElem_mem hlt)
    have hdr := drop_cons x0 i hlt
    have h1' := h1
    rw [hdr] at h1'
    simp only [flTot] at h1'
    have htp := flTot_pos (x0.drop (i + 1))
    have hset := rd_setF x0 i hlt
    have hrd := rdF x0 i hlt
    have w1 : wrap64 (m + 1) = m + 1 := wrap_id (by omega) (by omega)
    have w2 : wrap64 (m + 1 + 1) = m + 1 + 1 := wrap_id (by omega) (by omega)
    have w3 : wrap64 (m + 1 + 1 + 1) = m + 1 + 1 + 1 := wrap_id (by omega) (by omega)
    rw [laws_markFlowS.l0_eq]
    simp only [hset, List.set_set, List.length_set, hrd, w1, w2]
    repeat rw [if_pos (by omega)]
    rw [laws_markFlowS.j0_eq]
    simp only [hset, List.set_set, List.length_set, hrd, w1, w2, w3]
    repeat rw [if_pos (by omega)]
    rw [markT_f x0[i].2.2.2 (m + 1 + 1 + 1) (by omega) (by omega) (by omega) K (by omega), bs, wrap_next (show i < n by omega) (by omega)]
    have hlen : (x0.set (Int.toNat (i : Int)) (m, m + 1, m + 1 + 1, markTk (m + 1 + 1 + 1) x0[i].2.2.2)).length = n := by simpa using hl
    have hdrop : (x0.set (Int.toNat (i : Int)) (m, m + 1, m + 1 + 1, markTk (m + 1 + 1 + 1) x0[i].2.2.2)).drop (i + 1) = x0.drop (i + 1) := by
      rw [List.drop_set_of_lt (by simp)]
    rw [ih k (i + 1) _ _ (by omega) hlen (by omega) (by omega) (by rw [hdrop]; omega) (by
      intro e he
      rcases List.mem_or_eq_of_mem_set he with h | h
      · exact hD e h
      · rw [h, markTk_length]; exact hDi), hdrop, hdr]
    simp only [Int.toNat_natCast]
    rw [set_take _ _ _ hlt, List.append_assoc]
    simp only [flTot, markFl, List.singleton_append]
    congr 2
    omega
theorem flTot_le : ∀ (l : List Fl), (∀ e ∈ l, e.2.2.2.length ≤ 100) → flTot l ≤ 203 * (l.length : Int)
  | [], _ => by simp [flTot]
  | e :: l, h => by
    have h1 := flTot_le l fun x hx => h x (List.mem_cons_of_mem _ hx)
    have h2 := h e (by simp)
    simp only [flTot, List.length_cons]
    omega
theorem markRing_f (fl : List Fl) (hs : Sml fl) (t : Int) (fr : Bool) (k : Nat) (hk : 500 ≤ k) : laws_markRing.f k t fr 1 fl = some (1 + flTot fl, markFl 1 fl) := by
  obtain ⟨k, rfl⟩ : ∃ q, k = q + 1 := ⟨k - 1, by omega⟩
  obtain ⟨k, rfl⟩ : ∃ q, k = q + 1 := ⟨k - 1, by omega⟩
  have hn := hs.1
  have ht := flTot_le fl hs.2
  rw [laws_markRing.f_eq, laws_markFlowS.f_eq]
  have := markFl_l0 k (by omega) fl.length hn fl.length k 0 fl 1 (by omega) rfl (by omega) (by omega) (by rw [List.drop_zero]; omega) hs.2
  rw [show ((0 : Nat) : Int) = 0 from rfl] at this
  rw [this, bs]
  simp
theorem heldFl_l0 (K : Nat) (hK : 200 ≤ K) (L : List Fl) (hn : L.length ≤ 100) : ∀ (l : List Fl) (k i : Nat) (m : Int), i + l.length = L.length → L.drop i = markFl m l → l.length < k → 0 ≤ m → m + flTot l ≤ 900000000000 → (∀ e ∈ l, e.2.2.2.length ≤ 100) →
    laws_heldFlowS.l0 K k L m (i : Int) = some (m + flTot l) := by
  intro l
  induction l with
  | nil =>
    intro k i m hi hd hk h0 h1 hD
    obtain ⟨k, rfl⟩ : ∃ q, k = q + 1 := ⟨k - 1, by omega⟩
    simp at hi
    rw [laws_heldFlowS.l0_eq, if_neg (by omega)]
    simp [flTot]
  | cons e l ih =>
    intro k i m hi hd hk h0 h1 hD
    obtain ⟨k, rfl⟩ : ∃ q, k = q + 1 := ⟨k - 1, by omega⟩
    simp only [List.length_cons] at hi hk
    have hlt : i < L.length := by omega
    rw [drop_cons L i hlt] at hd
    simp only [markFl, List.cons.injEq] at hd
    have hDe := hD e (by simp)
    have htp := flTot_pos l
    simp only [flTot] at h1
    have w1 : wrap64 (m + 1) = m + 1 := wrap_id (by omega) (by omega)
    have w2 : wrap64 (m + 1 + 1) = m + 1 + 1 := wrap_id (by omega) (by omega)
    have w3 : wrap64 (m + 1 + 1 + 1) = m + 1 + 1 + 1 := wrap_id (by omega) (by omega)
    rw [laws_heldFlowS.l0_eq]
    simp only [rdF L i hlt, hd.1, w1, w2, w3, ne_eq, not_true, if_false]
    repeat rw [if_pos (by omega)]
    rw [heldT_f _ _ (by omega) (by omega) (by omega) K (by omega), bs, if_neg (by omega), wrap_next hlt (by omega), ih k (i + 1) _ (by omega) hd.2 (by omega) (by omega) (by omega) (fun x hx => hD x (List.mem_cons_of_mem _ hx))]
    simp only [flTot]
    congr 1
    omega
theorem heldRing_f (fl : List Fl) (hs : Sml fl) (t : Int) (fr : Bool) (k : Nat) (hk : 500 ≤ k) : laws_heldRing.f k (markFl 1 fl) t fr 1 = some (1 + flTot fl) := by
  obtain ⟨k, rfl⟩ : ∃ q, k = q + 1 := ⟨k - 1, by omega⟩
  obtain ⟨k, rfl⟩ : ∃ q, k = q + 1 := ⟨k - 1, by omega⟩
  have hn := hs.1
  have ht := flTot_le fl hs.2
  have hp := flTot_pos fl
  rw [laws_heldRing.f_eq, laws_heldFlowS.f_eq]
  have := heldFl_l0 k (by omega) (markFl 1 fl) (by rw [markFl_length]; exact hn) fl k 0 1 (by rw [markFl_length]; omega) (by simp) (by omega) (by omega) (by omega) hs.2
  rw [show ((0 : Nat) : Int) = 0 from rfl] at this
  rw [this, bs, if_neg (by omega)]
theorem rep_sml : ∀ (l : List Evt) (s s' : RSt), Sml s.1 → rep l s = some s' → Sml s'.1
  | [], s, s', hs, h => by cases h; exact hs
  | e :: l, s, s', hs, h => by
    simp only [rep] at h
    cases ho : doR e s with
    | none => rw [ho] at h; cases h
    | some s1 =>
      rw [ho] at h
      exact rep_sml l s1 s' (doR_sml hs ho) h
def flO (o : Option RSt) : List Fl := match o with
  | some s => s.1
  | none => []
theorem repI_is (o : Option RSt) : repI o = (0, false, o.isSome, flO o) := by cases o <;> rfl
theorem repS_is (o : Option RSt) : repS o = (flO o, 0, false, o.isSome) := by cases o <;> rfl
theorem repO_sml (evs : List Evt) : Sml (flO (repO evs)) := by
  cases h : repO evs with
  | none => exact sml_nil
  | some s =>
    unfold repO at h
    split at h
    · exact rep_sml evs _ s sml_nil h
    · cases h
end Go.Vm.Pu
namespace Go.Vm.Pu
open Go Go.RowKit Go.Vm
set_option linter.unusedVariables false
set_option linter.unusedSimpArgs false
def mkI (a : Int) : Nat → List Int
  | 0 => []
  | n + 1 => a :: mkI (a + 1) n
theorem mkI_length (n : Nat) : ∀ a, (mkI a n).length = n := by
  induction n with
  | zero => intro a; rfl
  | succ n ih => intro a; simp [mkI, ih]
theorem eqIntS_f (l : List Int) (hn : l.length ≤ 1048576) (k : Nat) (hk : l.length + 1 < k) : laws_eqIntS.f k l l = some true := by
  obtain ⟨k, rfl⟩ : ∃ m, k = m + 1 := ⟨k - 1, by omega⟩
  rw [laws_eqIntS.f_eq, if_neg (by simp)]
  exact count_loop (fun fu i => laws_eqIntS.l0 k fu l l i) l.length 0 true (by
    intro fu _
    simp only [laws_eqIntS.l0_eq]
    rw [if_neg (by omega)]) (by
    intro fu i h _
    simp only [laws_eqIntS.l0_eq]
    rw [if_pos (by omega), if_pos (by omega), if_pos (by omega), if_pos (by omega), if_pos (by omega), if_neg (by simp), wrap_next h (by omega)]) k (by omega)
theorem markI_loop (n : Nat) (hn : n ≤ 2000000) (K : Nat) : ∀ (d k i : Nat) (x0 : List Int) (x1 : Int), i + d = n → x0.length = n → d < k → 0 ≤ x1 → x1 ≤ 1000000000000 + i →
    laws_markIntS.l0 K k x1 (i : Int) x0 = some (x1 + d, x0.take i ++ mkI x1 d) := by
  intro d
  induction d with
  | zero =>
    intro k i x0 x1 hi hl hk h0 h1
    obtain ⟨k, rfl⟩ : ∃ m, k = m + 1 := ⟨k - 1, by omega⟩
    rw [laws_markIntS.l0_eq, if_neg (by omega), List.take_of_length_le (by omega)]
    simp [mkI]
  | succ d ih =>
    intro k i x0 x1 hi hl hk h0 h1
    obtain ⟨k, rfl⟩ : ∃ m, k = m + 1 := ⟨k - 1, by omega⟩
    rw [laws_markIntS.l0_eq, if_pos (by omega), if_pos (by omega), if_pos (by omega), wrap_next (show i < n by omega) (by omega), wrap_id (x := x1 + 1) (by omega) (by omega), ih k (i + 1) _ _ (by omega) (by simpa using hl) (by omega) (by omega) (by omega)]
    simp only [Int.toNat_natCast]
    rw [set_take _ _ _ (by omega), List.append_assoc]
    simp only [mkI, List.singleton_append]
    rw [show x1 + 1 + (d : Int) = x1 + ((d + 1 : Nat) : Int) by omega]
theorem markI_f (l : List Int) (a : Int) (hn : l.length ≤ 2000000) (h0 : 0 ≤ a) (h1 : a ≤ 1000000000000) (k : Nat) (hk : l.length + 1 < k) : laws_markIntS.f k a l = some (a + l.length, mkI a l.length) := by
  obtain ⟨k, rfl⟩ : ∃ m, k = m + 1 := ⟨k - 1, by omega⟩
  rw [laws_markIntS.f_eq]
  have := markI_loop l.length hn k l.length k 0 l a (by omega) rfl (by omega) h0 (by omega)
  simpa using this
theorem heldI_loop (x0 : List Int) (hn : x0.length ≤ 2000000) (K : Nat) : ∀ (d k i : Nat) (x1 : Int), i + d = x0.length → x0.drop i = mkI x1 d → d < k → 0 ≤ x1 → x1 ≤ 1000000000000 + i →
    laws_heldIntS.l0 K k x0 x1 (i : Int) = some (x1 + d) := by
  intro d
  induction d with
  | zero =>
    intro k i x1 hi hl hk h0 h1
    obtain ⟨k, rfl⟩ : ∃ m, k = m + 1 := ⟨k - 1, by omega⟩
    rw [laws_heldIntS.l0_eq, if_neg (by omega)]
    simp
  | succ d ih =>
    intro k i x1 hi hl hk h0 h1
    obtain ⟨k, rfl⟩ : ∃ m, k = m + 1 := ⟨k - 1, by omega⟩
    rw [drop_cons x0 i (by omega)] at hl
    simp only [mkI, List.cons.injEq] at hl
    rw [laws_heldIntS.l0_eq, if_pos (by omega), if_pos (by omega), if_pos (by omega), rd_at x0 i (by omega), if_neg (by simpa using hl.1), wrap_next (show i < x0.length by omega) (by omega), wrap_id (x := x1 + 1) (by omega) (by omega), ih k (i + 1) _ (by omega) hl.2 (by omega) (by omega) (by omega),
      show x1 + 1 + (d : Int) = x1 + ((d + 1 : Nat) : Int) by omega]
theorem heldI_f (a : Int) (n : Nat) (hn : n ≤ 2000000) (h0 : 0 ≤ a) (h1 : a ≤ 1000000000000) (k : Nat) (hk : n + 1 < k) : laws_heldIntS.f k (mkI a n) a = some (a + n) := by
  obtain ⟨k, rfl⟩ : ∃ m, k = m + 1 := ⟨k - 1, by omega⟩
  rw [laws_heldIntS.f_eq]
  have := heldI_loop (mkI a n) (by rw [mkI_length]; exact hn) k n k 0 a (by rw [mkI_length]; omega) rfl (by omega) h0 (by omega)
  simpa using this
end Go.Vm.Pu
namespace Go.Vm.Pu
open Go Go.RowKit Go.Vm
set_option linter.unusedVariables false
set_option linter.unusedSimpArgs false
abbrev Hd := Int × Int × Int × Int × List Int × List Int × Int
abbrev HdT : Ty := .pair (.int .i64) (.pair (.int .i64) (.pair (.int .i64) (.pair (.int .i64) (.pair (.row (.int .i64)) (.pair (.row (.int .i64)) (.int .i64))))))
theorem rdH (l : List Hd) (i : Nat) (h : i < l.length) : rd HdT l (i : Int) = l[i] := by
  simp [rd, List.getD, h]
theorem rd_setH (l : List Hd) (i : Nat) (h : i < l.length) (x : Hd) : rd HdT (l.set (Int.toNat (i : Int)) x) (i : Int) = x := by
  rw [rdH _ i (by simpa using h)]; simp
def doneB (e x : Evt) : Bool := decide ((x.1 = 3 ∨ x.1 = 4) ∧ x.2.1 = e.2.1 ∧ x.2.2.1 = e.2.2.1)
def heldOf (e : Evt) : Hd := (e.2.1, e.2.2.1, (dj e.2.2.2.2).1, (dj e.2.2.2.2).2.1, (dj e.2.2.2.2).2.2.1, (dj e.2.2.2.2).2.2.2.1, (dj e.2.2.2.2).2.2.2.2.1)
def pend : List Evt → List Hd
  | [] => []
  | e :: l => if e.1 = 2 ∧ l.any (doneB e) = false then heldOf e :: pend l else pend l
theorem pend_len : ∀ l, (pend l).length ≤ l.length
  | [] => Nat.le_refl _
  | e :: l => by
    have := pend_len l
    simp only [pend]
    split <;> simp <;> omega
theorem pend_mem : ∀ l, ∀ h ∈ pend l, ∃ e ∈ l, h = heldOf e
  | [], h, hh => by cases hh
  | e :: l, h, hh => by
    simp only [pend] at hh
    split at hh
    · rcases List.mem_cons.1 hh with rfl | hh
      · exact ⟨e, by simp, rfl⟩
      · obtain ⟨x, hx, rfl⟩ := pend_mem l h hh
        exact ⟨x, List.mem_cons_of_mem _ hx, rfl⟩
    · obtain ⟨x, hx, rfl⟩ := pend_mem l h hh
      exact ⟨x, List.mem_cons_of_mem _ hx, rfl⟩
theorem heldOf_small (e : Evt) : (heldOf e).2.2.2.2.1.length ≤ 400 ∧ (heldOf e).2.2.2.2.2.1.length ≤ 400 := (dj_ok e.2.2.2.2).2
theorem idone_f (e x : Evt) (k : Nat) (hk : 1 ≤ k) : impl_PendingOf_1.f k x.1 x.2.1 x.2.2.1 x.2.2.2.1 x.2.2.2.2 e.1 e.2.1 e.2.2.1 e.2.2.2.1 e.2.2.2.2 = some (doneB e x, e.1, e.2.1, e.2.2.1, e.2.2.2.1, e.2.2.2.2) := by
  obtain ⟨k, rfl⟩ : ∃ m, k = m + 1 := ⟨k - 1, by omega⟩
  rw [impl_PendingOf_1.f_eq]
  unfold doneB
  by_cases c1 : x.1 = 3
  · rw [if_pos c1]
    by_cases c2 : x.2.1 = e.2.1
    · rw [if_pos c2]
      congr 2
      simp only [decide_eq_decide]
      exact ⟨fun h => ⟨.inl c1, c2, h⟩, fun h => h.2.2⟩
    · rw [if_neg c2, decide_eq_false (fun h => c2 h.2.1)]
  · rw [if_neg c1]
    by_cases c3 : x.1 = 4
    · rw [if_pos c3]
      by_cases c2 : x.2.1 = e.2.1
      · rw [if_pos c2]
        congr 2
        simp only [decide_eq_decide]
        exact ⟨fun h => ⟨.inr c3, c2, h⟩, fun h => h.2.2⟩
      · rw [if_neg c2, decide_eq_false (fun h => c2 h.2.1)]
    · rw [if_neg c3, decide_eq_false (fun h => h.1.elim c1 c3)]
theorem ix_any {α : Type} (p : α → Bool) : ∀ (l : List α) (i : Nat), decide (ixOf p l i ≥ 0) = l.any p
  | [], i => by simp [ixOf]
  | a :: l, i => by
    rw [show ixOf p (a :: l) i = if p a = true then (i : Int) else ixOf p l (i + 1) from rfl, List.any_cons]
    by_cases h : p a = true
    · rw [if_pos h, h, Bool.true_or]
      exact decide_eq_true (by omega)
    · rw [if_neg h, show p a = false by simpa using h, Bool.false_or]
      exact ix_any p l (i + 1)
theorem iany_loop (K : Nat) (hK : 1 ≤ K) (s0 : List Evt) (hn : s0.length ≤ 2000000) (e : Evt) : ∀ (d k i : Nat), i + d = s0.length → d < k →
    slices_IndexFunc_Event.l0 K k s0 (s0.length : Int) (i : Int) e.1 e.2.1 e.2.2.1 e.2.2.2.1 e.2.2.2.2 = some (ixOf (doneB e) (s0.drop i) i, e.1, e.2.1, e.2.2.1, e.2.2.2.1, e.2.2.2.2) := by
  intro d
  induction d with
  | zero =>
    intro k i hi hk
    obtain ⟨k, rfl⟩ : ∃ m, k = m + 1 := ⟨k - 1, by omega⟩
    rw [slices_IndexFunc_Event.l0_eq, if_neg (by omega), List.drop_of_length_le (by omega)]
    rfl
  | succ d ih =>
    intro k i hi hk
    obtain ⟨k, rfl⟩ : ∃ m, k = m + 1 := ⟨k - 1, by omega⟩
    have hlt : i < s0.length := by omega
    rw [slices_IndexFunc_Event.l0_eq, if_pos (by omega), if_pos (by omega), if_pos (by omega), rdE s0 i hlt, idone_f e s0[i] K hK, bs]
    simp only
    rw [wrap_next hlt (by omega), ih k (i + 1) (by omega) (by omega), drop_cons s0 i hlt]
    simp only [ixOf]
    cases doneB e s0[i] with
    | true => rw [if_pos rfl, if_pos rfl]
    | false => rw [if_neg (by decide), if_neg (by decide)]
theorem iany_f (s0 : List Evt) (hn : s0.length ≤ 2000000) (e : Evt) (k : Nat) (hk : s0.length + 3 < k) :
    slices_ContainsFunc_Event.f k s0 e.1 e.2.1 e.2.2.1 e.2.2.2.1 e.2.2.2.2 = some (s0.any (doneB e), e.1, e.2.1, e.2.2.1, e.2.2.2.1, e.2.2.2.2) := by
  obtain ⟨k, rfl⟩ : ∃ m, k = m + 1 := ⟨k - 1, by omega⟩
  obtain ⟨k, rfl⟩ : ∃ m, k = m + 1 := ⟨k - 1, by omega⟩
  have := iany_loop k (by omega) s0 hn e s0.length k 0 (by omega) (by omega)
  rw [show ((0 : Nat) : Int) = 0 from rfl, List.drop_zero] at this
  rw [slices_ContainsFunc_Event.f_eq, slices_IndexFunc_Event.f_eq, this, bs]
  simp only
  rw [ix_any]
section
variable (evs : List Evt) (hn : evs.length ≤ 2000000) (hE : ∀ e ∈ evs, Bs e.2.2.2.2 ∧ e.2.2.2.2.length ≤ 2000000)
include hn hE
theorem ipend_loop (K : Nat) (hK : 2000010 ≤ K) : ∀ (d k i : Nat) (out : List Hd), i + d = evs.length → d < k → out.length + d ≤ 5000000 →
    impl_PendingOf.l0 K k evs evs (evs.length : Int) (i : Int) out = some (true, out ++ pend (evs.drop i)) := by
  intro d
  induction d with
  | zero =>
    intro k i out hi hk ho
    obtain ⟨k, rfl⟩ : ∃ m, k = m + 1 := ⟨k - 1, by omega⟩
    rw [impl_PendingOf.l0_eq, if_neg (by omega), List.drop_of_length_le (by omega)]
    simp [pend]
  | succ d ih =>
    intro k i out hi hk ho
    obtain ⟨k, rfl⟩ : ∃ m, k = m + 1 := ⟨k - 1, by omega⟩
    have hlt : i < evs.length := by omega
    obtain ⟨hb, hl⟩ := hE _ (List.getElem_mem hlt)
    have hcut : cut evs ((i + 1 : Nat) : Int) (evs.length : Int) = evs.drop (i + 1) := by
      simp [cut]
    rw [impl_PendingOf.l0_eq, if_pos (by omega), if_pos (by omega), if_pos (by omega), rdE evs i hlt, wrap_next hlt (by omega), hcut, ih k (i + 1) out (by omega) (by omega) (by omega), drop_cons evs i hlt]
    simp only [pend]
    by_cases c1 : evs[i].1 = 2
    · rw [if_neg (by simpa using c1), if_pos (by omega), if_pos (by omega), iany_f (evs.drop (i + 1)) (by simp; omega) evs[i] K (by simp; omega), bs]
      simp only
      cases hd : (evs.drop (i + 1)).any (doneB evs[i]) with
      | true => rw [if_pos rfl, if_neg (by simp)]
      | false =>
        rw [if_neg (by decide), idecode_f _ hb hl K (by omega), bs, if_pos (by omega), ih k (i + 1) _ (by omega) (by omega) (by simp; omega), if_pos ⟨c1, rfl⟩, List.append_assoc]
        rfl
    · rw [if_pos (by simpa using c1), if_neg (fun h => c1 h.1)]
theorem spend_in (K F0 : Nat) (hK : 2000010 ≤ K) (i : Nat) (hi : i < evs.length) (out : List Hd) (ho : out.length ≤ 6000000) : ∀ (d k m : Nat) (op : Bool), m + d = evs.length → d < k →
    spec_PendingOf.l1 K F0 k evs (i : Int) op (m : Int) out = spec_PendingOf.l0 K F0 evs ((i + 1 : Nat) : Int) (if (op && !(evs.drop m).any (doneB evs[i])) = true then out ++ [heldOf evs[i]] else out) := by
  obtain ⟨hb, hl⟩ := hE _ (List.getElem_mem hi)
  intro d
  induction d with
  | zero =>
    intro k m op hm hk
    obtain ⟨k, rfl⟩ : ∃ q, k = q + 1 := ⟨k - 1, by omega⟩
    rw [spec_PendingOf.l1_eq, if_neg (by omega), List.drop_of_length_le (by omega), wrap_next hi (by omega), rdE evs i hi]
    cases op with
    | false => simp
    | true =>
      rw [if_pos rfl, if_pos (by omega), if_pos (by omega), sdecode_f _ hb hl K (by omega), bs, if_pos (by omega), if_pos (by omega), if_pos (by omega), if_pos (by omega), if_pos (by omega)]
      simp only [List.any_nil, Bool.not_false, Bool.and_true, if_true]
      rfl
  | succ d ih =>
    intro k m op hm hk
    obtain ⟨k, rfl⟩ : ∃ q, k = q + 1 := ⟨k - 1, by omega⟩
    have hlt : m < evs.length := by omega
    rw [spec_PendingOf.l1_eq, if_pos (by omega), if_pos (by omega), if_pos (by omega), rdE evs m hlt, rdE evs i hi, wrap_next hlt (by omega), ih k (m + 1) op (by omega) (by omega), ih k (m + 1) false (by omega) (by omega), drop_cons evs m hlt]
    simp only [List.any_cons]
    have fin : ∀ b : Bool, doneB evs[i] evs[m] = b → (if b = true then spec_PendingOf.l0 K F0 evs ((i + 1 : Nat) : Int) (if (false && !(evs.drop (m + 1)).any (doneB evs[i])) = true then out ++ [heldOf evs[i]] else out) else spec_PendingOf.l0 K F0 evs ((i + 1 : Nat) : Int) (if (op && !(evs.drop (m + 1)).any (doneB evs[i])) = true then out ++ [heldOf evs[i]] else out)) =
        spec_PendingOf.l0 K F0 evs ((i + 1 : Nat) : Int) (if (op && !(doneB evs[i] evs[m] || (evs.drop (m + 1)).any (doneB evs[i]))) = true then out ++ [heldOf evs[i]] else out) := fun b hb => by
      rw [hb]
      cases b with
      | true => simp
      | false => rw [if_neg (by decide), Bool.false_or]
    by_cases c3 : evs[m].1 = 3
    · rw [if_pos c3, if_pos (by omega), if_pos (by omega), if_pos (by omega), if_pos (by omega)]
      by_cases c1 : evs[m].2.1 = evs[i].2.1
      · rw [if_pos c1, if_pos (by omega), if_pos (by omega), if_pos (by omega), if_pos (by omega)]
        by_cases c2 : evs[m].2.2.1 = evs[i].2.2.1
        · rw [if_pos c2]
          have := fin true (by unfold doneB; exact decide_eq_true ⟨.inl c3, c1, c2⟩)
          rwa [if_pos rfl] at this
        · rw [if_neg c2]
          have := fin false (by unfold doneB; exact decide_eq_false (fun h => c2 h.2.2))
          rwa [if_neg (by decide)] at this
      · rw [if_neg c1]
        have := fin false (by unfold doneB; exact decide_eq_false (fun h => c1 h.2.1))
        rwa [if_neg (by decide)] at this
    · rw [if_neg c3, if_pos (by omega), if_pos (by omega)]
      by_cases c4 : evs[m].1 = 4
      · rw [if_pos c4, if_pos (by omega), if_pos (by omega), if_pos (by omega), if_pos (by omega)]
        by_cases c1 : evs[m].2.1 = evs[i].2.1
        · rw [if_pos c1, if_pos (by omega), if_pos (by omega), if_pos (by omega), if_pos (by omega)]
          by_cases c2 : evs[m].2.2.1 = evs[i].2.2.1
          · rw [if_pos c2]
            have := fin true (by unfold doneB; exact decide_eq_true ⟨.inr c4, c1, c2⟩)
            rwa [if_pos rfl] at this
          · rw [if_neg c2]
            have := fin false (by unfold doneB; exact decide_eq_false (fun h => c2 h.2.2))
            rwa [if_neg (by decide)] at this
        · rw [if_neg c1]
          have := fin false (by unfold doneB; exact decide_eq_false (fun h => c1 h.2.1))
          rwa [if_neg (by decide)] at this
      · rw [if_neg c4]
        have := fin false (by unfold doneB; exact decide_eq_false (fun h => h.1.elim c3 c4))
        rwa [if_neg (by decide)] at this
theorem spend_loop (K : Nat) (hK : 2000010 ≤ K) : ∀ (d k i : Nat) (out : List Hd), i + d = evs.length → d < k → out.length + d ≤ 5000000 →
    spec_PendingOf.l0 K k evs (i : Int) out = some (true, out ++ pend (evs.drop i)) := by
  intro d
  induction d with
  | zero =>
    intro k i out hi hk ho
    obtain ⟨k, rfl⟩ : ∃ m, k = m + 1 := ⟨k - 1, by omega⟩
    rw [spec_PendingOf.l0_eq, if_neg (by omega), List.drop_of_length_le (by omega)]
    simp [pend]
  | succ d ih =>
    intro k i out hi hk ho
    obtain ⟨k, rfl⟩ : ∃ m, k = m + 1 := ⟨k - 1, by omega⟩
    have hlt : i < evs.length := by omega
    rw [spec_PendingOf.l0_eq, if_pos (by omega), if_pos (by omega), if_pos (by omega), rdE evs i hlt, wrap_next hlt (by omega), spend_in evs hn hE K k hK i hlt out (by omega) (evs.length - (i + 1)) K (i + 1) true (by omega) (by omega), drop_cons evs i hlt]
    simp only [pend, Bool.true_and]
    by_cases c1 : evs[i].1 = 2
    · rw [if_neg (by simpa using c1)]
      cases hd : (evs.drop (i + 1)).any (doneB evs[i]) with
      | true =>
        rw [if_neg (by decide), if_neg (by simp), ih k (i + 1) out (by omega) (by omega) (by omega)]
      | false =>
        rw [if_pos (by decide), if_pos ⟨c1, rfl⟩, ih k (i + 1) _ (by omega) (by omega) (by simp; omega), List.append_assoc]
        rfl
    · rw [if_pos (by simpa using c1), if_neg (fun h => c1 h.1), ih k (i + 1) out (by omega) (by omega) (by omega)]
end
def pndO (evs : List Evt) : Bool × List Hd := match repO evs with
  | some s => (true, pend evs)
  | none => (false, [])
theorem ipnd_f (evs : List Evt) (hn : evs.length ≤ 2000000) (hE : ∀ e ∈ evs, Bs e.2.2.2.2 ∧ e.2.2.2.2.length ≤ 2000000) (k : Nat) (hk : 2000050 ≤ k) : impl_PendingOf.f k evs = some (pndO evs) := by
  obtain ⟨k, rfl⟩ : ∃ m, k = m + 1 := ⟨k - 1, by omega⟩
  rw [impl_PendingOf.f_eq, irep_f evs hn hE k (by omega), bs, not_ite]
  unfold pndO
  cases h : repO evs with
  | none => rfl
  | some s =>
    have := ipend_loop evs hn hE k (by omega) evs.length k 0 [] (by omega) (by omega) (by simp; omega)
    show (if true = true then impl_PendingOf.l0 k k evs evs (evs.length : Int) 0 [] else _) = _
    rw [if_pos rfl]
    simpa using this
theorem spnd_f (evs : List Evt) (hn : evs.length ≤ 2000000) (hE : ∀ e ∈ evs, Bs e.2.2.2.2 ∧ e.2.2.2.2.length ≤ 2000000) (k : Nat) (hk : 2000050 ≤ k) : spec_PendingOf.f k evs = some (pndO evs) := by
  obtain ⟨k, rfl⟩ : ∃ m, k = m + 1 := ⟨k - 1, by omega⟩
  rw [spec_PendingOf.f_eq, srep_f evs hn hE k (by omega), bs, not_ite]
  unfold pndO
  cases h : repO evs with
  | none => rfl
  | some s =>
    have := spend_loop evs hn hE k (by omega) evs.length k 0 [] (by omega) (by omega) (by simp; omega)
    show (if true = true then spec_PendingOf.l0 k k evs 0 [] else _) = _
    rw [if_pos rfl]
    simpa using this
end Go.Vm.Pu
namespace Go.Vm.Pu
open Go Go.RowKit Go.Vm
set_option linter.unusedVariables false
set_option linter.unusedSimpArgs false
/-- The numbers of the jobs are few. -/
def SmlH (l : List Hd) : Prop := l.length ≤ 5000 ∧ ∀ h ∈ l, h.2.2.2.2.1.length ≤ 400 ∧ h.2.2.2.2.2.1.length ≤ 400
theorem eqHeldS_f (l : List Hd) (hs : SmlH l) (k : Nat) (hk : 6000 ≤ k) : laws_eqHeldS.f k l l = some true := by
  obtain ⟨k, rfl⟩ : ∃ m, k = m + 1 := ⟨k - 1, by omega⟩
  have hn := hs.1
  rw [laws_eqHeldS.f_eq, if_neg (by simp)]
  exact count_loop (fun fu i => laws_eqHeldS.l0 k fu l l i) l.length 0 true (by
    intro fu _
    simp only [laws_eqHeldS.l0_eq]
    rw [if_neg (by omega)]) (by
    intro fu i h _
    obtain ⟨ha, hb⟩ := hs.2 _ (List.getElem_mem h)
    obtain ⟨k, rfl⟩ : ∃ m, k = m + 1 := ⟨k - 1, by omega⟩
    obtain ⟨k, rfl⟩ : ∃ m, k = m + 1 := ⟨k - 1, by omega⟩
    have e1 := eqIntS_f l[i].2.2.2.2.1 (by omega) k (by omega)
    have e2 := eqIntS_f l[i].2.2.2.2.2.1 (by omega) k (by omega)
    simp only [laws_eqHeldS.l0_eq, laws_eqHeld.f_eq, laws_eqJob.f_eq, rdH l i h, e1, e2, ne_eq, not_true, if_false, bs, not_ite, if_true]
    rw [if_pos (by omega), if_pos (by omega), if_pos (by omega), if_pos (by omega), if_pos (by omega), wrap_next h (by omega)]) k (by omega)
def hdTot : List Hd → Int
  | [] => 0
  | e :: l => 5 + (e.2.2.2.2.1.length : Int) + (e.2.2.2.2.2.1.length : Int) + hdTot l
theorem hdTot_pos : ∀ l, 0 ≤ hdTot l
  | [] => by simp [hdTot]
  | e :: l => by have := hdTot_pos l; simp only [hdTot]; omega
def markHd : Int → List Hd → List Hd
  | _, [] => []
  | m, e :: l => (m, m + 1, m + 1 + 1, m + 1 + 1 + 1, mkI (m + 1 + 1 + 1 + 1) e.2.2.2.2.1.length, mkI (m + 1 + 1 + 1 + 1 + (e.2.2.2.2.1.length : Int)) e.2.2.2.2.2.1.length, m + 1 + 1 + 1 + 1 + (e.2.2.2.2.1.length : Int) + (e.2.2.2.2.2.1.length : Int)) ::
      markHd (m + 1 + 1 + 1 + 1 + (e.2.2.2.2.1.length : Int) + (e.2.2.2.2.2.1.length : Int) + 1) l
theorem markHd_length : ∀ (l : List Hd) (m : Int), (markHd m l).length = l.length
  | [], m => rfl
  | e :: l, m => by simp [markHd, markHd_length l]
theorem markHd_l0 (K : Nat) (hK : 1000 ≤ K) (n : Nat) (hn : n ≤ 5000) : ∀ (d k i : Nat) (x0 : List Hd) (m : Int), i + d = n → x0.length = n → d < k → 0 ≤ m → m + hdTot (x0.drop i) ≤ 900000000000 → (∀ h ∈ x0, h.2.2.2.2.1.length ≤ 400 ∧ h.2.2.2.2.2.1.length ≤ 400) →
    laws_markHeldS.l0 K k m (i : Int) x0 = some (m + hdTot (x0.drop i), x0.take i ++ markHd m (x0.drop i)) := by
  intro d
  induction d with
  | zero =>
    intro k i x0 m hi hl hk h0 h1 hD
    obtain ⟨k, rfl⟩ : ∃ q, k = q + 1 := ⟨k - 1, by omega⟩
    rw [laws_markHeldS.l0_eq, if_neg (by omega), List.drop_of_length_le (by omega), List.take_of_length_le (by omega)]
    simp [hdTot, markHd]
  | succ d ih =>
    intro k i x0 m hi hl hk h0 h1 hD
    obtain ⟨k, rfl⟩ : ∃ q, k = q + 1 := ⟨k - 1, by omega⟩
    have hlt : i < x0.length := by omega
    obtain ⟨ha, hb⟩ := hD _ (List.getElem_mem hlt)
    have hdr := drop_cons x0 i hlt
    have h1' := h1
    rw [hdr] at h1'
    simp only [hdTot] at h1'
    have htp := hdTot_pos (x0.drop (i + 1))
    have hset := rd_setH x0 i hlt
    have hrd := rdH x0 i hlt
    have w1 : wrap64 (m + 1) = m + 1 := wrap_id (by omega) (by omega)
    have w2 : wrap64 (m + 1 + 1) = m + 1 + 1 := wrap_id (by omega) (by omega)
    have w3 : wrap64 (m + 1 + 1 + 1) = m + 1 + 1 + 1 := wrap_id (by omega) (by omega)
    have w4 : wrap64 (m + 1 + 1 + 1 + 1) = m + 1 + 1 + 1 + 1 := wrap_id (by omega) (by omega)
    have w5 : wrap64 (m + 1 + 1 + 1 + 1 + (x0[i].2.2.2.2.1.length : Int) + (x0[i].2.2.2.2.2.1.length : Int) + 1) = m + 1 + 1 + 1 + 1 + (x0[i].2.2.2.2.1.length : Int) + (x0[i].2.2.2.2.2.1.length : Int) + 1 := wrap_id (by omega) (by omega)
    have mA := markI_f x0[i].2.2.2.2.1 (m + 1 + 1 + 1 + 1) (by omega) (by omega) (by omega) K (by omega)
    have mB := markI_f x0[i].2.2.2.2.2.1 (m + 1 + 1 + 1 + 1 + (x0[i].2.2.2.2.1.length : Int)) (by omega) (by omega) (by omega) K (by omega)
    have i1 : (i : Int) < (x0.length : Int) := by omega
    have i0 : (0 : Int) ≤ (i : Int) := by omega
    rw [laws_markHeldS.l0_eq]
    simp only [hset, List.set_set, List.length_set, hrd, w1, w2, if_pos i1, if_pos i0]
    rw [laws_markHeldS.j0_eq]
    simp only [hset, List.set_set, List.length_set, hrd, w1, w2, w3, w4, if_pos i1, if_pos i0]
    rw [laws_markHeldS.j1_eq]
    simp only [hset, List.set_set, List.length_set, hrd, w1, w2, w3, w4, if_pos i1, if_pos i0, mA, mB, bs, w5]
    have hlen : ∀ y : Hd, (x0.set (Int.toNat (i : Int)) y).length = n := fun y => by simpa using hl
    have hdrop : ∀ y : Hd, (x0.set (Int.toNat (i : Int)) y).drop (i + 1) = x0.drop (i + 1) := fun y => by
      rw [List.drop_set_of_lt (by simp)]
    rw [wrap_next (show i < n by omega) (by omega), ih k (i + 1) _ _ (by omega) (hlen _) (by omega) (by omega) (by rw [hdrop]; omega) (by
      intro e he
      rcases List.mem_or_eq_of_mem_set he with h | h
      · exact hD e h
      · rw [h]
        simp only [mkI_length]
        exact ⟨ha, hb⟩), hdrop, hdr]
    simp only [Int.toNat_natCast]
    rw [set_take _ _ _ hlt, List.append_assoc]
    simp only [hdTot, markHd, List.singleton_append]
    congr 2
    omega
theorem hdTot_le : ∀ (l : List Hd), (∀ h ∈ l, h.2.2.2.2.1.length ≤ 400 ∧ h.2.2.2.2.2.1.length ≤ 400) → hdTot l ≤ 805 * (l.length : Int)
  | [], _ => by simp [hdTot]
  | e :: l, h => by
    have h1 := hdTot_le l fun x hx => h x (List.mem_cons_of_mem _ hx)
    have h2 := h e (by simp)
    simp only [hdTot, List.length_cons]
    omega
theorem markHd_f (l : List Hd) (hs : SmlH l) (k : Nat) (hk : 6000 ≤ k) : laws_markHeldS.f k 1 l = some (1 + hdTot l, markHd 1 l) := by
  obtain ⟨k, rfl⟩ : ∃ q, k = q + 1 := ⟨k - 1, by omega⟩
  have hn := hs.1
  have ht := hdTot_le l hs.2
  rw [laws_markHeldS.f_eq]
  have := markHd_l0 k (by omega) l.length hn l.length k 0 l 1 (by omega) rfl (by omega) (by omega) (by rw [List.drop_zero]; omega) hs.2
  simpa using this
theorem heldHd_l0 (K : Nat) (hK : 1000 ≤ K) (L : List Hd) (hn : L.length ≤ 5000) : ∀ (l : List Hd) (k i : Nat) (m : Int), i + l.length = L.length → L.drop i = markHd m l → l.length < k → 0 ≤ m → m + hdTot l ≤ 900000000000 → (∀ h ∈ l, h.2.2.2.2.1.length ≤ 400 ∧ h.2.2.2.2.2.1.length ≤ 400) →
    laws_heldHeldS.l0 K k L m (i : Int) = some (m + hdTot l) := by
  intro l
  induction l with
  | nil =>
    intro k i m hi hd hk h0 h1 hD
    obtain ⟨k, rfl⟩ : ∃ q, k = q + 1 := ⟨k - 1, by omega⟩
    simp at hi
    rw [laws_heldHeldS.l0_eq, if_neg (by omega)]
    simp [hdTot]
  | cons e l ih =>
    intro k i m hi hd hk h0 h1 hD
    obtain ⟨k, rfl⟩ : ∃ q, k = q + 1 := ⟨k - 1, by omega⟩
    simp only [List.length_cons] at hi hk
    have hlt : i < L.length := by omega
    rw [drop_cons L i hlt] at hd
    simp only [markHd, List.cons.injEq] at hd
    obtain ⟨ha, hb⟩ := hD e (by simp)
    have htp := hdTot_pos l
    simp only [hdTot] at h1
    have w1 : wrap64 (m + 1) = m + 1 := wrap_id (by omega) (by omega)
    have w2 : wrap64 (m + 1 + 1) = m + 1 + 1 := wrap_id (by omega) (by omega)
    have w3 : wrap64 (m + 1 + 1 + 1) = m + 1 + 1 + 1 := wrap_id (by omega) (by omega)
    have w4 : wrap64 (m + 1 + 1 + 1 + 1) = m + 1 + 1 + 1 + 1 := wrap_id (by omega) (by omega)
    have w5 : wrap64 (m + 1 + 1 + 1 + 1 + (e.2.2.2.2.1.length : Int) + (e.2.2.2.2.2.1.length : Int) + 1) = m + 1 + 1 + 1 + 1 + (e.2.2.2.2.1.length : Int) + (e.2.2.2.2.2.1.length : Int) + 1 := wrap_id (by omega) (by omega)
    have mA := heldI_f (m + 1 + 1 + 1 + 1) e.2.2.2.2.1.length (by omega) (by omega) (by omega) K (by omega)
    have mB := heldI_f (m + 1 + 1 + 1 + 1 + (e.2.2.2.2.1.length : Int)) e.2.2.2.2.2.1.length (by omega) (by omega) (by omega) K (by omega)
    have i1 : (i : Int) < (L.length : Int) := by omega
    have i0 : (0 : Int) ≤ (i : Int) := by omega
    rw [laws_heldHeldS.l0_eq]
    simp only [rdH L i hlt, hd.1, w1, w2, w3, w4, ne_eq, not_true, if_false, if_pos i1, if_pos i0, mA, mB, bs]
    rw [if_neg (by omega), if_neg (by omega), w5, wrap_next hlt (by omega), ih k (i + 1) _ (by omega) hd.2 (by omega) (by omega) (by omega) (fun x hx => hD x (List.mem_cons_of_mem _ hx))]
    simp only [hdTot]
    congr 1
    omega
theorem heldHd_f (l : List Hd) (hs : SmlH l) (k : Nat) (hk : 6000 ≤ k) : laws_heldHeldS.f k (markHd 1 l) 1 = some (1 + hdTot l) := by
  obtain ⟨k, rfl⟩ : ∃ q, k = q + 1 := ⟨k - 1, by omega⟩
  have hn := hs.1
  have ht := hdTot_le l hs.2
  rw [laws_heldHeldS.f_eq]
  exact heldHd_l0 k (by omega) (markHd 1 l) (by rw [markHd_length]; exact hn) l k 0 1 (by rw [markHd_length]; omega) (by simp) (by omega) (by omega) (by omega) hs.2
theorem pndO_small (evs : List Evt) : SmlH (pndO evs).2 := by
  unfold pndO
  cases h : repO evs with
  | none => exact ⟨by simp, fun e he => (by cases he)⟩
  | some s =>
    unfold repO at h
    split at h
    · rename_i h4
      refine ⟨?_, fun x hx => ?_⟩
      · have := pend_len evs
        simp only
        omega
      · obtain ⟨e, _, rfl⟩ := pend_mem evs x hx
        exact heldOf_small e
    · cases h
end Go.Vm.Pu
namespace Go.Vm.Pu
open Go Go.RowKit Go.Vm
set_option linter.unusedVariables false
set_option linter.unusedSimpArgs false
theorem Bs.take' {l : List Int} (h : Bs l) (n : Nat) : Bs (l.take n) := fun x hx => h x (List.mem_of_mem_take hx)
theorem te_bs (t s : Int) (b : List Int) (hb : Bs b) : Bs (te t s b).2.2.2.2.1 := by
  unfold te
  split
  · exact hb.drop _
  · intro x hx; cases hx
theorem scn_bs (all : List Int) (hb : Bs all) : ∀ (d at_ : Nat) (out : List Evt), (∀ e ∈ out, Bs e.2.2.2.2) → ∀ e ∈ (scn all d at_ out).2.2, Bs e.2.2.2.2 := by
  intro d
  induction d with
  | zero => intro at_ out h; exact h
  | succ d ih =>
    intro at_ out h
    rw [scn]
    split
    · split
      · exact h
      · split
        · exact h
        · split
          · refine ih _ _ (fun e he => ?_)
            rcases List.mem_append.1 he with he | he
            · exact h e he
            · simp only [List.mem_singleton] at he
              rw [he]
              exact te_bs _ _ _ (df_ok (all.drop at_) (hb.drop _)).2.2.1
          · exact h
    · exact h
theorem rdk_bs (a b : List Int) (ha : Bs a) (hb : Bs b) : ∀ e ∈ (rdk a b).2, Bs e.2.2.2.2 := by
  unfold rdk
  split
  · exact scn_bs (a ++ b) (ha.app hb) _ _ _ (fun e he => by cases he)
  · intro e he; cases he
theorem rp_bs (a b : List Int) (ha : Bs a) (hb : Bs b) : Bs (rp a b).2.1 ∧ Bs (rp a b).2.2 := by
  unfold rp
  split
  · split
    · exact ⟨ha, hb⟩
    · exact ⟨(ha.app hb).take' _, fun x hx => by cases hx⟩
  · exact ⟨ha, hb⟩
/-- The events that are left of a disk, if they can be replayed. -/
def rcv (a b : List Int) : Option (List Evt) :=
  if (rp a b).1 = true then (if (repO (rdk (rp a b).2.1 (rp a b).2.2).2).isSome = true then some (rdk (rp a b).2.1 (rp a b).2.2).2 else none) else none
def rcF (o : Option (List Evt)) : List Fl := match o with
  | some l => flO (repO l)
  | none => []
def rcH (o : Option (List Evt)) : List Hd := match o with
  | some l => (pndO l).2
  | none => []
def rcN (o : Option (List Evt)) : Int := match o with
  | some l => nid l
  | none => 0
theorem rcF_sml (o : Option (List Evt)) : Sml (rcF o) := by
  cases o with
  | none => exact sml_nil
  | some l => exact repO_sml l
theorem rcH_sml (o : Option (List Evt)) : SmlH (rcH o) := by
  cases o with
  | none => exact ⟨by simp [rcH], fun e he => (by cases he)⟩
  | some l => exact pndO_small l
theorem markHd_g (l : List Hd) (hs : SmlH l) (m : Int) (h0 : 0 ≤ m) (h1 : m ≤ 100000) (k : Nat) (hk : 6000 ≤ k) : laws_markHeldS.f k m l = some (m + hdTot l, markHd m l) := by
  obtain ⟨k, rfl⟩ : ∃ q, k = q + 1 := ⟨k - 1, by omega⟩
  have hn := hs.1
  have ht := hdTot_le l hs.2
  rw [laws_markHeldS.f_eq]
  have := markHd_l0 k (by omega) l.length hn l.length k 0 l m (by omega) rfl (by omega) h0 (by rw [List.drop_zero]; omega) hs.2
  simpa using this
theorem heldHd_g (l : List Hd) (hs : SmlH l) (m : Int) (h0 : 0 ≤ m) (h1 : m ≤ 100000) (k : Nat) (hk : 6000 ≤ k) : laws_heldHeldS.f k (markHd m l) m = some (m + hdTot l) := by
  obtain ⟨k, rfl⟩ : ∃ q, k = q + 1 := ⟨k - 1, by omega⟩
  have hn := hs.1
  have ht := hdTot_le l hs.2
  rw [laws_heldHeldS.f_eq]
  exact heldHd_l0 k (by omega) (markHd m l) (by rw [markHd_length]; exact hn) l k 0 m (by rw [markHd_length]; omega) (by simp) (by omega) h0 (by omega) hs.2
theorem rcv_is (a b : List Int) (x : Bool) (p q : List Int) (h : rp a b = (x, p, q)) : rcv a b = if x = true then (if (repO (rdk p q).2).isSome = true then some (rdk p q).2 else none) else none := by
  unfold rcv
  rw [h]
theorem irec_f (a b : List Int) (ha : Bs a) (hb : Bs b) (hlen : a.length + b.length ≤ 1048576) (k : Nat) (hk : 2000100 ≤ k) :
    impl_Recovered.f k a b = some (0, false, rcN (rcv a b), (rcv a b).isSome, rcF (rcv a b), rcH (rcv a b)) := by
  obtain ⟨k, rfl⟩ : ∃ m, k = m + 1 := ⟨k - 1, by omega⟩
  have hl := rp_len a b hlen
  have hbs := rp_bs a b ha hb
  rw [impl_Recovered.f_eq, irp_f a b ha hb hlen k (by omega), bs]
  generalize hr : rp a b = r at hl hbs ⊢
  obtain ⟨x, p, q⟩ := r
  rw [rcv_is a b x p q hr]
  simp only at hl hbs ⊢
  have hs := rdk_small p q hbs.1 hbs.2
  have hB := rdk_bs p q hbs.1 hbs.2
  cases x with
  | false => rfl
  | true =>
    rw [if_neg (by decide), ird_f p q hbs.1 hbs.2 hl k (by omega), bs, if_pos rfl]
    generalize (rdk p q).2 = l at hs hB ⊢
    have hE : ∀ e ∈ l, Bs e.2.2.2.2 ∧ e.2.2.2.2.length ≤ 2000000 := fun e he => ⟨hB e he, by have := hs.2 e he; omega⟩
    rw [irep_f l (by omega) hE k (by omega), bs, repI_is]
    cases h : (repO l).isSome with
    | false => rfl
    | true =>
      rw [if_neg (by simp), ipnd_f l (by omega) hE k (by omega), bs, inid_f l (by omega) hE k (by omega), bs, if_pos rfl]
      rfl
theorem srec_f (a b : List Int) (ha : Bs a) (hb : Bs b) (hlen : a.length + b.length ≤ 1048576) (k : Nat) (hk : 2000100 ≤ k) :
    spec_Recovered.f k a b = some (rcF (rcv a b), 0, false, rcN (rcv a b), (rcv a b).isSome, rcH (rcv a b)) := by
  obtain ⟨k, rfl⟩ : ∃ m, k = m + 1 := ⟨k - 1, by omega⟩
  have hl := rp_len a b hlen
  have hbs := rp_bs a b ha hb
  rw [spec_Recovered.f_eq, srp_f a b ha hb hlen k (by omega), bs]
  generalize hr : rp a b = r at hl hbs ⊢
  obtain ⟨x, p, q⟩ := r
  rw [rcv_is a b x p q hr]
  simp only at hl hbs ⊢
  have hs := rdk_small p q hbs.1 hbs.2
  have hB := rdk_bs p q hbs.1 hbs.2
  cases x with
  | false => rfl
  | true =>
    rw [if_neg (by decide), srd_f p q hbs.1 hbs.2 hl k (by omega), bs, if_pos rfl]
    generalize (rdk p q).2 = l at hs hB ⊢
    have hE : ∀ e ∈ l, Bs e.2.2.2.2 ∧ e.2.2.2.2.length ≤ 2000000 := fun e he => ⟨hB e he, by have := hs.2 e he; omega⟩
    rw [srep_f l (by omega) hE k (by omega), bs, repS_is]
    cases h : (repO l).isSome with
    | false => rfl
    | true =>
      rw [if_neg (by simp), spnd_f l (by omega) hE k (by omega), bs, snid_f l (by omega) hE k (by omega), bs, if_pos rfl]
      rfl
theorem law_Recovered (a b : List Int) (ha : a.length ≤ maxLen) (hbl : b.length ≤ maxLen) (wa : Bs a) (wb : Bs b) : ∃ k, laws_FnExactRecovered.f k a b = some true := by
  obtain ⟨K, hK⟩ : ∃ K : Nat, K = 2000200 := ⟨_, rfl⟩
  refine ⟨K + 1, ?_⟩
  rw [laws_FnExactRecovered.f_eq]
  by_cases c : a.length + b.length ≤ 1048576
  case neg =>
    rw [szDisk_f a b ha hbl K (by omega), if_neg c, bs, if_pos (by decide)]
  have U := toDisk_f a b c K (by omega)
  have V := eqDisk_f a b c K (by omega)
  have M0 := markDisk_f a b c K (by omega)
  have E1 := srec_f a b wa wb c K (by omega)
  have E2 := irec_f a b wa wb c K (by omega)
  have hF := rcF_sml (rcv a b)
  have hH := rcH_sml (rcv a b)
  generalize rcF (rcv a b) = fl at hF E1 E2
  generalize rcH (rcv a b) = hd at hH E1 E2
  generalize rcN (rcv a b) = n at E1 E2
  generalize (rcv a b).isSome = ok at E1 E2
  have R := eqRing_f fl hF 0 false K (by omega)
  have H := eqHeldS_f hd hH K (by omega)
  have hp := flTot_pos fl
  have hp2 := flTot_le fl hF.2
  have hF1 := hF.1
  have hq := hdTot_pos hd
  have MR := markRing_f fl hF 0 false K (by omega)
  have HR := heldRing_f fl hF 0 false K (by omega)
  have MH := markHd_g hd hH (1 + flTot fl) (by omega) (by omega) K (by omega)
  have HH := heldHd_g hd hH (1 + flTot fl) (by omega) (by omega) K (by omega)
  rw [szDisk_f a b ha hbl K (by omega), if_pos c, bs, if_neg (by omega)]
  simp only [U, V, M0, E1, E2, R, H, MR, HR, MH, HH, bs, Bool.not_true, Bool.false_eq_true, if_false, ne_eq, not_true, beq_self_eq_true]
  rw [if_neg (by omega), if_neg (by omega), if_neg (by omega), if_neg (by omega), if_neg (by omega)]
end Go.Vm.Pu
