/- JainIndex of a drawn list, where it is one: at most 10000, at least 10000 by the list's length, and 10000 for equal numbers. -/
import Derived.Test.YtmdpnhcfllociaaQFnJainx2
import Derived.Test.YtmdpnhcfllociaaLib
namespace Go.Proofs.Ytmdpnhcfllociaa.Pure
open Go.RowKit Go.Proofs.Ytmdpnhcfllociaa.QFnJain Go.Proofs.YtmdpnhcfllociaaW.PrintWords Go.Proofs.YtmdpnhcfllociaaW.PrintLast Go.Proofs.Ytmdpnhcfllociaa.Lib

/-- Jain's index of a list, by a running sum and sum of squares. -/
def jl (n s q : Int) : List Int → Int
  | [] => if s = 0 then -1 else wrap64 (Int.tdiv (wrap64 (wrap64 (10000 * s) * s)) (wrap64 (n * q)))
  | x :: xs => if 0 ≤ x ∧ x ≤ 100000 then jl n (s + x) (q + x * x) xs else -1

theorem sq_bounds (x : Int) (h0 : 0 ≤ x) (h1 : x ≤ 100000) : x ≤ x * x ∧ x * x ≤ 10000000000 := by
  constructor
  · by_cases h : x = 0
    · subst h; omega
    · have := Int.mul_le_mul_of_nonneg_left (show (1:Int) ≤ x by omega) h0
      omega
  · have := Int.mul_le_mul h1 h1 h0 (by omega)
    omega

theorem div_ok (n s q : Int) (hn1 : 1 ≤ n) (hn : n ≤ 40) (hs : s ≠ 0) (hs0 : 0 ≤ s) (hq : s ≤ q) (hq1 : q ≤ 10000000000 * n) : ¬ (wrap64 (n * q) = 0) := by
  have h1 : 1 * q ≤ n * q := Int.mul_le_mul_of_nonneg_right hn1 (by omega)
  have h2 : n * q ≤ 40 * q := Int.mul_le_mul_of_nonneg_right hn (by omega)
  rw [wrap_id (by omega) (by omega)]
  omega

theorem spec_jain_loop (x0 : List Int) (hn1 : 1 ≤ x0.length) (hn : x0.length ≤ 40) : ∀ (d k i : Nat) (s q : Int), i + d = x0.length → 0 ≤ s → s ≤ 100000 * i → s ≤ q → q ≤ 10000000000 * i → d < k →
    spec_JainIndex.l0 k x0 s q (i : Int) = some (jl x0.length s q (x0.drop i)) := by
  intro d
  induction d with
  | zero =>
    intro k i s q hi hs0 hs hq hq1 hk
    obtain ⟨k, rfl⟩ : ∃ m, k = m + 1 := ⟨k - 1, by omega⟩
    simp only [spec_JainIndex.l0]
    rw [if_neg (by omega), List.drop_eq_nil_of_le (by omega)]
    unfold jl
    by_cases e : s = 0
    · rw [if_pos e, if_pos e]
    · rw [if_neg e, if_neg e, if_neg (div_ok _ s q (by omega) (by omega) e hs0 hq (by omega))]
  | succ d ih =>
    intro k i s q hi hs0 hs hq hq1 hk
    obtain ⟨k, rfl⟩ : ∃ m, k = m + 1 := ⟨k - 1, by omega⟩
    have hlt : i < x0.length := by omega
    simp only [spec_JainIndex.l0]
    rw [if_pos (by omega), if_pos (by omega), rd_at x0 i hlt, drop_cons x0 i hlt]
    unfold jl spec_l01In.f
    generalize x0[i] = x
    by_cases c0 : 0 ≤ x
    · by_cases c1 : x ≤ 100000
      · rw [if_pos c0, if_pos ⟨c0, c1⟩]
        have hb := sq_bounds x c0 c1
        simp only [bs, decide_eq_true c1, if_true]
        rw [wrap_id (x := x * x) (by omega) (by omega), wrap_id (x := s + x) (by omega) (by omega), wrap_id (x := q + x * x) (by omega) (by omega), wrap_id (x := (i : Int) + 1) (by omega) (by omega), cast_succ]
        exact ih k (i + 1) _ _ (by omega) (by omega) (by omega) (by omega) (by omega) (by omega)
      · rw [if_pos c0, if_neg (by omega)]
        simp [c1]
    · rw [if_neg c0, if_neg (by omega)]
      simp

theorem impl_jain_loop (x0 : List Int) (hn1 : 1 ≤ x0.length) (hn : x0.length ≤ 40) : ∀ (d k i : Nat) (s q : Int), i + d = x0.length → 0 ≤ s → s ≤ 100000 * i → s ≤ q → q ≤ 10000000000 * i → d < k →
    impl_JainIndex.l0 k x0 s q x0 (x0.length : Int) (i : Int) = some (jl x0.length s q (x0.drop i)) := by
  intro d
  induction d with
  | zero =>
    intro k i s q hi hs0 hs hq hq1 hk
    obtain ⟨k, rfl⟩ : ∃ m, k = m + 1 := ⟨k - 1, by omega⟩
    simp only [impl_JainIndex.l0]
    rw [if_neg (by omega), List.drop_eq_nil_of_le (by omega)]
    unfold jl
    by_cases e : s = 0
    · rw [if_pos e, if_pos e]
    · rw [if_neg e, if_neg e, if_neg (div_ok _ s q (by omega) (by omega) e hs0 hq (by omega))]
  | succ d ih =>
    intro k i s q hi hs0 hs hq hq1 hk
    obtain ⟨k, rfl⟩ : ∃ m, k = m + 1 := ⟨k - 1, by omega⟩
    have hlt : i < x0.length := by omega
    simp only [impl_JainIndex.l0]
    rw [if_pos (by omega), if_pos (by omega), if_pos (by omega), rd_at x0 i hlt, drop_cons x0 i hlt]
    unfold jl
    generalize x0[i] = x
    by_cases c0 : x < 0
    · rw [if_pos c0, if_neg (by omega)]
    · by_cases c1 : x > 100000
      · rw [if_neg c0, if_pos c1, if_neg (by omega)]
      · rw [if_neg c0, if_neg c1, if_pos ⟨by omega, by omega⟩]
        have hb := sq_bounds x (by omega) (by omega)
        rw [wrap_id (x := x * x) (by omega) (by omega), wrap_id (x := s + x) (by omega) (by omega), wrap_id (x := q + x * x) (by omega) (by omega), wrap_id (x := (i : Int) + 1) (by omega) (by omega), cast_succ]
        exact ih k (i + 1) _ _ (by omega) (by omega) (by omega) (by omega) (by omega) (by omega)

/-- What both return. -/
def jain (l : List Int) : Int := if 1 ≤ l.length ∧ l.length ≤ 40 then jl l.length 0 0 l else -1

theorem spec_jain (l : List Int) (k : Nat) (hk : 41 < k) : spec_JainIndex.f k l = some (jain l) := by
  unfold spec_JainIndex.f jain spec_l01In.f
  by_cases c0 : 1 ≤ l.length
  · by_cases c1 : l.length ≤ 40
    · rw [if_pos (by omega), if_pos ⟨c0, c1⟩]
      simp only [bs]
      rw [if_pos (by simp; omega)]
      have := spec_jain_loop l c0 c1 l.length k 0 0 0 (by omega) (by omega) (by omega) (by omega) (by omega) (by omega)
      simpa using this
    · rw [if_pos (by omega), if_neg (by omega)]
      simp only [bs]
      rw [if_neg (by simp; omega)]
  · rw [if_neg (by omega), if_neg (by omega)]
    simp

theorem impl_jain (l : List Int) (k : Nat) (hk : 42 < k) : impl_JainIndex.f k l = some (jain l) := by
  obtain ⟨k, rfl⟩ : ∃ m, k = m + 1 := ⟨k - 1, by omega⟩
  unfold impl_JainIndex.f jain
  by_cases c0 : 1 ≤ l.length
  · by_cases c1 : l.length ≤ 40
    · rw [if_neg (by omega), if_pos ⟨c0, c1⟩]
      simp only [impl_JainIndex.j0]
      rw [if_neg (by simp; omega)]
      have := impl_jain_loop l c0 c1 l.length k 0 0 0 (by omega) (by omega) (by omega) (by omega) (by omega) (by omega)
      simpa using this
    · rw [if_neg (by omega), if_neg (by omega)]
      simp only [impl_JainIndex.j0]
      rw [if_pos (by simp; omega)]
  · rw [if_pos (by omega), if_neg (by omega)]
    simp only [impl_JainIndex.j0, if_true]
def sm : List Int → Int
  | [] => 0
  | x :: xs => x + sm xs
def sq : List Int → Int
  | [] => 0
  | x :: xs => x * x + sq xs
def fin (n s q : Int) : Int := if s = 0 then -1 else wrap64 (Int.tdiv (wrap64 (wrap64 (10000 * s) * s)) (wrap64 (n * q)))
theorem jl_good (n : Int) : ∀ (l : List Int) (s q : Int), (∀ x ∈ l, 0 ≤ x ∧ x ≤ 100000) → jl n s q l = fin n (s + sm l) (q + sq l) := by
  intro l
  induction l with
  | nil => intro s q _; simp [jl, fin, sm, sq]
  | cons x xs ih =>
    intro s q h
    unfold jl
    rw [if_pos (h x (by simp)), ih _ _ (fun y hy => h y (by simp [hy]))]
    simp only [sm, sq, Int.add_assoc]
theorem jl_bad (n : Int) : ∀ (l : List Int) (s q : Int), ¬ (∀ x ∈ l, 0 ≤ x ∧ x ≤ 100000) → jl n s q l = -1 := by
  intro l
  induction l with
  | nil => intro s q h; exact absurd (fun x hx => by cases hx) h
  | cons x xs ih =>
    intro s q h
    unfold jl
    by_cases c : 0 ≤ x ∧ x ≤ 100000
    · rw [if_pos c]
      refine ih _ _ (fun hh => h (fun y hy => ?_))
      rcases List.mem_cons.1 hy with rfl | hy
      · exact c
      · exact hh y hy
    · rw [if_neg c]
theorem sq_nonneg' (x : Int) : 0 ≤ x * x := by
  rcases Int.le_total 0 x with h | h
  · exact Int.mul_nonneg h h
  · have := Int.mul_nonneg (show 0 ≤ -x by omega) (show 0 ≤ -x by omega)
    rwa [Int.neg_mul_neg] at this
theorem sm_range : ∀ l : List Int, (∀ x ∈ l, 0 ≤ x ∧ x ≤ 100000) → 0 ≤ sm l ∧ sm l ≤ 100000 * l.length ∧ sm l ≤ sq l ∧ sq l ≤ 10000000000 * l.length := by
  intro l
  induction l with
  | nil => intro _; simp [sm, sq]
  | cons x xs ih =>
    intro h
    have h1 := ih (fun y hy => h y (by simp [hy]))
    have hx := h x (by simp)
    have hb := sq_bounds x hx.1 hx.2
    simp only [sm, sq, List.length_cons]
    omega
theorem cross (x : Int) : ∀ l : List Int, 2 * (x * sm l) ≤ l.length * (x * x) + sq l := by
  intro l
  induction l with
  | nil => simp [sm, sq]
  | cons y ys ih =>
    have h := sq_nonneg' (x - y)
    simp only [sm, sq, List.length_cons]
    grind
theorem cauchy : ∀ l : List Int, sm l * sm l ≤ l.length * sq l := by
  intro l
  induction l with
  | nil => simp [sm, sq]
  | cons y ys ih =>
    have h := cross y ys
    simp only [sm, sq, List.length_cons]
    grind
theorem sq_le_sm : ∀ l : List Int, (∀ x ∈ l, 0 ≤ x ∧ x ≤ 100000) → sq l ≤ sm l * sm l := by
  intro l
  induction l with
  | nil => intro _; simp [sm, sq]
  | cons y ys ih =>
    intro h
    have h1 := ih (fun z hz => h z (by simp [hz]))
    have hy := h y (by simp)
    have hs := sm_range ys (fun z hz => h z (by simp [hz]))
    have := Int.mul_nonneg hy.1 hs.1
    simp only [sm, sq]
    grind
theorem sm_rep (c : Int) : ∀ n : Nat, sm (List.replicate n c) = n * c ∧ sq (List.replicate n c) = n * (c * c) := by
  intro n
  induction n with
  | zero => simp [sm, sq]
  | succ n ih =>
    simp only [List.replicate_succ, sm, sq, ih.1, ih.2]
    grind
/-- The index of a good list, as plain division. -/
theorem fin_good (l : List Int) (h1 : 1 ≤ l.length) (h40 : l.length ≤ 40) (h : ∀ x ∈ l, 0 ≤ x ∧ x ≤ 100000) (hs : sm l ≠ 0) :
    fin l.length (0 + sm l) (0 + sq l) = (10000 * (sm l * sm l)) / (l.length * sq l) ∧ 0 < (l.length : Int) * sq l := by
  have hr := sm_range l h
  have hc := cauchy l
  have hq : 0 < (l.length : Int) * sq l := Int.mul_pos (by omega) (by omega)
  have hss : sm l * sm l ≤ 4000000 * 4000000 := Int.mul_le_mul (by omega) (by omega) hr.1 (by omega)
  have hss0 : 0 ≤ sm l * sm l := sq_nonneg' _
  have hnq : (l.length : Int) * sq l ≤ 40 * 400000000000 := Int.mul_le_mul (by omega) (by omega) (by omega) (by omega)
  refine ⟨?_, hq⟩
  unfold fin
  rw [Int.zero_add, Int.zero_add, if_neg hs, wrap_id (x := 10000 * sm l) (by omega) (by omega), Int.mul_assoc, wrap_id (x := 10000 * (sm l * sm l)) (by omega) (by omega), wrap_id (x := (l.length : Int) * sq l) (by omega) (by omega),
    Int.tdiv_eq_ediv_of_nonneg (by omega)]
  have h0 : 0 ≤ 10000 * (sm l * sm l) / ((l.length : Int) * sq l) := Int.ediv_nonneg (by omega) (by omega)
  have h2 : 10000 * (sm l * sm l) / ((l.length : Int) * sq l) ≤ 10000 * (sm l * sm l) := Int.ediv_le_self _ (by omega)
  exact wrap_id (by omega) (by omega)
/-- What a draw from a reader of bytes answers: a value of which P holds, and the reader's place and state behind it. -/
def Dr {α : Type} (r : Option (α × Int × Int)) (P : α → Prop) : Prop := ∃ x i h, r = some (x, i, h) ∧ 0 ≤ i ∧ P x
theorem and255 (x : Int) : 0 ≤ Go.bits .and .i64 x 255 ∧ Go.bits .and .i64 x 255 ≤ 255 := by
  have h : (Go.bits .and .i64 x 255) = IntKind.i64.wrap (((BitVec.ofInt 64 x) &&& (BitVec.ofInt 64 255)).toNat : Int) := rfl
  have hb : ((BitVec.ofInt 64 x) &&& (BitVec.ofInt 64 255)).toNat ≤ 255 := by
    rw [BitVec.toNat_and]
    exact Nat.and_le_right
  rw [h]
  generalize ((BitVec.ofInt 64 x) &&& (BitVec.ofInt 64 255)).toNat = m at hb
  unfold IntKind.wrap
  have e : (m : Int) % 2 ^ IntKind.i64.bits = m := by
    show (m : Int) % 2 ^ 64 = m
    omega
  have e2 : ¬ ((m : Int) ≥ 2 ^ (IntKind.i64.bits - 1)) := by
    show ¬ ((m : Int) ≥ 2 ^ 63)
    omega
  simp only [e]
  simp [e2]
  omega
theorem byte_dr (b : List Int) (hb : b.length ≤ 140737488351232) (i h : Int) (hi : 0 ≤ i) : Dr (spec_l01Byte.f b i h) (fun x => 0 ≤ x ∧ x ≤ 255) := by
  unfold spec_l01Byte.f
  by_cases c : i < (b.length : Int)
  · rw [if_pos c, if_pos hi]
    exact ⟨_, _, _, rfl, by rw [wrap_id (by omega) (by omega)]; omega, and255 _⟩
  · rw [if_neg c]
    exact ⟨_, _, _, rfl, hi, and255 _⟩
theorem below_dr (b : List Int) (hb : b.length ≤ 140737488351232) (i h n : Int) (hi : 0 ≤ i) : Dr (spec_l01Below.f b i h n) (fun x => 0 ≤ x ∧ (n ≤ 0 → x = 0) ∧ (0 < n → x < n)) := by
  unfold spec_l01Below.f
  by_cases c : n ≤ 0
  · rw [if_pos c]
    exact ⟨_, _, _, rfl, hi, by omega⟩
  · rw [if_neg c]
    obtain ⟨x, i1, h1, e1, p1, q1⟩ := byte_dr b hb i h hi
    rw [e1]
    by_cases c1 : n ≤ 256
    · rw [if_pos c1]
      simp only [bs]
      rw [if_neg (by omega)]
      refine ⟨_, _, _, rfl, p1, ?_⟩
      rw [Int.tmod_eq_emod_of_nonneg (by omega)]
      have := Int.emod_nonneg x (show n ≠ 0 by omega)
      have := Int.emod_lt_of_pos x (show 0 < n by omega)
      omega
    · rw [if_neg c1]
      simp only [bs]
      obtain ⟨y, i2, h2, e2, p2, q2⟩ := byte_dr b hb i1 h1 p1
      rw [e2]
      simp only [bs]
      obtain ⟨z, i3, h3, e3, p3, q3⟩ := byte_dr b hb i2 h2 p2
      rw [e3]
      simp only [bs]
      rw [if_neg (by omega)]
      refine ⟨_, _, _, rfl, p3, ?_⟩
      rw [wrap_id (x := x * 65536) (by omega) (by omega), wrap_id (x := y * 256) (by omega) (by omega), wrap_id (x := x * 65536 + y * 256) (by omega) (by omega), wrap_id (x := x * 65536 + y * 256 + z) (by omega) (by omega),
        Int.tmod_eq_emod_of_nonneg (by omega)]
      have := Int.emod_nonneg (x * 65536 + y * 256 + z) (show n ≠ 0 by omega)
      have := Int.emod_lt_of_pos (x * 65536 + y * 256 + z) (show 0 < n by omega)
      omega
theorem new_ev (b : List Int) (hb : b.length ≤ 140737488351232) : ∃ h, Ev (fun k => spec_l01New.f k b) (b, 0, h) := by
  have key : ∀ (d i : Nat) (x3 : Int), i + d = b.length → ∃ h, ∀ k, d < k → spec_l01New.l0 k b x3 (i : Int) = some (b, 0, h) := by
    intro d
    induction d with
    | zero =>
      intro i x3 hi
      refine ⟨x3, fun k hk => ?_⟩
      obtain ⟨k, rfl⟩ : ∃ m, k = m + 1 := ⟨k - 1, by omega⟩
      simp only [spec_l01New.l0]
      rw [if_neg (by omega)]
    | succ d ih =>
      intro i x3 hi
      by_cases c : (i : Int) < 4000
      · obtain ⟨h, hh⟩ := ih (i + 1) (Go.bits .and .i64 (wrap64 ((wrap64 ((wrap64 (x3 * 149)) + (wrap64 (rd b (i : Int))))) + 11)) 1073741823) (by omega)
        refine ⟨h, fun k hk => ?_⟩
        obtain ⟨k, rfl⟩ : ∃ m, k = m + 1 := ⟨k - 1, by omega⟩
        simp only [spec_l01New.l0]
        rw [if_pos (by omega), if_pos c, if_pos (by omega), wrap_id (x := (i : Int) + 1) (by omega) (by omega), cast_succ]
        exact hh k (by omega)
      · refine ⟨x3, fun k hk => ?_⟩
        obtain ⟨k, rfl⟩ : ∃ m, k = m + 1 := ⟨k - 1, by omega⟩
        simp only [spec_l01New.l0]
        rw [if_pos (by omega), if_neg c]
  obtain ⟨h, hh⟩ := key b.length 0 (wrap64 (710710 + (b.length : Int))) (by omega)
  exact ⟨h, ev_of_lt b.length (fun k hk => hh k hk)⟩
theorem size_f (b : List Int) (hb : b.length ≤ 140737488351232) (m : Int) (h2 : 2 ≤ m) : ∃ x, spec_l01Size.f b m = some x ∧ 2 ≤ x ∧ x ≤ m := by
  unfold spec_l01Size.f
  have : 0 ≤ (b.length : Int) / 16 ∧ (b.length : Int) / 16 ≤ 140737488351232 := by omega
  rw [wrap_id (x := (b.length : Int) / 16) (by omega) (by omega), wrap_id (by omega) (by omega)]
  by_cases c : 2 + (b.length : Int) / 16 > m
  · rw [if_pos c]
    exact ⟨_, rfl, by omega, by omega⟩
  · rw [if_neg c]
    exact ⟨_, rfl, by omega, by omega⟩
theorem once_dr (b : List Int) (hb : b.length ≤ 140737488351232) (i h n : Int) (hi : 0 ≤ i) : Dr (spec_l01Once.f b i h n) (fun _ => True) := by
  obtain ⟨x, i1, h1, e1, p1, q1⟩ := below_dr b hb i h n hi
  unfold spec_l01Once.f
  rw [e1]
  exact ⟨_, _, _, rfl, p1, trivial⟩
theorem pick_dr (b : List Int) (hb : b.length ≤ 140737488351232) (i h : Int) (l : List Int) (hl : l ≠ []) (hi : 0 ≤ i) : Dr (spec_l01PickInt.f b i h l) (fun x => x ∈ l) := by
  obtain ⟨x, i1, h1, e1, p1, q1⟩ := below_dr b hb i h (l.length : Int) hi
  have hpos : 0 < l.length := List.length_pos_iff.mpr hl
  unfold spec_l01PickInt.f
  rw [e1]
  simp only [bs]
  rw [if_pos (by omega), if_pos (by omega)]
  exact ⟨_, _, _, rfl, p1, rd_mem l x (by omega) (by omega)⟩
theorem fill_loop (b : List Int) (hb : b.length ≤ 140737488351232) (n s : Int) (hn : n ≤ 41) : ∀ (d i : Nat) (out : List Int) (a h : Int), out.length = i → n ≤ (i : Int) + d → (i : Int) ≤ 41 → 0 ≤ a →
    (0 < n → (i : Int) ≤ n) → (n ≤ 0 → i = 0) → ∃ l : List Int, l.length ≤ 41 ∧ ∀ k, d < k → spec_DrawJainIndex.l0 k out n s (i : Int) b a h = some l := by
  intro d
  induction d with
  | zero =>
    intro i out a h ho hi h41 ha hni hn0
    obtain ⟨x, a1, h1, e1, p1, q1⟩ := once_dr b hb a h 15 ha
    cases x with
    | false =>
      refine ⟨out, by omega, fun k hk => ?_⟩
      obtain ⟨k, rfl⟩ : ∃ m, k = m + 1 := ⟨k - 1, by omega⟩
      simp only [spec_DrawJainIndex.l0]
      rw [if_neg (by omega), e1]
      simp
    | true =>
      by_cases c : n > 0
      · obtain ⟨y, a2, h2, e2, p2, q2⟩ := pick_dr b hb a1 h1 [(-1), 100001] (by simp) p1
        refine ⟨out.set (0 : Int).toNat y, by simp; omega, fun k hk => ?_⟩
        obtain ⟨k, rfl⟩ : ∃ m, k = m + 1 := ⟨k - 1, by omega⟩
        simp only [spec_DrawJainIndex.l0]
        rw [if_neg (by omega), e1]
        simp only [bs, if_true]
        rw [if_pos c, e2]
        simp only [bs]
        rw [if_pos (by omega)]
      · refine ⟨out, by omega, fun k hk => ?_⟩
        obtain ⟨k, rfl⟩ : ∃ m, k = m + 1 := ⟨k - 1, by omega⟩
        simp only [spec_DrawJainIndex.l0]
        rw [if_neg (by omega), e1]
        simp only [bs, if_true]
        rw [if_neg c]
  | succ d ih =>
    intro i out a h ho hi h41 ha hni hn0
    by_cases c : (i : Int) < n
    · obtain ⟨x, a1, h1, e1, p1, q1⟩ := below_dr b hb a h 100001 ha
      obtain ⟨y, a2, h2, e2, p2, q2⟩ := pick_dr b hb a1 h1 [0, 100000, s, s, x] (by simp) p1
      obtain ⟨l, hl, hh⟩ := ih (i + 1) (out ++ [y]) a2 h2 (by simp [ho]) (by omega) (by omega) p2 (by omega) (by omega)
      refine ⟨l, hl, fun k hk => ?_⟩
      obtain ⟨k, rfl⟩ : ∃ m, k = m + 1 := ⟨k - 1, by omega⟩
      simp only [spec_DrawJainIndex.l0]
      rw [if_pos c, e1]
      simp only [bs]
      rw [e2]
      simp only [bs]
      rw [if_pos (by omega), wrap_id (x := (i : Int) + 1) (by omega) (by omega), cast_succ]
      exact hh k (by omega)
    · obtain ⟨l, hl, hh⟩ := ih i out a h ho (by omega) h41 ha hni hn0
      exact ⟨l, hl, fun k hk => hh k (by omega)⟩
theorem draw_rest (b : List Int) (hb : b.length ≤ 140737488351232) (n a h : Int) (ha : 0 ≤ a) (hn : n ≤ 41) : ∃ l : List Int, l.length ≤ 41 ∧ ∀ k, 43 < k → spec_DrawJainIndex.j0 k [] n b a h = some l := by
  obtain ⟨x3, a3, h3, e3, p3, q3⟩ := below_dr b hb a h 1000 ha
  obtain ⟨l, hl, hh⟩ := fill_loop b hb n x3 hn 41 0 [] a3 h3 rfl (by omega) (by omega) p3 (by omega) (by omega)
  refine ⟨l, hl, fun k hk => ?_⟩
  obtain ⟨k, rfl⟩ : ∃ m, k = m + 1 := ⟨k - 1, by omega⟩
  simp only [spec_DrawJainIndex.j0]
  rw [e3]
  simp only [bs]
  exact hh k (by omega)
theorem draw_at (b : List Int) (k : Nat) (h0 z x1 a1 h1 a2 h2 : Int) (x2 : Bool) (r : Option (List Int)) (hk : spec_l01New.f k b = some (b, 0, h0)) (e0 : spec_l01Size.f b 12 = some z) (e1 : spec_l01Below.f b 0 h0 z = some (x1, a1, h1))
    (e2 : spec_l01Once.f b a1 h1 12 = some (x2, a2, h2)) (hr : (if x2 = true then ((spec_l01PickInt.f b a2 h2 (([0, 40, 41] : List Int))).bind fun bt148 => (spec_DrawJainIndex.j0 k [] bt148.1 b bt148.2.1 bt148.2.2)) else (spec_DrawJainIndex.j0 k [] (wrap64 (1 + x1)) b a2 h2)) = r) :
    spec_DrawJainIndex.f k b = r := by
  unfold spec_DrawJainIndex.f
  rw [hk]
  simp only [bs]
  rw [e0]
  simp only [bs]
  rw [e1]
  simp only [bs]
  rw [e2]
  simp only [bs]
  exact hr
theorem draw_ev (b : List Int) (hb : b.length ≤ 140737488351232) : ∃ l : List Int, l.length ≤ 41 ∧ Ev (fun k => spec_DrawJainIndex.f k b) l := by
  obtain ⟨h0, K0, hK0⟩ := new_ev b hb
  obtain ⟨z, e0, z1, z2⟩ := size_f b hb 12 (by omega)
  obtain ⟨x1, a1, h1, e1, p1, q1⟩ := below_dr b hb 0 h0 z (by omega)
  obtain ⟨x2, a2, h2, e2, p2, q2⟩ := once_dr b hb a1 h1 12 p1
  cases x2 with
  | true =>
    obtain ⟨x3, a3, h3, e3, p3, q3⟩ := pick_dr b hb a2 h2 [0, 40, 41] (by simp) p2
    obtain ⟨l, hl, hh⟩ := draw_rest b hb x3 a3 h3 p3 (by simp at q3; omega)
    refine ⟨l, hl, K0 + 44, fun k hk => draw_at b k h0 z x1 a1 h1 a2 h2 true _ (hK0 k (by omega)) e0 e1 e2 ?_⟩
    rw [if_pos rfl, e3]
    simp only [bs]
    exact hh k (by omega)
  | false =>
    obtain ⟨l, hl, hh⟩ := draw_rest b hb (1 + x1) a2 h2 p2 (by omega)
    refine ⟨l, hl, K0 + 44, fun k hk => draw_at b k h0 z x1 a1 h1 a2 h2 false _ (hK0 k (by omega)) e0 e1 e2 ?_⟩
    rw [if_neg (by decide), wrap_id (x := 1 + x1) (by omega) (by omega)]
    exact hh k (by omega)
theorem cp_loop (x0 : List Int) (hn : x0.length ≤ 1000000) : ∀ (d k i : Nat), i + d = x0.length → d < k → laws_cp.l0 k x0 (x0.take i) (i : Int) = some x0 := by
  intro d
  induction d with
  | zero =>
    intro k i hi hk
    obtain ⟨k, rfl⟩ : ∃ m, k = m + 1 := ⟨k - 1, by omega⟩
    simp only [laws_cp.l0]
    rw [if_neg (by omega), List.take_of_length_le (by omega)]
  | succ d ih =>
    intro k i hi hk
    obtain ⟨k, rfl⟩ : ∃ m, k = m + 1 := ⟨k - 1, by omega⟩
    have hlt : i < x0.length := by omega
    have hl : (x0.take i).length ≤ 1000000 := by have := List.length_take_le i x0; omega
    simp only [laws_cp.l0]
    rw [if_pos (by omega), if_pos (by omega), if_pos (by omega), rd_at x0 i hlt, wrap_id (x := (i : Int) + 1) (by omega) (by omega), cast_succ, ← List.take_succ_eq_append_getElem hlt]
    exact ih k (i + 1) (by omega) (by omega)
theorem cp_f (l : List Int) (hn : l.length ≤ 1000000) (k : Nat) (hk : l.length < k) : laws_cp.f k l = some l := by
  unfold laws_cp.f
  have := cp_loop l hn l.length k 0 (by omega) hk
  simpa using this
theorem at_f (b : List Int) (hb : b.length ≤ 140737488351232) (hw : ∀ x ∈ b, (Lit.int .u8 x).wf = true) : ∃ x, laws_at.f b 0 = some x ∧ 0 ≤ x ∧ x ≤ 255 := by
  unfold laws_at.f
  by_cases c : (0 : Int) < (b.length : Int)
  · rw [if_pos c, if_pos (by omega)]
    have := hw _ (rd_mem b 0 (by omega) c)
    have hr : 0 ≤ rd b 0 ∧ rd b 0 ≤ 255 := by
      simp only [Lit.wf, Bool.and_eq_true, decide_eq_true_eq] at this
      exact this
    exact ⟨_, rfl, by rw [wrap_id (by omega) (by omega)]; exact hr⟩
  · rw [if_neg c]
    have : b.length = 0 := by omega
    rw [this]
    exact ⟨_, rfl, by simp [wrap64], by simp [wrap64]⟩
/-- The law's loop: so many numbers c, then the tests. -/
theorem law_loop (b l : List Int) (v c : Int) (hc : laws_at.f b 0 = some c) (hc0 : 0 ≤ c) (hc1 : c ≤ 255) (h1 : 1 ≤ l.length) (h40 : l.length ≤ 40) (hv : v ≤ 10000) (hv2 : 10000 / (l.length : Int) ≤ v)
    (hsame : jain (List.replicate l.length (1 + c)) = 10000) : ∀ (d k i : Nat), i + d = l.length → d + 43 < k → laws_FnJain.l0 k b l v (List.replicate i (1 + c)) (i : Int) = some true := by
  intro d
  induction d with
  | zero =>
    intro k i hi hk
    obtain ⟨k, rfl⟩ : ∃ m, k = m + 1 := ⟨k - 1, by omega⟩
    obtain rfl : i = l.length := by omega
    have hd : 0 ≤ 10000 / (l.length : Int) := Int.ediv_nonneg (by omega) (by omega)
    simp only [laws_FnJain.l0]
    rw [if_neg (by omega), if_pos hv, if_neg (by omega), wrap_id (by omega) (by omega), if_pos hv2, impl_jain _ k (by omega), hsame]
    simp
  | succ d ih =>
    intro k i hi hk
    obtain ⟨k, rfl⟩ : ∃ m, k = m + 1 := ⟨k - 1, by omega⟩
    simp only [laws_FnJain.l0]
    rw [if_pos (by omega), hc]
    simp only [bs]
    rw [if_pos (by simp; omega), wrap_id (x := 1 + c) (by omega) (by omega), wrap_id (x := (i : Int) + 1) (by omega) (by omega), cast_succ, ← List.replicate_succ']
    exact ih k (i + 1) (by omega) (by omega)
theorem jain_same (n : Nat) (h1 : 1 ≤ n) (h40 : n ≤ 40) (c : Int) (hc0 : 1 ≤ c) (hc1 : c ≤ 256) : jain (List.replicate n c) = 10000 := by
  have hg : ∀ x ∈ List.replicate n c, 0 ≤ x ∧ x ≤ 100000 := by
    intro x hx
    rw [(List.mem_replicate.1 hx).2]
    omega
  have hs := sm_rep c n
  have hcc := sq_bounds c (by omega) (by omega)
  have hnc : 1 * 1 ≤ (n : Int) * c := Int.mul_le_mul (by omega) hc0 (by omega) (by omega)
  unfold jain
  rw [List.length_replicate, if_pos ⟨h1, h40⟩, jl_good _ _ _ _ hg]
  have hf := fin_good (List.replicate n c) (by simpa using h1) (by simpa using h40) hg (by rw [hs.1]; omega)
  rw [List.length_replicate] at hf
  rw [hf.1, hs.1, hs.2]
  rw [hs.2] at hf
  have e : 10000 * ((n : Int) * c * (n * c)) = 10000 * ((n : Int) * (n * (c * c))) := by grind
  rw [e]
  exact Int.mul_ediv_cancel _ (by omega)
theorem jain_range (l : List Int) (h : ¬ jain l < 0) : 1 ≤ l.length ∧ l.length ≤ 40 ∧ jain l ≤ 10000 ∧ 10000 / (l.length : Int) ≤ jain l := by
  unfold jain at h ⊢
  by_cases c : 1 ≤ l.length ∧ l.length ≤ 40
  · rw [if_pos c] at h ⊢
    by_cases g : ∀ x ∈ l, 0 ≤ x ∧ x ≤ 100000
    · rw [jl_good _ _ _ _ g] at h ⊢
      by_cases z : sm l = 0
      · exfalso
        apply h
        unfold fin
        rw [if_pos (by omega)]
        omega
      · obtain ⟨hf, hq⟩ := fin_good l c.1 c.2 g z
        rw [hf]
        refine ⟨c.1, c.2, ?_, ?_⟩
        · have hc := cauchy l
          exact Int.ediv_le_of_le_mul hq (by omega)
        · have h2 := sq_le_sm l g
          have h3 : 10000 / (l.length : Int) = (10000 * sq l) / ((l.length : Int) * sq l) := by
            rw [Int.mul_ediv_mul_of_pos_left]
            have := sm_range l g
            omega
          rw [h3]
          exact Int.ediv_le_ediv hq (by omega)
    · exfalso
      apply h
      rw [jl_bad _ _ _ _ g]
      omega
  · rw [if_neg c] at h
    omega

theorem FnJain : laws_FnJain.Pure := by
  intro b hb0 hb1 hw
  have hb : b.length ≤ 140737488351232 := by omega
  obtain ⟨l, hl, K0, hK0⟩ := draw_ev b hb
  refine ⟨K0 + 100, ?_⟩
  unfold laws_FnJain.f laws_big.f
  simp only [bs]
  by_cases c : (b.length : Int) > 1048576
  · rw [if_pos (by simpa using c)]
  · rw [if_neg (by simpa using c)]
    have := hK0 (K0 + 100) (by omega)
    simp only at this
    rw [this]
    simp only [bs]
    rw [spec_jain l _ (by omega)]
    simp only [bs]
    by_cases v : jain l < 0
    · rw [if_pos v]
    · rw [if_neg v, cp_f l (by omega) _ (by omega)]
      simp only [bs]
      rw [impl_jain l _ (by omega)]
      simp only [bs]
      obtain ⟨h1, h40, h3, h4⟩ := jain_range l v
      obtain ⟨x, hx, hx0, hx1⟩ := at_f b hb hw
      have := law_loop b l (jain l) x hx hx0 hx1 h1 h40 h3 h4 (jain_same _ h1 h40 _ (by omega) (by omega)) l.length (K0 + 100) 0 (by omega) (by omega)
      simpa using this

end Go.Proofs.Ytmdpnhcfllociaa.Pure
