/- CrashDisk of the program and of the reference answer alike for all disks and numbers, in memory of its own. -/
import Derived.Test.YtmdpnhcfllociaaQFnExactCrashDiskx5
import Derived.Test.YtmdpnhcfllociaaLib
namespace Go.Proofs.Ytmdpnhcfllociaa.Pure
open Go.RowKit Go.Proofs.Ytmdpnhcfllociaa.QFnExactCrashDisk Go.Proofs.YtmdpnhcfllociaaW.PrintWords Go.Proofs.YtmdpnhcfllociaaW.PrintLast Go.Proofs.YtmdpnhcfllociaaW.PrintMore Go.Proofs.Ytmdpnhcfllociaa.Lib

theorem toByteS_f (l : List Int) (hn : l.length ≤ 1048576) (k : Nat) (hk : l.length < k) : laws_toByteS.f k l = some l := by
  unfold laws_toByteS.f
  rw [if_pos (by omega), if_pos (by omega)]
  have := set_loop (fun k s i => laws_toByteS.l0 k l s i) l id 0 (by
    intro k s _
    simp only [laws_toByteS.l0]
    rw [if_neg (by omega)]) (by
    intro k i s h _ hs
    simp only [laws_toByteS.l0]
    rw [if_pos (by omega), if_pos (by omega), if_pos (by omega), rd_at l i h, wrap_next h (by omega)]
    rfl) k (List.replicate ((l.length : Int) : Int).toNat 0) (by omega) (by simp)
  simpa using this
theorem eqByteS_f (l : List Int) (hn : l.length ≤ 1048576) (k : Nat) (hk : l.length < k) : laws_eqByteS.f k l l = some true := by
  unfold laws_eqByteS.f
  rw [if_pos rfl]
  exact count_loop (fun k i => laws_eqByteS.l0 k l l i) l.length 0 true (by
    intro k _
    simp only [laws_eqByteS.l0]
    rw [if_neg (by omega)]) (by
    intro k i h _
    simp only [laws_eqByteS.l0, if_true]
    rw [if_pos (by omega), if_pos (by omega), if_pos (by omega), wrap_next h (by omega)]) k (by omega)
theorem szDisk_f (a b : List Int) (ha : a.length ≤ maxLen) (hb : b.length ≤ maxLen) : laws_szDisk.f a b 1048576 = some (if a.length + b.length ≤ 1048576 then 1048576 - (a.length : Int) - b.length else -1) := by
  unfold maxLen at ha hb
  unfold laws_szDisk.f laws_szByteS.f
  rw [wrap_id (x := 1048576 - (a.length : Int)) (by omega) (by omega)]
  by_cases c : (1048576 : Int) - a.length < 0
  · rw [if_pos c, if_neg (by omega)]
    simp only [bs]
    rw [if_pos (by omega)]
  · rw [if_neg c]
    simp only [bs]
    rw [if_neg c, wrap_id (by omega) (by omega)]
    by_cases c2 : (1048576 : Int) - a.length - b.length < 0
    · rw [if_pos c2, if_neg (by omega)]
      simp only [bs]
      rw [if_pos (by omega)]
    · rw [if_neg c2, if_pos (by omega)]
      simp only [bs]
      rw [if_neg c2]
theorem toDisk_f (a b : List Int) (h : a.length + b.length ≤ 1048576) (k : Nat) (hk : 1048577 < k) : laws_toDisk.f k a b = some (a, b) := by
  unfold laws_toDisk.f
  simp only [toByteS_f a (by omega) k (by omega), toByteS_f b (by omega) k (by omega), bs]
theorem eqDisk_f (a b : List Int) (h : a.length + b.length ≤ 1048576) (k : Nat) (hk : 1048577 < k) : laws_eqDisk.f k a b a b = some true := by
  unfold laws_eqDisk.f
  simp only [eqByteS_f a (by omega) k (by omega), eqByteS_f b (by omega) k (by omega), bs, if_true]
/-- So many bytes, counted from a number on. -/
def markL (a : Int) : Nat → List Int
  | 0 => []
  | n + 1 => (a % 256) :: markL (a + 1) n
theorem markL_length (n : Nat) : ∀ a, (markL a n).length = n := by
  induction n with
  | zero => intro a; rfl
  | succ n ih => intro a; simp [markL, ih]
theorem mark_loop (n : Nat) (hn : n ≤ 2000000) : ∀ (d k i : Nat) (x0 : List Int) (x1 : Int), i + d = n → x0.length = n → d < k → 0 ≤ x1 → x1 ≤ 4000000 + i →
    laws_markByteS.l0 k x0 x1 (i : Int) = some (x1 + d, x0.take i ++ markL x1 d) := by
  intro d
  induction d with
  | zero =>
    intro k i x0 x1 hi hl hk h0 h1
    obtain ⟨k, rfl⟩ : ∃ m, k = m + 1 := ⟨k - 1, by omega⟩
    simp only [laws_markByteS.l0]
    rw [if_neg (by omega), List.take_of_length_le (by omega)]
    simp [markL]
  | succ d ih =>
    intro k i x0 x1 hi hl hk h0 h1
    obtain ⟨k, rfl⟩ : ∃ m, k = m + 1 := ⟨k - 1, by omega⟩
    simp only [laws_markByteS.l0]
    rw [if_pos (by omega), if_pos (by omega), wrap_next (show i < n by omega) (by omega), wrap_id (x := x1 + 1) (by omega) (by omega), ih k (i + 1) _ _ (by omega) (by simpa using hl) (by omega) (by omega) (by omega)]
    simp only [Int.toNat_natCast]
    rw [set_take _ _ _ (by omega), List.append_assoc]
    simp only [markL, List.singleton_append]
    rw [show x1 + 1 + (d : Int) = x1 + ((d + 1 : Nat) : Int) by omega]
theorem mark_f (l : List Int) (a : Int) (hn : l.length ≤ 2000000) (h0 : 0 ≤ a) (h1 : a ≤ 4000000) (k : Nat) (hk : l.length < k) : laws_markByteS.f k l a = some (a + l.length, markL a l.length) := by
  unfold laws_markByteS.f
  have := mark_loop l.length hn l.length k 0 l a (by omega) rfl hk h0 (by omega)
  simpa using this
theorem held_loop (x0 : List Int) (hn : x0.length ≤ 2000000) : ∀ (d k i : Nat) (x1 : Int), i + d = x0.length → x0.drop i = markL x1 d → d < k → 0 ≤ x1 → x1 ≤ 4000000 + i →
    laws_heldByteS.l0 k x0 x1 (i : Int) = some (x1 + d) := by
  intro d
  induction d with
  | zero =>
    intro k i x1 hi hl hk h0 h1
    obtain ⟨k, rfl⟩ : ∃ m, k = m + 1 := ⟨k - 1, by omega⟩
    simp only [laws_heldByteS.l0]
    rw [if_neg (by omega)]
    simp
  | succ d ih =>
    intro k i x1 hi hl hk h0 h1
    obtain ⟨k, rfl⟩ : ∃ m, k = m + 1 := ⟨k - 1, by omega⟩
    rw [drop_cons x0 i (by omega)] at hl
    simp only [markL, List.cons.injEq] at hl
    simp only [laws_heldByteS.l0]
    rw [if_pos (by omega), if_pos (by omega), rd_at x0 i (by omega), if_pos hl.1, wrap_next (show i < x0.length by omega) (by omega), wrap_id (x := x1 + 1) (by omega) (by omega), ih k (i + 1) _ (by omega) hl.2 (by omega) (by omega) (by omega),
      show x1 + 1 + (d : Int) = x1 + ((d + 1 : Nat) : Int) by omega]
theorem held_f (a : Int) (n : Nat) (hn : n ≤ 2000000) (h0 : 0 ≤ a) (h1 : a ≤ 4000000) (k : Nat) (hk : n < k) : laws_heldByteS.f k (markL a n) a = some (a + n) := by
  unfold laws_heldByteS.f
  have := held_loop (markL a n) (by rw [markL_length]; exact hn) n k 0 a (by rw [markL_length]; omega) rfl hk h0 (by omega)
  simpa using this
theorem markDisk_f (a b : List Int) (h : a.length + b.length ≤ 1048576) (k : Nat) (hk : 1048577 < k) : laws_markDisk.f k a b 1 = some ((1 : Int) + a.length + b.length, markL 1 a.length, markL (1 + a.length) b.length) := by
  unfold laws_markDisk.f
  simp only [mark_f a 1 (by omega) (by omega) (by omega) k (by omega), mark_f b (1 + a.length) (by omega) (by omega) (by omega) k (by omega), bs]
theorem heldDisk_f (n m : Nat) (h : n + m ≤ 1048576) (k : Nat) (hk : 1048577 < k) : laws_heldDisk.f k (markL 1 n) (markL (1 + n) m) 1 = some ((1 : Int) + n + m) := by
  unfold laws_heldDisk.f
  simp only [held_f 1 n (by omega) (by omega) (by omega) k (by omega), bs]
  rw [if_neg (by omega), held_f (1 + n) m (by omega) (by omega) (by omega) k (by omega)]
  simp only [bs]
  rw [if_neg (by omega)]
theorem bytes_f (l : List Int) (hn : l.length ≤ 2000000) (k : Nat) (hk : l.length < k) : spec_l01Bytes.f k l = some l := by
  unfold spec_l01Bytes.f
  have := append_loop (fun k s i => spec_l01Bytes.l0 k l s i) l id 0 [] (by
    intro k s _
    simp only [spec_l01Bytes.l0]
    rw [if_neg (by omega)]) (by
    intro k i s h _ hs
    simp only [List.length_nil] at hs
    simp only [spec_l01Bytes.l0]
    rw [if_pos (by omega), if_pos (by omega), if_pos (by omega), rd_at l i h, wrap_next h (by omega)]
    rfl) k (by omega)
  simpa using this
theorem join_f (a b : List Int) (ha : a.length ≤ 2000000) (hb : b.length ≤ 2000000) (k : Nat) (hk : a.length < k) (hk2 : b.length < k) : spec_l01Join.f k a b = some (a ++ b) := by
  unfold spec_l01Join.f
  rw [bytes_f a ha k hk]
  simp only [bs]
  have := append_loop (fun k s i => spec_l01Join.l0 k b s i) b id 0 a (by
    intro k s _
    simp only [spec_l01Join.l0]
    rw [if_neg (by omega)]) (by
    intro k i s h _ hs
    simp only [spec_l01Join.l0]
    rw [if_pos (by omega), if_pos (by omega), if_pos (by omega), rd_at b i h, wrap_next h (by omega)]
    rfl) k (by omega)
  simpa using this
theorem specDiskOk_f (a b : List Int) (h : a.length + b.length ≤ 1048576) : spec_DiskOk.f a b = some (decide (a.length + b.length ≤ 60000)) := by
  unfold spec_DiskOk.f
  by_cases c : (a.length : Int) ≤ 60000
  · rw [if_pos c, wrap_id (by omega) (by omega)]
    congr 1
    exact decide_eq_decide.mpr (by omega)
  · rw [if_neg c, decide_eq_false (by omega)]
theorem isDisk_f (a b : List Int) (h : a.length + b.length ≤ 1048576) : impl_isDisk.f a b = some (decide (a.length + b.length ≤ 60000)) := by
  unfold impl_isDisk.f
  rw [wrap_id (by omega) (by omega)]
  congr 1
  exact decide_eq_decide.mpr (by omega)
theorem l18Copy_f (a b : List Int) (h : a.length + b.length ≤ 1048576) (k : Nat) (hk : 1048577 < k) : spec_l18Copy.f k a b = some (a, b) := by
  unfold spec_l18Copy.f
  simp only [bytes_f a (by omega) k (by omega), bytes_f b (by omega) k (by omega), bs]
theorem copyDisk_f (a b : List Int) (h : a.length + b.length ≤ 1048576) : impl_copyDisk.f a b = some (a, b) := by
  unfold impl_copyDisk.f
  simp only [bs]
  rw [if_pos (by simp; omega), if_pos (by simp; omega)]
  simp
/-- How many loose bytes stay. -/
def keepN (n : Nat) (x : Int) : Nat := if x < 0 then 0 else if x > n then n else x.toNat
theorem keepN_le (n : Nat) (x : Int) : keepN n x ≤ n := by unfold keepN; split <;> (try split) <;> omega
def crashP (a b : List Int) (x : Int) : List Int × List Int := if a.length + b.length ≤ 60000 then (a ++ b.take (keepN b.length x), []) else (a, b)
theorem crashP_length (a b : List Int) (x : Int) : (crashP a b x).1.length + (crashP a b x).2.length ≤ a.length + b.length := by
  unfold crashP; split
  · simp; have := keepN_le b.length x; omega
  · simp
theorem spec_crash (a b : List Int) (x : Int) (h : a.length + b.length ≤ 1048576) (k : Nat) (hk : 1048577 < k) : spec_CrashDisk.f k a b x = some (crashP a b x) := by
  unfold spec_CrashDisk.f crashP
  rw [specDiskOk_f a b h]
  simp only [bs]
  by_cases c : a.length + b.length ≤ 60000
  · rw [if_pos (by simpa using c), if_pos c]
    by_cases c1 : x < 0
    · rw [if_pos c1, if_neg (by omega), if_pos (by omega), join_f a (b.take 0) (by omega) (by simp) k (by omega) (by simp; omega)]
      simp only [bs]
      unfold keepN
      rw [if_pos c1]
    · rw [if_neg c1]
      by_cases c2 : x > (b.length : Int)
      · rw [if_pos c2, if_pos (by omega), if_pos (by omega), join_f a _ (by omega) (by rw [List.length_take]; omega) k (by omega) (by rw [List.length_take]; omega)]
        simp only [bs]
        unfold keepN
        rw [if_neg c1, if_pos c2]
        rfl
      · rw [if_neg c2, if_pos (by omega), if_pos (by omega), join_f a _ (by omega) (by rw [List.length_take]; omega) k (by omega) (by rw [List.length_take]; omega)]
        simp only [bs]
        unfold keepN
        rw [if_neg c1, if_neg c2]
  · rw [if_neg (by simpa using c), if_neg c, l18Copy_f a b h k hk]
    simp only [bs]
theorem impl_crash (a b : List Int) (x : Int) (h : a.length + b.length ≤ 1048576) : impl_CrashDisk.f a b x = some (crashP a b x) := by
  have e : mn (mx x 0) (b.length : Int) = (keepN b.length x : Nat) := by
    unfold mn mx keepN
    split <;> split <;> (try split) <;> (try split) <;> omega
  have hk := keepN_le b.length x
  unfold impl_CrashDisk.f crashP
  rw [copyDisk_f a b h]
  simp only [bs]
  rw [isDisk_f a b h, e]
  simp only [bs]
  by_cases c : a.length + b.length ≤ 60000
  · rw [if_pos (by simpa using c), if_pos c, if_pos (by omega), if_pos (by omega), if_pos (by rw [List.length_take]; omega)]
    rfl
  · rw [if_neg (by simpa using c), if_neg c]
theorem FnExactCrashDisk : laws_FnExactCrashDisk.Pure := by
  intro a b x ⟨⟨ha, _⟩, ⟨hb, _⟩⟩ _
  refine ⟨1048580, ?_⟩
  unfold laws_FnExactCrashDisk.f
  rw [szDisk_f a b ha hb]
  simp only [bs]
  by_cases c : a.length + b.length ≤ 1048576
  · have hl := crashP_length a b x
    rw [if_pos c, if_neg (by omega)]
    simp only [toDisk_f a b c _ (show 1048577 < 1048580 by omega), spec_crash a b x c _ (show 1048577 < 1048580 by omega), impl_crash a b x c, eqDisk_f a b c _ (show 1048577 < 1048580 by omega), eqDisk_f (crashP a b x).1 (crashP a b x).2 (by omega) _ (show 1048577 < 1048580 by omega),
      markDisk_f a b c _ (show 1048577 < 1048580 by omega), bs, if_true]
    rw [if_neg (by omega)]
    simp only [laws_FnExactCrashDisk.j0, Bool.not_true]
    rw [if_neg (by decide), markDisk_f (crashP a b x).1 (crashP a b x).2 (by omega) _ (show 1048577 < 1048579 by omega)]
    simp only [bs, heldDisk_f (crashP a b x).1.length (crashP a b x).2.length (by omega) _ (show 1048577 < 1048579 by omega), if_true]
    rw [if_neg (by omega), toDisk_f a b c _ (show 1048577 < 1048579 by omega)]
    simp only [bs, impl_crash a b x c, eqDisk_f (crashP a b x).1 (crashP a b x).2 (by omega) _ (show 1048577 < 1048579 by omega), if_true]
    rw [if_neg (by omega)]
  · rw [if_neg c, if_pos (by omega)]

end Go.Proofs.Ytmdpnhcfllociaa.Pure
