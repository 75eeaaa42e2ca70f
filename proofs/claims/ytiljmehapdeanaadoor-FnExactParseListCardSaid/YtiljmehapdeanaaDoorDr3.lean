/- parseNumber, walked: what it returns for every word, while the two errors of the library and the table of tens stand. -/
import Derived.Test.YtiljmehapdeanaaDoorDr1
import Derived.Lib.SmallJoins
import Derived.Lib.AtoiErrMem
import Derived.WalkKit
import Derived.KernelRfl
import Derived.BigCall
namespace Go.Vm.Dr
open Go Go.RowKit Go.Proofs Go.Vm
set_option linter.unusedVariables false
set_option linter.unusedSimpArgs false
theorem g_tab : Tryd.prog.globalNamed "internal/strconv.uint64pow10" = some 0 := by kernel_rfl
theorem isShort_calls (n : Int) (w : World) : Calls Tryd.prog 37 #[.int .i64 n] w fun e w' => e = .returned (.bool (decide (-10000000000000 < n ∧ n < 10000000000000))) ∧ w' = w := by
  by_cases h : -10000000000000 < n
  · by_cases h2 : n < 10000000000000
    · rw [decide_eq_true (And.intro h h2)]
      go_enter Tryd.func37, Tryd.ntmps37
      go_wp2
      go_ret
      simp [h2]
    · rw [decide_eq_false (fun g => h2 g.2)]
      go_enter Tryd.func37, Tryd.ntmps37
      go_wp2
      go_ret
      simp [h2]
  · rw [decide_eq_false (fun g => h g.1)]
    go_enter Tryd.func37, Tryd.ntmps37
    go_wp2
    go_ret
    exact ⟨rfl, rfl⟩
theorem below_bytes (w : World) (e : TypeId) (t : ByteArray) : Below w.heap.size w (Lib.bytesWorld w e t) := Lib.bytesWorld_below _ _ _
theorem itoa_calls {n : Int} (h0 : -9223372036854775808 ≤ n) (h1 : n ≤ 9223372036854775807) (w : World) (htab : Lib.TabIs Tryd.prog w "internal/strconv.uint64pow10" .u64 Lib.pow10Tab) :
    Calls Tryd.prog 42 #[.int .i64 n] w fun e w' => e = .returned (.string ⟨(Lib.itoa n).toArray⟩) ∧ Below w.heap.size w w' := by
  refine (Tryd.strconv_Itoa n h0 h1 w htab).mono ?_
  rintro e w' ⟨rfl, k, os, rfl⟩
  refine ⟨rfl, ⟨rfl, rfl, rfl, ?_, fun b hb => ?_⟩⟩
  · simp [Sort.grow, World.drewN]
  · show (w.heap ++ os)[b]? = w.heap[b]?
    exact Array.getElem?_append_left hb
theorem isShort_yes {n : Int} (h : -10000000000000 < n ∧ n < 10000000000000) (w : World) : Calls Tryd.prog 37 #[.int .i64 n] w fun e w' => e = .returned (.bool true) ∧ w' = w := by
  have := isShort_calls n w
  rw [decide_eq_true h] at this
  exact this
theorem isShort_no {n : Int} (h : ¬ (-10000000000000 < n ∧ n < 10000000000000)) (w : World) : Calls Tryd.prog 37 #[.int .i64 n] w fun e w' => e = .returned (.bool false) ∧ w' = w := by
  have := isShort_calls n w
  rw [decide_eq_false h] at this
  exact this
theorem decide_and_three {a b c : Prop} [Decidable a] [Decidable b] [Decidable c] (h : a ∧ b) : decide c = decide (a ∧ b ∧ c) := decide_eq_decide.2 ⟨fun g => ⟨h.1, h.2, g⟩, fun g => g.2.2⟩
set_option maxRecDepth 100000 in
theorem parseNumber_ok (s : ByteArray) (v : Int) (hlim : s.size ≤ 281474976710656) (h : Lib.atoiAll s.data.toList = .ok v) (hv0 : -9223372036854775808 ≤ v) (hv1 : v ≤ 9223372036854775807) (w : World) (htab : Lib.TabIs Tryd.prog w "internal/strconv.uint64pow10" .u64 Lib.pow10Tab) :
    Calls Tryd.prog 61 #[.string s] w fun e w' => e = .returned (.tuple #[.int .i64 v, .bool (decide (-10000000000000 < v ∧ v < 10000000000000 ∧ Lib.itoa v = s.data.toList))]) ∧ Below w.heap.size w w' := by
  by_cases hs : -10000000000000 < v ∧ v < 10000000000000
  · go_enter Tryd.func61, Tryd.ntmps61
    go_wp2_with (go_at_call 71; refine (Tryd.strconv_Atoi_ok s (by omega) v h _).mono ?_; rintro e w1 ⟨rfl, hw⟩)
    have hb1 : Below w.heap.size w w1 := by
      rcases hw with rfl | ⟨t, rfl⟩
      · exact Below.refl _ _
      · exact Lib.bytesWorld_below _ _ _
    refine (isShort_yes hs _).mono ?_
    rintro e w2 ⟨rfl, rfl⟩
    have hit := itoa_calls hv0 hv1 w2 (Joins.tab_stays (by exact g_tab) htab hb1 (Nat.le_refl _))
    obtain ⟨t, ht⟩ : ∃ t : ByteArray, t = ⟨(Lib.itoa v).toArray⟩ := ⟨_, rfl⟩
    rw [← ht] at hit
    have hq : t = s ↔ Lib.itoa v = s.data.toList := by
      subst ht
      exact ⟨fun g => by rw [← g], fun g => by rw [g]⟩
    clear htab h hv0 hv1 hlim ht
    have hs' := hs
    clear hs
    go_wp2_with (go_at_call 42; refine hit.mono ?_; rintro e w3 ⟨rfl, hb2⟩; clear hit)
    go_ret2
    refine ⟨?_, hb1.trans (hb2.mono hb1.size)⟩
    have he : (t.toList == s.toList) = decide (-10000000000000 < v ∧ v < 10000000000000 ∧ Lib.itoa v = s.data.toList) := by
      rw [ByteArray.toList_eq, ByteArray.toList_eq, ← decide_and_three hs']
      rw [Bool.eq_iff_iff]
      simp only [beq_iff_eq, decide_eq_true_eq]
      rw [← hq]
      exact ⟨fun g => by
        apply ByteArray.ext
        exact Array.ext' g, fun g => by rw [g]⟩
    rw [he]
    rfl
  · go_enter Tryd.func61, Tryd.ntmps61
    go_wp2_with (go_at_call 71; refine (Tryd.strconv_Atoi_ok s (by omega) v h _).mono ?_; rintro e w1 ⟨rfl, hw⟩)
    have hb1 : Below w.heap.size w w1 := by
      rcases hw with rfl | ⟨t, rfl⟩
      · exact Below.refl _ _
      · exact Lib.bytesWorld_below _ _ _
    refine (isShort_no hs _).mono ?_
    rintro e w2 ⟨rfl, rfl⟩
    go_wp2
    go_ret2
    refine ⟨?_, hb1⟩
    rw [decide_eq_false (fun g => hs ⟨g.1, g.2.1⟩)]
    rfl
set_option maxRecDepth 100000 in
/-- The word names no number, or one that is too great: the second result is false. -/
theorem parseNumber_err (s : ByteArray) (x : Int) (tp : TypeId) (q : Nat → Value) (w : World)
    (hc : Calls Tryd.prog 71 #[.string s] w fun e w' => ∃ N, e = .returned (.tuple #[.int .i64 x, .iface tp (q N)]) ∧ Below w.heap.size w w') :
    Calls Tryd.prog 61 #[.string s] w fun e w' => e = .returned (.tuple #[.int .i64 x, .bool false]) ∧ Below w.heap.size w w' := by
  go_enter Tryd.func61, Tryd.ntmps61
  go_wp2_with (go_at_call 71; refine hc.mono ?_; rintro e w1 ⟨N, rfl, hb⟩)
  go_ret2
  exact ⟨rfl, hb⟩
theorem parseNumber_calls (s : ByteArray) (hlim : s.size ≤ 281474976710656) (tp tq : TypeId) (p q : Value) (w : World) (hS : w.var? Tryd.prog "strconv.ErrSyntax" = some #[.iface tp p]) (hR : w.var? Tryd.prog "strconv.ErrRange" = some #[.iface tq q]) (htab : Lib.TabIs Tryd.prog w "internal/strconv.uint64pow10" .u64 Lib.pow10Tab)
    (hv : ∀ v, Lib.atoiAll s.data.toList = .ok v → -9223372036854775808 ≤ v ∧ v ≤ 9223372036854775807) :
    Calls Tryd.prog 61 #[.string s] w fun e w' => e = .returned (.tuple #[.int .i64 (numV s), .bool (numB s)]) ∧ Below w.heap.size w w' := by
  unfold numV numB
  cases h : Lib.atoiAll s.data.toList with
  | ok v => exact parseNumber_ok s v hlim h (hv v h).1 (hv v h).2 w htab
  | range =>
    refine parseNumber_err s _ 126 (fun N => .pointer (some ⟨N, 0, none⟩)) w ((Any.strconv_Atoi_range_var Tryd.laysC172 s hlim h tq q w hR).mono ?_)
    rintro e w' ⟨N, rfl, -, -, hb⟩
    exact ⟨N, rfl, hb⟩
  | _ =>
    refine parseNumber_err s _ 126 (fun N => .pointer (some ⟨N, 0, none⟩)) w ((Any.strconv_Atoi_syntax_var Tryd.laysC172 s hlim h tp p w hS).mono ?_)
    rintro e w' ⟨N, rfl, -, -, hb⟩
    exact ⟨N, rfl, hb⟩
end Go.Vm.Dr
