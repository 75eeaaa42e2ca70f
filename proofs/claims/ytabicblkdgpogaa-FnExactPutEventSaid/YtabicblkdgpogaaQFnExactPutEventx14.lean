-- Made by this session's program (wip/tools/myprint.py) out of the translation; Lean checks it.
import Derived.Test.YtabicblkdgpogaaQFnExactPutEventx0
import Derived.Test.YtabicblkdgpogaaQFnExactPutEventx12
import Derived.Test.YtabicblkdgpogaaQFnExactPutEventx13
namespace Go.Proofs.Ytabicblkdgpogaa.QFnExactPutEvent
open Go.RowKit Go.Proofs.YtabicblkdgpogaaW.PrintWords Go.Proofs.YtabicblkdgpogaaW.PrintLast Go.Proofs.YtabicblkdgpogaaW.PrintMore
attribute [local go_sem] max2_int min2_int max_two min_two max_three min_three max_four min_four   -- for this text's walks alone
set_option linter.unusedVariables false
set_option linter.unusedSimpArgs false

/-! ### impl_isEvent: function 88 -/
mutual
def impl_isEvent.j0 : Nat → Bool → Int → Int → Int → Int → List Int → Option (Bool)
 | 0, _, _, _, _, _, _ => none
 | k + 1, x13, x324000, x324001, x324002, x324003, x324004 => if x13 = true then (some false) else (if x324002 ≥ 1 then (impl_isEvent.j1 k (decide (x324002 ≤ 1000000000)) x324000 x324001 x324002 x324003 x324004) else (impl_isEvent.j1 k false x324000 x324001 x324002 x324003 x324004))
def impl_isEvent.j1 : Nat → Bool → Int → Int → Int → Int → List Int → Option (Bool)
 | 0, _, _, _, _, _, _ => none
 | k + 1, x3, x324000, x324001, x324002, x324003, x324004 => if x324000 = 1 then (if x324002 = 0 then (if x324003 ≥ 100 then (if x324003 ≤ 100000 then (some ((x324004.length : Int) == 0)) else (some false)) else (some false)) else (some false)) else (if x324000 = 2 then ((impl_DecodeJob.f k x324004).bind fun bt324 => (if x3 = true then (if bt324.2.2.2.2.2 = true then ((impl_jobCost.f k bt324.1 bt324.2.1 bt324.2.2.1 bt324.2.2.2.1 bt324.2.2.2.2.1).bind fun t335 => (some (x324003 == t335))) else (some false)) else (some false))) else (if x324000 = 3 then (impl_isEvent.j2 k x3 x324000 (x324000 == 3) x324000 x324001 x324002 x324003 x324004) else (impl_isEvent.j2 k x3 x324000 (x324000 == 4) x324000 x324001 x324002 x324003 x324004)))
def impl_isEvent.j2 : Nat → Bool → Int → Bool → Int → Int → Int → Int → List Int → Option (Bool)
 | 0, _, _, _, _, _, _, _, _ => none
 | k + 1, x3, x23, x64, x324000, x324001, x324002, x324003, x324004 => if x64 = true then (if x3 = true then (if x324003 = 0 then (some ((x324004.length : Int) == 0)) else (some false)) else (some false)) else (if x23 = 5 then (if x324002 = 0 then (if x324003 = 0 then (some ((x324004.length : Int) == 0)) else (some false)) else (some false)) else (some false))
end
def impl_isEvent.f (k : Nat) (a0_0 : Int) (a0_1 : Int) (a0_2 : Int) (a0_3 : Int) (l0_4 : List Int) : Option (Bool) := if a0_1 < 0 then (impl_isEvent.j0 k true a0_0 a0_1 a0_2 a0_3 l0_4) else (impl_isEvent.j0 k (decide (a0_1 > 99)) a0_0 a0_1 a0_2 a0_3 l0_4)
theorem impl_isEvent.mono_l : ∀ k, (∀ y0 y1 y2 y3 y4 y5, LeO (impl_isEvent.j0 k y0 y1 y2 y3 y4 y5) (impl_isEvent.j0 (k + 1) y0 y1 y2 y3 y4 y5)) ∧ (∀ y0 y1 y2 y3 y4 y5, LeO (impl_isEvent.j1 k y0 y1 y2 y3 y4 y5) (impl_isEvent.j1 (k + 1) y0 y1 y2 y3 y4 y5)) ∧ (∀ y0 y1 y2 y3 y4 y5 y6 y7, LeO (impl_isEvent.j2 k y0 y1 y2 y3 y4 y5 y6 y7) (impl_isEvent.j2 (k + 1) y0 y1 y2 y3 y4 y5 y6 y7))
 | 0 => ⟨fun _ _ _ _ _ _ r h => by simp [impl_isEvent.j0] at h, fun _ _ _ _ _ _ r h => by simp [impl_isEvent.j1] at h, fun _ _ _ _ _ _ _ _ r h => by simp [impl_isEvent.j2] at h⟩
 | k + 1 => by
  obtain ⟨ih0, ih1, ih2⟩ := impl_isEvent.mono_l k
  refine ⟨?_, ?_, ?_⟩
  ·intro y0 y1 y2 y3 y4 y5
   unfold impl_isEvent.j0
   repeat' first
   | (with_reducible exact ih0 _ _ _ _ _ _)
   | (with_reducible exact ih1 _ _ _ _ _ _)
   | (with_reducible exact ih2 _ _ _ _ _ _ _ _)
   | (with_reducible exact impl_DecodeJob.mono _ _)
   | (with_reducible exact impl_jobCost.mono _ _ _ _ _ _)
   | (with_reducible exact LeO.refl _)
   | (with_reducible exact LeO.none _)
   | (with_reducible refine LeO.ite ?_ ?_)
   | (with_reducible refine LeO.bind ?_ (fun _ => ?_))
   | exact ih0 _ _ _ _ _ _
   | exact ih1 _ _ _ _ _ _
   | exact ih2 _ _ _ _ _ _ _ _
   | exact impl_DecodeJob.mono _ _
   | exact impl_jobCost.mono _ _ _ _ _ _
   | exact LeO.none _
   | refine LeO.ite ?_ ?_
   | refine LeO.bind ?_ (fun _ => ?_)
  ·intro y0 y1 y2 y3 y4 y5
   unfold impl_isEvent.j1
   repeat' first
   | (with_reducible exact ih0 _ _ _ _ _ _)
   | (with_reducible exact ih1 _ _ _ _ _ _)
   | (with_reducible exact ih2 _ _ _ _ _ _ _ _)
   | (with_reducible exact impl_DecodeJob.mono _ _)
   | (with_reducible exact impl_jobCost.mono _ _ _ _ _ _)
   | (with_reducible exact LeO.refl _)
   | (with_reducible exact LeO.none _)
   | (with_reducible refine LeO.ite ?_ ?_)
   | (with_reducible refine LeO.bind ?_ (fun _ => ?_))
   | exact ih0 _ _ _ _ _ _
   | exact ih1 _ _ _ _ _ _
   | exact ih2 _ _ _ _ _ _ _ _
   | exact impl_DecodeJob.mono _ _
   | exact impl_jobCost.mono _ _ _ _ _ _
   | exact LeO.none _
   | refine LeO.ite ?_ ?_
   | refine LeO.bind ?_ (fun _ => ?_)
  ·intro y0 y1 y2 y3 y4 y5 y6 y7
   unfold impl_isEvent.j2
   repeat' first
   | (with_reducible exact ih0 _ _ _ _ _ _)
   | (with_reducible exact ih1 _ _ _ _ _ _)
   | (with_reducible exact ih2 _ _ _ _ _ _ _ _)
   | (with_reducible exact impl_DecodeJob.mono _ _)
   | (with_reducible exact impl_jobCost.mono _ _ _ _ _ _)
   | (with_reducible exact LeO.refl _)
   | (with_reducible exact LeO.none _)
   | (with_reducible refine LeO.ite ?_ ?_)
   | (with_reducible refine LeO.bind ?_ (fun _ => ?_))
   | exact ih0 _ _ _ _ _ _
   | exact ih1 _ _ _ _ _ _
   | exact ih2 _ _ _ _ _ _ _ _
   | exact impl_DecodeJob.mono _ _
   | exact impl_jobCost.mono _ _ _ _ _ _
   | exact LeO.none _
   | refine LeO.ite ?_ ?_
   | refine LeO.bind ?_ (fun _ => ?_)
theorem impl_isEvent.mono : ∀ a0 a1 a2 a3 a4 k, LeO (impl_isEvent.f k a0 a1 a2 a3 a4) (impl_isEvent.f (k + 1) a0 a1 a2 a3 a4) := by
 intro a0 a1 a2 a3 a4 k
 obtain ⟨ih0, ih1, ih2⟩ := impl_isEvent.mono_l k
 unfold impl_isEvent.f
 repeat' first
   | (with_reducible exact ih0 _ _ _ _ _ _)
   | (with_reducible exact ih1 _ _ _ _ _ _)
   | (with_reducible exact ih2 _ _ _ _ _ _ _ _)
   | (with_reducible exact impl_DecodeJob.mono _ _)
   | (with_reducible exact impl_jobCost.mono _ _ _ _ _ _)
   | (with_reducible exact LeO.refl _)
   | (with_reducible exact LeO.none _)
   | (with_reducible refine LeO.ite ?_ ?_)
   | (with_reducible refine LeO.bind ?_ (fun _ => ?_))
   | exact ih0 _ _ _ _ _ _
   | exact ih1 _ _ _ _ _ _
   | exact ih2 _ _ _ _ _ _ _ _
   | exact impl_DecodeJob.mono _ _
   | exact impl_jobCost.mono _ _ _ _ _ _
   | exact LeO.none _
   | refine LeO.ite ?_ ?_
   | refine LeO.bind ?_ (fun _ => ?_)
def impl_isEvent.T9 : Bool × List (List Nat × List Nat) := (true, [([], []), ([0], [0]), ([1], [1]), ([1, 2], [1, 2]), ([3, 1], [3]), ([4], [4]), ([5, 4], [4, 5]), ([4], [4]), ([7, 4, 4], [4, 7]), ([6, 8, 4], [4, 6, 8]), ([4, 9], [4, 9]), ([10, 8, 0, 1, 2, 3, 4, 5, 6, 7, 8, 9, 10], [10])])
def impl_isEvent.B9 : List Nat := [0, 1, 3, 7, 15, 31, 63, 31, 159, 511, 1023, 2047]
theorem impl_isEvent.tab9 : rtab .any (opsOf Try.f88 9) = impl_isEvent.T9 := by kernel_rfl
theorem impl_isEvent.bits9 : waitsOk impl_isEvent.T9.2 impl_isEvent.B9 = true := by kernel_rfl
set_option maxHeartbeats 8000000 in
set_option maxRecDepth 100000 in
theorem impl_isEvent.calls (k : Nat) (a0_0 : Int) (a0_1 : Int) (a0_2 : Int) (a0_3 : Int) (A0_4 : Option Addr) (c0_4 : Nat) (l0_4 : List Int) (r : Bool) (w : World) (hr0_4 : Kd.C (Kd.int .u8) w A0_4 l0_4.length l0_4) (hc0_4 : l0_4.length ≤ c0_4) (h : impl_isEvent.f k a0_0 a0_1 a0_2 a0_3 l0_4 = some r) :
  Calls Try.prog 88 #[.agg #[.int .i64 a0_0, .int .i64 a0_1, .int .i64 a0_2, .int .i64 a0_3, .slice A0_4 l0_4.length c0_4]] w fun e w' => e = .returned (.bool r) ∧ Below w.heap.size w w' := by
 have hu44 := Try.underlying44
 have hu99 := Try.underlying99
 have HR0_4 := Aside0.mk hr0_4
 have HC0_4 := Aside0.mk hc0_4
 clear hr0_4 hc0_4
 have HB := Aside0.mk (Below.refl w.heap.size w)
 have H : (if a0_1 < 0 then (impl_isEvent.j0 k true a0_0 a0_1 a0_2 a0_3 l0_4) else (impl_isEvent.j0 k (decide (a0_1 > 99)) a0_0 a0_1 a0_2 a0_3 l0_4)) = some r := h
 clear h
 have HC2 := Aside0.mk H
 clear H
 go_enter Try.func88, Try.ntmps88
 go_upto_region 1 with (first | ((with_reducible refine gate_dst (N := 1) rfl ?_); (try (refine gate_guard (by rfl) ?_; dsimp only)); refine box_event ?hg (N := 1) ?hd (cs := #[.int .i64 a0_0, .int .i64 a0_1, .int .i64 a0_2, .int .i64 a0_3, .slice A0_4 l0_4.length c0_4]) (t := 44) ?hr ?_; (case hd => rfl); (case hg => rfl); (case hr => first | (go_simp; done) | (go_simp; rfl)); intro gb323 hg w3 hbox hb; have n0_ := Aside0.mk (below_step zH hb); have n1_ := Aside0.mk (hbox); have n2_ := Aside0.mk ((by rw [hg]; exact (below_size zH) : w.heap.size ≤ gb323)); have n3_ := Aside0.mk ((by rw [hg]; exact (below_size zH) : w.heap.size ≤ gb323)); clear HB; have HB := n0_; have BK323 := n1_; have GW323 := n2_; have GE323 := n3_; clear n0_ n1_ n2_ n3_; clear hb hbox hg))
 (try simp only [Act.put, List.setIfInBounds_toArray, List.set_cons_zero, List.set_cons_succ])
 go_cut [13] (fun v13 wc => ∃ (kq : Nat) (x13_1 : Bool), v13 = .bool x13_1 ∧ Aside0 (impl_isEvent.j0 kq x13_1 a0_0 a0_1 a0_2 a0_3 l0_4 = some r) ∧ Aside0 (kq ≤ k) ∧ Aside0 (wc.heap[gb323]? = some (.cells #[.int .i64 a0_0, .int .i64 a0_1, .int .i64 a0_2, .int .i64 a0_3, (.slice A0_4 l0_4.length c0_4)] 44 (0, 0))) ∧ Aside0 (Below w.heap.size w wc))
 case first =>
  have H := HC2.out
  clear HC2
  by_cases c4 : a0_1 < 0
  ·rw [if_pos c4] at H
   have c4b0 : decide (a0_1 < 0) = true := decide_eq_true c4
   clear c4
   (first | rw [c4b0] | (simp only [i64_w, i32_w]; rw [c4b0]) | skip)
   have H' := Aside0.mk H
   clear H
   obtain ⟨hcz5_0, hcz5_1, hcz5_2, hcz5_3, hcz5_4⟩ := zc5 BK323.out
   obtain ⟨hfz5_0, hfz5_1, hfz5_2, hfz5_3, hfz5_4⟩ := zf BK323.out
   go_wp2
   go_meet
   case rel => exact ⟨_, (true), zF, H', ⟨by first | omega | exact Nat.le_refl _⟩, ⟨zB BK323.out⟩, ⟨zH⟩⟩
  ·rw [if_neg c4] at H
   have c4b0 : decide (a0_1 < 0) = false := decide_eq_false c4
   clear c4
   (first | rw [c4b0] | (simp only [i64_w, i32_w]; rw [c4b0]) | skip)
   have H' := Aside0.mk H
   clear H
   obtain ⟨hcz6_0, hcz6_1, hcz6_2, hcz6_3, hcz6_4⟩ := zc5 BK323.out
   obtain ⟨hfz6_0, hfz6_1, hfz6_2, hfz6_3, hfz6_4⟩ := zf BK323.out
   go_wp2
   go_meet
   case rel => exact ⟨_, (decide (a0_1 > 99)), zF, H', ⟨by first | omega | exact Nat.le_refl _⟩, ⟨zB BK323.out⟩, ⟨zH⟩⟩
 case rest =>
  clear HC2
  (try clear p2);(try clear c4);(try clear c4b0);(try clear hcz5_0);(try clear hcz5_1);(try clear hcz5_2);(try clear hcz5_3);(try clear hcz5_4);(try clear hcz6_0);(try clear hcz6_1);(try clear hcz6_2);(try clear hcz6_3);(try clear hcz6_4);(try clear hfz5_0);(try clear hfz5_1);(try clear hfz5_2);(try clear hfz5_3);(try clear hfz5_4);(try clear hfz6_0);(try clear hfz6_1);(try clear hfz6_2);(try clear hfz6_3);(try clear hfz6_4)
  obtain ⟨kq, x13_1, rfl, HA, HJ1, BK323, HB⟩ := hcut
  cases kq with
  | zero => exact absurd HA.out (by simp [impl_isEvent.j0])
  | succ kj1 =>
   have H := HA.out
   clear HA
   simp only [impl_isEvent.j0] at H
   by_cases c7 : x13_1 = true
   ·subst c7
    replace H : (some false) = some r := by rw [if_pos rfl] at H; exact H
    obtain rfl := Option.some.inj H
    go_wp2
    go_ret
    exact ⟨zE, zH⟩
   ·replace c7 := Bool.eq_false_iff.mpr c7
    subst c7
    replace H : (if a0_2 ≥ 1 then (impl_isEvent.j1 kj1 (decide (a0_2 ≤ 1000000000)) a0_0 a0_1 a0_2 a0_3 l0_4) else (impl_isEvent.j1 kj1 false a0_0 a0_1 a0_2 a0_3 l0_4)) = some r := by rw [if_neg (show ¬ (false = true) by decide)] at H; exact H
    have HC8 := Aside0.mk H
    clear H
    go_upto_region 3 with (fail)
    go_cut [3] (fun v3 wc => ∃ (kq : Nat) (x3_7 : Bool), v3 = .bool x3_7 ∧ Aside0 (impl_isEvent.j1 kq x3_7 a0_0 a0_1 a0_2 a0_3 l0_4 = some r) ∧ Aside0 (kq ≤ kj1) ∧ Aside0 (wc.heap[gb323]? = some (.cells #[.int .i64 a0_0, .int .i64 a0_1, .int .i64 a0_2, .int .i64 a0_3, (.slice A0_4 l0_4.length c0_4)] 44 (0, 0))) ∧ Aside0 (Below w.heap.size w wc))
    case first =>
     have H := HC8.out
     clear HC8
     by_cases c9 : a0_2 ≥ 1
     ·rw [if_pos c9] at H
      have c9b0 : decide (1 ≤ a0_2) = true := decide_eq_true c9
      clear c9
      (first | rw [c9b0] | (simp only [i64_w, i32_w]; rw [c9b0]) | skip)
      have H' := Aside0.mk H
      clear H
      obtain ⟨hcz10_0, hcz10_1, hcz10_2, hcz10_3, hcz10_4⟩ := zc5 BK323.out
      obtain ⟨hfz10_0, hfz10_1, hfz10_2, hfz10_3, hfz10_4⟩ := zf BK323.out
      go_wp2
      go_meet
      case rel => exact ⟨_, (decide (a0_2 ≤ 1000000000)), zF, H', ⟨by have := HJ1.out; first | omega | exact Nat.le_refl _⟩, ⟨zB BK323.out⟩, ⟨zH⟩⟩
     ·rw [if_neg c9] at H
      have c9b0 : decide (1 ≤ a0_2) = false := decide_eq_false c9
      clear c9
      (first | rw [c9b0] | (simp only [i64_w, i32_w]; rw [c9b0]) | skip)
      have H' := Aside0.mk H
      clear H
      obtain ⟨hcz11_0, hcz11_1, hcz11_2, hcz11_3, hcz11_4⟩ := zc5 BK323.out
      obtain ⟨hfz11_0, hfz11_1, hfz11_2, hfz11_3, hfz11_4⟩ := zf BK323.out
      go_wp2
      go_meet
      case rel => exact ⟨_, (false), zF, H', ⟨by have := HJ1.out; first | omega | exact Nat.le_refl _⟩, ⟨zB BK323.out⟩, ⟨zH⟩⟩
    case rest =>
     clear HC8
     (try clear p2);(try clear c4);(try clear c4b0);(try clear c7);(try clear c8);(try clear c9);(try clear c9b0);(try clear hcz10_0);(try clear hcz10_1);(try clear hcz10_2);(try clear hcz10_3);(try clear hcz10_4);(try clear hcz11_0);(try clear hcz11_1);(try clear hcz11_2);(try clear hcz11_3);(try clear hcz11_4);(try clear hcz5_0);(try clear hcz5_1);(try clear hcz5_2);(try clear hcz5_3);(try clear hcz5_4);(try clear hcz6_0);(try clear hcz6_1);(try clear hcz6_2)
     (try clear hcz6_3);(try clear hcz6_4);(try clear hfz10_0);(try clear hfz10_1);(try clear hfz10_2);(try clear hfz10_3);(try clear hfz10_4);(try clear hfz11_0);(try clear hfz11_1);(try clear hfz11_2);(try clear hfz11_3);(try clear hfz11_4);(try clear hfz5_0);(try clear hfz5_1);(try clear hfz5_2);(try clear hfz5_3);(try clear hfz5_4);(try clear hfz6_0);(try clear hfz6_1);(try clear hfz6_2);(try clear hfz6_3);(try clear hfz6_4);(try clear p2)
     obtain ⟨kq, x3_7, rfl, HA, HJ7, BK323, HB⟩ := hcut
     cases kq with
     | zero => exact absurd HA.out (by simp [impl_isEvent.j1])
     | succ kj7 =>
      have H := HA.out
      clear HA
      simp only [impl_isEvent.j1] at H
      by_cases c12 : a0_0 = 1
      ·rw [if_pos c12] at H
       have c12b0 : (a0_0 == 1) = true := beq_iff_eq.mpr c12
       have c12b1 : (a0_0 != 1) = false := bne_eq_false_iff_eq.mpr c12
       clear c12
       by_cases c13 : a0_2 = 0
       ·rw [if_pos c13] at H
        have c13b0 : (a0_2 == 0) = true := beq_iff_eq.mpr c13
        have c13b1 : (a0_2 != 0) = false := bne_eq_false_iff_eq.mpr c13
        clear c13
        by_cases c14 : a0_3 ≥ 100
        ·rw [if_pos c14] at H
         have c14b0 : decide (100 ≤ a0_3) = true := decide_eq_true c14
         clear c14
         by_cases c15 : a0_3 ≤ 100000
         ·rw [if_pos c15] at H
          have c15b0 : decide (a0_3 ≤ 100000) = true := decide_eq_true c15
          clear c15
          obtain rfl := Option.some.inj H
          obtain ⟨hcz16_0, hcz16_1, hcz16_2, hcz16_3, hcz16_4⟩ := zc5 BK323.out
          obtain ⟨hfz16_0, hfz16_1, hfz16_2, hfz16_3, hfz16_4⟩ := zf BK323.out
          go_wp2
          go_ret
          exact ⟨zE, zH⟩
         ·rw [if_neg c15] at H
          have c15b0 : decide (a0_3 ≤ 100000) = false := decide_eq_false c15
          clear c15
          obtain rfl := Option.some.inj H
          obtain ⟨hcz17_0, hcz17_1, hcz17_2, hcz17_3, hcz17_4⟩ := zc5 BK323.out
          obtain ⟨hfz17_0, hfz17_1, hfz17_2, hfz17_3, hfz17_4⟩ := zf BK323.out
          go_wp2
          go_ret
          exact ⟨zE, zH⟩
        ·rw [if_neg c14] at H
         have c14b0 : decide (100 ≤ a0_3) = false := decide_eq_false c14
         clear c14
         obtain rfl := Option.some.inj H
         obtain ⟨hcz18_0, hcz18_1, hcz18_2, hcz18_3, hcz18_4⟩ := zc5 BK323.out
         obtain ⟨hfz18_0, hfz18_1, hfz18_2, hfz18_3, hfz18_4⟩ := zf BK323.out
         go_wp2
         go_ret
         exact ⟨zE, zH⟩
       ·rw [if_neg c13] at H
        have c13b0 : (a0_2 == 0) = false := beq_eq_false_iff_ne.mpr c13
        have c13b1 : (a0_2 != 0) = true := bne_iff_ne.mpr c13
        obtain rfl := Option.some.inj H
        obtain ⟨hcz19_0, hcz19_1, hcz19_2, hcz19_3, hcz19_4⟩ := zc5 BK323.out
        obtain ⟨hfz19_0, hfz19_1, hfz19_2, hfz19_3, hfz19_4⟩ := zf BK323.out
        go_wp2
        go_ret
        exact ⟨zE, zH⟩
      ·rw [if_neg c12] at H
       have c12b0 : (a0_0 == 1) = false := beq_eq_false_iff_ne.mpr c12
       have c12b1 : (a0_0 != 1) = true := bne_iff_ne.mpr c12
       by_cases c20 : a0_0 = 2
       ·rw [if_pos c20] at H
        have c20b0 : (a0_0 == 2) = true := beq_iff_eq.mpr c20
        have c20b1 : (a0_0 != 2) = false := bne_eq_false_iff_eq.mpr c20
        clear c20
        replace H := Option.bind_eq_some_iff.mp H
        obtain ⟨⟨t324, t325, t326, t329, t332, t333⟩, A210, H⟩ := H
        replace H : (if x3_7 = true then (if t333 = true then ((impl_jobCost.f kj7 t324 t325 t326 t329 t332).bind fun t335 => (some (a0_3 == t335))) else (some false)) else (some false)) = some r := H
        have A21 := Aside0.mk A210
        clear A210
        by_cases c22 : x3_7 = true
        ·subst c22
         replace H : (if t333 = true then ((impl_jobCost.f kj7 t324 t325 t326 t329 t332).bind fun t335 => (some (a0_3 == t335))) else (some false)) = some r := by rw [if_pos rfl] at H; exact H
         by_cases c23 : t333 = true
         ·subst c23
          replace H : ((impl_jobCost.f kj7 t324 t325 t326 t329 t332).bind fun t335 => (some (a0_3 == t335))) = some r := by rw [if_pos rfl] at H; exact H
          replace H := Option.bind_eq_some_iff.mp H
          obtain ⟨t335, A240, H⟩ := H
          replace H : (some (a0_3 == t335)) = some r := H
          have A24 := Aside0.mk A240
          clear A240
          obtain rfl := Option.some.inj H
          obtain ⟨hcz25_0, hcz25_1, hcz25_2, hcz25_3, hcz25_4⟩ := zc5 BK323.out
          obtain ⟨hfz25_0, hfz25_1, hfz25_2, hfz25_3, hfz25_4⟩ := zf BK323.out
          try go_wp2_with (first | ((with_reducible refine gate_callee (f := 133) rfl ?_); refine goesL_ (some 50) rfl rfl Try.func133 (by kernel_rfl) rfl #[.slice A0_4 l0_4.length c0_4] rfl zM ?_; (with_reducible refine (impl_DecodeJob.calls kj7 _ _ l0_4 t324 t325 t326 t329 t332 true _ ?side1 ?side2 A21.out).mono ?_); (case side1 => exact zC (Kd.C_below HR0_4.out HB.out)); (case side2 => exact HC0_4.out); rintro e w26 ⟨v327, v330, rfl, ho0, ho1, hb⟩; refine ⟨_, rfl, ?_⟩; have n0_ := Aside0.mk (Kd.R_lower ho0 (below_size zH)); have n1_ := Aside0.mk (Kd.R_lower ho1 (below_size zH)); have n2_ := Aside0.mk (blk_below (g := gb323) (o := .cells #[.int .i64 a0_0, .int .i64 a0_1, .int .i64 a0_2, .int .i64 a0_3, .slice A0_4 l0_4.length c0_4] 44 (0, 0)) (zB BK323.out) hb); have n3_ := Aside0.mk (below_step zH hb); clear BK323; clear HB; have HO328 := n0_; have HO331 := n1_; have BK323 := n2_; have HB := n3_; clear n0_ n1_ n2_ n3_; (try clear hb); (try clear hb2); (try clear hk); (try clear hi); (try clear ho0); (try clear ho1)) | ((with_reducible refine gate_dst (N := 4) rfl ?_); (try (refine gate_guard (by rfl) ?_; dsimp only)); refine box_event ?hg (N := 4) ?hd (cs := #[.int .i64 0, .int .i64 0, .slice none 0 0, .slice none 0 0, .int .i64 0]) (t := 99) ?hr ?_; (case hd => rfl); (case hg => rfl); (case hr => first | (go_simp; done) | (go_simp; rfl)); intro gb334 hg w27 hbox hb; have n0_ := Aside0.mk (Kd.R_below (zR HO328.out) hb); have n1_ := Aside0.mk (Kd.R_below (zR HO331.out) hb); have n2_ := Aside0.mk (blk_below (g := gb323) (o := .cells #[.int .i64 a0_0, .int .i64 a0_1, .int .i64 a0_2, .int .i64 a0_3, .slice A0_4 l0_4.length c0_4] 44 (0, 0)) (zB BK323.out) hb); have n3_ := Aside0.mk (below_step zH hb); have n4_ := Aside0.mk (hbox); have n5_ := Aside0.mk ((by rw [hg]; exact (below_size zH) : w.heap.size ≤ gb334)); have n6_ := Aside0.mk ((by rw [hg]; exact (below_size zH) : w.heap.size ≤ gb334)); have n7_ := Aside0.mk ((by rw [hg]; exact Nat.ne_of_lt (blk_lt (g := gb323) (o := .cells #[.int .i64 a0_0, .int .i64 a0_1, .int .i64 a0_2, .int .i64 a0_3, .slice A0_4 l0_4.length c0_4] 44 (0, 0)) (zB BK323.out)) : gb323 ≠ gb334)); have n8_ := Aside0.mk ((by rw [hg]; exact Nat.ne_of_gt (blk_lt (g := gb323) (o := .cells #[.int .i64 a0_0, .int .i64 a0_1, .int .i64 a0_2, .int .i64 a0_3, .slice A0_4 l0_4.length c0_4] 44 (0, 0)) (zB BK323.out)) : gb334 ≠ gb323)); clear HO328; clear HO331; clear BK323; clear HB; have HO328 := n0_; have HO331 := n1_; have BK323 := n2_; have HB := n3_; have BK334 := n4_; have GW334 := n5_; have GE334 := n6_; have NB323_334 := n7_; have NB334_323 := n8_; clear n0_ n1_ n2_ n3_ n4_ n5_ n6_ n7_ n8_; clear hb hbox hg; have hnb28 := NB334_323.out; have hnc28 := NB323_334.out; obtain ⟨hcz29_0, hcz29_1, hcz29_2, hcz29_3, hcz29_4⟩ := zc5 BK334.out; obtain ⟨hfz29_0, hfz29_1, hfz29_2, hfz29_3, hfz29_4⟩ := zf BK334.out; obtain ⟨Ao30, co30, eo30⟩ := Kd.R_slice HO328.out; subst eo30; obtain ⟨Ao31, co31, eo31⟩ := Kd.R_slice HO331.out; subst eo31))
          have n0_ : Aside0 (Kd.R (Kd.int .i64) 3 (((((w27.setCell ⟨gb334, 0, none⟩ (.int .i64 t324)).setCell ⟨gb334, 1, none⟩ (.int .i64 t325)).setCell ⟨gb334, 2, none⟩ (.slice Ao30 t326.length co30)).setCell ⟨gb334, 3, none⟩ (.slice Ao31 t329.length co31)).setCell ⟨gb334, 4, none⟩ (.int .i64 t332)) w.heap.size (fun k_ => some k_ ≠ (.slice Ao31 t329.length co31 : Value).ownBlock) (.slice Ao30 t326.length co30) t326) := ⟨by (with_reducible repeat (first | apply Kd.R_alloc | apply Kd.R_drewN | apply Kd.R_drew)); exact Kd.R_mono (Kd.R_far (p := ⟨gb334, 4, none⟩) (Kd.R_far (p := ⟨gb334, 3, none⟩) (Kd.R_far (p := ⟨gb334, 2, none⟩) (Kd.R_far (p := ⟨gb334, 1, none⟩) (Kd.R_far (p := ⟨gb334, 0, none⟩) (Kd.R_types HO328.out BK334.out (by decide)) (fun _ hk => hk.2) (.int .i64 t324)) (fun _ hk => hk.2) (.int .i64 t325)) (fun _ hk => hk.2) (.slice Ao30 t326.length co30)) (fun _ hk => hk.2) (.slice Ao31 t329.length co31)) (fun _ hk => hk.2) (.int .i64 t332)) (fun _ hk => hk.1)⟩
          have n1_ : Aside0 (Kd.R (Kd.int .i64) 3 (((((w27.setCell ⟨gb334, 0, none⟩ (.int .i64 t324)).setCell ⟨gb334, 1, none⟩ (.int .i64 t325)).setCell ⟨gb334, 2, none⟩ (.slice Ao30 t326.length co30)).setCell ⟨gb334, 3, none⟩ (.slice Ao31 t329.length co31)).setCell ⟨gb334, 4, none⟩ (.int .i64 t332)) w.heap.size (fun k_ => some k_ ≠ (.slice Ao30 t326.length co30 : Value).ownBlock) (.slice Ao31 t329.length co31) t329) := ⟨by (with_reducible repeat (first | apply Kd.R_alloc | apply Kd.R_drewN | apply Kd.R_drew)); exact Kd.R_mono (Kd.R_far (p := ⟨gb334, 4, none⟩) (Kd.R_far (p := ⟨gb334, 3, none⟩) (Kd.R_far (p := ⟨gb334, 2, none⟩) (Kd.R_far (p := ⟨gb334, 1, none⟩) (Kd.R_far (p := ⟨gb334, 0, none⟩) (Kd.R_types HO331.out BK334.out (by decide)) (fun _ hk => hk.2) (.int .i64 t324)) (fun _ hk => hk.2) (.int .i64 t325)) (fun _ hk => hk.2) (.slice Ao30 t326.length co30)) (fun _ hk => hk.2) (.slice Ao31 t329.length co31)) (fun _ hk => hk.2) (.int .i64 t332)) (fun _ hk => hk.1)⟩
          have n2_ : Aside0 ((((((w27.setCell ⟨gb334, 0, none⟩ (.int .i64 t324)).setCell ⟨gb334, 1, none⟩ (.int .i64 t325)).setCell ⟨gb334, 2, none⟩ (.slice Ao30 t326.length co30)).setCell ⟨gb334, 3, none⟩ (.slice Ao31 t329.length co31)).setCell ⟨gb334, 4, none⟩ (.int .i64 t332)).heap[gb323]? = some (.cells #[.int .i64 a0_0, .int .i64 a0_1, .int .i64 a0_2, .int .i64 a0_3, .slice A0_4 l0_4.length c0_4] 44 (0, 0))) := ⟨by (repeat refine zL ?_); refine blk_far ?_ NB323_334.out _; (repeat refine zL ?_); refine blk_far ?_ NB323_334.out _; (repeat refine zL ?_); refine blk_far ?_ NB323_334.out _; (repeat refine zL ?_); refine blk_far ?_ NB323_334.out _; (repeat refine zL ?_); refine blk_far ?_ NB323_334.out _; (repeat refine zL ?_); exact BK323.out⟩
          have n3_ : Aside0 ((((((w27.setCell ⟨gb334, 0, none⟩ (.int .i64 t324)).setCell ⟨gb334, 1, none⟩ (.int .i64 t325)).setCell ⟨gb334, 2, none⟩ (.slice Ao30 t326.length co30)).setCell ⟨gb334, 3, none⟩ (.slice Ao31 t329.length co31)).setCell ⟨gb334, 4, none⟩ (.int .i64 t332)).heap[gb334]? = some (.cells #[.int .i64 t324, .int .i64 t325, .slice Ao30 t326.length co30, .slice Ao31 t329.length co31, .int .i64 t332] 99 (0, 0))) := ⟨by (repeat refine zL ?_); refine blk_put (cs := #[.int .i64 t324, .int .i64 t325, .slice Ao30 t326.length co30, .slice Ao31 t329.length co31, .int .i64 0]) ?_ 4 _ rfl; (repeat refine zL ?_); refine blk_put (cs := #[.int .i64 t324, .int .i64 t325, .slice Ao30 t326.length co30, .slice none 0 0, .int .i64 0]) ?_ 3 _ rfl; (repeat refine zL ?_); refine blk_put (cs := #[.int .i64 t324, .int .i64 t325, .slice none 0 0, .slice none 0 0, .int .i64 0]) ?_ 2 _ rfl; (repeat refine zL ?_); refine blk_put (cs := #[.int .i64 t324, .int .i64 0, .slice none 0 0, .slice none 0 0, .int .i64 0]) ?_ 1 _ rfl; (repeat refine zL ?_); refine blk_put (cs := #[.int .i64 0, .int .i64 0, .slice none 0 0, .slice none 0 0, .int .i64 0]) ?_ 0 _ rfl; (repeat refine zL ?_); exact BK334.out⟩
          have n4_ : Aside0 (Below w.heap.size w (((((w27.setCell ⟨gb334, 0, none⟩ (.int .i64 t324)).setCell ⟨gb334, 1, none⟩ (.int .i64 t325)).setCell ⟨gb334, 2, none⟩ (.slice Ao30 t326.length co30)).setCell ⟨gb334, 3, none⟩ (.slice Ao31 t329.length co31)).setCell ⟨gb334, 4, none⟩ (.int .i64 t332))) := ⟨zH⟩
          (try clear HO328)
          (try clear HO331)
          (try clear BK323)
          (try clear BK334)
          (try clear HB)
          generalize (((((w27.setCell ⟨gb334, 0, none⟩ (.int .i64 t324)).setCell ⟨gb334, 1, none⟩ (.int .i64 t325)).setCell ⟨gb334, 2, none⟩ (.slice Ao30 t326.length co30)).setCell ⟨gb334, 3, none⟩ (.slice Ao31 t329.length co31)).setCell ⟨gb334, 4, none⟩ (.int .i64 t332)) = w32 at n0_ n1_ n2_ n3_ n4_ ⊢
          have HO328 := n0_
          have HO331 := n1_
          have BK323 := n2_
          have BK334 := n3_
          have HB := n4_
          clear n0_ n1_ n2_ n3_ n4_
          have n0_ := Aside0.mk (Kd.R_drew HO328.out)
          have n1_ := Aside0.mk (Kd.R_drew HO331.out)
          have n2_ := Aside0.mk (blk_drew BK323.out)
          have n3_ := Aside0.mk (blk_drew BK334.out)
          have n4_ := Aside0.mk (below_drew1 HB.out)
          clear HO328
          clear HO331
          clear BK323
          clear BK334
          clear HB
          have HO328 := n0_
          have HO331 := n1_
          have BK323 := n2_
          have BK334 := n3_
          have HB := n4_
          clear n0_ n1_ n2_ n3_ n4_
          refine start_ (n := 12) (S := fun w' => w'.cell? ⟨gb323, 0, none⟩ = some (.int .i64 a0_0) ∧ w'.cell? ⟨gb323, 1, none⟩ = some (.int .i64 a0_1) ∧ w'.cell? ⟨gb323, 2, none⟩ = some (.int .i64 a0_2) ∧ w'.cell? ⟨gb323, 3, none⟩ = some (.int .i64 a0_3) ∧ w'.cell? ⟨gb323, 4, none⟩ = some (.slice A0_4 l0_4.length c0_4) ∧ w'.cell? ⟨gb334, 0, none⟩ = some (.int .i64 t324) ∧ w'.cell? ⟨gb334, 1, none⟩ = some (.int .i64 t325) ∧ w'.cell? ⟨gb334, 2, none⟩ = some (.slice Ao30 t326.length co30) ∧ w'.cell? ⟨gb334, 3, none⟩ = some (.slice Ao31 t329.length co31) ∧ w'.cell? ⟨gb334, 4, none⟩ = some (.int .i64 t332)) (ds := []) #[false, false, false, false, false, false, false, false, false, false, false, false] (by kernel_rfl) rfl rfl ⟨(blk_cell BK323.out 0).trans rfl, (blk_cell BK323.out 1).trans rfl, (blk_cell BK323.out 2).trans rfl, (blk_cell BK323.out 3).trans rfl, (blk_cell BK323.out 4).trans rfl, (blk_cell BK334.out 0).trans rfl, (blk_cell BK334.out 1).trans rfl, (blk_cell BK334.out 2).trans rfl, (blk_cell BK334.out 3).trans rfl, (blk_cell BK334.out 4).trans rfl⟩ (fun hHeld => ?_); refine with_tabW impl_isEvent.tab9 impl_isEvent.bits9 (fun HT_ HW_ => ?_)
          generalize w32.drew = w33 at HO328 HO331 BK323 BK334 HB hHeld ⊢
          refine pure_ (i := 0) (N := some 53) (v := ?_) (a' := ?_) #[true, false, false, false, false, false, false, false, false, false, false, false] rfl rfl (any_of HT_.out (by kernel_rfl)) (fun _ _ _ h => h) (Or.inl ⟨by rfl, ?_⟩) ?_ ?_
          rotate_left;(focus intro w';go_simp;with_reducible rfl);rotate_left;(focus simp only [Act.put, List.setIfInBounds_toArray, List.set_cons_zero, List.set_cons_succ, i64_w, i32_w];rfl)
          refine pure_ (i := 1) (N := some 54) (v := ?_) (a' := ?_) #[true, true, false, false, false, false, false, false, false, false, false, false] rfl rfl (any_of HT_.out (by kernel_rfl)) (fun _ _ _ h => h) (Or.inl ⟨by rfl, ?_⟩) ?_ ?_
          rotate_left;(focus intro w';go_simp;with_reducible rfl);rotate_left;(focus simp only [Act.put, List.setIfInBounds_toArray, List.set_cons_zero, List.set_cons_succ, i64_w, i32_w];rfl)
          refine pure_ (i := 2) (N := some 55) (v := ?_) (a' := ?_) #[true, true, true, false, false, false, false, false, false, false, false, false] rfl rfl (any_of HT_.out (by kernel_rfl)) (fun _ _ _ h => h) (Or.inl ⟨by rfl, ?_⟩) ?_ ?_
          rotate_left;(focus intro w';go_simp;with_reducible rfl);rotate_left;(focus simp only [Act.put, List.setIfInBounds_toArray, List.set_cons_zero, List.set_cons_succ, i64_w, i32_w];rfl)
          refine pure_ (i := 3) (N := some 56) (v := ?_) (a' := ?_) #[true, true, true, true, false, false, false, false, false, false, false, false] rfl rfl (any_of HT_.out (by kernel_rfl)) (fun _ _ _ h => h) (Or.inl ⟨by rfl, ?_⟩) ?_ ?_
          rotate_left;(focus intro w';go_simp;with_reducible rfl);rotate_left;(focus simp only [Act.put, List.setIfInBounds_toArray, List.set_cons_zero, List.set_cons_succ, i64_w, i32_w];rfl)
          refine pure_ (i := 4) (N := some 57) (v := ?_) (a' := ?_) #[true, true, true, true, true, false, false, false, false, false, false, false] rfl rfl (any_of HT_.out (by kernel_rfl)) (fun _ _ _ h => h) (Or.inl ⟨by rfl, ?_⟩) ?_ ?_
          rotate_left;(focus intro w';go_simp;with_reducible rfl);rotate_left;(focus simp only [Act.put, List.setIfInBounds_toArray, List.set_cons_zero, List.set_cons_succ, i64_w, i32_w];rfl)
          refine pure_ (i := 5) (N := some 58) (v := ?_) (a' := ?_) #[true, true, true, true, true, true, false, false, false, false, false, false] rfl rfl (any_of HT_.out (by kernel_rfl)) (fun _ _ _ h => h) (Or.inl ⟨by rfl, ?_⟩) ?_ ?_
          rotate_left;(focus intro w';go_simp;with_reducible rfl);rotate_left;(focus simp only [Act.put, List.setIfInBounds_toArray, List.set_cons_zero, List.set_cons_succ, i64_w, i32_w];rfl)
          refine take_ (i := 6) (N := some 59) (v := ?_) (a' := ?_) #[true, true, true, true, true, true, true, false, false, false, false, false] rfl rfl (take_ofW HT_.out HW_.out (by kernel_rfl)) (fun _ _ _ h => h) (Or.inl ⟨by rfl, ?_⟩) hHeld ?_ ?_
          rotate_left
          ·rintro w' ⟨s0, s1, s2, s3, s4, s5, s6, s7, s8, s9⟩
           go_simp
           with_reducible rfl
          rotate_left
          ·simp only [Act.put, List.setIfInBounds_toArray, List.set_cons_zero, List.set_cons_succ, i64_w, i32_w]
           rfl
          refine take_ (i := 7) (N := some 60) (v := ?_) (a' := ?_) #[true, true, true, true, true, true, true, true, false, false, false, false] rfl rfl (take_ofW HT_.out HW_.out (by kernel_rfl)) (fun _ _ _ h => h) (Or.inl ⟨by rfl, ?_⟩) hHeld ?_ ?_
          rotate_left
          ·rintro w' ⟨s0, s1, s2, s3, s4, s5, s6, s7, s8, s9⟩
           go_simp
           with_reducible rfl
          rotate_left
          ·simp only [Act.put, List.setIfInBounds_toArray, List.set_cons_zero, List.set_cons_succ, i64_w, i32_w]
           rfl
          refine one_ (i := 8) (N := some 61) #[true, true, true, true, true, true, true, true, true, false, false, false] rfl rfl (one_of HT_.out (by kernel_rfl)) (by decide) (fun K hK => ?_)
          refine goes_ Try.func134 (by kernel_rfl) rfl #[.agg #[.int .i64 t324, .int .i64 t325, .slice Ao30 t326.length co30, .slice Ao31 t329.length co31, .int .i64 t332]] (by rfl) rfl rfl zM ?_
          with_reducible refine (impl_jobCost.calls kj7 t324 t325 _ _ t326 _ _ t329 t332 t335 _ ?side1 ?side2 ?side3 ?side4 A24.out).mono ?_
          (case side1 => exact zC ((Kd.R_reads' HO328.out).2.2))
          (case side2 => exact (Kd.R_reads' HO328.out).2.1)
          (case side3 => exact zC ((Kd.R_reads' HO331.out).2.2))
          (case side4 => exact (Kd.R_reads' HO331.out).2.1)
          rintro e w34 ⟨rfl, hb⟩
          refine ⟨_, rfl, ?_⟩
          have n0_ := Aside0.mk (Kd.R_below (zR HO328.out) hb)
          have n1_ := Aside0.mk (Kd.R_below (zR HO331.out) hb)
          have n2_ := Aside0.mk (blk_below (g := gb323) (o := .cells #[.int .i64 a0_0, .int .i64 a0_1, .int .i64 a0_2, .int .i64 a0_3, .slice A0_4 l0_4.length c0_4] 44 (0, 0)) (zB BK323.out) hb)
          have n3_ := Aside0.mk (blk_below (g := gb334) (o := .cells #[.int .i64 t324, .int .i64 t325, .slice Ao30 t326.length co30, .slice Ao31 t329.length co31, .int .i64 t332] 99 (0, 0)) (zB BK334.out) hb)
          have n4_ := Aside0.mk (below_step zH hb)
          clear HO328
          clear HO331
          clear BK323
          clear BK334
          clear HB
          have HO328 := n0_
          have HO331 := n1_
          have BK323 := n2_
          have BK334 := n3_
          have HB := n4_
          clear n0_ n1_ n2_ n3_ n4_
          (try clear hb)
          (try clear hb2)
          (try clear hk)
          (try clear hi)
          refine hK.out _ _ ⟨(blk_cell BK323.out 0).trans rfl, (blk_cell BK323.out 1).trans rfl, (blk_cell BK323.out 2).trans rfl, (blk_cell BK323.out 3).trans rfl, (blk_cell BK323.out 4).trans rfl, (blk_cell BK334.out 0).trans rfl, (blk_cell BK334.out 1).trans rfl, (blk_cell BK334.out 2).trans rfl, (blk_cell BK334.out 3).trans rfl, (blk_cell BK334.out 4).trans rfl⟩ (fun hHeld => ?_)
          clear hK K
          refine norm_ (a' := ?_) ?_ ?_
          rotate_left
          ·show Act.put _ (some 61) _ = _
           simp only [Act.put, List.setIfInBounds_toArray, List.set_cons_zero, List.set_cons_succ, i64_w, i32_w]
           rfl
          refine pure_ (i := 9) (N := some 62) (v := ?_) (a' := ?_) #[true, true, true, true, true, true, true, true, true, true, false, false] rfl rfl (any_of HT_.out (by kernel_rfl)) (fun _ _ _ h => h) (Or.inl ⟨by rfl, ?_⟩) ?_ ?_
          rotate_left;(focus intro w';go_simp;with_reducible rfl);rotate_left;(focus simp only [Act.put, List.setIfInBounds_toArray, List.set_cons_zero, List.set_cons_succ, i64_w, i32_w];rfl)
          refine pure_ (i := 10) (N := some 63) (v := ?_) (a' := ?_) #[true, true, true, true, true, true, true, true, true, true, true, false] rfl rfl (any_of HT_.out (by kernel_rfl)) (fun _ _ _ h => h) (Or.inl ⟨by rfl, ?_⟩) ?_ ?_
          rotate_left;(focus intro w';go_simp;with_reducible rfl);rotate_left;(focus simp only [Act.put, List.setIfInBounds_toArray, List.set_cons_zero, List.set_cons_succ, i64_w, i32_w];rfl)
          refine pure_ (i := 11) (N := some 2) (v := ?_) (a' := ?_) #[true, true, true, true, true, true, true, true, true, true, true, true] rfl rfl (any_of HT_.out (by kernel_rfl)) (fun _ _ _ h => h) (Or.inl ⟨by rfl, ?_⟩) ?_ ?_
          rotate_left;(focus intro w';go_simp;with_reducible rfl);rotate_left;(focus simp only [Act.put, List.setIfInBounds_toArray, List.set_cons_zero, List.set_cons_succ, i64_w, i32_w];rfl)
          refine done_ (done_of HT_.out (by kernel_rfl)) ?_
          try go_wp2
          go_ret
          exact ⟨zE, zH⟩
         ·replace c23 := Bool.eq_false_iff.mpr c23
          subst c23
          replace H : (some false) = some r := by rw [if_neg (show ¬ (false = true) by decide)] at H; exact H
          obtain rfl := Option.some.inj H
          obtain ⟨hcz35_0, hcz35_1, hcz35_2, hcz35_3, hcz35_4⟩ := zc5 BK323.out
          obtain ⟨hfz35_0, hfz35_1, hfz35_2, hfz35_3, hfz35_4⟩ := zf BK323.out
          try go_wp2_with (first | ((with_reducible refine gate_callee (f := 133) rfl ?_); refine goesL_ (some 50) rfl rfl Try.func133 (by kernel_rfl) rfl #[.slice A0_4 l0_4.length c0_4] rfl zM ?_; (with_reducible refine (impl_DecodeJob.calls kj7 _ _ l0_4 t324 t325 t326 t329 t332 false _ ?side1 ?side2 A21.out).mono ?_); (case side1 => exact zC (Kd.C_below HR0_4.out HB.out)); (case side2 => exact HC0_4.out); rintro e w36 ⟨v327, v330, rfl, ho0, ho1, hb⟩; refine ⟨_, rfl, ?_⟩; have n0_ := Aside0.mk (Kd.R_lower ho0 (below_size zH)); have n1_ := Aside0.mk (Kd.R_lower ho1 (below_size zH)); have n2_ := Aside0.mk (blk_below (g := gb323) (o := .cells #[.int .i64 a0_0, .int .i64 a0_1, .int .i64 a0_2, .int .i64 a0_3, .slice A0_4 l0_4.length c0_4] 44 (0, 0)) (zB BK323.out) hb); have n3_ := Aside0.mk (below_step zH hb); clear BK323; clear HB; have HO328 := n0_; have HO331 := n1_; have BK323 := n2_; have HB := n3_; clear n0_ n1_ n2_ n3_; (try clear hb); (try clear hb2); (try clear hk); (try clear hi); (try clear ho0); (try clear ho1)) | ((with_reducible refine gate_dst (N := 4) rfl ?_); (try (refine gate_guard (by rfl) ?_; dsimp only)); refine box_event ?hg (N := 4) ?hd (cs := #[.int .i64 0, .int .i64 0, .slice none 0 0, .slice none 0 0, .int .i64 0]) (t := 99) ?hr ?_; (case hd => rfl); (case hg => rfl); (case hr => first | (go_simp; done) | (go_simp; rfl)); intro gb334 hg w37 hbox hb; have n0_ := Aside0.mk (Kd.R_below (zR HO328.out) hb); have n1_ := Aside0.mk (Kd.R_below (zR HO331.out) hb); have n2_ := Aside0.mk (blk_below (g := gb323) (o := .cells #[.int .i64 a0_0, .int .i64 a0_1, .int .i64 a0_2, .int .i64 a0_3, .slice A0_4 l0_4.length c0_4] 44 (0, 0)) (zB BK323.out) hb); have n3_ := Aside0.mk (below_step zH hb); have n4_ := Aside0.mk (hbox); have n5_ := Aside0.mk ((by rw [hg]; exact (below_size zH) : w.heap.size ≤ gb334)); have n6_ := Aside0.mk ((by rw [hg]; exact (below_size zH) : w.heap.size ≤ gb334)); have n7_ := Aside0.mk ((by rw [hg]; exact Nat.ne_of_lt (blk_lt (g := gb323) (o := .cells #[.int .i64 a0_0, .int .i64 a0_1, .int .i64 a0_2, .int .i64 a0_3, .slice A0_4 l0_4.length c0_4] 44 (0, 0)) (zB BK323.out)) : gb323 ≠ gb334)); have n8_ := Aside0.mk ((by rw [hg]; exact Nat.ne_of_gt (blk_lt (g := gb323) (o := .cells #[.int .i64 a0_0, .int .i64 a0_1, .int .i64 a0_2, .int .i64 a0_3, .slice A0_4 l0_4.length c0_4] 44 (0, 0)) (zB BK323.out)) : gb334 ≠ gb323)); clear HO328; clear HO331; clear BK323; clear HB; have HO328 := n0_; have HO331 := n1_; have BK323 := n2_; have HB := n3_; have BK334 := n4_; have GW334 := n5_; have GE334 := n6_; have NB323_334 := n7_; have NB334_323 := n8_; clear n0_ n1_ n2_ n3_ n4_ n5_ n6_ n7_ n8_; clear hb hbox hg; have hnb38 := NB334_323.out; have hnc38 := NB323_334.out; obtain ⟨hcz39_0, hcz39_1, hcz39_2, hcz39_3, hcz39_4⟩ := zc5 BK334.out; obtain ⟨hfz39_0, hfz39_1, hfz39_2, hfz39_3, hfz39_4⟩ := zf BK334.out; obtain ⟨Ao40, co40, eo40⟩ := Kd.R_slice HO328.out; subst eo40; obtain ⟨Ao41, co41, eo41⟩ := Kd.R_slice HO331.out; subst eo41))
          have n0_ : Aside0 (Kd.R (Kd.int .i64) 3 (((((w37.setCell ⟨gb334, 0, none⟩ (.int .i64 t324)).setCell ⟨gb334, 1, none⟩ (.int .i64 t325)).setCell ⟨gb334, 2, none⟩ (.slice Ao40 t326.length co40)).setCell ⟨gb334, 3, none⟩ (.slice Ao41 t329.length co41)).setCell ⟨gb334, 4, none⟩ (.int .i64 t332)) w.heap.size (fun k_ => some k_ ≠ (.slice Ao41 t329.length co41 : Value).ownBlock) (.slice Ao40 t326.length co40) t326) := ⟨by (with_reducible repeat (first | apply Kd.R_alloc | apply Kd.R_drewN | apply Kd.R_drew)); exact Kd.R_mono (Kd.R_far (p := ⟨gb334, 4, none⟩) (Kd.R_far (p := ⟨gb334, 3, none⟩) (Kd.R_far (p := ⟨gb334, 2, none⟩) (Kd.R_far (p := ⟨gb334, 1, none⟩) (Kd.R_far (p := ⟨gb334, 0, none⟩) (Kd.R_types HO328.out BK334.out (by decide)) (fun _ hk => hk.2) (.int .i64 t324)) (fun _ hk => hk.2) (.int .i64 t325)) (fun _ hk => hk.2) (.slice Ao40 t326.length co40)) (fun _ hk => hk.2) (.slice Ao41 t329.length co41)) (fun _ hk => hk.2) (.int .i64 t332)) (fun _ hk => hk.1)⟩
          have n1_ : Aside0 (Kd.R (Kd.int .i64) 3 (((((w37.setCell ⟨gb334, 0, none⟩ (.int .i64 t324)).setCell ⟨gb334, 1, none⟩ (.int .i64 t325)).setCell ⟨gb334, 2, none⟩ (.slice Ao40 t326.length co40)).setCell ⟨gb334, 3, none⟩ (.slice Ao41 t329.length co41)).setCell ⟨gb334, 4, none⟩ (.int .i64 t332)) w.heap.size (fun k_ => some k_ ≠ (.slice Ao40 t326.length co40 : Value).ownBlock) (.slice Ao41 t329.length co41) t329) := ⟨by (with_reducible repeat (first | apply Kd.R_alloc | apply Kd.R_drewN | apply Kd.R_drew)); exact Kd.R_mono (Kd.R_far (p := ⟨gb334, 4, none⟩) (Kd.R_far (p := ⟨gb334, 3, none⟩) (Kd.R_far (p := ⟨gb334, 2, none⟩) (Kd.R_far (p := ⟨gb334, 1, none⟩) (Kd.R_far (p := ⟨gb334, 0, none⟩) (Kd.R_types HO331.out BK334.out (by decide)) (fun _ hk => hk.2) (.int .i64 t324)) (fun _ hk => hk.2) (.int .i64 t325)) (fun _ hk => hk.2) (.slice Ao40 t326.length co40)) (fun _ hk => hk.2) (.slice Ao41 t329.length co41)) (fun _ hk => hk.2) (.int .i64 t332)) (fun _ hk => hk.1)⟩
          have n2_ : Aside0 ((((((w37.setCell ⟨gb334, 0, none⟩ (.int .i64 t324)).setCell ⟨gb334, 1, none⟩ (.int .i64 t325)).setCell ⟨gb334, 2, none⟩ (.slice Ao40 t326.length co40)).setCell ⟨gb334, 3, none⟩ (.slice Ao41 t329.length co41)).setCell ⟨gb334, 4, none⟩ (.int .i64 t332)).heap[gb323]? = some (.cells #[.int .i64 a0_0, .int .i64 a0_1, .int .i64 a0_2, .int .i64 a0_3, .slice A0_4 l0_4.length c0_4] 44 (0, 0))) := ⟨by (repeat refine zL ?_); refine blk_far ?_ NB323_334.out _; (repeat refine zL ?_); refine blk_far ?_ NB323_334.out _; (repeat refine zL ?_); refine blk_far ?_ NB323_334.out _; (repeat refine zL ?_); refine blk_far ?_ NB323_334.out _; (repeat refine zL ?_); refine blk_far ?_ NB323_334.out _; (repeat refine zL ?_); exact BK323.out⟩
          have n3_ : Aside0 ((((((w37.setCell ⟨gb334, 0, none⟩ (.int .i64 t324)).setCell ⟨gb334, 1, none⟩ (.int .i64 t325)).setCell ⟨gb334, 2, none⟩ (.slice Ao40 t326.length co40)).setCell ⟨gb334, 3, none⟩ (.slice Ao41 t329.length co41)).setCell ⟨gb334, 4, none⟩ (.int .i64 t332)).heap[gb334]? = some (.cells #[.int .i64 t324, .int .i64 t325, .slice Ao40 t326.length co40, .slice Ao41 t329.length co41, .int .i64 t332] 99 (0, 0))) := ⟨by (repeat refine zL ?_); refine blk_put (cs := #[.int .i64 t324, .int .i64 t325, .slice Ao40 t326.length co40, .slice Ao41 t329.length co41, .int .i64 0]) ?_ 4 _ rfl; (repeat refine zL ?_); refine blk_put (cs := #[.int .i64 t324, .int .i64 t325, .slice Ao40 t326.length co40, .slice none 0 0, .int .i64 0]) ?_ 3 _ rfl; (repeat refine zL ?_); refine blk_put (cs := #[.int .i64 t324, .int .i64 t325, .slice none 0 0, .slice none 0 0, .int .i64 0]) ?_ 2 _ rfl; (repeat refine zL ?_); refine blk_put (cs := #[.int .i64 t324, .int .i64 0, .slice none 0 0, .slice none 0 0, .int .i64 0]) ?_ 1 _ rfl; (repeat refine zL ?_); refine blk_put (cs := #[.int .i64 0, .int .i64 0, .slice none 0 0, .slice none 0 0, .int .i64 0]) ?_ 0 _ rfl; (repeat refine zL ?_); exact BK334.out⟩
          have n4_ : Aside0 (Below w.heap.size w (((((w37.setCell ⟨gb334, 0, none⟩ (.int .i64 t324)).setCell ⟨gb334, 1, none⟩ (.int .i64 t325)).setCell ⟨gb334, 2, none⟩ (.slice Ao40 t326.length co40)).setCell ⟨gb334, 3, none⟩ (.slice Ao41 t329.length co41)).setCell ⟨gb334, 4, none⟩ (.int .i64 t332))) := ⟨zH⟩
          (try clear HO328)
          (try clear HO331)
          (try clear BK323)
          (try clear BK334)
          (try clear HB)
          generalize (((((w37.setCell ⟨gb334, 0, none⟩ (.int .i64 t324)).setCell ⟨gb334, 1, none⟩ (.int .i64 t325)).setCell ⟨gb334, 2, none⟩ (.slice Ao40 t326.length co40)).setCell ⟨gb334, 3, none⟩ (.slice Ao41 t329.length co41)).setCell ⟨gb334, 4, none⟩ (.int .i64 t332)) = w42 at n0_ n1_ n2_ n3_ n4_ ⊢
          have HO328 := n0_
          have HO331 := n1_
          have BK323 := n2_
          have BK334 := n3_
          have HB := n4_
          clear n0_ n1_ n2_ n3_ n4_
          have n0_ := Aside0.mk (Kd.R_drew HO328.out)
          have n1_ := Aside0.mk (Kd.R_drew HO331.out)
          have n2_ := Aside0.mk (blk_drew BK323.out)
          have n3_ := Aside0.mk (blk_drew BK334.out)
          have n4_ := Aside0.mk (below_drew1 HB.out)
          clear HO328
          clear HO331
          clear BK323
          clear BK334
          clear HB
          have HO328 := n0_
          have HO331 := n1_
          have BK323 := n2_
          have BK334 := n3_
          have HB := n4_
          clear n0_ n1_ n2_ n3_ n4_
          refine start_ (n := 12) (S := fun w' => True) (ds := []) #[false, false, false, false, false, false, false, false, false, false, false, false] (by kernel_rfl) rfl rfl trivial (fun hHeld => ?_); refine with_tabW impl_isEvent.tab9 impl_isEvent.bits9 (fun HT_ HW_ => ?_)
          generalize w42.drew = w43 at HO328 HO331 BK323 BK334 HB hHeld ⊢
          refine pure_ (i := 0) (N := some 53) (v := ?_) (a' := ?_) #[true, false, false, false, false, false, false, false, false, false, false, false] rfl rfl (any_of HT_.out (by kernel_rfl)) (fun _ _ _ h => h) (Or.inl ⟨by rfl, ?_⟩) ?_ ?_
          rotate_left;(focus intro w';go_simp;with_reducible rfl);rotate_left;(focus simp only [Act.put, List.setIfInBounds_toArray, List.set_cons_zero, List.set_cons_succ, i64_w, i32_w];rfl)
          refine pure_ (i := 1) (N := some 54) (v := ?_) (a' := ?_) #[true, true, false, false, false, false, false, false, false, false, false, false] rfl rfl (any_of HT_.out (by kernel_rfl)) (fun _ _ _ h => h) (Or.inl ⟨by rfl, ?_⟩) ?_ ?_
          rotate_left;(focus intro w';go_simp;with_reducible rfl);rotate_left;(focus simp only [Act.put, List.setIfInBounds_toArray, List.set_cons_zero, List.set_cons_succ, i64_w, i32_w];rfl)
          refine pure_ (i := 2) (N := some 55) (v := ?_) (a' := ?_) #[true, true, true, false, false, false, false, false, false, false, false, false] rfl rfl (any_of HT_.out (by kernel_rfl)) (fun _ _ _ h => h) (Or.inl ⟨by rfl, ?_⟩) ?_ ?_
          rotate_left;(focus intro w';go_simp;with_reducible rfl);rotate_left;(focus simp only [Act.put, List.setIfInBounds_toArray, List.set_cons_zero, List.set_cons_succ, i64_w, i32_w];rfl)
          refine pure_ (i := 3) (N := some 56) (v := ?_) (a' := ?_) #[true, true, true, true, false, false, false, false, false, false, false, false] rfl rfl (any_of HT_.out (by kernel_rfl)) (fun _ _ _ h => h) (Or.inl ⟨by rfl, ?_⟩) ?_ ?_
          rotate_left;(focus intro w';go_simp;with_reducible rfl);rotate_left;(focus simp only [Act.put, List.setIfInBounds_toArray, List.set_cons_zero, List.set_cons_succ, i64_w, i32_w];rfl)
          refine pure_ (i := 4) (N := some 57) (v := ?_) (a' := ?_) #[true, true, true, true, true, false, false, false, false, false, false, false] rfl rfl (any_of HT_.out (by kernel_rfl)) (fun _ _ _ h => h) (Or.inl ⟨by rfl, ?_⟩) ?_ ?_
          rotate_left;(focus intro w';go_simp;with_reducible rfl);rotate_left;(focus simp only [Act.put, List.setIfInBounds_toArray, List.set_cons_zero, List.set_cons_succ, i64_w, i32_w];rfl)
          refine pure_ (i := 5) (N := some 58) (v := undef) (a' := ?_) #[true, true, true, true, true, true, false, false, false, false, false, false] rfl rfl (any_of HT_.out (by kernel_rfl)) (fun _ _ _ h => h) (Or.inr ⟨by rfl, rfl⟩) ?_ ?_
          rotate_left
          ·simp only [Act.put, List.setIfInBounds_toArray, List.set_cons_zero, List.set_cons_succ, i64_w, i32_w]
           rfl
          refine pure_ (i := 6) (N := some 59) (v := undef) (a' := ?_) #[true, true, true, true, true, true, true, false, false, false, false, false] rfl rfl (any_of HT_.out (by kernel_rfl)) (fun _ _ _ h => h) (Or.inr ⟨by rfl, rfl⟩) ?_ ?_
          rotate_left
          ·simp only [Act.put, List.setIfInBounds_toArray, List.set_cons_zero, List.set_cons_succ, i64_w, i32_w]
           rfl
          refine pure_ (i := 7) (N := some 60) (v := undef) (a' := ?_) #[true, true, true, true, true, true, true, true, false, false, false, false] rfl rfl (any_of HT_.out (by kernel_rfl)) (fun _ _ _ h => h) (Or.inr ⟨by rfl, rfl⟩) ?_ ?_
          rotate_left
          ·simp only [Act.put, List.setIfInBounds_toArray, List.set_cons_zero, List.set_cons_succ, i64_w, i32_w]
           rfl
          refine pure_ (i := 8) (N := some 61) (v := undef) (a' := ?_) #[true, true, true, true, true, true, true, true, true, false, false, false] rfl rfl (any_of HT_.out (by kernel_rfl)) (fun _ _ _ h => h) (Or.inr ⟨by rfl, rfl⟩) ?_ ?_
          rotate_left
          ·simp only [Act.put, List.setIfInBounds_toArray, List.set_cons_zero, List.set_cons_succ, i64_w, i32_w]
           rfl
          refine pure_ (i := 9) (N := some 62) (v := undef) (a' := ?_) #[true, true, true, true, true, true, true, true, true, true, false, false] rfl rfl (any_of HT_.out (by kernel_rfl)) (fun _ _ _ h => h) (Or.inr ⟨by rfl, rfl⟩) ?_ ?_
          rotate_left
          ·simp only [Act.put, List.setIfInBounds_toArray, List.set_cons_zero, List.set_cons_succ, i64_w, i32_w]
           rfl
          refine pure_ (i := 10) (N := some 63) (v := ?_) (a' := ?_) #[true, true, true, true, true, true, true, true, true, true, true, false] rfl rfl (any_of HT_.out (by kernel_rfl)) (fun _ _ _ h => h) (Or.inl ⟨by rfl, ?_⟩) ?_ ?_
          rotate_left;(focus intro w';go_simp;with_reducible rfl);rotate_left;(focus simp only [Act.put, List.setIfInBounds_toArray, List.set_cons_zero, List.set_cons_succ, i64_w, i32_w];rfl)
          refine pure_ (i := 11) (N := some 2) (v := ?_) (a' := ?_) #[true, true, true, true, true, true, true, true, true, true, true, true] rfl rfl (any_of HT_.out (by kernel_rfl)) (fun _ _ _ h => h) (Or.inl ⟨by rfl, ?_⟩) ?_ ?_
          rotate_left;(focus intro w';go_simp;with_reducible rfl);rotate_left;(focus simp only [Act.put, List.setIfInBounds_toArray, List.set_cons_zero, List.set_cons_succ, i64_w, i32_w];rfl)
          refine done_ (done_of HT_.out (by kernel_rfl)) ?_
          try go_wp2
          go_ret
          exact ⟨zE, zH⟩
        ·replace c22 := Bool.eq_false_iff.mpr c22
         subst c22
         replace H : (some false) = some r := by rw [if_neg (show ¬ (false = true) by decide)] at H; exact H
         obtain rfl := Option.some.inj H
         obtain ⟨hcz44_0, hcz44_1, hcz44_2, hcz44_3, hcz44_4⟩ := zc5 BK323.out
         obtain ⟨hfz44_0, hfz44_1, hfz44_2, hfz44_3, hfz44_4⟩ := zf BK323.out
         try go_wp2_with (first | ((with_reducible refine gate_callee (f := 133) rfl ?_); refine goesL_ (some 50) rfl rfl Try.func133 (by kernel_rfl) rfl #[.slice A0_4 l0_4.length c0_4] rfl zM ?_; (with_reducible refine (impl_DecodeJob.calls kj7 _ _ l0_4 t324 t325 t326 t329 t332 t333 _ ?side1 ?side2 A21.out).mono ?_); (case side1 => exact zC (Kd.C_below HR0_4.out HB.out)); (case side2 => exact HC0_4.out); rintro e w45 ⟨v327, v330, rfl, ho0, ho1, hb⟩; refine ⟨_, rfl, ?_⟩; have n0_ := Aside0.mk (Kd.R_lower ho0 (below_size zH)); have n1_ := Aside0.mk (Kd.R_lower ho1 (below_size zH)); have n2_ := Aside0.mk (blk_below (g := gb323) (o := .cells #[.int .i64 a0_0, .int .i64 a0_1, .int .i64 a0_2, .int .i64 a0_3, .slice A0_4 l0_4.length c0_4] 44 (0, 0)) (zB BK323.out) hb); have n3_ := Aside0.mk (below_step zH hb); clear BK323; clear HB; have HO328 := n0_; have HO331 := n1_; have BK323 := n2_; have HB := n3_; clear n0_ n1_ n2_ n3_; (try clear hb); (try clear hb2); (try clear hk); (try clear hi); (try clear ho0); (try clear ho1)) | ((with_reducible refine gate_dst (N := 4) rfl ?_); (try (refine gate_guard (by rfl) ?_; dsimp only)); refine box_event ?hg (N := 4) ?hd (cs := #[.int .i64 0, .int .i64 0, .slice none 0 0, .slice none 0 0, .int .i64 0]) (t := 99) ?hr ?_; (case hd => rfl); (case hg => rfl); (case hr => first | (go_simp; done) | (go_simp; rfl)); intro gb334 hg w46 hbox hb; have n0_ := Aside0.mk (Kd.R_below (zR HO328.out) hb); have n1_ := Aside0.mk (Kd.R_below (zR HO331.out) hb); have n2_ := Aside0.mk (blk_below (g := gb323) (o := .cells #[.int .i64 a0_0, .int .i64 a0_1, .int .i64 a0_2, .int .i64 a0_3, .slice A0_4 l0_4.length c0_4] 44 (0, 0)) (zB BK323.out) hb); have n3_ := Aside0.mk (below_step zH hb); have n4_ := Aside0.mk (hbox); have n5_ := Aside0.mk ((by rw [hg]; exact (below_size zH) : w.heap.size ≤ gb334)); have n6_ := Aside0.mk ((by rw [hg]; exact (below_size zH) : w.heap.size ≤ gb334)); have n7_ := Aside0.mk ((by rw [hg]; exact Nat.ne_of_lt (blk_lt (g := gb323) (o := .cells #[.int .i64 a0_0, .int .i64 a0_1, .int .i64 a0_2, .int .i64 a0_3, .slice A0_4 l0_4.length c0_4] 44 (0, 0)) (zB BK323.out)) : gb323 ≠ gb334)); have n8_ := Aside0.mk ((by rw [hg]; exact Nat.ne_of_gt (blk_lt (g := gb323) (o := .cells #[.int .i64 a0_0, .int .i64 a0_1, .int .i64 a0_2, .int .i64 a0_3, .slice A0_4 l0_4.length c0_4] 44 (0, 0)) (zB BK323.out)) : gb334 ≠ gb323)); clear HO328; clear HO331; clear BK323; clear HB; have HO328 := n0_; have HO331 := n1_; have BK323 := n2_; have HB := n3_; have BK334 := n4_; have GW334 := n5_; have GE334 := n6_; have NB323_334 := n7_; have NB334_323 := n8_; clear n0_ n1_ n2_ n3_ n4_ n5_ n6_ n7_ n8_; clear hb hbox hg; have hnb47 := NB334_323.out; have hnc47 := NB323_334.out; obtain ⟨hcz48_0, hcz48_1, hcz48_2, hcz48_3, hcz48_4⟩ := zc5 BK334.out; obtain ⟨hfz48_0, hfz48_1, hfz48_2, hfz48_3, hfz48_4⟩ := zf BK334.out; obtain ⟨Ao49, co49, eo49⟩ := Kd.R_slice HO328.out; subst eo49; obtain ⟨Ao50, co50, eo50⟩ := Kd.R_slice HO331.out; subst eo50))
         have n0_ : Aside0 (Kd.R (Kd.int .i64) 3 (((((w46.setCell ⟨gb334, 0, none⟩ (.int .i64 t324)).setCell ⟨gb334, 1, none⟩ (.int .i64 t325)).setCell ⟨gb334, 2, none⟩ (.slice Ao49 t326.length co49)).setCell ⟨gb334, 3, none⟩ (.slice Ao50 t329.length co50)).setCell ⟨gb334, 4, none⟩ (.int .i64 t332)) w.heap.size (fun k_ => some k_ ≠ (.slice Ao50 t329.length co50 : Value).ownBlock) (.slice Ao49 t326.length co49) t326) := ⟨by (with_reducible repeat (first | apply Kd.R_alloc | apply Kd.R_drewN | apply Kd.R_drew)); exact Kd.R_mono (Kd.R_far (p := ⟨gb334, 4, none⟩) (Kd.R_far (p := ⟨gb334, 3, none⟩) (Kd.R_far (p := ⟨gb334, 2, none⟩) (Kd.R_far (p := ⟨gb334, 1, none⟩) (Kd.R_far (p := ⟨gb334, 0, none⟩) (Kd.R_types HO328.out BK334.out (by decide)) (fun _ hk => hk.2) (.int .i64 t324)) (fun _ hk => hk.2) (.int .i64 t325)) (fun _ hk => hk.2) (.slice Ao49 t326.length co49)) (fun _ hk => hk.2) (.slice Ao50 t329.length co50)) (fun _ hk => hk.2) (.int .i64 t332)) (fun _ hk => hk.1)⟩
         have n1_ : Aside0 (Kd.R (Kd.int .i64) 3 (((((w46.setCell ⟨gb334, 0, none⟩ (.int .i64 t324)).setCell ⟨gb334, 1, none⟩ (.int .i64 t325)).setCell ⟨gb334, 2, none⟩ (.slice Ao49 t326.length co49)).setCell ⟨gb334, 3, none⟩ (.slice Ao50 t329.length co50)).setCell ⟨gb334, 4, none⟩ (.int .i64 t332)) w.heap.size (fun k_ => some k_ ≠ (.slice Ao49 t326.length co49 : Value).ownBlock) (.slice Ao50 t329.length co50) t329) := ⟨by (with_reducible repeat (first | apply Kd.R_alloc | apply Kd.R_drewN | apply Kd.R_drew)); exact Kd.R_mono (Kd.R_far (p := ⟨gb334, 4, none⟩) (Kd.R_far (p := ⟨gb334, 3, none⟩) (Kd.R_far (p := ⟨gb334, 2, none⟩) (Kd.R_far (p := ⟨gb334, 1, none⟩) (Kd.R_far (p := ⟨gb334, 0, none⟩) (Kd.R_types HO331.out BK334.out (by decide)) (fun _ hk => hk.2) (.int .i64 t324)) (fun _ hk => hk.2) (.int .i64 t325)) (fun _ hk => hk.2) (.slice Ao49 t326.length co49)) (fun _ hk => hk.2) (.slice Ao50 t329.length co50)) (fun _ hk => hk.2) (.int .i64 t332)) (fun _ hk => hk.1)⟩
         have n2_ : Aside0 ((((((w46.setCell ⟨gb334, 0, none⟩ (.int .i64 t324)).setCell ⟨gb334, 1, none⟩ (.int .i64 t325)).setCell ⟨gb334, 2, none⟩ (.slice Ao49 t326.length co49)).setCell ⟨gb334, 3, none⟩ (.slice Ao50 t329.length co50)).setCell ⟨gb334, 4, none⟩ (.int .i64 t332)).heap[gb323]? = some (.cells #[.int .i64 a0_0, .int .i64 a0_1, .int .i64 a0_2, .int .i64 a0_3, .slice A0_4 l0_4.length c0_4] 44 (0, 0))) := ⟨by (repeat refine zL ?_); refine blk_far ?_ NB323_334.out _; (repeat refine zL ?_); refine blk_far ?_ NB323_334.out _; (repeat refine zL ?_); refine blk_far ?_ NB323_334.out _; (repeat refine zL ?_); refine blk_far ?_ NB323_334.out _; (repeat refine zL ?_); refine blk_far ?_ NB323_334.out _; (repeat refine zL ?_); exact BK323.out⟩
         have n3_ : Aside0 ((((((w46.setCell ⟨gb334, 0, none⟩ (.int .i64 t324)).setCell ⟨gb334, 1, none⟩ (.int .i64 t325)).setCell ⟨gb334, 2, none⟩ (.slice Ao49 t326.length co49)).setCell ⟨gb334, 3, none⟩ (.slice Ao50 t329.length co50)).setCell ⟨gb334, 4, none⟩ (.int .i64 t332)).heap[gb334]? = some (.cells #[.int .i64 t324, .int .i64 t325, .slice Ao49 t326.length co49, .slice Ao50 t329.length co50, .int .i64 t332] 99 (0, 0))) := ⟨by (repeat refine zL ?_); refine blk_put (cs := #[.int .i64 t324, .int .i64 t325, .slice Ao49 t326.length co49, .slice Ao50 t329.length co50, .int .i64 0]) ?_ 4 _ rfl; (repeat refine zL ?_); refine blk_put (cs := #[.int .i64 t324, .int .i64 t325, .slice Ao49 t326.length co49, .slice none 0 0, .int .i64 0]) ?_ 3 _ rfl; (repeat refine zL ?_); refine blk_put (cs := #[.int .i64 t324, .int .i64 t325, .slice none 0 0, .slice none 0 0, .int .i64 0]) ?_ 2 _ rfl; (repeat refine zL ?_); refine blk_put (cs := #[.int .i64 t324, .int .i64 0, .slice none 0 0, .slice none 0 0, .int .i64 0]) ?_ 1 _ rfl; (repeat refine zL ?_); refine blk_put (cs := #[.int .i64 0, .int .i64 0, .slice none 0 0, .slice none 0 0, .int .i64 0]) ?_ 0 _ rfl; (repeat refine zL ?_); exact BK334.out⟩
         have n4_ : Aside0 (Below w.heap.size w (((((w46.setCell ⟨gb334, 0, none⟩ (.int .i64 t324)).setCell ⟨gb334, 1, none⟩ (.int .i64 t325)).setCell ⟨gb334, 2, none⟩ (.slice Ao49 t326.length co49)).setCell ⟨gb334, 3, none⟩ (.slice Ao50 t329.length co50)).setCell ⟨gb334, 4, none⟩ (.int .i64 t332))) := ⟨zH⟩
         (try clear HO328)
         (try clear HO331)
         (try clear BK323)
         (try clear BK334)
         (try clear HB)
         generalize (((((w46.setCell ⟨gb334, 0, none⟩ (.int .i64 t324)).setCell ⟨gb334, 1, none⟩ (.int .i64 t325)).setCell ⟨gb334, 2, none⟩ (.slice Ao49 t326.length co49)).setCell ⟨gb334, 3, none⟩ (.slice Ao50 t329.length co50)).setCell ⟨gb334, 4, none⟩ (.int .i64 t332)) = w51 at n0_ n1_ n2_ n3_ n4_ ⊢
         have HO328 := n0_
         have HO331 := n1_
         have BK323 := n2_
         have BK334 := n3_
         have HB := n4_
         clear n0_ n1_ n2_ n3_ n4_
         have n0_ := Aside0.mk (Kd.R_drew HO328.out)
         have n1_ := Aside0.mk (Kd.R_drew HO331.out)
         have n2_ := Aside0.mk (blk_drew BK323.out)
         have n3_ := Aside0.mk (blk_drew BK334.out)
         have n4_ := Aside0.mk (below_drew1 HB.out)
         clear HO328
         clear HO331
         clear BK323
         clear BK334
         clear HB
         have HO328 := n0_
         have HO331 := n1_
         have BK323 := n2_
         have BK334 := n3_
         have HB := n4_
         clear n0_ n1_ n2_ n3_ n4_
         refine start_ (n := 12) (S := fun w' => True) (ds := []) #[false, false, false, false, false, false, false, false, false, false, false, false] (by kernel_rfl) rfl rfl trivial (fun hHeld => ?_); refine with_tabW impl_isEvent.tab9 impl_isEvent.bits9 (fun HT_ HW_ => ?_)
         generalize w51.drew = w52 at HO328 HO331 BK323 BK334 HB hHeld ⊢
         refine pure_ (i := 0) (N := some 53) (v := ?_) (a' := ?_) #[true, false, false, false, false, false, false, false, false, false, false, false] rfl rfl (any_of HT_.out (by kernel_rfl)) (fun _ _ _ h => h) (Or.inl ⟨by rfl, ?_⟩) ?_ ?_
         rotate_left;(focus intro w';go_simp;with_reducible rfl);rotate_left;(focus simp only [Act.put, List.setIfInBounds_toArray, List.set_cons_zero, List.set_cons_succ, i64_w, i32_w];rfl)
         refine pure_ (i := 1) (N := some 54) (v := ?_) (a' := ?_) #[true, true, false, false, false, false, false, false, false, false, false, false] rfl rfl (any_of HT_.out (by kernel_rfl)) (fun _ _ _ h => h) (Or.inl ⟨by rfl, ?_⟩) ?_ ?_
         rotate_left;(focus intro w';go_simp;with_reducible rfl);rotate_left;(focus simp only [Act.put, List.setIfInBounds_toArray, List.set_cons_zero, List.set_cons_succ, i64_w, i32_w];rfl)
         refine pure_ (i := 2) (N := some 55) (v := undef) (a' := ?_) #[true, true, true, false, false, false, false, false, false, false, false, false] rfl rfl (any_of HT_.out (by kernel_rfl)) (fun _ _ _ h => h) (Or.inr ⟨by rfl, rfl⟩) ?_ ?_
         rotate_left
         ·simp only [Act.put, List.setIfInBounds_toArray, List.set_cons_zero, List.set_cons_succ, i64_w, i32_w]
          rfl
         refine pure_ (i := 3) (N := some 56) (v := ?_) (a' := ?_) #[true, true, true, true, false, false, false, false, false, false, false, false] rfl rfl (any_of HT_.out (by kernel_rfl)) (fun _ _ _ h => h) (Or.inl ⟨by rfl, ?_⟩) ?_ ?_
         rotate_left;(focus intro w';go_simp;with_reducible rfl);rotate_left;(focus simp only [Act.put, List.setIfInBounds_toArray, List.set_cons_zero, List.set_cons_succ, i64_w, i32_w];rfl)
         refine pure_ (i := 4) (N := some 57) (v := ?_) (a' := ?_) #[true, true, true, true, true, false, false, false, false, false, false, false] rfl rfl (any_of HT_.out (by kernel_rfl)) (fun _ _ _ h => h) (Or.inl ⟨by rfl, ?_⟩) ?_ ?_
         rotate_left;(focus intro w';go_simp;with_reducible rfl);rotate_left;(focus simp only [Act.put, List.setIfInBounds_toArray, List.set_cons_zero, List.set_cons_succ, i64_w, i32_w];rfl)
         refine pure_ (i := 5) (N := some 58) (v := undef) (a' := ?_) #[true, true, true, true, true, true, false, false, false, false, false, false] rfl rfl (any_of HT_.out (by kernel_rfl)) (fun _ _ _ h => h) (Or.inr ⟨by rfl, rfl⟩) ?_ ?_
         rotate_left
         ·simp only [Act.put, List.setIfInBounds_toArray, List.set_cons_zero, List.set_cons_succ, i64_w, i32_w]
          rfl
         refine pure_ (i := 6) (N := some 59) (v := undef) (a' := ?_) #[true, true, true, true, true, true, true, false, false, false, false, false] rfl rfl (any_of HT_.out (by kernel_rfl)) (fun _ _ _ h => h) (Or.inr ⟨by rfl, rfl⟩) ?_ ?_
         rotate_left
         ·simp only [Act.put, List.setIfInBounds_toArray, List.set_cons_zero, List.set_cons_succ, i64_w, i32_w]
          rfl
         refine pure_ (i := 7) (N := some 60) (v := undef) (a' := ?_) #[true, true, true, true, true, true, true, true, false, false, false, false] rfl rfl (any_of HT_.out (by kernel_rfl)) (fun _ _ _ h => h) (Or.inr ⟨by rfl, rfl⟩) ?_ ?_
         rotate_left
         ·simp only [Act.put, List.setIfInBounds_toArray, List.set_cons_zero, List.set_cons_succ, i64_w, i32_w]
          rfl
         refine pure_ (i := 8) (N := some 61) (v := undef) (a' := ?_) #[true, true, true, true, true, true, true, true, true, false, false, false] rfl rfl (any_of HT_.out (by kernel_rfl)) (fun _ _ _ h => h) (Or.inr ⟨by rfl, rfl⟩) ?_ ?_
         rotate_left
         ·simp only [Act.put, List.setIfInBounds_toArray, List.set_cons_zero, List.set_cons_succ, i64_w, i32_w]
          rfl
         refine pure_ (i := 9) (N := some 62) (v := undef) (a' := ?_) #[true, true, true, true, true, true, true, true, true, true, false, false] rfl rfl (any_of HT_.out (by kernel_rfl)) (fun _ _ _ h => h) (Or.inr ⟨by rfl, rfl⟩) ?_ ?_
         rotate_left
         ·simp only [Act.put, List.setIfInBounds_toArray, List.set_cons_zero, List.set_cons_succ, i64_w, i32_w]
          rfl
         refine pure_ (i := 10) (N := some 63) (v := ?_) (a' := ?_) #[true, true, true, true, true, true, true, true, true, true, true, false] rfl rfl (any_of HT_.out (by kernel_rfl)) (fun _ _ _ h => h) (Or.inl ⟨by rfl, ?_⟩) ?_ ?_
         rotate_left;(focus intro w';go_simp;with_reducible rfl);rotate_left;(focus simp only [Act.put, List.setIfInBounds_toArray, List.set_cons_zero, List.set_cons_succ, i64_w, i32_w];rfl)
         refine pure_ (i := 11) (N := some 2) (v := ?_) (a' := ?_) #[true, true, true, true, true, true, true, true, true, true, true, true] rfl rfl (any_of HT_.out (by kernel_rfl)) (fun _ _ _ h => h) (Or.inl ⟨by rfl, ?_⟩) ?_ ?_
         rotate_left;(focus intro w';go_simp;with_reducible rfl);rotate_left;(focus simp only [Act.put, List.setIfInBounds_toArray, List.set_cons_zero, List.set_cons_succ, i64_w, i32_w];rfl)
         refine done_ (done_of HT_.out (by kernel_rfl)) ?_
         try go_wp2
         go_ret
         exact ⟨zE, zH⟩
       ·rw [if_neg c20] at H
        have c20b0 : (a0_0 == 2) = false := beq_eq_false_iff_ne.mpr c20
        have c20b1 : (a0_0 != 2) = true := bne_iff_ne.mpr c20
        have HC53 := Aside0.mk H
        clear H
        obtain ⟨hcz54_0, hcz54_1, hcz54_2, hcz54_3, hcz54_4⟩ := zc5 BK323.out
        obtain ⟨hfz54_0, hfz54_1, hfz54_2, hfz54_3, hfz54_4⟩ := zf BK323.out
        go_upto_if 64 with (fail)
        go_cut [64] (fun v64 wc => ∃ (kq : Nat) (x64_52 : Bool), v64 = .bool x64_52 ∧ Aside0 (impl_isEvent.j2 kq x3_7 a0_0 x64_52 a0_0 a0_1 a0_2 a0_3 l0_4 = some r) ∧ Aside0 (kq ≤ kj7) ∧ Aside0 (wc.heap[gb323]? = some (.cells #[.int .i64 a0_0, .int .i64 a0_1, .int .i64 a0_2, .int .i64 a0_3, (.slice A0_4 l0_4.length c0_4)] 44 (0, 0))) ∧ Aside0 (Below w.heap.size w wc))
        case first =>
         have H := HC53.out
         clear HC53
         by_cases c55 : a0_0 = 3
         ·rw [if_pos c55] at H
          have c55b0 : (a0_0 == 3) = true := beq_iff_eq.mpr c55
          have c55b1 : (a0_0 != 3) = false := bne_eq_false_iff_eq.mpr c55
          clear c55
          (first | rw [c55b0] | (simp only [i64_w, i32_w]; rw [c55b0]) | skip)
          have H' := Aside0.mk H
          clear H
          go_wp2
          go_meet
          case rel => exact ⟨_, ((a0_0 == 3)), zF, H', ⟨by have := HJ1.out; have := HJ7.out; first | omega | exact Nat.le_refl _⟩, ⟨zB BK323.out⟩, ⟨zH⟩⟩
         ·rw [if_neg c55] at H
          have c55b0 : (a0_0 == 3) = false := beq_eq_false_iff_ne.mpr c55
          have c55b1 : (a0_0 != 3) = true := bne_iff_ne.mpr c55
          (first | rw [c55b0] | (simp only [i64_w, i32_w]; rw [c55b0]) | skip)
          have H' := Aside0.mk H
          clear H
          go_wp2
          go_meet
          case rel => exact ⟨_, ((a0_0 == 4)), zF, H', ⟨by have := HJ1.out; have := HJ7.out; first | omega | exact Nat.le_refl _⟩, ⟨zB BK323.out⟩, ⟨zH⟩⟩
        case rest =>
         clear HC53
         (try clear c1);(try clear c2);(try clear p2);(try clear c3);(try clear c4);(try clear c5);(try clear c12);(try clear c12b0);(try clear c12b1);(try clear c13);(try clear c13b0);(try clear c13b1);(try clear c14);(try clear c14b0);(try clear c15);(try clear c15b0);(try clear c20);(try clear c20b0);(try clear c20b1);(try clear c22);(try clear c23);(try clear c28);(try clear c38);(try clear c47);(try clear c55);(try clear c55b0);(try clear c55b1);(try clear hcz16_0)
         (try clear hcz16_1);(try clear hcz16_2);(try clear hcz16_3);(try clear hcz16_4);(try clear hcz17_0);(try clear hcz17_1);(try clear hcz17_2);(try clear hcz17_3);(try clear hcz17_4);(try clear hcz18_0);(try clear hcz18_1);(try clear hcz18_2);(try clear hcz18_3);(try clear hcz18_4);(try clear hcz19_0);(try clear hcz19_1);(try clear hcz19_2);(try clear hcz19_3);(try clear hcz19_4);(try clear hcz25_0);(try clear hcz25_1);(try clear hcz25_2);(try clear hcz25_3)
         (try clear hcz25_4);(try clear hcz29_0);(try clear hcz29_1);(try clear hcz29_2);(try clear hcz29_3);(try clear hcz29_4);(try clear hcz35_0);(try clear hcz35_1);(try clear hcz35_2);(try clear hcz35_3);(try clear hcz35_4);(try clear hcz39_0);(try clear hcz39_1);(try clear hcz39_2);(try clear hcz39_3);(try clear hcz39_4);(try clear hcz44_0);(try clear hcz44_1);(try clear hcz44_2);(try clear hcz44_3);(try clear hcz44_4);(try clear hcz48_0);(try clear hcz48_1)
         (try clear hcz48_2);(try clear hcz48_3);(try clear hcz48_4);(try clear hcz54_0);(try clear hcz54_1);(try clear hcz54_2);(try clear hcz54_3);(try clear hcz54_4);(try clear hfz16_0);(try clear hfz16_1);(try clear hfz16_2);(try clear hfz16_3);(try clear hfz16_4);(try clear hfz17_0);(try clear hfz17_1);(try clear hfz17_2);(try clear hfz17_3);(try clear hfz17_4);(try clear hfz18_0);(try clear hfz18_1);(try clear hfz18_2);(try clear hfz18_3);(try clear hfz18_4)
         (try clear hfz19_0);(try clear hfz19_1);(try clear hfz19_2);(try clear hfz19_3);(try clear hfz19_4);(try clear hfz25_0);(try clear hfz25_1);(try clear hfz25_2);(try clear hfz25_3);(try clear hfz25_4);(try clear hfz29_0);(try clear hfz29_1);(try clear hfz29_2);(try clear hfz29_3);(try clear hfz29_4);(try clear hfz35_0);(try clear hfz35_1);(try clear hfz35_2);(try clear hfz35_3);(try clear hfz35_4);(try clear hfz39_0);(try clear hfz39_1);(try clear hfz39_2)
         (try clear hfz39_3);(try clear hfz39_4);(try clear hfz44_0);(try clear hfz44_1);(try clear hfz44_2);(try clear hfz44_3);(try clear hfz44_4);(try clear hfz48_0);(try clear hfz48_1);(try clear hfz48_2);(try clear hfz48_3);(try clear hfz48_4);(try clear hfz54_0);(try clear hfz54_1);(try clear hfz54_2);(try clear hfz54_3);(try clear hfz54_4);(try clear p2)
         obtain ⟨kq, x64_52, rfl, HA, HJ52, BK323, HB⟩ := hcut
         cases kq with
         | zero => exact absurd HA.out (by simp [impl_isEvent.j2])
         | succ kj52 =>
          have H := HA.out
          clear HA
          simp only [impl_isEvent.j2] at H
          by_cases c56 : x64_52 = true
          ·subst c56
           replace H : (if x3_7 = true then (if a0_3 = 0 then (some ((l0_4.length : Int) == 0)) else (some false)) else (some false)) = some r := by rw [if_pos rfl] at H; exact H
           by_cases c57 : x3_7 = true
           ·subst c57
            replace H : (if a0_3 = 0 then (some ((l0_4.length : Int) == 0)) else (some false)) = some r := by rw [if_pos rfl] at H; exact H
            by_cases c58 : a0_3 = 0
            ·rw [if_pos c58] at H
             have c58b0 : (a0_3 == 0) = true := beq_iff_eq.mpr c58
             have c58b1 : (a0_3 != 0) = false := bne_eq_false_iff_eq.mpr c58
             clear c58
             obtain rfl := Option.some.inj H
             obtain ⟨hcz59_0, hcz59_1, hcz59_2, hcz59_3, hcz59_4⟩ := zc5 BK323.out
             obtain ⟨hfz59_0, hfz59_1, hfz59_2, hfz59_3, hfz59_4⟩ := zf BK323.out
             go_wp2
             go_ret
             exact ⟨zE, zH⟩
            ·rw [if_neg c58] at H
             have c58b0 : (a0_3 == 0) = false := beq_eq_false_iff_ne.mpr c58
             have c58b1 : (a0_3 != 0) = true := bne_iff_ne.mpr c58
             obtain rfl := Option.some.inj H
             obtain ⟨hcz60_0, hcz60_1, hcz60_2, hcz60_3, hcz60_4⟩ := zc5 BK323.out
             obtain ⟨hfz60_0, hfz60_1, hfz60_2, hfz60_3, hfz60_4⟩ := zf BK323.out
             go_wp2
             go_ret
             exact ⟨zE, zH⟩
           ·replace c57 := Bool.eq_false_iff.mpr c57
            subst c57
            replace H : (some false) = some r := by rw [if_neg (show ¬ (false = true) by decide)] at H; exact H
            obtain rfl := Option.some.inj H
            go_wp2
            go_ret
            exact ⟨zE, zH⟩
          ·replace c56 := Bool.eq_false_iff.mpr c56
           subst c56
           replace H : (if a0_0 = 5 then (if a0_2 = 0 then (if a0_3 = 0 then (some ((l0_4.length : Int) == 0)) else (some false)) else (some false)) else (some false)) = some r := by rw [if_neg (show ¬ (false = true) by decide)] at H; exact H
           by_cases c61 : a0_0 = 5
           ·rw [if_pos c61] at H
            have c61b0 : (a0_0 == 5) = true := beq_iff_eq.mpr c61
            have c61b1 : (a0_0 != 5) = false := bne_eq_false_iff_eq.mpr c61
            clear c61
            by_cases c62 : a0_2 = 0
            ·rw [if_pos c62] at H
             have c62b0 : (a0_2 == 0) = true := beq_iff_eq.mpr c62
             have c62b1 : (a0_2 != 0) = false := bne_eq_false_iff_eq.mpr c62
             clear c62
             by_cases c63 : a0_3 = 0
             ·rw [if_pos c63] at H
              have c63b0 : (a0_3 == 0) = true := beq_iff_eq.mpr c63
              have c63b1 : (a0_3 != 0) = false := bne_eq_false_iff_eq.mpr c63
              clear c63
              obtain rfl := Option.some.inj H
              obtain ⟨hcz64_0, hcz64_1, hcz64_2, hcz64_3, hcz64_4⟩ := zc5 BK323.out
              obtain ⟨hfz64_0, hfz64_1, hfz64_2, hfz64_3, hfz64_4⟩ := zf BK323.out
              go_wp2
              go_ret
              exact ⟨zE, zH⟩
             ·rw [if_neg c63] at H
              have c63b0 : (a0_3 == 0) = false := beq_eq_false_iff_ne.mpr c63
              have c63b1 : (a0_3 != 0) = true := bne_iff_ne.mpr c63
              obtain rfl := Option.some.inj H
              obtain ⟨hcz65_0, hcz65_1, hcz65_2, hcz65_3, hcz65_4⟩ := zc5 BK323.out
              obtain ⟨hfz65_0, hfz65_1, hfz65_2, hfz65_3, hfz65_4⟩ := zf BK323.out
              go_wp2
              go_ret
              exact ⟨zE, zH⟩
            ·rw [if_neg c62] at H
             have c62b0 : (a0_2 == 0) = false := beq_eq_false_iff_ne.mpr c62
             have c62b1 : (a0_2 != 0) = true := bne_iff_ne.mpr c62
             obtain rfl := Option.some.inj H
             obtain ⟨hcz66_0, hcz66_1, hcz66_2, hcz66_3, hcz66_4⟩ := zc5 BK323.out
             obtain ⟨hfz66_0, hfz66_1, hfz66_2, hfz66_3, hfz66_4⟩ := zf BK323.out
             go_wp2
             go_ret
             exact ⟨zE, zH⟩
           ·rw [if_neg c61] at H
            have c61b0 : (a0_0 == 5) = false := beq_eq_false_iff_ne.mpr c61
            have c61b1 : (a0_0 != 5) = true := bne_iff_ne.mpr c61
            obtain rfl := Option.some.inj H
            go_wp2
            go_ret
            exact ⟨zE, zH⟩

end Go.Proofs.Ytabicblkdgpogaa.QFnExactPutEvent
