-- Made by this session's program (wip/tools/myprint.py) out of the translation; Lean checks it.
import Derived.Test.YtabicblkdgpogaaQFnExactPutEventx0
import Derived.Test.YtabicblkdgpogaaQFnExactPutEventx1
import Derived.Test.YtabicblkdgpogaaQFnExactPutEventx5
import Derived.Test.YtabicblkdgpogaaQFnExactPutEventx6
namespace Go.Proofs.Ytabicblkdgpogaa.QFnExactPutEvent
open Go.RowKit Go.Proofs.YtabicblkdgpogaaW.PrintWords Go.Proofs.YtabicblkdgpogaaW.PrintLast Go.Proofs.YtabicblkdgpogaaW.PrintMore
attribute [local go_sem] max2_int min2_int max_two min_two max_three min_three max_four min_four   -- for this text's walks alone
set_option linter.unusedVariables false
set_option linter.unusedSimpArgs false

/-! ### spec_EventOk: function 28 -/
def spec_EventOk.j0 : Nat → Int → Bool → Int → Int → Int → Int → List Int → Option (Bool)
 | 0, _, _, _, _, _, _, _ => none
 | k + 1, x10, x48, x191000, x191001, x191002, x191003, x191004 => if x48 = true then ((spec_l01In.f x191002 1 1000000000).bind fun t206 => (if t206 = true then (if x191003 = 0 then (some ((x191004.length : Int) == 0)) else (some false)) else (some false))) else (if x10 = 5 then (if x191002 = 0 then (if x191003 = 0 then (some ((x191004.length : Int) == 0)) else (some false)) else (some false)) else (some false))
def spec_EventOk.f (k : Nat) (a0_0 : Int) (a0_1 : Int) (a0_2 : Int) (a0_3 : Int) (l0_4 : List Int) : Option (Bool) := (spec_l01In.f a0_1 0 99).bind fun t191 => (if t191 = true then (if a0_0 = 1 then (if a0_2 = 0 then ((spec_l01In.f a0_3 100 100000).bind fun t192 => (if t192 = true then (some ((l0_4.length : Int) == 0)) else (some false))) else (some false)) else (if a0_0 = 2 then ((spec_DecodeJob.f k l0_4).bind fun bt193 => ((spec_l01In.f a0_2 1 1000000000).bind fun t204 => (if t204 = true then (if bt193.2.2.2.2.2 = true then ((spec_JobCost.f k bt193.1 bt193.2.1 bt193.2.2.1 bt193.2.2.2.1 bt193.2.2.2.2.1).bind fun t205 => (some (a0_3 == t205))) else (some false)) else (some false)))) else (if a0_0 = 3 then (spec_EventOk.j0 k a0_0 (a0_0 == 3) a0_0 a0_1 a0_2 a0_3 l0_4) else (spec_EventOk.j0 k a0_0 (a0_0 == 4) a0_0 a0_1 a0_2 a0_3 l0_4)))) else (some false))
theorem spec_EventOk.mono_l : ∀ k, (∀ y0 y1 y2 y3 y4 y5 y6, LeO (spec_EventOk.j0 k y0 y1 y2 y3 y4 y5 y6) (spec_EventOk.j0 (k + 1) y0 y1 y2 y3 y4 y5 y6))
 | 0 => fun _ _ _ _ _ _ _ r h => by simp [spec_EventOk.j0] at h
 | k + 1 => by
  have ih0 := spec_EventOk.mono_l k
  ·intro y0 y1 y2 y3 y4 y5 y6
   unfold spec_EventOk.j0
   repeat' first
   | (with_reducible exact ih0 _ _ _ _ _ _ _)
   | (with_reducible exact spec_DecodeJob.mono _ _)
   | (with_reducible exact spec_JobCost.mono _ _ _ _ _ _)
   | (with_reducible exact LeO.refl _)
   | (with_reducible exact LeO.none _)
   | (with_reducible refine LeO.ite ?_ ?_)
   | (with_reducible refine LeO.bind ?_ (fun _ => ?_))
   | exact ih0 _ _ _ _ _ _ _
   | exact spec_DecodeJob.mono _ _
   | exact spec_JobCost.mono _ _ _ _ _ _
   | exact LeO.none _
   | refine LeO.ite ?_ ?_
   | refine LeO.bind ?_ (fun _ => ?_)
theorem spec_EventOk.mono : ∀ a0 a1 a2 a3 a4 k, LeO (spec_EventOk.f k a0 a1 a2 a3 a4) (spec_EventOk.f (k + 1) a0 a1 a2 a3 a4) := by
 intro a0 a1 a2 a3 a4 k
 have ih0 := spec_EventOk.mono_l k
 unfold spec_EventOk.f
 repeat' first
   | (with_reducible exact ih0 _ _ _ _ _ _ _)
   | (with_reducible exact spec_DecodeJob.mono _ _)
   | (with_reducible exact spec_JobCost.mono _ _ _ _ _ _)
   | (with_reducible exact LeO.refl _)
   | (with_reducible exact LeO.none _)
   | (with_reducible refine LeO.ite ?_ ?_)
   | (with_reducible refine LeO.bind ?_ (fun _ => ?_))
   | exact ih0 _ _ _ _ _ _ _
   | exact spec_DecodeJob.mono _ _
   | exact spec_JobCost.mono _ _ _ _ _ _
   | exact LeO.none _
   | refine LeO.ite ?_ ?_
   | refine LeO.bind ?_ (fun _ => ?_)
def spec_EventOk.T8 : Bool × List (List Nat × List Nat) := (true, [([], []), ([0], [0]), ([1], [1]), ([2, 2], [2]), ([3], [3]), ([3, 4], [3, 4]), ([5, 3], [5]), ([6], [6]), ([7, 6], [6, 7]), ([6], [6]), ([9, 6, 6], [6, 9]), ([8, 10, 6], [6, 8, 10]), ([6, 11], [6, 11]), ([12, 10, 0, 1, 2, 3, 4, 5, 6, 7, 8, 9, 10, 11, 12], [12])])
def spec_EventOk.B8 : List Nat := [0, 1, 3, 7, 15, 31, 63, 127, 255, 127, 639, 2047, 4095, 8191]
theorem spec_EventOk.tab8 : rtab .any (opsOf Try.f28 8) = spec_EventOk.T8 := by kernel_rfl
theorem spec_EventOk.bits8 : waitsOk spec_EventOk.T8.2 spec_EventOk.B8 = true := by kernel_rfl
set_option maxHeartbeats 8000000 in
set_option maxRecDepth 100000 in
theorem spec_EventOk.calls (k : Nat) (a0_0 : Int) (a0_1 : Int) (a0_2 : Int) (a0_3 : Int) (A0_4 : Option Addr) (c0_4 : Nat) (l0_4 : List Int) (r : Bool) (w : World) (hr0_4 : Kd.C (Kd.int .u8) w A0_4 l0_4.length l0_4) (hc0_4 : l0_4.length ≤ c0_4) (h : spec_EventOk.f k a0_0 a0_1 a0_2 a0_3 l0_4 = some r) :
  Calls Try.prog 28 #[.agg #[.int .i64 a0_0, .int .i64 a0_1, .int .i64 a0_2, .int .i64 a0_3, .slice A0_4 l0_4.length c0_4]] w fun e w' => e = .returned (.bool r) ∧ Below w.heap.size w w' := by
 have hu44 := Try.underlying44
 have hu99 := Try.underlying99
 have HR0_4 := Aside0.mk hr0_4
 have HC0_4 := Aside0.mk hc0_4
 clear hr0_4 hc0_4
 have HB := Aside0.mk (Below.refl w.heap.size w)
 have H : ((spec_l01In.f a0_1 0 99).bind fun t191 => (if t191 = true then (if a0_0 = 1 then (if a0_2 = 0 then ((spec_l01In.f a0_3 100 100000).bind fun t192 => (if t192 = true then (some ((l0_4.length : Int) == 0)) else (some false))) else (some false)) else (if a0_0 = 2 then ((spec_DecodeJob.f k l0_4).bind fun bt193 => ((spec_l01In.f a0_2 1 1000000000).bind fun t204 => (if t204 = true then (if bt193.2.2.2.2.2 = true then ((spec_JobCost.f k bt193.1 bt193.2.1 bt193.2.2.1 bt193.2.2.2.1 bt193.2.2.2.2.1).bind fun t205 => (some (a0_3 == t205))) else (some false)) else (some false)))) else (if a0_0 = 3 then (spec_EventOk.j0 k a0_0 (a0_0 == 3) a0_0 a0_1 a0_2 a0_3 l0_4) else (spec_EventOk.j0 k a0_0 (a0_0 == 4) a0_0 a0_1 a0_2 a0_3 l0_4)))) else (some false))) = some r := h
 clear h
 replace H := Option.bind_eq_some_iff.mp H
 obtain ⟨t191, A20, H⟩ := H
 replace H : (if t191 = true then (if a0_0 = 1 then (if a0_2 = 0 then ((spec_l01In.f a0_3 100 100000).bind fun t192 => (if t192 = true then (some ((l0_4.length : Int) == 0)) else (some false))) else (some false)) else (if a0_0 = 2 then ((spec_DecodeJob.f k l0_4).bind fun bt193 => ((spec_l01In.f a0_2 1 1000000000).bind fun t204 => (if t204 = true then (if bt193.2.2.2.2.2 = true then ((spec_JobCost.f k bt193.1 bt193.2.1 bt193.2.2.1 bt193.2.2.2.1 bt193.2.2.2.2.1).bind fun t205 => (some (a0_3 == t205))) else (some false)) else (some false)))) else (if a0_0 = 3 then (spec_EventOk.j0 k a0_0 (a0_0 == 3) a0_0 a0_1 a0_2 a0_3 l0_4) else (spec_EventOk.j0 k a0_0 (a0_0 == 4) a0_0 a0_1 a0_2 a0_3 l0_4)))) else (some false)) = some r := H
 have A2 := Aside0.mk A20
 clear A20
 by_cases c3 : t191 = true
 ·subst c3
  replace H : (if a0_0 = 1 then (if a0_2 = 0 then ((spec_l01In.f a0_3 100 100000).bind fun t192 => (if t192 = true then (some ((l0_4.length : Int) == 0)) else (some false))) else (some false)) else (if a0_0 = 2 then ((spec_DecodeJob.f k l0_4).bind fun bt193 => ((spec_l01In.f a0_2 1 1000000000).bind fun t204 => (if t204 = true then (if bt193.2.2.2.2.2 = true then ((spec_JobCost.f k bt193.1 bt193.2.1 bt193.2.2.1 bt193.2.2.2.1 bt193.2.2.2.2.1).bind fun t205 => (some (a0_3 == t205))) else (some false)) else (some false)))) else (if a0_0 = 3 then (spec_EventOk.j0 k a0_0 (a0_0 == 3) a0_0 a0_1 a0_2 a0_3 l0_4) else (spec_EventOk.j0 k a0_0 (a0_0 == 4) a0_0 a0_1 a0_2 a0_3 l0_4)))) = some r := by rw [if_pos rfl] at H; exact H
  by_cases c4 : a0_0 = 1
  ·rw [if_pos c4] at H
   have c4b0 : (a0_0 == 1) = true := beq_iff_eq.mpr c4
   have c4b1 : (a0_0 != 1) = false := bne_eq_false_iff_eq.mpr c4
   clear c4
   by_cases c5 : a0_2 = 0
   ·rw [if_pos c5] at H
    have c5b0 : (a0_2 == 0) = true := beq_iff_eq.mpr c5
    have c5b1 : (a0_2 != 0) = false := bne_eq_false_iff_eq.mpr c5
    clear c5
    replace H := Option.bind_eq_some_iff.mp H
    obtain ⟨t192, A60, H⟩ := H
    replace H : (if t192 = true then (some ((l0_4.length : Int) == 0)) else (some false)) = some r := H
    have A6 := Aside0.mk A60
    clear A60
    by_cases c7 : t192 = true
    ·subst c7
     replace H : (some ((l0_4.length : Int) == 0)) = some r := by rw [if_pos rfl] at H; exact H
     obtain rfl := Option.some.inj H
     go_enter Try.func28, Try.ntmps28
     go_wp2_with (first | ((with_reducible refine gate_dst (N := 1) rfl ?_); (try (refine gate_guard (by rfl) ?_; dsimp only)); refine box_event ?hg (N := 1) ?hd (cs := #[.int .i64 a0_0, .int .i64 a0_1, .int .i64 a0_2, .int .i64 a0_3, .slice A0_4 l0_4.length c0_4]) (t := 44) ?hr ?_; (case hd => rfl); (case hg => rfl); (case hr => first | (go_simp; done) | (go_simp; rfl)); intro gb190 hg w8 hbox hb; have n0_ := Aside0.mk (below_step zH hb); have n1_ := Aside0.mk (hbox); have n2_ := Aside0.mk ((by rw [hg]; exact (below_size zH) : w.heap.size ≤ gb190)); have n3_ := Aside0.mk ((by rw [hg]; exact (below_size zH) : w.heap.size ≤ gb190)); clear HB; have HB := n0_; have BK190 := n1_; have GW190 := n2_; have GE190 := n3_; clear n0_ n1_ n2_ n3_; clear hb hbox hg; obtain ⟨hcz9_0, hcz9_1, hcz9_2, hcz9_3, hcz9_4⟩ := zc5 BK190.out; obtain ⟨hfz9_0, hfz9_1, hfz9_2, hfz9_3, hfz9_4⟩ := zf BK190.out) | ((with_reducible refine gate_callee (f := 84) rfl ?_); refine goesL_ (some 7) rfl rfl Try.func84 (by kernel_rfl) rfl #[.int .i64 a0_1, .int .i64 0, .int .i64 99] rfl zM ?_; (with_reducible refine (spec_l01In.calls a0_1 0 99 true _ A2.out).mono ?_); rintro e w' ⟨rfl, ⟨nd, rfl⟩⟩; refine ⟨_, rfl, ?_⟩) | (go_at_call 84; (with_reducible refine (spec_l01In.calls a0_3 100 100000 true _ A6.out).mono ?_); rintro e w' ⟨rfl, ⟨nd, rfl⟩⟩))
     go_ret
     exact ⟨zE, zH⟩
    ·replace c7 := Bool.eq_false_iff.mpr c7
     subst c7
     replace H : (some false) = some r := by rw [if_neg (show ¬ (false = true) by decide)] at H; exact H
     obtain rfl := Option.some.inj H
     go_enter Try.func28, Try.ntmps28
     go_wp2_with (first | ((with_reducible refine gate_dst (N := 1) rfl ?_); (try (refine gate_guard (by rfl) ?_; dsimp only)); refine box_event ?hg (N := 1) ?hd (cs := #[.int .i64 a0_0, .int .i64 a0_1, .int .i64 a0_2, .int .i64 a0_3, .slice A0_4 l0_4.length c0_4]) (t := 44) ?hr ?_; (case hd => rfl); (case hg => rfl); (case hr => first | (go_simp; done) | (go_simp; rfl)); intro gb190 hg w10 hbox hb; have n0_ := Aside0.mk (below_step zH hb); have n1_ := Aside0.mk (hbox); have n2_ := Aside0.mk ((by rw [hg]; exact (below_size zH) : w.heap.size ≤ gb190)); have n3_ := Aside0.mk ((by rw [hg]; exact (below_size zH) : w.heap.size ≤ gb190)); clear HB; have HB := n0_; have BK190 := n1_; have GW190 := n2_; have GE190 := n3_; clear n0_ n1_ n2_ n3_; clear hb hbox hg; obtain ⟨hcz11_0, hcz11_1, hcz11_2, hcz11_3, hcz11_4⟩ := zc5 BK190.out; obtain ⟨hfz11_0, hfz11_1, hfz11_2, hfz11_3, hfz11_4⟩ := zf BK190.out) | ((with_reducible refine gate_callee (f := 84) rfl ?_); refine goesL_ (some 7) rfl rfl Try.func84 (by kernel_rfl) rfl #[.int .i64 a0_1, .int .i64 0, .int .i64 99] rfl zM ?_; (with_reducible refine (spec_l01In.calls a0_1 0 99 true _ A2.out).mono ?_); rintro e w' ⟨rfl, ⟨nd, rfl⟩⟩; refine ⟨_, rfl, ?_⟩) | (go_at_call 84; (with_reducible refine (spec_l01In.calls a0_3 100 100000 false _ A6.out).mono ?_); rintro e w' ⟨rfl, ⟨nd, rfl⟩⟩))
     go_ret
     exact ⟨zE, zH⟩
   ·rw [if_neg c5] at H
    have c5b0 : (a0_2 == 0) = false := beq_eq_false_iff_ne.mpr c5
    have c5b1 : (a0_2 != 0) = true := bne_iff_ne.mpr c5
    obtain rfl := Option.some.inj H
    go_enter Try.func28, Try.ntmps28
    go_wp2_with (first | ((with_reducible refine gate_dst (N := 1) rfl ?_); (try (refine gate_guard (by rfl) ?_; dsimp only)); refine box_event ?hg (N := 1) ?hd (cs := #[.int .i64 a0_0, .int .i64 a0_1, .int .i64 a0_2, .int .i64 a0_3, .slice A0_4 l0_4.length c0_4]) (t := 44) ?hr ?_; (case hd => rfl); (case hg => rfl); (case hr => first | (go_simp; done) | (go_simp; rfl)); intro gb190 hg w12 hbox hb; have n0_ := Aside0.mk (below_step zH hb); have n1_ := Aside0.mk (hbox); have n2_ := Aside0.mk ((by rw [hg]; exact (below_size zH) : w.heap.size ≤ gb190)); have n3_ := Aside0.mk ((by rw [hg]; exact (below_size zH) : w.heap.size ≤ gb190)); clear HB; have HB := n0_; have BK190 := n1_; have GW190 := n2_; have GE190 := n3_; clear n0_ n1_ n2_ n3_; clear hb hbox hg; obtain ⟨hcz13_0, hcz13_1, hcz13_2, hcz13_3, hcz13_4⟩ := zc5 BK190.out; obtain ⟨hfz13_0, hfz13_1, hfz13_2, hfz13_3, hfz13_4⟩ := zf BK190.out) | ((with_reducible refine gate_callee (f := 84) rfl ?_); refine goesL_ (some 7) rfl rfl Try.func84 (by kernel_rfl) rfl #[.int .i64 a0_1, .int .i64 0, .int .i64 99] rfl zM ?_; (with_reducible refine (spec_l01In.calls a0_1 0 99 true _ A2.out).mono ?_); rintro e w' ⟨rfl, ⟨nd, rfl⟩⟩; refine ⟨_, rfl, ?_⟩))
    go_ret
    exact ⟨zE, zH⟩
  ·rw [if_neg c4] at H
   have c4b0 : (a0_0 == 1) = false := beq_eq_false_iff_ne.mpr c4
   have c4b1 : (a0_0 != 1) = true := bne_iff_ne.mpr c4
   by_cases c14 : a0_0 = 2
   ·rw [if_pos c14] at H
    have c14b0 : (a0_0 == 2) = true := beq_iff_eq.mpr c14
    have c14b1 : (a0_0 != 2) = false := bne_eq_false_iff_eq.mpr c14
    clear c14
    replace H := Option.bind_eq_some_iff.mp H
    obtain ⟨⟨t193, t194, t195, t198, t201, t202⟩, A150, H⟩ := H
    replace H : ((spec_l01In.f a0_2 1 1000000000).bind fun t204 => (if t204 = true then (if t202 = true then ((spec_JobCost.f k t193 t194 t195 t198 t201).bind fun t205 => (some (a0_3 == t205))) else (some false)) else (some false))) = some r := H
    have A15 := Aside0.mk A150
    clear A150
    replace H := Option.bind_eq_some_iff.mp H
    obtain ⟨t204, A160, H⟩ := H
    replace H : (if t204 = true then (if t202 = true then ((spec_JobCost.f k t193 t194 t195 t198 t201).bind fun t205 => (some (a0_3 == t205))) else (some false)) else (some false)) = some r := H
    have A16 := Aside0.mk A160
    clear A160
    by_cases c17 : t204 = true
    ·subst c17
     replace H : (if t202 = true then ((spec_JobCost.f k t193 t194 t195 t198 t201).bind fun t205 => (some (a0_3 == t205))) else (some false)) = some r := by rw [if_pos rfl] at H; exact H
     by_cases c18 : t202 = true
     ·subst c18
      replace H : ((spec_JobCost.f k t193 t194 t195 t198 t201).bind fun t205 => (some (a0_3 == t205))) = some r := by rw [if_pos rfl] at H; exact H
      replace H := Option.bind_eq_some_iff.mp H
      obtain ⟨t205, A190, H⟩ := H
      replace H : (some (a0_3 == t205)) = some r := H
      have A19 := Aside0.mk A190
      clear A190
      obtain rfl := Option.some.inj H
      go_enter Try.func28, Try.ntmps28
      try go_wp2_with (first | ((with_reducible refine gate_dst (N := 1) rfl ?_); (try (refine gate_guard (by rfl) ?_; dsimp only)); refine box_event ?hg (N := 1) ?hd (cs := #[.int .i64 a0_0, .int .i64 a0_1, .int .i64 a0_2, .int .i64 a0_3, .slice A0_4 l0_4.length c0_4]) (t := 44) ?hr ?_; (case hd => rfl); (case hg => rfl); (case hr => first | (go_simp; done) | (go_simp; rfl)); intro gb190 hg w20 hbox hb; have n0_ := Aside0.mk (below_step zH hb); have n1_ := Aside0.mk (hbox); have n2_ := Aside0.mk ((by rw [hg]; exact (below_size zH) : w.heap.size ≤ gb190)); have n3_ := Aside0.mk ((by rw [hg]; exact (below_size zH) : w.heap.size ≤ gb190)); clear HB; have HB := n0_; have BK190 := n1_; have GW190 := n2_; have GE190 := n3_; clear n0_ n1_ n2_ n3_; clear hb hbox hg; obtain ⟨hcz21_0, hcz21_1, hcz21_2, hcz21_3, hcz21_4⟩ := zc5 BK190.out; obtain ⟨hfz21_0, hfz21_1, hfz21_2, hfz21_3, hfz21_4⟩ := zf BK190.out) | ((with_reducible refine gate_callee (f := 84) rfl ?_); refine goesL_ (some 7) rfl rfl Try.func84 (by kernel_rfl) rfl #[.int .i64 a0_1, .int .i64 0, .int .i64 99] rfl zM ?_; (with_reducible refine (spec_l01In.calls a0_1 0 99 true _ A2.out).mono ?_); rintro e w' ⟨rfl, ⟨nd, rfl⟩⟩; refine ⟨_, rfl, ?_⟩; (try (rw [drewN_self w20]; generalize hq_ : World.drewN w20 _ = w20; have n0_ : Aside0 (w20.heap[gb190]? = some (.cells #[.int .i64 a0_0, .int .i64 a0_1, .int .i64 a0_2, .int .i64 a0_3, .slice A0_4 l0_4.length c0_4] 44 (0, 0))) := ⟨by rw [← hq_]; exact (zB BK190.out)⟩; have n1_ : Aside0 (Below w.heap.size w w20) := ⟨by rw [← hq_]; exact zH⟩; clear BK190 HB hq_; have BK190 := n0_; have HB := n1_; clear n0_ n1_; obtain ⟨hcz21_0, hcz21_1, hcz21_2, hcz21_3, hcz21_4⟩ := zc5 BK190.out))) | ((with_reducible refine gate_callee (f := 85) rfl ?_); refine goesL_ (some 32) rfl rfl Try.func85 (by kernel_rfl) rfl #[.slice A0_4 l0_4.length c0_4] rfl zM ?_; (with_reducible refine (spec_DecodeJob.calls k _ _ l0_4 t193 t194 t195 t198 t201 true _ ?side1 ?side2 A15.out).mono ?_); (case side1 => exact zC (Kd.C_below HR0_4.out HB.out)); (case side2 => exact HC0_4.out); rintro e w22 ⟨v196, v199, rfl, ho0, ho1, hb⟩; refine ⟨_, rfl, ?_⟩; have n0_ := Aside0.mk (Kd.R_lower ho0 (below_size zH)); have n1_ := Aside0.mk (Kd.R_lower ho1 (below_size zH)); have n2_ := Aside0.mk (blk_below (g := gb190) (o := .cells #[.int .i64 a0_0, .int .i64 a0_1, .int .i64 a0_2, .int .i64 a0_3, .slice A0_4 l0_4.length c0_4] 44 (0, 0)) (zB BK190.out) hb); have n3_ := Aside0.mk (below_step zH hb); clear BK190; clear HB; have HO197 := n0_; have HO200 := n1_; have BK190 := n2_; have HB := n3_; clear n0_ n1_ n2_ n3_; (try clear hb); (try clear hb2); (try clear hk); (try clear hi); (try clear ho0); (try clear ho1)) | ((with_reducible refine gate_dst (N := 3) rfl ?_); (try (refine gate_guard (by rfl) ?_; dsimp only)); refine box_event ?hg (N := 3) ?hd (cs := #[.int .i64 0, .int .i64 0, .slice none 0 0, .slice none 0 0, .int .i64 0]) (t := 99) ?hr ?_; (case hd => rfl); (case hg => rfl); (case hr => first | (go_simp; done) | (go_simp; rfl)); intro gb203 hg w23 hbox hb; have n0_ := Aside0.mk (Kd.R_below (zR HO197.out) hb); have n1_ := Aside0.mk (Kd.R_below (zR HO200.out) hb); have n2_ := Aside0.mk (blk_below (g := gb190) (o := .cells #[.int .i64 a0_0, .int .i64 a0_1, .int .i64 a0_2, .int .i64 a0_3, .slice A0_4 l0_4.length c0_4] 44 (0, 0)) (zB BK190.out) hb); have n3_ := Aside0.mk (below_step zH hb); have n4_ := Aside0.mk (hbox); have n5_ := Aside0.mk ((by rw [hg]; exact (below_size zH) : w.heap.size ≤ gb203)); have n6_ := Aside0.mk ((by rw [hg]; exact (below_size zH) : w.heap.size ≤ gb203)); have n7_ := Aside0.mk ((by rw [hg]; exact Nat.ne_of_lt (blk_lt (g := gb190) (o := .cells #[.int .i64 a0_0, .int .i64 a0_1, .int .i64 a0_2, .int .i64 a0_3, .slice A0_4 l0_4.length c0_4] 44 (0, 0)) (zB BK190.out)) : gb190 ≠ gb203)); have n8_ := Aside0.mk ((by rw [hg]; exact Nat.ne_of_gt (blk_lt (g := gb190) (o := .cells #[.int .i64 a0_0, .int .i64 a0_1, .int .i64 a0_2, .int .i64 a0_3, .slice A0_4 l0_4.length c0_4] 44 (0, 0)) (zB BK190.out)) : gb203 ≠ gb190)); clear HO197; clear HO200; clear BK190; clear HB; have HO197 := n0_; have HO200 := n1_; have BK190 := n2_; have HB := n3_; have BK203 := n4_; have GW203 := n5_; have GE203 := n6_; have NB190_203 := n7_; have NB203_190 := n8_; clear n0_ n1_ n2_ n3_ n4_ n5_ n6_ n7_ n8_; clear hb hbox hg; have hnb24 := NB203_190.out; have hnc24 := NB190_203.out; obtain ⟨hcz25_0, hcz25_1, hcz25_2, hcz25_3, hcz25_4⟩ := zc5 BK203.out; obtain ⟨hfz25_0, hfz25_1, hfz25_2, hfz25_3, hfz25_4⟩ := zf BK203.out; obtain ⟨Ao26, co26, eo26⟩ := Kd.R_slice HO197.out; subst eo26; obtain ⟨Ao27, co27, eo27⟩ := Kd.R_slice HO200.out; subst eo27))
      have n0_ : Aside0 (Kd.R (Kd.int .i64) 3 (((((w23.setCell ⟨gb203, 0, none⟩ (.int .i64 t193)).setCell ⟨gb203, 1, none⟩ (.int .i64 t194)).setCell ⟨gb203, 2, none⟩ (.slice Ao26 t195.length co26)).setCell ⟨gb203, 3, none⟩ (.slice Ao27 t198.length co27)).setCell ⟨gb203, 4, none⟩ (.int .i64 t201)) w.heap.size (fun k_ => some k_ ≠ (.slice Ao27 t198.length co27 : Value).ownBlock) (.slice Ao26 t195.length co26) t195) := ⟨by (with_reducible repeat (first | apply Kd.R_alloc | apply Kd.R_drewN | apply Kd.R_drew)); exact Kd.R_mono (Kd.R_far (p := ⟨gb203, 4, none⟩) (Kd.R_far (p := ⟨gb203, 3, none⟩) (Kd.R_far (p := ⟨gb203, 2, none⟩) (Kd.R_far (p := ⟨gb203, 1, none⟩) (Kd.R_far (p := ⟨gb203, 0, none⟩) (Kd.R_types HO197.out BK203.out (by decide)) (fun _ hk => hk.2) (.int .i64 t193)) (fun _ hk => hk.2) (.int .i64 t194)) (fun _ hk => hk.2) (.slice Ao26 t195.length co26)) (fun _ hk => hk.2) (.slice Ao27 t198.length co27)) (fun _ hk => hk.2) (.int .i64 t201)) (fun _ hk => hk.1)⟩
      have n1_ : Aside0 (Kd.R (Kd.int .i64) 3 (((((w23.setCell ⟨gb203, 0, none⟩ (.int .i64 t193)).setCell ⟨gb203, 1, none⟩ (.int .i64 t194)).setCell ⟨gb203, 2, none⟩ (.slice Ao26 t195.length co26)).setCell ⟨gb203, 3, none⟩ (.slice Ao27 t198.length co27)).setCell ⟨gb203, 4, none⟩ (.int .i64 t201)) w.heap.size (fun k_ => some k_ ≠ (.slice Ao26 t195.length co26 : Value).ownBlock) (.slice Ao27 t198.length co27) t198) := ⟨by (with_reducible repeat (first | apply Kd.R_alloc | apply Kd.R_drewN | apply Kd.R_drew)); exact Kd.R_mono (Kd.R_far (p := ⟨gb203, 4, none⟩) (Kd.R_far (p := ⟨gb203, 3, none⟩) (Kd.R_far (p := ⟨gb203, 2, none⟩) (Kd.R_far (p := ⟨gb203, 1, none⟩) (Kd.R_far (p := ⟨gb203, 0, none⟩) (Kd.R_types HO200.out BK203.out (by decide)) (fun _ hk => hk.2) (.int .i64 t193)) (fun _ hk => hk.2) (.int .i64 t194)) (fun _ hk => hk.2) (.slice Ao26 t195.length co26)) (fun _ hk => hk.2) (.slice Ao27 t198.length co27)) (fun _ hk => hk.2) (.int .i64 t201)) (fun _ hk => hk.1)⟩
      have n2_ : Aside0 ((((((w23.setCell ⟨gb203, 0, none⟩ (.int .i64 t193)).setCell ⟨gb203, 1, none⟩ (.int .i64 t194)).setCell ⟨gb203, 2, none⟩ (.slice Ao26 t195.length co26)).setCell ⟨gb203, 3, none⟩ (.slice Ao27 t198.length co27)).setCell ⟨gb203, 4, none⟩ (.int .i64 t201)).heap[gb190]? = some (.cells #[.int .i64 a0_0, .int .i64 a0_1, .int .i64 a0_2, .int .i64 a0_3, .slice A0_4 l0_4.length c0_4] 44 (0, 0))) := ⟨by (repeat refine zL ?_); refine blk_far ?_ NB190_203.out _; (repeat refine zL ?_); refine blk_far ?_ NB190_203.out _; (repeat refine zL ?_); refine blk_far ?_ NB190_203.out _; (repeat refine zL ?_); refine blk_far ?_ NB190_203.out _; (repeat refine zL ?_); refine blk_far ?_ NB190_203.out _; (repeat refine zL ?_); exact BK190.out⟩
      have n3_ : Aside0 ((((((w23.setCell ⟨gb203, 0, none⟩ (.int .i64 t193)).setCell ⟨gb203, 1, none⟩ (.int .i64 t194)).setCell ⟨gb203, 2, none⟩ (.slice Ao26 t195.length co26)).setCell ⟨gb203, 3, none⟩ (.slice Ao27 t198.length co27)).setCell ⟨gb203, 4, none⟩ (.int .i64 t201)).heap[gb203]? = some (.cells #[.int .i64 t193, .int .i64 t194, .slice Ao26 t195.length co26, .slice Ao27 t198.length co27, .int .i64 t201] 99 (0, 0))) := ⟨by (repeat refine zL ?_); refine blk_put (cs := #[.int .i64 t193, .int .i64 t194, .slice Ao26 t195.length co26, .slice Ao27 t198.length co27, .int .i64 0]) ?_ 4 _ rfl; (repeat refine zL ?_); refine blk_put (cs := #[.int .i64 t193, .int .i64 t194, .slice Ao26 t195.length co26, .slice none 0 0, .int .i64 0]) ?_ 3 _ rfl; (repeat refine zL ?_); refine blk_put (cs := #[.int .i64 t193, .int .i64 t194, .slice none 0 0, .slice none 0 0, .int .i64 0]) ?_ 2 _ rfl; (repeat refine zL ?_); refine blk_put (cs := #[.int .i64 t193, .int .i64 0, .slice none 0 0, .slice none 0 0, .int .i64 0]) ?_ 1 _ rfl; (repeat refine zL ?_); refine blk_put (cs := #[.int .i64 0, .int .i64 0, .slice none 0 0, .slice none 0 0, .int .i64 0]) ?_ 0 _ rfl; (repeat refine zL ?_); exact BK203.out⟩
      have n4_ : Aside0 (Below w.heap.size w (((((w23.setCell ⟨gb203, 0, none⟩ (.int .i64 t193)).setCell ⟨gb203, 1, none⟩ (.int .i64 t194)).setCell ⟨gb203, 2, none⟩ (.slice Ao26 t195.length co26)).setCell ⟨gb203, 3, none⟩ (.slice Ao27 t198.length co27)).setCell ⟨gb203, 4, none⟩ (.int .i64 t201))) := ⟨zH⟩
      (try clear HO197)
      (try clear HO200)
      (try clear BK190)
      (try clear BK203)
      (try clear HB)
      generalize (((((w23.setCell ⟨gb203, 0, none⟩ (.int .i64 t193)).setCell ⟨gb203, 1, none⟩ (.int .i64 t194)).setCell ⟨gb203, 2, none⟩ (.slice Ao26 t195.length co26)).setCell ⟨gb203, 3, none⟩ (.slice Ao27 t198.length co27)).setCell ⟨gb203, 4, none⟩ (.int .i64 t201)) = w28 at n0_ n1_ n2_ n3_ n4_ ⊢
      have HO197 := n0_
      have HO200 := n1_
      have BK190 := n2_
      have BK203 := n3_
      have HB := n4_
      clear n0_ n1_ n2_ n3_ n4_
      have n0_ := Aside0.mk (Kd.R_drew HO197.out)
      have n1_ := Aside0.mk (Kd.R_drew HO200.out)
      have n2_ := Aside0.mk (blk_drew BK190.out)
      have n3_ := Aside0.mk (blk_drew BK203.out)
      have n4_ := Aside0.mk (below_drew1 HB.out)
      clear HO197
      clear HO200
      clear BK190
      clear BK203
      clear HB
      have HO197 := n0_
      have HO200 := n1_
      have BK190 := n2_
      have BK203 := n3_
      have HB := n4_
      clear n0_ n1_ n2_ n3_ n4_
      refine start_ (n := 14) (S := fun w' => w'.cell? ⟨gb190, 0, none⟩ = some (.int .i64 a0_0) ∧ w'.cell? ⟨gb190, 1, none⟩ = some (.int .i64 a0_1) ∧ w'.cell? ⟨gb190, 2, none⟩ = some (.int .i64 a0_2) ∧ w'.cell? ⟨gb190, 3, none⟩ = some (.int .i64 a0_3) ∧ w'.cell? ⟨gb190, 4, none⟩ = some (.slice A0_4 l0_4.length c0_4) ∧ w'.cell? ⟨gb203, 0, none⟩ = some (.int .i64 t193) ∧ w'.cell? ⟨gb203, 1, none⟩ = some (.int .i64 t194) ∧ w'.cell? ⟨gb203, 2, none⟩ = some (.slice Ao26 t195.length co26) ∧ w'.cell? ⟨gb203, 3, none⟩ = some (.slice Ao27 t198.length co27) ∧ w'.cell? ⟨gb203, 4, none⟩ = some (.int .i64 t201)) (ds := []) #[false, false, false, false, false, false, false, false, false, false, false, false, false, false] (by kernel_rfl) rfl rfl ⟨(blk_cell BK190.out 0).trans rfl, (blk_cell BK190.out 1).trans rfl, (blk_cell BK190.out 2).trans rfl, (blk_cell BK190.out 3).trans rfl, (blk_cell BK190.out 4).trans rfl, (blk_cell BK203.out 0).trans rfl, (blk_cell BK203.out 1).trans rfl, (blk_cell BK203.out 2).trans rfl, (blk_cell BK203.out 3).trans rfl, (blk_cell BK203.out 4).trans rfl⟩ (fun hHeld => ?_); refine with_tabW spec_EventOk.tab8 spec_EventOk.bits8 (fun HT_ HW_ => ?_)
      generalize w28.drew = w29 at HO197 HO200 BK190 BK203 HB hHeld ⊢
      refine pure_ (i := 0) (N := some 35) (v := ?_) (a' := ?_) #[true, false, false, false, false, false, false, false, false, false, false, false, false, false] rfl rfl (any_of HT_.out (by kernel_rfl)) (fun _ _ _ h => h) (Or.inl ⟨by rfl, ?_⟩) ?_ ?_
      rotate_left;(focus intro w';go_simp;with_reducible rfl);rotate_left;(focus simp only [Act.put, List.setIfInBounds_toArray, List.set_cons_zero, List.set_cons_succ, i64_w, i32_w];rfl)
      refine take_ (i := 1) (N := some 36) (v := ?_) (a' := ?_) #[true, true, false, false, false, false, false, false, false, false, false, false, false, false] rfl rfl (take_ofW HT_.out HW_.out (by kernel_rfl)) (fun _ _ _ h => h) (Or.inl ⟨by rfl, ?_⟩) hHeld ?_ ?_
      rotate_left
      ·rintro w' ⟨s0, s1, s2, s3, s4, s5, s6, s7, s8, s9⟩
       go_simp
       with_reducible rfl
      rotate_left
      ·simp only [Act.put, List.setIfInBounds_toArray, List.set_cons_zero, List.set_cons_succ, i64_w, i32_w]
       rfl
      refine one_ (i := 2) (N := some 37) #[true, true, true, false, false, false, false, false, false, false, false, false, false, false] rfl rfl (one_of HT_.out (by kernel_rfl)) (by decide) (fun K hK => ?_)
      refine goes_ Try.func84 (by kernel_rfl) rfl #[.int .i64 a0_2, .int .i64 1, .int .i64 1000000000] (by rfl) rfl rfl zM ?_
      with_reducible refine (spec_l01In.calls a0_2 1 1000000000 true _ A16.out).mono ?_
      rintro e w' ⟨rfl, ⟨nd, rfl⟩⟩
      refine ⟨_, rfl, ?_⟩
      refine hK.out _ _ ⟨(blk_cell BK190.out 0).trans rfl, (blk_cell BK190.out 1).trans rfl, (blk_cell BK190.out 2).trans rfl, (blk_cell BK190.out 3).trans rfl, (blk_cell BK190.out 4).trans rfl, (blk_cell BK203.out 0).trans rfl, (blk_cell BK203.out 1).trans rfl, (blk_cell BK203.out 2).trans rfl, (blk_cell BK203.out 3).trans rfl, (blk_cell BK203.out 4).trans rfl⟩ (fun hHeld => ?_)
      clear hK K
      refine norm_ (a' := ?_) ?_ ?_
      rotate_left
      ·show Act.put _ (some 37) _ = _
       simp only [Act.put, List.setIfInBounds_toArray, List.set_cons_zero, List.set_cons_succ, i64_w, i32_w]
       rfl
      refine pure_ (i := 3) (N := some 38) (v := ?_) (a' := ?_) #[true, true, true, true, false, false, false, false, false, false, false, false, false, false] rfl rfl (any_of HT_.out (by kernel_rfl)) (fun _ _ _ h => h) (Or.inl ⟨by rfl, ?_⟩) ?_ ?_
      rotate_left;(focus intro w';go_simp;with_reducible rfl);rotate_left;(focus simp only [Act.put, List.setIfInBounds_toArray, List.set_cons_zero, List.set_cons_succ, i64_w, i32_w];rfl)
      refine pure_ (i := 4) (N := some 39) (v := ?_) (a' := ?_) #[true, true, true, true, true, false, false, false, false, false, false, false, false, false] rfl rfl (any_of HT_.out (by kernel_rfl)) (fun _ _ _ h => h) (Or.inl ⟨by rfl, ?_⟩) ?_ ?_
      rotate_left;(focus intro w';go_simp;with_reducible rfl);rotate_left;(focus simp only [Act.put, List.setIfInBounds_toArray, List.set_cons_zero, List.set_cons_succ, i64_w, i32_w];rfl)
      refine pure_ (i := 5) (N := some 40) (v := ?_) (a' := ?_) #[true, true, true, true, true, true, false, false, false, false, false, false, false, false] rfl rfl (any_of HT_.out (by kernel_rfl)) (fun _ _ _ h => h) (Or.inl ⟨by rfl, ?_⟩) ?_ ?_
      rotate_left;(focus intro w';go_simp;with_reducible rfl);rotate_left;(focus simp only [Act.put, List.setIfInBounds_toArray, List.set_cons_zero, List.set_cons_succ, i64_w, i32_w];rfl)
      refine pure_ (i := 6) (N := some 41) (v := ?_) (a' := ?_) #[true, true, true, true, true, true, true, false, false, false, false, false, false, false] rfl rfl (any_of HT_.out (by kernel_rfl)) (fun _ _ _ h => h) (Or.inl ⟨by rfl, ?_⟩) ?_ ?_
      rotate_left;(focus intro w';go_simp;with_reducible rfl);rotate_left;(focus simp only [Act.put, List.setIfInBounds_toArray, List.set_cons_zero, List.set_cons_succ, i64_w, i32_w];rfl)
      refine pure_ (i := 7) (N := some 42) (v := ?_) (a' := ?_) #[true, true, true, true, true, true, true, true, false, false, false, false, false, false] rfl rfl (any_of HT_.out (by kernel_rfl)) (fun _ _ _ h => h) (Or.inl ⟨by rfl, ?_⟩) ?_ ?_
      rotate_left;(focus intro w';go_simp;with_reducible rfl);rotate_left;(focus simp only [Act.put, List.setIfInBounds_toArray, List.set_cons_zero, List.set_cons_succ, i64_w, i32_w];rfl)
      refine take_ (i := 8) (N := some 43) (v := ?_) (a' := ?_) #[true, true, true, true, true, true, true, true, true, false, false, false, false, false] rfl rfl (take_ofW HT_.out HW_.out (by kernel_rfl)) (fun _ _ _ h => h) (Or.inl ⟨by rfl, ?_⟩) hHeld ?_ ?_
      rotate_left
      ·rintro w' ⟨s0, s1, s2, s3, s4, s5, s6, s7, s8, s9⟩
       go_simp
       with_reducible rfl
      rotate_left
      ·simp only [Act.put, List.setIfInBounds_toArray, List.set_cons_zero, List.set_cons_succ, i64_w, i32_w]
       rfl
      refine take_ (i := 9) (N := some 44) (v := ?_) (a' := ?_) #[true, true, true, true, true, true, true, true, true, true, false, false, false, false] rfl rfl (take_ofW HT_.out HW_.out (by kernel_rfl)) (fun _ _ _ h => h) (Or.inl ⟨by rfl, ?_⟩) hHeld ?_ ?_
      rotate_left
      ·rintro w' ⟨s0, s1, s2, s3, s4, s5, s6, s7, s8, s9⟩
       go_simp
       with_reducible rfl
      rotate_left
      ·simp only [Act.put, List.setIfInBounds_toArray, List.set_cons_zero, List.set_cons_succ, i64_w, i32_w]
       rfl
      refine one_ (i := 10) (N := some 45) #[true, true, true, true, true, true, true, true, true, true, true, false, false, false] rfl rfl (one_of HT_.out (by kernel_rfl)) (by decide) (fun K hK => ?_)
      refine goes_ Try.func86 (by kernel_rfl) rfl #[.agg #[.int .i64 t193, .int .i64 t194, .slice Ao26 t195.length co26, .slice Ao27 t198.length co27, .int .i64 t201]] (by rfl) rfl rfl zM ?_
      with_reducible refine (spec_JobCost.calls k t193 t194 _ _ t195 _ _ t198 t201 t205 _ ?side1 ?side2 ?side3 ?side4 A19.out).mono ?_
      (case side1 => exact zC ((Kd.R_reads' HO197.out).2.2))
      (case side2 => exact (Kd.R_reads' HO197.out).2.1)
      (case side3 => exact zC ((Kd.R_reads' HO200.out).2.2))
      (case side4 => exact (Kd.R_reads' HO200.out).2.1)
      rintro e w30 ⟨rfl, hb⟩
      refine ⟨_, rfl, ?_⟩
      have n0_ := Aside0.mk (Kd.R_below (zR HO197.out) hb)
      have n1_ := Aside0.mk (Kd.R_below (zR HO200.out) hb)
      have n2_ := Aside0.mk (blk_below (g := gb190) (o := .cells #[.int .i64 a0_0, .int .i64 a0_1, .int .i64 a0_2, .int .i64 a0_3, .slice A0_4 l0_4.length c0_4] 44 (0, 0)) (zB BK190.out) hb)
      have n3_ := Aside0.mk (blk_below (g := gb203) (o := .cells #[.int .i64 t193, .int .i64 t194, .slice Ao26 t195.length co26, .slice Ao27 t198.length co27, .int .i64 t201] 99 (0, 0)) (zB BK203.out) hb)
      have n4_ := Aside0.mk (below_step zH hb)
      clear HO197
      clear HO200
      clear BK190
      clear BK203
      clear HB
      have HO197 := n0_
      have HO200 := n1_
      have BK190 := n2_
      have BK203 := n3_
      have HB := n4_
      clear n0_ n1_ n2_ n3_ n4_
      (try clear hb)
      (try clear hb2)
      (try clear hk)
      (try clear hi)
      refine hK.out _ _ ⟨(blk_cell BK190.out 0).trans rfl, (blk_cell BK190.out 1).trans rfl, (blk_cell BK190.out 2).trans rfl, (blk_cell BK190.out 3).trans rfl, (blk_cell BK190.out 4).trans rfl, (blk_cell BK203.out 0).trans rfl, (blk_cell BK203.out 1).trans rfl, (blk_cell BK203.out 2).trans rfl, (blk_cell BK203.out 3).trans rfl, (blk_cell BK203.out 4).trans rfl⟩ (fun hHeld => ?_)
      clear hK K
      refine norm_ (a' := ?_) ?_ ?_
      rotate_left
      ·show Act.put _ (some 45) _ = _
       simp only [Act.put, List.setIfInBounds_toArray, List.set_cons_zero, List.set_cons_succ, i64_w, i32_w]
       rfl
      refine pure_ (i := 11) (N := some 46) (v := ?_) (a' := ?_) #[true, true, true, true, true, true, true, true, true, true, true, true, false, false] rfl rfl (any_of HT_.out (by kernel_rfl)) (fun _ _ _ h => h) (Or.inl ⟨by rfl, ?_⟩) ?_ ?_
      rotate_left;(focus intro w';go_simp;with_reducible rfl);rotate_left;(focus simp only [Act.put, List.setIfInBounds_toArray, List.set_cons_zero, List.set_cons_succ, i64_w, i32_w];rfl)
      refine pure_ (i := 12) (N := some 47) (v := ?_) (a' := ?_) #[true, true, true, true, true, true, true, true, true, true, true, true, true, false] rfl rfl (any_of HT_.out (by kernel_rfl)) (fun _ _ _ h => h) (Or.inl ⟨by rfl, ?_⟩) ?_ ?_
      rotate_left;(focus intro w';go_simp;with_reducible rfl);rotate_left;(focus simp only [Act.put, List.setIfInBounds_toArray, List.set_cons_zero, List.set_cons_succ, i64_w, i32_w];rfl)
      refine pure_ (i := 13) (N := some 2) (v := ?_) (a' := ?_) #[true, true, true, true, true, true, true, true, true, true, true, true, true, true] rfl rfl (any_of HT_.out (by kernel_rfl)) (fun _ _ _ h => h) (Or.inl ⟨by rfl, ?_⟩) ?_ ?_
      rotate_left;(focus intro w';go_simp;with_reducible rfl);rotate_left;(focus simp only [Act.put, List.setIfInBounds_toArray, List.set_cons_zero, List.set_cons_succ, i64_w, i32_w];rfl)
      refine done_ (done_of HT_.out (by kernel_rfl)) ?_
      try go_wp2
      go_ret
      exact ⟨zE, zH⟩
     ·replace c18 := Bool.eq_false_iff.mpr c18
      subst c18
      replace H : (some false) = some r := by rw [if_neg (show ¬ (false = true) by decide)] at H; exact H
      obtain rfl := Option.some.inj H
      go_enter Try.func28, Try.ntmps28
      try go_wp2_with (first | ((with_reducible refine gate_dst (N := 1) rfl ?_); (try (refine gate_guard (by rfl) ?_; dsimp only)); refine box_event ?hg (N := 1) ?hd (cs := #[.int .i64 a0_0, .int .i64 a0_1, .int .i64 a0_2, .int .i64 a0_3, .slice A0_4 l0_4.length c0_4]) (t := 44) ?hr ?_; (case hd => rfl); (case hg => rfl); (case hr => first | (go_simp; done) | (go_simp; rfl)); intro gb190 hg w31 hbox hb; have n0_ := Aside0.mk (below_step zH hb); have n1_ := Aside0.mk (hbox); have n2_ := Aside0.mk ((by rw [hg]; exact (below_size zH) : w.heap.size ≤ gb190)); have n3_ := Aside0.mk ((by rw [hg]; exact (below_size zH) : w.heap.size ≤ gb190)); clear HB; have HB := n0_; have BK190 := n1_; have GW190 := n2_; have GE190 := n3_; clear n0_ n1_ n2_ n3_; clear hb hbox hg; obtain ⟨hcz32_0, hcz32_1, hcz32_2, hcz32_3, hcz32_4⟩ := zc5 BK190.out; obtain ⟨hfz32_0, hfz32_1, hfz32_2, hfz32_3, hfz32_4⟩ := zf BK190.out) | ((with_reducible refine gate_callee (f := 84) rfl ?_); refine goesL_ (some 7) rfl rfl Try.func84 (by kernel_rfl) rfl #[.int .i64 a0_1, .int .i64 0, .int .i64 99] rfl zM ?_; (with_reducible refine (spec_l01In.calls a0_1 0 99 true _ A2.out).mono ?_); rintro e w' ⟨rfl, ⟨nd, rfl⟩⟩; refine ⟨_, rfl, ?_⟩; (try (rw [drewN_self w31]; generalize hq_ : World.drewN w31 _ = w31; have n0_ : Aside0 (w31.heap[gb190]? = some (.cells #[.int .i64 a0_0, .int .i64 a0_1, .int .i64 a0_2, .int .i64 a0_3, .slice A0_4 l0_4.length c0_4] 44 (0, 0))) := ⟨by rw [← hq_]; exact (zB BK190.out)⟩; have n1_ : Aside0 (Below w.heap.size w w31) := ⟨by rw [← hq_]; exact zH⟩; clear BK190 HB hq_; have BK190 := n0_; have HB := n1_; clear n0_ n1_; obtain ⟨hcz32_0, hcz32_1, hcz32_2, hcz32_3, hcz32_4⟩ := zc5 BK190.out))) | ((with_reducible refine gate_callee (f := 85) rfl ?_); refine goesL_ (some 32) rfl rfl Try.func85 (by kernel_rfl) rfl #[.slice A0_4 l0_4.length c0_4] rfl zM ?_; (with_reducible refine (spec_DecodeJob.calls k _ _ l0_4 t193 t194 t195 t198 t201 false _ ?side1 ?side2 A15.out).mono ?_); (case side1 => exact zC (Kd.C_below HR0_4.out HB.out)); (case side2 => exact HC0_4.out); rintro e w33 ⟨v196, v199, rfl, ho0, ho1, hb⟩; refine ⟨_, rfl, ?_⟩; have n0_ := Aside0.mk (Kd.R_lower ho0 (below_size zH)); have n1_ := Aside0.mk (Kd.R_lower ho1 (below_size zH)); have n2_ := Aside0.mk (blk_below (g := gb190) (o := .cells #[.int .i64 a0_0, .int .i64 a0_1, .int .i64 a0_2, .int .i64 a0_3, .slice A0_4 l0_4.length c0_4] 44 (0, 0)) (zB BK190.out) hb); have n3_ := Aside0.mk (below_step zH hb); clear BK190; clear HB; have HO197 := n0_; have HO200 := n1_; have BK190 := n2_; have HB := n3_; clear n0_ n1_ n2_ n3_; (try clear hb); (try clear hb2); (try clear hk); (try clear hi); (try clear ho0); (try clear ho1)) | ((with_reducible refine gate_dst (N := 3) rfl ?_); (try (refine gate_guard (by rfl) ?_; dsimp only)); refine box_event ?hg (N := 3) ?hd (cs := #[.int .i64 0, .int .i64 0, .slice none 0 0, .slice none 0 0, .int .i64 0]) (t := 99) ?hr ?_; (case hd => rfl); (case hg => rfl); (case hr => first | (go_simp; done) | (go_simp; rfl)); intro gb203 hg w34 hbox hb; have n0_ := Aside0.mk (Kd.R_below (zR HO197.out) hb); have n1_ := Aside0.mk (Kd.R_below (zR HO200.out) hb); have n2_ := Aside0.mk (blk_below (g := gb190) (o := .cells #[.int .i64 a0_0, .int .i64 a0_1, .int .i64 a0_2, .int .i64 a0_3, .slice A0_4 l0_4.length c0_4] 44 (0, 0)) (zB BK190.out) hb); have n3_ := Aside0.mk (below_step zH hb); have n4_ := Aside0.mk (hbox); have n5_ := Aside0.mk ((by rw [hg]; exact (below_size zH) : w.heap.size ≤ gb203)); have n6_ := Aside0.mk ((by rw [hg]; exact (below_size zH) : w.heap.size ≤ gb203)); have n7_ := Aside0.mk ((by rw [hg]; exact Nat.ne_of_lt (blk_lt (g := gb190) (o := .cells #[.int .i64 a0_0, .int .i64 a0_1, .int .i64 a0_2, .int .i64 a0_3, .slice A0_4 l0_4.length c0_4] 44 (0, 0)) (zB BK190.out)) : gb190 ≠ gb203)); have n8_ := Aside0.mk ((by rw [hg]; exact Nat.ne_of_gt (blk_lt (g := gb190) (o := .cells #[.int .i64 a0_0, .int .i64 a0_1, .int .i64 a0_2, .int .i64 a0_3, .slice A0_4 l0_4.length c0_4] 44 (0, 0)) (zB BK190.out)) : gb203 ≠ gb190)); clear HO197; clear HO200; clear BK190; clear HB; have HO197 := n0_; have HO200 := n1_; have BK190 := n2_; have HB := n3_; have BK203 := n4_; have GW203 := n5_; have GE203 := n6_; have NB190_203 := n7_; have NB203_190 := n8_; clear n0_ n1_ n2_ n3_ n4_ n5_ n6_ n7_ n8_; clear hb hbox hg; have hnb35 := NB203_190.out; have hnc35 := NB190_203.out; obtain ⟨hcz36_0, hcz36_1, hcz36_2, hcz36_3, hcz36_4⟩ := zc5 BK203.out; obtain ⟨hfz36_0, hfz36_1, hfz36_2, hfz36_3, hfz36_4⟩ := zf BK203.out; obtain ⟨Ao37, co37, eo37⟩ := Kd.R_slice HO197.out; subst eo37; obtain ⟨Ao38, co38, eo38⟩ := Kd.R_slice HO200.out; subst eo38))
      have n0_ : Aside0 (Kd.R (Kd.int .i64) 3 (((((w34.setCell ⟨gb203, 0, none⟩ (.int .i64 t193)).setCell ⟨gb203, 1, none⟩ (.int .i64 t194)).setCell ⟨gb203, 2, none⟩ (.slice Ao37 t195.length co37)).setCell ⟨gb203, 3, none⟩ (.slice Ao38 t198.length co38)).setCell ⟨gb203, 4, none⟩ (.int .i64 t201)) w.heap.size (fun k_ => some k_ ≠ (.slice Ao38 t198.length co38 : Value).ownBlock) (.slice Ao37 t195.length co37) t195) := ⟨by (with_reducible repeat (first | apply Kd.R_alloc | apply Kd.R_drewN | apply Kd.R_drew)); exact Kd.R_mono (Kd.R_far (p := ⟨gb203, 4, none⟩) (Kd.R_far (p := ⟨gb203, 3, none⟩) (Kd.R_far (p := ⟨gb203, 2, none⟩) (Kd.R_far (p := ⟨gb203, 1, none⟩) (Kd.R_far (p := ⟨gb203, 0, none⟩) (Kd.R_types HO197.out BK203.out (by decide)) (fun _ hk => hk.2) (.int .i64 t193)) (fun _ hk => hk.2) (.int .i64 t194)) (fun _ hk => hk.2) (.slice Ao37 t195.length co37)) (fun _ hk => hk.2) (.slice Ao38 t198.length co38)) (fun _ hk => hk.2) (.int .i64 t201)) (fun _ hk => hk.1)⟩
      have n1_ : Aside0 (Kd.R (Kd.int .i64) 3 (((((w34.setCell ⟨gb203, 0, none⟩ (.int .i64 t193)).setCell ⟨gb203, 1, none⟩ (.int .i64 t194)).setCell ⟨gb203, 2, none⟩ (.slice Ao37 t195.length co37)).setCell ⟨gb203, 3, none⟩ (.slice Ao38 t198.length co38)).setCell ⟨gb203, 4, none⟩ (.int .i64 t201)) w.heap.size (fun k_ => some k_ ≠ (.slice Ao37 t195.length co37 : Value).ownBlock) (.slice Ao38 t198.length co38) t198) := ⟨by (with_reducible repeat (first | apply Kd.R_alloc | apply Kd.R_drewN | apply Kd.R_drew)); exact Kd.R_mono (Kd.R_far (p := ⟨gb203, 4, none⟩) (Kd.R_far (p := ⟨gb203, 3, none⟩) (Kd.R_far (p := ⟨gb203, 2, none⟩) (Kd.R_far (p := ⟨gb203, 1, none⟩) (Kd.R_far (p := ⟨gb203, 0, none⟩) (Kd.R_types HO200.out BK203.out (by decide)) (fun _ hk => hk.2) (.int .i64 t193)) (fun _ hk => hk.2) (.int .i64 t194)) (fun _ hk => hk.2) (.slice Ao37 t195.length co37)) (fun _ hk => hk.2) (.slice Ao38 t198.length co38)) (fun _ hk => hk.2) (.int .i64 t201)) (fun _ hk => hk.1)⟩
      have n2_ : Aside0 ((((((w34.setCell ⟨gb203, 0, none⟩ (.int .i64 t193)).setCell ⟨gb203, 1, none⟩ (.int .i64 t194)).setCell ⟨gb203, 2, none⟩ (.slice Ao37 t195.length co37)).setCell ⟨gb203, 3, none⟩ (.slice Ao38 t198.length co38)).setCell ⟨gb203, 4, none⟩ (.int .i64 t201)).heap[gb190]? = some (.cells #[.int .i64 a0_0, .int .i64 a0_1, .int .i64 a0_2, .int .i64 a0_3, .slice A0_4 l0_4.length c0_4] 44 (0, 0))) := ⟨by (repeat refine zL ?_); refine blk_far ?_ NB190_203.out _; (repeat refine zL ?_); refine blk_far ?_ NB190_203.out _; (repeat refine zL ?_); refine blk_far ?_ NB190_203.out _; (repeat refine zL ?_); refine blk_far ?_ NB190_203.out _; (repeat refine zL ?_); refine blk_far ?_ NB190_203.out _; (repeat refine zL ?_); exact BK190.out⟩
      have n3_ : Aside0 ((((((w34.setCell ⟨gb203, 0, none⟩ (.int .i64 t193)).setCell ⟨gb203, 1, none⟩ (.int .i64 t194)).setCell ⟨gb203, 2, none⟩ (.slice Ao37 t195.length co37)).setCell ⟨gb203, 3, none⟩ (.slice Ao38 t198.length co38)).setCell ⟨gb203, 4, none⟩ (.int .i64 t201)).heap[gb203]? = some (.cells #[.int .i64 t193, .int .i64 t194, .slice Ao37 t195.length co37, .slice Ao38 t198.length co38, .int .i64 t201] 99 (0, 0))) := ⟨by (repeat refine zL ?_); refine blk_put (cs := #[.int .i64 t193, .int .i64 t194, .slice Ao37 t195.length co37, .slice Ao38 t198.length co38, .int .i64 0]) ?_ 4 _ rfl; (repeat refine zL ?_); refine blk_put (cs := #[.int .i64 t193, .int .i64 t194, .slice Ao37 t195.length co37, .slice none 0 0, .int .i64 0]) ?_ 3 _ rfl; (repeat refine zL ?_); refine blk_put (cs := #[.int .i64 t193, .int .i64 t194, .slice none 0 0, .slice none 0 0, .int .i64 0]) ?_ 2 _ rfl; (repeat refine zL ?_); refine blk_put (cs := #[.int .i64 t193, .int .i64 0, .slice none 0 0, .slice none 0 0, .int .i64 0]) ?_ 1 _ rfl; (repeat refine zL ?_); refine blk_put (cs := #[.int .i64 0, .int .i64 0, .slice none 0 0, .slice none 0 0, .int .i64 0]) ?_ 0 _ rfl; (repeat refine zL ?_); exact BK203.out⟩
      have n4_ : Aside0 (Below w.heap.size w (((((w34.setCell ⟨gb203, 0, none⟩ (.int .i64 t193)).setCell ⟨gb203, 1, none⟩ (.int .i64 t194)).setCell ⟨gb203, 2, none⟩ (.slice Ao37 t195.length co37)).setCell ⟨gb203, 3, none⟩ (.slice Ao38 t198.length co38)).setCell ⟨gb203, 4, none⟩ (.int .i64 t201))) := ⟨zH⟩
      (try clear HO197)
      (try clear HO200)
      (try clear BK190)
      (try clear BK203)
      (try clear HB)
      generalize (((((w34.setCell ⟨gb203, 0, none⟩ (.int .i64 t193)).setCell ⟨gb203, 1, none⟩ (.int .i64 t194)).setCell ⟨gb203, 2, none⟩ (.slice Ao37 t195.length co37)).setCell ⟨gb203, 3, none⟩ (.slice Ao38 t198.length co38)).setCell ⟨gb203, 4, none⟩ (.int .i64 t201)) = w39 at n0_ n1_ n2_ n3_ n4_ ⊢
      have HO197 := n0_
      have HO200 := n1_
      have BK190 := n2_
      have BK203 := n3_
      have HB := n4_
      clear n0_ n1_ n2_ n3_ n4_
      have n0_ := Aside0.mk (Kd.R_drew HO197.out)
      have n1_ := Aside0.mk (Kd.R_drew HO200.out)
      have n2_ := Aside0.mk (blk_drew BK190.out)
      have n3_ := Aside0.mk (blk_drew BK203.out)
      have n4_ := Aside0.mk (below_drew1 HB.out)
      clear HO197
      clear HO200
      clear BK190
      clear BK203
      clear HB
      have HO197 := n0_
      have HO200 := n1_
      have BK190 := n2_
      have BK203 := n3_
      have HB := n4_
      clear n0_ n1_ n2_ n3_ n4_
      refine start_ (n := 14) (S := fun w' => w'.cell? ⟨gb190, 0, none⟩ = some (.int .i64 a0_0) ∧ w'.cell? ⟨gb190, 1, none⟩ = some (.int .i64 a0_1) ∧ w'.cell? ⟨gb190, 2, none⟩ = some (.int .i64 a0_2) ∧ w'.cell? ⟨gb190, 3, none⟩ = some (.int .i64 a0_3) ∧ w'.cell? ⟨gb190, 4, none⟩ = some (.slice A0_4 l0_4.length c0_4)) (ds := []) #[false, false, false, false, false, false, false, false, false, false, false, false, false, false] (by kernel_rfl) rfl rfl ⟨(blk_cell BK190.out 0).trans rfl, (blk_cell BK190.out 1).trans rfl, (blk_cell BK190.out 2).trans rfl, (blk_cell BK190.out 3).trans rfl, (blk_cell BK190.out 4).trans rfl⟩ (fun hHeld => ?_); refine with_tabW spec_EventOk.tab8 spec_EventOk.bits8 (fun HT_ HW_ => ?_)
      generalize w39.drew = w40 at HO197 HO200 BK190 BK203 HB hHeld ⊢
      refine pure_ (i := 0) (N := some 35) (v := ?_) (a' := ?_) #[true, false, false, false, false, false, false, false, false, false, false, false, false, false] rfl rfl (any_of HT_.out (by kernel_rfl)) (fun _ _ _ h => h) (Or.inl ⟨by rfl, ?_⟩) ?_ ?_
      rotate_left;(focus intro w';go_simp;with_reducible rfl);rotate_left;(focus simp only [Act.put, List.setIfInBounds_toArray, List.set_cons_zero, List.set_cons_succ, i64_w, i32_w];rfl)
      refine take_ (i := 1) (N := some 36) (v := ?_) (a' := ?_) #[true, true, false, false, false, false, false, false, false, false, false, false, false, false] rfl rfl (take_ofW HT_.out HW_.out (by kernel_rfl)) (fun _ _ _ h => h) (Or.inl ⟨by rfl, ?_⟩) hHeld ?_ ?_
      rotate_left
      ·rintro w' ⟨s0, s1, s2, s3, s4⟩
       go_simp
       with_reducible rfl
      rotate_left
      ·simp only [Act.put, List.setIfInBounds_toArray, List.set_cons_zero, List.set_cons_succ, i64_w, i32_w]
       rfl
      refine one_ (i := 2) (N := some 37) #[true, true, true, false, false, false, false, false, false, false, false, false, false, false] rfl rfl (one_of HT_.out (by kernel_rfl)) (by decide) (fun K hK => ?_)
      refine goes_ Try.func84 (by kernel_rfl) rfl #[.int .i64 a0_2, .int .i64 1, .int .i64 1000000000] (by rfl) rfl rfl zM ?_
      with_reducible refine (spec_l01In.calls a0_2 1 1000000000 true _ A16.out).mono ?_
      rintro e w' ⟨rfl, ⟨nd, rfl⟩⟩
      refine ⟨_, rfl, ?_⟩
      refine hK.out _ _ ⟨(blk_cell BK190.out 0).trans rfl, (blk_cell BK190.out 1).trans rfl, (blk_cell BK190.out 2).trans rfl, (blk_cell BK190.out 3).trans rfl, (blk_cell BK190.out 4).trans rfl⟩ (fun hHeld => ?_)
      clear hK K
      refine norm_ (a' := ?_) ?_ ?_
      rotate_left
      ·show Act.put _ (some 37) _ = _
       simp only [Act.put, List.setIfInBounds_toArray, List.set_cons_zero, List.set_cons_succ, i64_w, i32_w]
       rfl
      refine pure_ (i := 3) (N := some 38) (v := ?_) (a' := ?_) #[true, true, true, true, false, false, false, false, false, false, false, false, false, false] rfl rfl (any_of HT_.out (by kernel_rfl)) (fun _ _ _ h => h) (Or.inl ⟨by rfl, ?_⟩) ?_ ?_
      rotate_left;(focus intro w';go_simp;with_reducible rfl);rotate_left;(focus simp only [Act.put, List.setIfInBounds_toArray, List.set_cons_zero, List.set_cons_succ, i64_w, i32_w];rfl)
      refine pure_ (i := 4) (N := some 39) (v := ?_) (a' := ?_) #[true, true, true, true, true, false, false, false, false, false, false, false, false, false] rfl rfl (any_of HT_.out (by kernel_rfl)) (fun _ _ _ h => h) (Or.inl ⟨by rfl, ?_⟩) ?_ ?_
      rotate_left;(focus intro w';go_simp;with_reducible rfl);rotate_left;(focus simp only [Act.put, List.setIfInBounds_toArray, List.set_cons_zero, List.set_cons_succ, i64_w, i32_w];rfl)
      refine pure_ (i := 5) (N := some 40) (v := ?_) (a' := ?_) #[true, true, true, true, true, true, false, false, false, false, false, false, false, false] rfl rfl (any_of HT_.out (by kernel_rfl)) (fun _ _ _ h => h) (Or.inl ⟨by rfl, ?_⟩) ?_ ?_
      rotate_left;(focus intro w';go_simp;with_reducible rfl);rotate_left;(focus simp only [Act.put, List.setIfInBounds_toArray, List.set_cons_zero, List.set_cons_succ, i64_w, i32_w];rfl)
      refine pure_ (i := 6) (N := some 41) (v := ?_) (a' := ?_) #[true, true, true, true, true, true, true, false, false, false, false, false, false, false] rfl rfl (any_of HT_.out (by kernel_rfl)) (fun _ _ _ h => h) (Or.inl ⟨by rfl, ?_⟩) ?_ ?_
      rotate_left;(focus intro w';go_simp;with_reducible rfl);rotate_left;(focus simp only [Act.put, List.setIfInBounds_toArray, List.set_cons_zero, List.set_cons_succ, i64_w, i32_w];rfl)
      refine pure_ (i := 7) (N := some 42) (v := undef) (a' := ?_) #[true, true, true, true, true, true, true, true, false, false, false, false, false, false] rfl rfl (any_of HT_.out (by kernel_rfl)) (fun _ _ _ h => h) (Or.inr ⟨by rfl, rfl⟩) ?_ ?_
      rotate_left
      ·simp only [Act.put, List.setIfInBounds_toArray, List.set_cons_zero, List.set_cons_succ, i64_w, i32_w]
       rfl
      refine pure_ (i := 8) (N := some 43) (v := undef) (a' := ?_) #[true, true, true, true, true, true, true, true, true, false, false, false, false, false] rfl rfl (any_of HT_.out (by kernel_rfl)) (fun _ _ _ h => h) (Or.inr ⟨by rfl, rfl⟩) ?_ ?_
      rotate_left
      ·simp only [Act.put, List.setIfInBounds_toArray, List.set_cons_zero, List.set_cons_succ, i64_w, i32_w]
       rfl
      refine pure_ (i := 9) (N := some 44) (v := undef) (a' := ?_) #[true, true, true, true, true, true, true, true, true, true, false, false, false, false] rfl rfl (any_of HT_.out (by kernel_rfl)) (fun _ _ _ h => h) (Or.inr ⟨by rfl, rfl⟩) ?_ ?_
      rotate_left
      ·simp only [Act.put, List.setIfInBounds_toArray, List.set_cons_zero, List.set_cons_succ, i64_w, i32_w]
       rfl
      refine pure_ (i := 10) (N := some 45) (v := undef) (a' := ?_) #[true, true, true, true, true, true, true, true, true, true, true, false, false, false] rfl rfl (any_of HT_.out (by kernel_rfl)) (fun _ _ _ h => h) (Or.inr ⟨by rfl, rfl⟩) ?_ ?_
      rotate_left
      ·simp only [Act.put, List.setIfInBounds_toArray, List.set_cons_zero, List.set_cons_succ, i64_w, i32_w]
       rfl
      refine pure_ (i := 11) (N := some 46) (v := undef) (a' := ?_) #[true, true, true, true, true, true, true, true, true, true, true, true, false, false] rfl rfl (any_of HT_.out (by kernel_rfl)) (fun _ _ _ h => h) (Or.inr ⟨by rfl, rfl⟩) ?_ ?_
      rotate_left
      ·simp only [Act.put, List.setIfInBounds_toArray, List.set_cons_zero, List.set_cons_succ, i64_w, i32_w]
       rfl
      refine pure_ (i := 12) (N := some 47) (v := ?_) (a' := ?_) #[true, true, true, true, true, true, true, true, true, true, true, true, true, false] rfl rfl (any_of HT_.out (by kernel_rfl)) (fun _ _ _ h => h) (Or.inl ⟨by rfl, ?_⟩) ?_ ?_
      rotate_left;(focus intro w';go_simp;with_reducible rfl);rotate_left;(focus simp only [Act.put, List.setIfInBounds_toArray, List.set_cons_zero, List.set_cons_succ, i64_w, i32_w];rfl)
      refine pure_ (i := 13) (N := some 2) (v := ?_) (a' := ?_) #[true, true, true, true, true, true, true, true, true, true, true, true, true, true] rfl rfl (any_of HT_.out (by kernel_rfl)) (fun _ _ _ h => h) (Or.inl ⟨by rfl, ?_⟩) ?_ ?_
      rotate_left;(focus intro w';go_simp;with_reducible rfl);rotate_left;(focus simp only [Act.put, List.setIfInBounds_toArray, List.set_cons_zero, List.set_cons_succ, i64_w, i32_w];rfl)
      refine done_ (done_of HT_.out (by kernel_rfl)) ?_
      try go_wp2
      go_ret
      exact ⟨zE, zH⟩
    ·replace c17 := Bool.eq_false_iff.mpr c17
     subst c17
     replace H : (some false) = some r := by rw [if_neg (show ¬ (false = true) by decide)] at H; exact H
     obtain rfl := Option.some.inj H
     go_enter Try.func28, Try.ntmps28
     try go_wp2_with (first | ((with_reducible refine gate_dst (N := 1) rfl ?_); (try (refine gate_guard (by rfl) ?_; dsimp only)); refine box_event ?hg (N := 1) ?hd (cs := #[.int .i64 a0_0, .int .i64 a0_1, .int .i64 a0_2, .int .i64 a0_3, .slice A0_4 l0_4.length c0_4]) (t := 44) ?hr ?_; (case hd => rfl); (case hg => rfl); (case hr => first | (go_simp; done) | (go_simp; rfl)); intro gb190 hg w41 hbox hb; have n0_ := Aside0.mk (below_step zH hb); have n1_ := Aside0.mk (hbox); have n2_ := Aside0.mk ((by rw [hg]; exact (below_size zH) : w.heap.size ≤ gb190)); have n3_ := Aside0.mk ((by rw [hg]; exact (below_size zH) : w.heap.size ≤ gb190)); clear HB; have HB := n0_; have BK190 := n1_; have GW190 := n2_; have GE190 := n3_; clear n0_ n1_ n2_ n3_; clear hb hbox hg; obtain ⟨hcz42_0, hcz42_1, hcz42_2, hcz42_3, hcz42_4⟩ := zc5 BK190.out; obtain ⟨hfz42_0, hfz42_1, hfz42_2, hfz42_3, hfz42_4⟩ := zf BK190.out) | ((with_reducible refine gate_callee (f := 84) rfl ?_); refine goesL_ (some 7) rfl rfl Try.func84 (by kernel_rfl) rfl #[.int .i64 a0_1, .int .i64 0, .int .i64 99] rfl zM ?_; (with_reducible refine (spec_l01In.calls a0_1 0 99 true _ A2.out).mono ?_); rintro e w' ⟨rfl, ⟨nd, rfl⟩⟩; refine ⟨_, rfl, ?_⟩; (try (rw [drewN_self w41]; generalize hq_ : World.drewN w41 _ = w41; have n0_ : Aside0 (w41.heap[gb190]? = some (.cells #[.int .i64 a0_0, .int .i64 a0_1, .int .i64 a0_2, .int .i64 a0_3, .slice A0_4 l0_4.length c0_4] 44 (0, 0))) := ⟨by rw [← hq_]; exact (zB BK190.out)⟩; have n1_ : Aside0 (Below w.heap.size w w41) := ⟨by rw [← hq_]; exact zH⟩; clear BK190 HB hq_; have BK190 := n0_; have HB := n1_; clear n0_ n1_; obtain ⟨hcz42_0, hcz42_1, hcz42_2, hcz42_3, hcz42_4⟩ := zc5 BK190.out))) | ((with_reducible refine gate_callee (f := 85) rfl ?_); refine goesL_ (some 32) rfl rfl Try.func85 (by kernel_rfl) rfl #[.slice A0_4 l0_4.length c0_4] rfl zM ?_; (with_reducible refine (spec_DecodeJob.calls k _ _ l0_4 t193 t194 t195 t198 t201 t202 _ ?side1 ?side2 A15.out).mono ?_); (case side1 => exact zC (Kd.C_below HR0_4.out HB.out)); (case side2 => exact HC0_4.out); rintro e w43 ⟨v196, v199, rfl, ho0, ho1, hb⟩; refine ⟨_, rfl, ?_⟩; have n0_ := Aside0.mk (Kd.R_lower ho0 (below_size zH)); have n1_ := Aside0.mk (Kd.R_lower ho1 (below_size zH)); have n2_ := Aside0.mk (blk_below (g := gb190) (o := .cells #[.int .i64 a0_0, .int .i64 a0_1, .int .i64 a0_2, .int .i64 a0_3, .slice A0_4 l0_4.length c0_4] 44 (0, 0)) (zB BK190.out) hb); have n3_ := Aside0.mk (below_step zH hb); clear BK190; clear HB; have HO197 := n0_; have HO200 := n1_; have BK190 := n2_; have HB := n3_; clear n0_ n1_ n2_ n3_; (try clear hb); (try clear hb2); (try clear hk); (try clear hi); (try clear ho0); (try clear ho1)) | ((with_reducible refine gate_dst (N := 3) rfl ?_); (try (refine gate_guard (by rfl) ?_; dsimp only)); refine box_event ?hg (N := 3) ?hd (cs := #[.int .i64 0, .int .i64 0, .slice none 0 0, .slice none 0 0, .int .i64 0]) (t := 99) ?hr ?_; (case hd => rfl); (case hg => rfl); (case hr => first | (go_simp; done) | (go_simp; rfl)); intro gb203 hg w44 hbox hb; have n0_ := Aside0.mk (Kd.R_below (zR HO197.out) hb); have n1_ := Aside0.mk (Kd.R_below (zR HO200.out) hb); have n2_ := Aside0.mk (blk_below (g := gb190) (o := .cells #[.int .i64 a0_0, .int .i64 a0_1, .int .i64 a0_2, .int .i64 a0_3, .slice A0_4 l0_4.length c0_4] 44 (0, 0)) (zB BK190.out) hb); have n3_ := Aside0.mk (below_step zH hb); have n4_ := Aside0.mk (hbox); have n5_ := Aside0.mk ((by rw [hg]; exact (below_size zH) : w.heap.size ≤ gb203)); have n6_ := Aside0.mk ((by rw [hg]; exact (below_size zH) : w.heap.size ≤ gb203)); have n7_ := Aside0.mk ((by rw [hg]; exact Nat.ne_of_lt (blk_lt (g := gb190) (o := .cells #[.int .i64 a0_0, .int .i64 a0_1, .int .i64 a0_2, .int .i64 a0_3, .slice A0_4 l0_4.length c0_4] 44 (0, 0)) (zB BK190.out)) : gb190 ≠ gb203)); have n8_ := Aside0.mk ((by rw [hg]; exact Nat.ne_of_gt (blk_lt (g := gb190) (o := .cells #[.int .i64 a0_0, .int .i64 a0_1, .int .i64 a0_2, .int .i64 a0_3, .slice A0_4 l0_4.length c0_4] 44 (0, 0)) (zB BK190.out)) : gb203 ≠ gb190)); clear HO197; clear HO200; clear BK190; clear HB; have HO197 := n0_; have HO200 := n1_; have BK190 := n2_; have HB := n3_; have BK203 := n4_; have GW203 := n5_; have GE203 := n6_; have NB190_203 := n7_; have NB203_190 := n8_; clear n0_ n1_ n2_ n3_ n4_ n5_ n6_ n7_ n8_; clear hb hbox hg; have hnb45 := NB203_190.out; have hnc45 := NB190_203.out; obtain ⟨hcz46_0, hcz46_1, hcz46_2, hcz46_3, hcz46_4⟩ := zc5 BK203.out; obtain ⟨hfz46_0, hfz46_1, hfz46_2, hfz46_3, hfz46_4⟩ := zf BK203.out; obtain ⟨Ao47, co47, eo47⟩ := Kd.R_slice HO197.out; subst eo47; obtain ⟨Ao48, co48, eo48⟩ := Kd.R_slice HO200.out; subst eo48))
     have n0_ : Aside0 (Kd.R (Kd.int .i64) 3 (((((w44.setCell ⟨gb203, 0, none⟩ (.int .i64 t193)).setCell ⟨gb203, 1, none⟩ (.int .i64 t194)).setCell ⟨gb203, 2, none⟩ (.slice Ao47 t195.length co47)).setCell ⟨gb203, 3, none⟩ (.slice Ao48 t198.length co48)).setCell ⟨gb203, 4, none⟩ (.int .i64 t201)) w.heap.size (fun k_ => some k_ ≠ (.slice Ao48 t198.length co48 : Value).ownBlock) (.slice Ao47 t195.length co47) t195) := ⟨by (with_reducible repeat (first | apply Kd.R_alloc | apply Kd.R_drewN | apply Kd.R_drew)); exact Kd.R_mono (Kd.R_far (p := ⟨gb203, 4, none⟩) (Kd.R_far (p := ⟨gb203, 3, none⟩) (Kd.R_far (p := ⟨gb203, 2, none⟩) (Kd.R_far (p := ⟨gb203, 1, none⟩) (Kd.R_far (p := ⟨gb203, 0, none⟩) (Kd.R_types HO197.out BK203.out (by decide)) (fun _ hk => hk.2) (.int .i64 t193)) (fun _ hk => hk.2) (.int .i64 t194)) (fun _ hk => hk.2) (.slice Ao47 t195.length co47)) (fun _ hk => hk.2) (.slice Ao48 t198.length co48)) (fun _ hk => hk.2) (.int .i64 t201)) (fun _ hk => hk.1)⟩
     have n1_ : Aside0 (Kd.R (Kd.int .i64) 3 (((((w44.setCell ⟨gb203, 0, none⟩ (.int .i64 t193)).setCell ⟨gb203, 1, none⟩ (.int .i64 t194)).setCell ⟨gb203, 2, none⟩ (.slice Ao47 t195.length co47)).setCell ⟨gb203, 3, none⟩ (.slice Ao48 t198.length co48)).setCell ⟨gb203, 4, none⟩ (.int .i64 t201)) w.heap.size (fun k_ => some k_ ≠ (.slice Ao47 t195.length co47 : Value).ownBlock) (.slice Ao48 t198.length co48) t198) := ⟨by (with_reducible repeat (first | apply Kd.R_alloc | apply Kd.R_drewN | apply Kd.R_drew)); exact Kd.R_mono (Kd.R_far (p := ⟨gb203, 4, none⟩) (Kd.R_far (p := ⟨gb203, 3, none⟩) (Kd.R_far (p := ⟨gb203, 2, none⟩) (Kd.R_far (p := ⟨gb203, 1, none⟩) (Kd.R_far (p := ⟨gb203, 0, none⟩) (Kd.R_types HO200.out BK203.out (by decide)) (fun _ hk => hk.2) (.int .i64 t193)) (fun _ hk => hk.2) (.int .i64 t194)) (fun _ hk => hk.2) (.slice Ao47 t195.length co47)) (fun _ hk => hk.2) (.slice Ao48 t198.length co48)) (fun _ hk => hk.2) (.int .i64 t201)) (fun _ hk => hk.1)⟩
     have n2_ : Aside0 ((((((w44.setCell ⟨gb203, 0, none⟩ (.int .i64 t193)).setCell ⟨gb203, 1, none⟩ (.int .i64 t194)).setCell ⟨gb203, 2, none⟩ (.slice Ao47 t195.length co47)).setCell ⟨gb203, 3, none⟩ (.slice Ao48 t198.length co48)).setCell ⟨gb203, 4, none⟩ (.int .i64 t201)).heap[gb190]? = some (.cells #[.int .i64 a0_0, .int .i64 a0_1, .int .i64 a0_2, .int .i64 a0_3, .slice A0_4 l0_4.length c0_4] 44 (0, 0))) := ⟨by (repeat refine zL ?_); refine blk_far ?_ NB190_203.out _; (repeat refine zL ?_); refine blk_far ?_ NB190_203.out _; (repeat refine zL ?_); refine blk_far ?_ NB190_203.out _; (repeat refine zL ?_); refine blk_far ?_ NB190_203.out _; (repeat refine zL ?_); refine blk_far ?_ NB190_203.out _; (repeat refine zL ?_); exact BK190.out⟩
     have n3_ : Aside0 ((((((w44.setCell ⟨gb203, 0, none⟩ (.int .i64 t193)).setCell ⟨gb203, 1, none⟩ (.int .i64 t194)).setCell ⟨gb203, 2, none⟩ (.slice Ao47 t195.length co47)).setCell ⟨gb203, 3, none⟩ (.slice Ao48 t198.length co48)).setCell ⟨gb203, 4, none⟩ (.int .i64 t201)).heap[gb203]? = some (.cells #[.int .i64 t193, .int .i64 t194, .slice Ao47 t195.length co47, .slice Ao48 t198.length co48, .int .i64 t201] 99 (0, 0))) := ⟨by (repeat refine zL ?_); refine blk_put (cs := #[.int .i64 t193, .int .i64 t194, .slice Ao47 t195.length co47, .slice Ao48 t198.length co48, .int .i64 0]) ?_ 4 _ rfl; (repeat refine zL ?_); refine blk_put (cs := #[.int .i64 t193, .int .i64 t194, .slice Ao47 t195.length co47, .slice none 0 0, .int .i64 0]) ?_ 3 _ rfl; (repeat refine zL ?_); refine blk_put (cs := #[.int .i64 t193, .int .i64 t194, .slice none 0 0, .slice none 0 0, .int .i64 0]) ?_ 2 _ rfl; (repeat refine zL ?_); refine blk_put (cs := #[.int .i64 t193, .int .i64 0, .slice none 0 0, .slice none 0 0, .int .i64 0]) ?_ 1 _ rfl; (repeat refine zL ?_); refine blk_put (cs := #[.int .i64 0, .int .i64 0, .slice none 0 0, .slice none 0 0, .int .i64 0]) ?_ 0 _ rfl; (repeat refine zL ?_); exact BK203.out⟩
     have n4_ : Aside0 (Below w.heap.size w (((((w44.setCell ⟨gb203, 0, none⟩ (.int .i64 t193)).setCell ⟨gb203, 1, none⟩ (.int .i64 t194)).setCell ⟨gb203, 2, none⟩ (.slice Ao47 t195.length co47)).setCell ⟨gb203, 3, none⟩ (.slice Ao48 t198.length co48)).setCell ⟨gb203, 4, none⟩ (.int .i64 t201))) := ⟨zH⟩
     (try clear HO197)
     (try clear HO200)
     (try clear BK190)
     (try clear BK203)
     (try clear HB)
     generalize (((((w44.setCell ⟨gb203, 0, none⟩ (.int .i64 t193)).setCell ⟨gb203, 1, none⟩ (.int .i64 t194)).setCell ⟨gb203, 2, none⟩ (.slice Ao47 t195.length co47)).setCell ⟨gb203, 3, none⟩ (.slice Ao48 t198.length co48)).setCell ⟨gb203, 4, none⟩ (.int .i64 t201)) = w49 at n0_ n1_ n2_ n3_ n4_ ⊢
     have HO197 := n0_
     have HO200 := n1_
     have BK190 := n2_
     have BK203 := n3_
     have HB := n4_
     clear n0_ n1_ n2_ n3_ n4_
     have n0_ := Aside0.mk (Kd.R_drew HO197.out)
     have n1_ := Aside0.mk (Kd.R_drew HO200.out)
     have n2_ := Aside0.mk (blk_drew BK190.out)
     have n3_ := Aside0.mk (blk_drew BK203.out)
     have n4_ := Aside0.mk (below_drew1 HB.out)
     clear HO197
     clear HO200
     clear BK190
     clear BK203
     clear HB
     have HO197 := n0_
     have HO200 := n1_
     have BK190 := n2_
     have BK203 := n3_
     have HB := n4_
     clear n0_ n1_ n2_ n3_ n4_
     refine start_ (n := 14) (S := fun w' => w'.cell? ⟨gb190, 0, none⟩ = some (.int .i64 a0_0) ∧ w'.cell? ⟨gb190, 1, none⟩ = some (.int .i64 a0_1) ∧ w'.cell? ⟨gb190, 2, none⟩ = some (.int .i64 a0_2) ∧ w'.cell? ⟨gb190, 3, none⟩ = some (.int .i64 a0_3) ∧ w'.cell? ⟨gb190, 4, none⟩ = some (.slice A0_4 l0_4.length c0_4)) (ds := []) #[false, false, false, false, false, false, false, false, false, false, false, false, false, false] (by kernel_rfl) rfl rfl ⟨(blk_cell BK190.out 0).trans rfl, (blk_cell BK190.out 1).trans rfl, (blk_cell BK190.out 2).trans rfl, (blk_cell BK190.out 3).trans rfl, (blk_cell BK190.out 4).trans rfl⟩ (fun hHeld => ?_); refine with_tabW spec_EventOk.tab8 spec_EventOk.bits8 (fun HT_ HW_ => ?_)
     generalize w49.drew = w50 at HO197 HO200 BK190 BK203 HB hHeld ⊢
     refine pure_ (i := 0) (N := some 35) (v := ?_) (a' := ?_) #[true, false, false, false, false, false, false, false, false, false, false, false, false, false] rfl rfl (any_of HT_.out (by kernel_rfl)) (fun _ _ _ h => h) (Or.inl ⟨by rfl, ?_⟩) ?_ ?_
     rotate_left;(focus intro w';go_simp;with_reducible rfl);rotate_left;(focus simp only [Act.put, List.setIfInBounds_toArray, List.set_cons_zero, List.set_cons_succ, i64_w, i32_w];rfl)
     refine take_ (i := 1) (N := some 36) (v := ?_) (a' := ?_) #[true, true, false, false, false, false, false, false, false, false, false, false, false, false] rfl rfl (take_ofW HT_.out HW_.out (by kernel_rfl)) (fun _ _ _ h => h) (Or.inl ⟨by rfl, ?_⟩) hHeld ?_ ?_
     rotate_left
     ·rintro w' ⟨s0, s1, s2, s3, s4⟩
      go_simp
      with_reducible rfl
     rotate_left
     ·simp only [Act.put, List.setIfInBounds_toArray, List.set_cons_zero, List.set_cons_succ, i64_w, i32_w]
      rfl
     refine one_ (i := 2) (N := some 37) #[true, true, true, false, false, false, false, false, false, false, false, false, false, false] rfl rfl (one_of HT_.out (by kernel_rfl)) (by decide) (fun K hK => ?_)
     refine goes_ Try.func84 (by kernel_rfl) rfl #[.int .i64 a0_2, .int .i64 1, .int .i64 1000000000] (by rfl) rfl rfl zM ?_
     with_reducible refine (spec_l01In.calls a0_2 1 1000000000 false _ A16.out).mono ?_
     rintro e w' ⟨rfl, ⟨nd, rfl⟩⟩
     refine ⟨_, rfl, ?_⟩
     refine hK.out _ _ ⟨(blk_cell BK190.out 0).trans rfl, (blk_cell BK190.out 1).trans rfl, (blk_cell BK190.out 2).trans rfl, (blk_cell BK190.out 3).trans rfl, (blk_cell BK190.out 4).trans rfl⟩ (fun hHeld => ?_)
     clear hK K
     refine norm_ (a' := ?_) ?_ ?_
     rotate_left
     ·show Act.put _ (some 37) _ = _
      simp only [Act.put, List.setIfInBounds_toArray, List.set_cons_zero, List.set_cons_succ, i64_w, i32_w]
      rfl
     refine pure_ (i := 3) (N := some 38) (v := ?_) (a' := ?_) #[true, true, true, true, false, false, false, false, false, false, false, false, false, false] rfl rfl (any_of HT_.out (by kernel_rfl)) (fun _ _ _ h => h) (Or.inl ⟨by rfl, ?_⟩) ?_ ?_
     rotate_left;(focus intro w';go_simp;with_reducible rfl);rotate_left;(focus simp only [Act.put, List.setIfInBounds_toArray, List.set_cons_zero, List.set_cons_succ, i64_w, i32_w];rfl)
     refine pure_ (i := 4) (N := some 39) (v := undef) (a' := ?_) #[true, true, true, true, true, false, false, false, false, false, false, false, false, false] rfl rfl (any_of HT_.out (by kernel_rfl)) (fun _ _ _ h => h) (Or.inr ⟨by rfl, rfl⟩) ?_ ?_
     rotate_left
     ·simp only [Act.put, List.setIfInBounds_toArray, List.set_cons_zero, List.set_cons_succ, i64_w, i32_w]
      rfl
     refine pure_ (i := 5) (N := some 40) (v := ?_) (a' := ?_) #[true, true, true, true, true, true, false, false, false, false, false, false, false, false] rfl rfl (any_of HT_.out (by kernel_rfl)) (fun _ _ _ h => h) (Or.inl ⟨by rfl, ?_⟩) ?_ ?_
     rotate_left;(focus intro w';go_simp;with_reducible rfl);rotate_left;(focus simp only [Act.put, List.setIfInBounds_toArray, List.set_cons_zero, List.set_cons_succ, i64_w, i32_w];rfl)
     refine pure_ (i := 6) (N := some 41) (v := ?_) (a' := ?_) #[true, true, true, true, true, true, true, false, false, false, false, false, false, false] rfl rfl (any_of HT_.out (by kernel_rfl)) (fun _ _ _ h => h) (Or.inl ⟨by rfl, ?_⟩) ?_ ?_
     rotate_left;(focus intro w';go_simp;with_reducible rfl);rotate_left;(focus simp only [Act.put, List.setIfInBounds_toArray, List.set_cons_zero, List.set_cons_succ, i64_w, i32_w];rfl)
     refine pure_ (i := 7) (N := some 42) (v := undef) (a' := ?_) #[true, true, true, true, true, true, true, true, false, false, false, false, false, false] rfl rfl (any_of HT_.out (by kernel_rfl)) (fun _ _ _ h => h) (Or.inr ⟨by rfl, rfl⟩) ?_ ?_
     rotate_left
     ·simp only [Act.put, List.setIfInBounds_toArray, List.set_cons_zero, List.set_cons_succ, i64_w, i32_w]
      rfl
     refine pure_ (i := 8) (N := some 43) (v := undef) (a' := ?_) #[true, true, true, true, true, true, true, true, true, false, false, false, false, false] rfl rfl (any_of HT_.out (by kernel_rfl)) (fun _ _ _ h => h) (Or.inr ⟨by rfl, rfl⟩) ?_ ?_
     rotate_left
     ·simp only [Act.put, List.setIfInBounds_toArray, List.set_cons_zero, List.set_cons_succ, i64_w, i32_w]
      rfl
     refine pure_ (i := 9) (N := some 44) (v := undef) (a' := ?_) #[true, true, true, true, true, true, true, true, true, true, false, false, false, false] rfl rfl (any_of HT_.out (by kernel_rfl)) (fun _ _ _ h => h) (Or.inr ⟨by rfl, rfl⟩) ?_ ?_
     rotate_left
     ·simp only [Act.put, List.setIfInBounds_toArray, List.set_cons_zero, List.set_cons_succ, i64_w, i32_w]
      rfl
     refine pure_ (i := 10) (N := some 45) (v := undef) (a' := ?_) #[true, true, true, true, true, true, true, true, true, true, true, false, false, false] rfl rfl (any_of HT_.out (by kernel_rfl)) (fun _ _ _ h => h) (Or.inr ⟨by rfl, rfl⟩) ?_ ?_
     rotate_left
     ·simp only [Act.put, List.setIfInBounds_toArray, List.set_cons_zero, List.set_cons_succ, i64_w, i32_w]
      rfl
     refine pure_ (i := 11) (N := some 46) (v := undef) (a' := ?_) #[true, true, true, true, true, true, true, true, true, true, true, true, false, false] rfl rfl (any_of HT_.out (by kernel_rfl)) (fun _ _ _ h => h) (Or.inr ⟨by rfl, rfl⟩) ?_ ?_
     rotate_left
     ·simp only [Act.put, List.setIfInBounds_toArray, List.set_cons_zero, List.set_cons_succ, i64_w, i32_w]
      rfl
     refine pure_ (i := 12) (N := some 47) (v := ?_) (a' := ?_) #[true, true, true, true, true, true, true, true, true, true, true, true, true, false] rfl rfl (any_of HT_.out (by kernel_rfl)) (fun _ _ _ h => h) (Or.inl ⟨by rfl, ?_⟩) ?_ ?_
     rotate_left;(focus intro w';go_simp;with_reducible rfl);rotate_left;(focus simp only [Act.put, List.setIfInBounds_toArray, List.set_cons_zero, List.set_cons_succ, i64_w, i32_w];rfl)
     refine pure_ (i := 13) (N := some 2) (v := ?_) (a' := ?_) #[true, true, true, true, true, true, true, true, true, true, true, true, true, true] rfl rfl (any_of HT_.out (by kernel_rfl)) (fun _ _ _ h => h) (Or.inl ⟨by rfl, ?_⟩) ?_ ?_
     rotate_left;(focus intro w';go_simp;with_reducible rfl);rotate_left;(focus simp only [Act.put, List.setIfInBounds_toArray, List.set_cons_zero, List.set_cons_succ, i64_w, i32_w];rfl)
     refine done_ (done_of HT_.out (by kernel_rfl)) ?_
     try go_wp2
     go_ret
     exact ⟨zE, zH⟩
   ·rw [if_neg c14] at H
    have c14b0 : (a0_0 == 2) = false := beq_eq_false_iff_ne.mpr c14
    have c14b1 : (a0_0 != 2) = true := bne_iff_ne.mpr c14
    have HC51 := Aside0.mk H
    clear H
    go_enter Try.func28, Try.ntmps28
    go_upto_if 48 with (first | ((with_reducible refine gate_dst (N := 1) rfl ?_); (try (refine gate_guard (by rfl) ?_; dsimp only)); refine box_event ?hg (N := 1) ?hd (cs := #[.int .i64 a0_0, .int .i64 a0_1, .int .i64 a0_2, .int .i64 a0_3, .slice A0_4 l0_4.length c0_4]) (t := 44) ?hr ?_; (case hd => rfl); (case hg => rfl); (case hr => first | (go_simp; done) | (go_simp; rfl)); intro gb190 hg w52 hbox hb; have n0_ := Aside0.mk (below_step zH hb); have n1_ := Aside0.mk (hbox); have n2_ := Aside0.mk ((by rw [hg]; exact (below_size zH) : w.heap.size ≤ gb190)); have n3_ := Aside0.mk ((by rw [hg]; exact (below_size zH) : w.heap.size ≤ gb190)); clear HB; have HB := n0_; have BK190 := n1_; have GW190 := n2_; have GE190 := n3_; clear n0_ n1_ n2_ n3_; clear hb hbox hg; obtain ⟨hcz53_0, hcz53_1, hcz53_2, hcz53_3, hcz53_4⟩ := zc5 BK190.out; obtain ⟨hfz53_0, hfz53_1, hfz53_2, hfz53_3, hfz53_4⟩ := zf BK190.out) | ((with_reducible refine gate_callee (f := 84) rfl ?_); refine goesL_ (some 7) rfl rfl Try.func84 (by kernel_rfl) rfl #[.int .i64 a0_1, .int .i64 0, .int .i64 99] rfl zM ?_; (with_reducible refine (spec_l01In.calls a0_1 0 99 true _ A2.out).mono ?_); rintro e w' ⟨rfl, ⟨nd, rfl⟩⟩; refine ⟨_, rfl, ?_⟩))
    (try simp only [Act.put, List.setIfInBounds_toArray, List.set_cons_zero, List.set_cons_succ])
    go_cut [48] (fun v48 wc => ∃ (kq : Nat) (x48_50 : Bool), v48 = .bool x48_50 ∧ Aside0 (spec_EventOk.j0 kq a0_0 x48_50 a0_0 a0_1 a0_2 a0_3 l0_4 = some r) ∧ Aside0 (kq ≤ k) ∧ Aside0 (wc.heap[gb190]? = some (.cells #[.int .i64 a0_0, .int .i64 a0_1, .int .i64 a0_2, .int .i64 a0_3, (.slice A0_4 l0_4.length c0_4)] 44 (0, 0))) ∧ Aside0 (Below w.heap.size w wc))
    case first =>
     have H := HC51.out
     clear HC51
     by_cases c54 : a0_0 = 3
     ·rw [if_pos c54] at H
      have c54b0 : (a0_0 == 3) = true := beq_iff_eq.mpr c54
      have c54b1 : (a0_0 != 3) = false := bne_eq_false_iff_eq.mpr c54
      clear c54
      (first | rw [c54b0] | (simp only [i64_w, i32_w]; rw [c54b0]) | skip)
      have H' := Aside0.mk H
      clear H
      go_wp2
      go_meet
      case rel => exact ⟨_, ((a0_0 == 3)), zF, H', ⟨by first | omega | exact Nat.le_refl _⟩, ⟨zB BK190.out⟩, ⟨zH⟩⟩
     ·rw [if_neg c54] at H
      have c54b0 : (a0_0 == 3) = false := beq_eq_false_iff_ne.mpr c54
      have c54b1 : (a0_0 != 3) = true := bne_iff_ne.mpr c54
      (first | rw [c54b0] | (simp only [i64_w, i32_w]; rw [c54b0]) | skip)
      have H' := Aside0.mk H
      clear H
      go_wp2
      go_meet
      case rel => exact ⟨_, ((a0_0 == 4)), zF, H', ⟨by first | omega | exact Nat.le_refl _⟩, ⟨zB BK190.out⟩, ⟨zH⟩⟩
    case rest =>
     clear HC51
     (try clear c1);(try clear c2);(try clear p2);(try clear c3);(try clear c4);(try clear c4b0);(try clear c4b1);(try clear c5);(try clear c5b0);(try clear c5b1);(try clear c7);(try clear c8);(try clear c14);(try clear c14b0);(try clear c14b1);(try clear c17);(try clear c18);(try clear c24);(try clear c28);(try clear c35);(try clear c45);(try clear c54);(try clear c54b0);(try clear c54b1);(try clear hcz11_0);(try clear hcz11_1);(try clear hcz11_2);(try clear hcz11_3)
     (try clear hcz11_4);(try clear hcz13_0);(try clear hcz13_1);(try clear hcz13_2);(try clear hcz13_3);(try clear hcz13_4);(try clear hcz21_0);(try clear hcz21_1);(try clear hcz21_2);(try clear hcz21_3);(try clear hcz21_4);(try clear hcz25_0);(try clear hcz25_1);(try clear hcz25_2);(try clear hcz25_3);(try clear hcz25_4);(try clear hcz32_0);(try clear hcz32_1);(try clear hcz32_2);(try clear hcz32_3);(try clear hcz32_4);(try clear hcz36_0);(try clear hcz36_1)
     (try clear hcz36_2);(try clear hcz36_3);(try clear hcz36_4);(try clear hcz42_0);(try clear hcz42_1);(try clear hcz42_2);(try clear hcz42_3);(try clear hcz42_4);(try clear hcz46_0);(try clear hcz46_1);(try clear hcz46_2);(try clear hcz46_3);(try clear hcz46_4);(try clear hcz53_0);(try clear hcz53_1);(try clear hcz53_2);(try clear hcz53_3);(try clear hcz53_4);(try clear hcz9_0);(try clear hcz9_1);(try clear hcz9_2);(try clear hcz9_3);(try clear hcz9_4)
     (try clear hfz11_0);(try clear hfz11_1);(try clear hfz11_2);(try clear hfz11_3);(try clear hfz11_4);(try clear hfz13_0);(try clear hfz13_1);(try clear hfz13_2);(try clear hfz13_3);(try clear hfz13_4);(try clear hfz21_0);(try clear hfz21_1);(try clear hfz21_2);(try clear hfz21_3);(try clear hfz21_4);(try clear hfz25_0);(try clear hfz25_1);(try clear hfz25_2);(try clear hfz25_3);(try clear hfz25_4);(try clear hfz32_0);(try clear hfz32_1);(try clear hfz32_2)
     (try clear hfz32_3);(try clear hfz32_4);(try clear hfz36_0);(try clear hfz36_1);(try clear hfz36_2);(try clear hfz36_3);(try clear hfz36_4);(try clear hfz42_0);(try clear hfz42_1);(try clear hfz42_2);(try clear hfz42_3);(try clear hfz42_4);(try clear hfz46_0);(try clear hfz46_1);(try clear hfz46_2);(try clear hfz46_3);(try clear hfz46_4);(try clear hfz53_0);(try clear hfz53_1);(try clear hfz53_2);(try clear hfz53_3);(try clear hfz53_4);(try clear hfz9_0)
     (try clear hfz9_1);(try clear hfz9_2);(try clear hfz9_3);(try clear hfz9_4)
     obtain ⟨kq, x48_50, rfl, HA, HJ50, BK190, HB⟩ := hcut
     cases kq with
     | zero => exact absurd HA.out (by simp [spec_EventOk.j0])
     | succ kj50 =>
      have H := HA.out
      clear HA
      simp only [spec_EventOk.j0] at H
      by_cases c55 : x48_50 = true
      ·subst c55
       replace H : ((spec_l01In.f a0_2 1 1000000000).bind fun t206 => (if t206 = true then (if a0_3 = 0 then (some ((l0_4.length : Int) == 0)) else (some false)) else (some false))) = some r := by rw [if_pos rfl] at H; exact H
       replace H := Option.bind_eq_some_iff.mp H
       obtain ⟨t206, A560, H⟩ := H
       replace H : (if t206 = true then (if a0_3 = 0 then (some ((l0_4.length : Int) == 0)) else (some false)) else (some false)) = some r := H
       have A56 := Aside0.mk A560
       clear A560
       by_cases c57 : t206 = true
       ·subst c57
        replace H : (if a0_3 = 0 then (some ((l0_4.length : Int) == 0)) else (some false)) = some r := by rw [if_pos rfl] at H; exact H
        by_cases c58 : a0_3 = 0
        ·rw [if_pos c58] at H
         have c58b0 : (a0_3 == 0) = true := beq_iff_eq.mpr c58
         have c58b1 : (a0_3 != 0) = false := bne_eq_false_iff_eq.mpr c58
         clear c58
         obtain rfl := Option.some.inj H
         obtain ⟨hcz59_0, hcz59_1, hcz59_2, hcz59_3, hcz59_4⟩ := zc5 BK190.out
         obtain ⟨hfz59_0, hfz59_1, hfz59_2, hfz59_3, hfz59_4⟩ := zf BK190.out
         go_wp2_with (first | ((with_reducible refine gate_callee (f := 84) rfl ?_); refine goesL_ (some 53) rfl rfl Try.func84 (by kernel_rfl) rfl #[.int .i64 a0_2, .int .i64 1, .int .i64 1000000000] rfl zM ?_; (with_reducible refine (spec_l01In.calls a0_2 1 1000000000 true _ A56.out).mono ?_); rintro e w' ⟨rfl, ⟨nd, rfl⟩⟩; refine ⟨_, rfl, ?_⟩))
         go_ret
         exact ⟨zE, zH⟩
        ·rw [if_neg c58] at H
         have c58b0 : (a0_3 == 0) = false := beq_eq_false_iff_ne.mpr c58
         have c58b1 : (a0_3 != 0) = true := bne_iff_ne.mpr c58
         obtain rfl := Option.some.inj H
         obtain ⟨hcz60_0, hcz60_1, hcz60_2, hcz60_3, hcz60_4⟩ := zc5 BK190.out
         obtain ⟨hfz60_0, hfz60_1, hfz60_2, hfz60_3, hfz60_4⟩ := zf BK190.out
         go_wp2_with (first | ((with_reducible refine gate_callee (f := 84) rfl ?_); refine goesL_ (some 53) rfl rfl Try.func84 (by kernel_rfl) rfl #[.int .i64 a0_2, .int .i64 1, .int .i64 1000000000] rfl zM ?_; (with_reducible refine (spec_l01In.calls a0_2 1 1000000000 true _ A56.out).mono ?_); rintro e w' ⟨rfl, ⟨nd, rfl⟩⟩; refine ⟨_, rfl, ?_⟩))
         go_ret
         exact ⟨zE, zH⟩
       ·replace c57 := Bool.eq_false_iff.mpr c57
        subst c57
        replace H : (some false) = some r := by rw [if_neg (show ¬ (false = true) by decide)] at H; exact H
        obtain rfl := Option.some.inj H
        obtain ⟨hcz61_0, hcz61_1, hcz61_2, hcz61_3, hcz61_4⟩ := zc5 BK190.out
        obtain ⟨hfz61_0, hfz61_1, hfz61_2, hfz61_3, hfz61_4⟩ := zf BK190.out
        go_wp2_with (first | ((with_reducible refine gate_callee (f := 84) rfl ?_); refine goesL_ (some 53) rfl rfl Try.func84 (by kernel_rfl) rfl #[.int .i64 a0_2, .int .i64 1, .int .i64 1000000000] rfl zM ?_; (with_reducible refine (spec_l01In.calls a0_2 1 1000000000 false _ A56.out).mono ?_); rintro e w' ⟨rfl, ⟨nd, rfl⟩⟩; refine ⟨_, rfl, ?_⟩))
        go_ret
        exact ⟨zE, zH⟩
      ·replace c55 := Bool.eq_false_iff.mpr c55
       subst c55
       replace H : (if a0_0 = 5 then (if a0_2 = 0 then (if a0_3 = 0 then (some ((l0_4.length : Int) == 0)) else (some false)) else (some false)) else (some false)) = some r := by rw [if_neg (show ¬ (false = true) by decide)] at H; exact H
       by_cases c62 : a0_0 = 5
       ·rw [if_pos c62] at H
        have c62b0 : (a0_0 == 5) = true := beq_iff_eq.mpr c62
        have c62b1 : (a0_0 != 5) = false := bne_eq_false_iff_eq.mpr c62
        clear c62
        by_cases c63 : a0_2 = 0
        ·rw [if_pos c63] at H
         have c63b0 : (a0_2 == 0) = true := beq_iff_eq.mpr c63
         have c63b1 : (a0_2 != 0) = false := bne_eq_false_iff_eq.mpr c63
         clear c63
         by_cases c64 : a0_3 = 0
         ·rw [if_pos c64] at H
          have c64b0 : (a0_3 == 0) = true := beq_iff_eq.mpr c64
          have c64b1 : (a0_3 != 0) = false := bne_eq_false_iff_eq.mpr c64
          clear c64
          obtain rfl := Option.some.inj H
          obtain ⟨hcz65_0, hcz65_1, hcz65_2, hcz65_3, hcz65_4⟩ := zc5 BK190.out
          obtain ⟨hfz65_0, hfz65_1, hfz65_2, hfz65_3, hfz65_4⟩ := zf BK190.out
          go_wp2
          go_ret
          exact ⟨zE, zH⟩
         ·rw [if_neg c64] at H
          have c64b0 : (a0_3 == 0) = false := beq_eq_false_iff_ne.mpr c64
          have c64b1 : (a0_3 != 0) = true := bne_iff_ne.mpr c64
          obtain rfl := Option.some.inj H
          obtain ⟨hcz66_0, hcz66_1, hcz66_2, hcz66_3, hcz66_4⟩ := zc5 BK190.out
          obtain ⟨hfz66_0, hfz66_1, hfz66_2, hfz66_3, hfz66_4⟩ := zf BK190.out
          go_wp2
          go_ret
          exact ⟨zE, zH⟩
        ·rw [if_neg c63] at H
         have c63b0 : (a0_2 == 0) = false := beq_eq_false_iff_ne.mpr c63
         have c63b1 : (a0_2 != 0) = true := bne_iff_ne.mpr c63
         obtain rfl := Option.some.inj H
         obtain ⟨hcz67_0, hcz67_1, hcz67_2, hcz67_3, hcz67_4⟩ := zc5 BK190.out
         obtain ⟨hfz67_0, hfz67_1, hfz67_2, hfz67_3, hfz67_4⟩ := zf BK190.out
         go_wp2
         go_ret
         exact ⟨zE, zH⟩
       ·rw [if_neg c62] at H
        have c62b0 : (a0_0 == 5) = false := beq_eq_false_iff_ne.mpr c62
        have c62b1 : (a0_0 != 5) = true := bne_iff_ne.mpr c62
        obtain rfl := Option.some.inj H
        go_wp2
        go_ret
        exact ⟨zE, zH⟩
 ·replace c3 := Bool.eq_false_iff.mpr c3
  subst c3
  replace H : (some false) = some r := by rw [if_neg (show ¬ (false = true) by decide)] at H; exact H
  obtain rfl := Option.some.inj H
  go_enter Try.func28, Try.ntmps28
  go_wp2_with (first | ((with_reducible refine gate_dst (N := 1) rfl ?_); (try (refine gate_guard (by rfl) ?_; dsimp only)); refine box_event ?hg (N := 1) ?hd (cs := #[.int .i64 a0_0, .int .i64 a0_1, .int .i64 a0_2, .int .i64 a0_3, .slice A0_4 l0_4.length c0_4]) (t := 44) ?hr ?_; (case hd => rfl); (case hg => rfl); (case hr => first | (go_simp; done) | (go_simp; rfl)); intro gb190 hg w68 hbox hb; have n0_ := Aside0.mk (below_step zH hb); have n1_ := Aside0.mk (hbox); have n2_ := Aside0.mk ((by rw [hg]; exact (below_size zH) : w.heap.size ≤ gb190)); have n3_ := Aside0.mk ((by rw [hg]; exact (below_size zH) : w.heap.size ≤ gb190)); clear HB; have HB := n0_; have BK190 := n1_; have GW190 := n2_; have GE190 := n3_; clear n0_ n1_ n2_ n3_; clear hb hbox hg; obtain ⟨hcz69_0, hcz69_1, hcz69_2, hcz69_3, hcz69_4⟩ := zc5 BK190.out; obtain ⟨hfz69_0, hfz69_1, hfz69_2, hfz69_3, hfz69_4⟩ := zf BK190.out) | ((with_reducible refine gate_callee (f := 84) rfl ?_); refine goesL_ (some 7) rfl rfl Try.func84 (by kernel_rfl) rfl #[.int .i64 a0_1, .int .i64 0, .int .i64 99] rfl zM ?_; (with_reducible refine (spec_l01In.calls a0_1 0 99 false _ A2.out).mono ?_); rintro e w' ⟨rfl, ⟨nd, rfl⟩⟩; refine ⟨_, rfl, ?_⟩))
  go_ret
  exact ⟨zE, zH⟩

end Go.Proofs.Ytabicblkdgpogaa.QFnExactPutEvent
