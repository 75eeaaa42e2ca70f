-- Made by this session's program (wip/tools/myprint.py) out of the translation; Lean checks it.
import Derived.Test.YtabicblkdgpogaaQFnExactPutEventx0
import Derived.Test.YtabicblkdgpogaaQFnExactPutEventx1
import Derived.Test.YtabicblkdgpogaaQFnExactPutEventx10
import Derived.Test.YtabicblkdgpogaaQFnExactPutEventx16
namespace Go.Proofs.Ytabicblkdgpogaa.QFnExactPutEvent
open Go.RowKit Go.Proofs.YtabicblkdgpogaaW.PrintWords Go.Proofs.YtabicblkdgpogaaW.PrintLast Go.Proofs.YtabicblkdgpogaaW.PrintMore
attribute [local go_sem] max2_int min2_int max_two min_two max_three min_three max_four min_four   -- for this text's walks alone
set_option linter.unusedVariables false
set_option linter.unusedSimpArgs false

/-! ### laws_FnExactPutEvent: function 10 -/
def laws_FnExactPutEvent.j0 : Nat → List Int → List Int → Bool → Int → Int → Int → Int → List Int → Option (Bool)
 | 0, _, _, _, _, _, _, _, _ => none
 | k + 1, x4, x6, x42, x409000, x409001, x409002, x409003, x409004 => if x42 = true then (some false) else ((laws_markByteS.f k x6 1).bind fun bt443 => ((laws_heldByteS.f k bt443.2 1).bind fun t445 => (if t445 < 0 then (some false) else (if t445 = bt443.1 then ((laws_toEvent.f k x409000 x409001 x409002 x409003 x409004).bind fun bt446 => ((impl_PutEvent.f k bt446.1 bt446.2.1 bt446.2.2.1 bt446.2.2.2.1 bt446.2.2.2.2).bind fun t453 => ((laws_eqByteS.f k t453 x4).bind fun t456 => (if t456 = true then ((laws_heldByteS.f k bt443.2 1).bind fun t457 => (if t457 < 0 then (some false) else (if t457 = bt443.1 then (some true) else (some false)))) else (some false))))) else (some false)))))
def laws_FnExactPutEvent.f (k : Nat) (a0_0 : Int) (a0_1 : Int) (a0_2 : Int) (a0_3 : Int) (l0_4 : List Int) : Option (Bool) := (laws_szEvent.f a0_0 a0_1 a0_2 a0_3 l0_4 1048576).bind fun t409 => (if t409 < 0 then (some true) else ((laws_toEvent.f k a0_0 a0_1 a0_2 a0_3 l0_4).bind fun bt410 => ((spec_PutEvent.f k bt410.1 bt410.2.1 bt410.2.2.1 bt410.2.2.2.1 bt410.2.2.2.2).bind fun t417 => ((laws_toEvent.f k a0_0 a0_1 a0_2 a0_3 l0_4).bind fun bt420 => ((impl_PutEvent.f k bt420.1 bt420.2.1 bt420.2.2.1 bt420.2.2.2.1 bt420.2.2.2.2).bind fun t428 => ((laws_eqByteS.f k t428 t417).bind fun t431 => (if t431 = true then ((laws_toEvent.f k a0_0 a0_1 a0_2 a0_3 l0_4).bind fun bt432 => ((laws_eqEvent.f k bt420.1 bt420.2.1 bt420.2.2.1 bt420.2.2.2.1 bt420.2.2.2.2 bt432.1 bt432.2.1 bt432.2.2.1 bt432.2.2.2.1 bt432.2.2.2.2).bind fun t439 => (if t439 = true then ((laws_markEvent.f k bt420.1 bt420.2.1 bt420.2.2.1 bt420.2.2.2.1 bt420.2.2.2.2 1).bind fun bt440 => (if bt440.1 < 0 then (laws_FnExactPutEvent.j0 k t417 t428 true a0_0 a0_1 a0_2 a0_3 l0_4) else ((laws_eqByteS.f k t428 t417).bind fun t442 => (laws_FnExactPutEvent.j0 k t417 t428 (!t442) a0_0 a0_1 a0_2 a0_3 l0_4)))) else (some false)))) else (some false))))))))
theorem laws_FnExactPutEvent.mono_l : ∀ k, (∀ y0 y1 y2 y3 y4 y5 y6 y7, LeO (laws_FnExactPutEvent.j0 k y0 y1 y2 y3 y4 y5 y6 y7) (laws_FnExactPutEvent.j0 (k + 1) y0 y1 y2 y3 y4 y5 y6 y7))
 | 0 => fun _ _ _ _ _ _ _ _ r h => by simp [laws_FnExactPutEvent.j0] at h
 | k + 1 => by
  have ih0 := laws_FnExactPutEvent.mono_l k
  ·intro y0 y1 y2 y3 y4 y5 y6 y7
   unfold laws_FnExactPutEvent.j0
   repeat' first
   | (with_reducible exact ih0 _ _ _ _ _ _ _ _)
   | (with_reducible exact impl_PutEvent.mono _ _ _ _ _ _)
   | (with_reducible exact laws_eqByteS.mono _ _ _)
   | (with_reducible exact laws_eqEvent.mono _ _ _ _ _ _ _ _ _ _ _)
   | (with_reducible exact laws_heldByteS.mono _ _ _)
   | (with_reducible exact laws_markByteS.mono _ _ _)
   | (with_reducible exact laws_markEvent.mono _ _ _ _ _ _ _)
   | (with_reducible exact laws_toEvent.mono _ _ _ _ _ _)
   | (with_reducible exact spec_PutEvent.mono _ _ _ _ _ _)
   | (with_reducible exact LeO.refl _)
   | (with_reducible exact LeO.none _)
   | (with_reducible refine LeO.ite ?_ ?_)
   | (with_reducible refine LeO.bind ?_ (fun _ => ?_))
   | exact ih0 _ _ _ _ _ _ _ _
   | exact impl_PutEvent.mono _ _ _ _ _ _
   | exact laws_eqByteS.mono _ _ _
   | exact laws_eqEvent.mono _ _ _ _ _ _ _ _ _ _ _
   | exact laws_heldByteS.mono _ _ _
   | exact laws_markByteS.mono _ _ _
   | exact laws_markEvent.mono _ _ _ _ _ _ _
   | exact laws_toEvent.mono _ _ _ _ _ _
   | exact spec_PutEvent.mono _ _ _ _ _ _
   | exact LeO.none _
   | refine LeO.ite ?_ ?_
   | refine LeO.bind ?_ (fun _ => ?_)
theorem laws_FnExactPutEvent.mono : ∀ a0 a1 a2 a3 a4 k, LeO (laws_FnExactPutEvent.f k a0 a1 a2 a3 a4) (laws_FnExactPutEvent.f (k + 1) a0 a1 a2 a3 a4) := by
 intro a0 a1 a2 a3 a4 k
 have ih0 := laws_FnExactPutEvent.mono_l k
 unfold laws_FnExactPutEvent.f
 repeat' first
   | (with_reducible exact ih0 _ _ _ _ _ _ _ _)
   | (with_reducible exact impl_PutEvent.mono _ _ _ _ _ _)
   | (with_reducible exact laws_eqByteS.mono _ _ _)
   | (with_reducible exact laws_eqEvent.mono _ _ _ _ _ _ _ _ _ _ _)
   | (with_reducible exact laws_heldByteS.mono _ _ _)
   | (with_reducible exact laws_markByteS.mono _ _ _)
   | (with_reducible exact laws_markEvent.mono _ _ _ _ _ _ _)
   | (with_reducible exact laws_toEvent.mono _ _ _ _ _ _)
   | (with_reducible exact spec_PutEvent.mono _ _ _ _ _ _)
   | (with_reducible exact LeO.refl _)
   | (with_reducible exact LeO.none _)
   | (with_reducible refine LeO.ite ?_ ?_)
   | (with_reducible refine LeO.bind ?_ (fun _ => ?_))
   | exact ih0 _ _ _ _ _ _ _ _
   | exact impl_PutEvent.mono _ _ _ _ _ _
   | exact laws_eqByteS.mono _ _ _
   | exact laws_eqEvent.mono _ _ _ _ _ _ _ _ _ _ _
   | exact laws_heldByteS.mono _ _ _
   | exact laws_markByteS.mono _ _ _
   | exact laws_markEvent.mono _ _ _ _ _ _ _
   | exact laws_toEvent.mono _ _ _ _ _ _
   | exact spec_PutEvent.mono _ _ _ _ _ _
   | exact LeO.none _
   | refine LeO.ite ?_ ?_
   | refine LeO.bind ?_ (fun _ => ?_)
theorem zq {P : Prop} (h : P := by ((try simp only [and_assoc] at hk_); first | exact hk_.1 hs_ | exact hk_.2.1 hs_ | exact hk_.2.2.1 hs_ | exact hk_.2.2.2.1 hs_ | exact hk_.2.2.2.2.1 hs_ | exact hk_.2.2.2.2 hs_ | exact hk_.2.2.2 hs_ | exact hk_.2.2 hs_ | exact hk_.2 hs_)) : P := h
theorem zr {P : Prop} (h : P := by ((try simp only [and_assoc] at hk_); (repeat' apply And.intro); all_goals (first | exact hk_.1 | exact hk_.2.1 | exact hk_.2.2.1 | exact hk_.2.2.2.1 | exact hk_.2.2.2.2.1 | exact hk_.2.2.2.2 | exact hk_.2.2.2 | exact hk_.2.2 | exact hk_.2 | exact hk_))) : P := h
set_option maxHeartbeats 8000000 in
set_option maxRecDepth 100000 in
theorem laws_FnExactPutEvent.calls (k : Nat) (a0_0 : Int) (a0_1 : Int) (a0_2 : Int) (a0_3 : Int) (A0_4 : Option Addr) (c0_4 : Nat) (l0_4 : List Int) (r : Bool) (w : World) (hr0_4 : Kd.C (Kd.int .u8) w A0_4 l0_4.length l0_4) (hc0_4 : l0_4.length ≤ c0_4) (HT_ : Aside0 (r = true)) (h : laws_FnExactPutEvent.f k a0_0 a0_1 a0_2 a0_3 l0_4 = some r) :
  Calls Try.prog 10 #[.agg #[.int .i64 a0_0, .int .i64 a0_1, .int .i64 a0_2, .int .i64 a0_3, .slice A0_4 l0_4.length c0_4]] w fun e w' => e = .returned (.bool r) ∧ Below w.heap.size w w' := by
 have hu41 := Try.underlying41
 have hu44 := Try.underlying44
 have HR0_4 := Aside0.mk hr0_4
 have HC0_4 := Aside0.mk hc0_4
 clear hr0_4 hc0_4
 have HB := Aside0.mk (Below.refl w.heap.size w)
 have H : ((laws_szEvent.f a0_0 a0_1 a0_2 a0_3 l0_4 1048576).bind fun t409 => (if t409 < 0 then (some true) else ((laws_toEvent.f k a0_0 a0_1 a0_2 a0_3 l0_4).bind fun bt410 => ((spec_PutEvent.f k bt410.1 bt410.2.1 bt410.2.2.1 bt410.2.2.2.1 bt410.2.2.2.2).bind fun t417 => ((laws_toEvent.f k a0_0 a0_1 a0_2 a0_3 l0_4).bind fun bt420 => ((impl_PutEvent.f k bt420.1 bt420.2.1 bt420.2.2.1 bt420.2.2.2.1 bt420.2.2.2.2).bind fun t428 => ((laws_eqByteS.f k t428 t417).bind fun t431 => (if t431 = true then ((laws_toEvent.f k a0_0 a0_1 a0_2 a0_3 l0_4).bind fun bt432 => ((laws_eqEvent.f k bt420.1 bt420.2.1 bt420.2.2.1 bt420.2.2.2.1 bt420.2.2.2.2 bt432.1 bt432.2.1 bt432.2.2.1 bt432.2.2.2.1 bt432.2.2.2.2).bind fun t439 => (if t439 = true then ((laws_markEvent.f k bt420.1 bt420.2.1 bt420.2.2.1 bt420.2.2.2.1 bt420.2.2.2.2 1).bind fun bt440 => (if bt440.1 < 0 then (laws_FnExactPutEvent.j0 k t417 t428 true a0_0 a0_1 a0_2 a0_3 l0_4) else ((laws_eqByteS.f k t428 t417).bind fun t442 => (laws_FnExactPutEvent.j0 k t417 t428 (!t442) a0_0 a0_1 a0_2 a0_3 l0_4)))) else (some false)))) else (some false))))))))) = some r := h
 clear h
 replace H := Option.bind_eq_some_iff.mp H
 obtain ⟨t409, A20, H⟩ := H
 replace H : (if t409 < 0 then (some true) else ((laws_toEvent.f k a0_0 a0_1 a0_2 a0_3 l0_4).bind fun bt410 => ((spec_PutEvent.f k bt410.1 bt410.2.1 bt410.2.2.1 bt410.2.2.2.1 bt410.2.2.2.2).bind fun t417 => ((laws_toEvent.f k a0_0 a0_1 a0_2 a0_3 l0_4).bind fun bt420 => ((impl_PutEvent.f k bt420.1 bt420.2.1 bt420.2.2.1 bt420.2.2.2.1 bt420.2.2.2.2).bind fun t428 => ((laws_eqByteS.f k t428 t417).bind fun t431 => (if t431 = true then ((laws_toEvent.f k a0_0 a0_1 a0_2 a0_3 l0_4).bind fun bt432 => ((laws_eqEvent.f k bt420.1 bt420.2.1 bt420.2.2.1 bt420.2.2.2.1 bt420.2.2.2.2 bt432.1 bt432.2.1 bt432.2.2.1 bt432.2.2.2.1 bt432.2.2.2.2).bind fun t439 => (if t439 = true then ((laws_markEvent.f k bt420.1 bt420.2.1 bt420.2.2.1 bt420.2.2.2.1 bt420.2.2.2.2 1).bind fun bt440 => (if bt440.1 < 0 then (laws_FnExactPutEvent.j0 k t417 t428 true a0_0 a0_1 a0_2 a0_3 l0_4) else ((laws_eqByteS.f k t428 t417).bind fun t442 => (laws_FnExactPutEvent.j0 k t417 t428 (!t442) a0_0 a0_1 a0_2 a0_3 l0_4)))) else (some false)))) else (some false)))))))) = some r := H
 have A2 := Aside0.mk A20
 clear A20
 by_cases c3 : t409 < 0
 ·rw [if_pos c3] at H
  have c3b0 : decide (t409 < 0) = true := decide_eq_true c3
  clear c3
  obtain rfl := Option.some.inj H
  go_enter Try.func10, Try.ntmps10
  go_wp2_with (first | ((with_reducible refine gate_dst (N := 1) rfl ?_); refine box_event ?hg (N := 1) ?hd (cs := #[.int .i64 a0_0, .int .i64 a0_1, .int .i64 a0_2, .int .i64 a0_3, .slice A0_4 l0_4.length c0_4]) (t := 41) ?hr ?_; (case hd => rfl); (case hg => rfl); (case hr => first | (go_simp; done) | (go_simp; rfl)); intro gb408 hg w4 hbox hb; have n0_ := Aside0.mk (below_step zH hb); have n1_ := Aside0.mk (hbox); have n2_ := Aside0.mk ((by rw [hg]; exact (below_size zH) : w.heap.size ≤ gb408)); have n3_ := Aside0.mk ((by rw [hg]; exact (below_size zH) : w.heap.size ≤ gb408)); clear HB; have HB := n0_; have BK408 := n1_; have GW408 := n2_; have GE408 := n3_; clear n0_ n1_ n2_ n3_; clear hb hbox hg; obtain ⟨hcz5_0, hcz5_1, hcz5_2, hcz5_3, hcz5_4⟩ := zc5 BK408.out; obtain ⟨hfz5_0, hfz5_1, hfz5_2, hfz5_3, hfz5_4⟩ := zf BK408.out) | ((with_reducible refine gate_callee (f := 27) rfl ?_); refine goesL_ (some 13) rfl rfl Try.func27 (by kernel_rfl) rfl #[.agg #[.int .i64 a0_0, .int .i64 a0_1, .int .i64 a0_2, .int .i64 a0_3, .slice A0_4 l0_4.length c0_4], .int .i64 1048576] rfl zM ?_; (with_reducible refine (laws_szEvent.calls a0_0 a0_1 a0_2 a0_3 _ _ l0_4 1048576 t409 _ ?side1 ?side2 A2.out).mono ?_); (case side1 => exact zC (Kd.C_below HR0_4.out HB.out)); (case side2 => exact HC0_4.out); rintro e w6 ⟨rfl, hb⟩; refine ⟨_, rfl, ?_⟩; have n0_ := Aside0.mk (blk_below (g := gb408) (o := .cells #[.int .i64 a0_0, .int .i64 a0_1, .int .i64 a0_2, .int .i64 a0_3, .slice A0_4 l0_4.length c0_4] 41 (0, 0)) (zB BK408.out) hb); have n1_ := Aside0.mk (below_step zH hb); clear BK408; clear HB; have BK408 := n0_; have HB := n1_; clear n0_ n1_; (try clear hb); (try clear hb2); (try clear hk); (try clear hi)))
  go_ret
  exact ⟨zE, zH⟩
 ·rw [if_neg c3] at H
  have c3b0 : decide (t409 < 0) = false := decide_eq_false c3
  clear c3
  replace H := Option.bind_eq_some_iff.mp H
  obtain ⟨⟨t410, t411, t412, t413, t414⟩, A70, H⟩ := H
  replace H : ((spec_PutEvent.f k t410 t411 t412 t413 t414).bind fun t417 => ((laws_toEvent.f k a0_0 a0_1 a0_2 a0_3 l0_4).bind fun bt420 => ((impl_PutEvent.f k bt420.1 bt420.2.1 bt420.2.2.1 bt420.2.2.2.1 bt420.2.2.2.2).bind fun t428 => ((laws_eqByteS.f k t428 t417).bind fun t431 => (if t431 = true then ((laws_toEvent.f k a0_0 a0_1 a0_2 a0_3 l0_4).bind fun bt432 => ((laws_eqEvent.f k bt420.1 bt420.2.1 bt420.2.2.1 bt420.2.2.2.1 bt420.2.2.2.2 bt432.1 bt432.2.1 bt432.2.2.1 bt432.2.2.2.1 bt432.2.2.2.2).bind fun t439 => (if t439 = true then ((laws_markEvent.f k bt420.1 bt420.2.1 bt420.2.2.1 bt420.2.2.2.1 bt420.2.2.2.2 1).bind fun bt440 => (if bt440.1 < 0 then (laws_FnExactPutEvent.j0 k t417 t428 true a0_0 a0_1 a0_2 a0_3 l0_4) else ((laws_eqByteS.f k t428 t417).bind fun t442 => (laws_FnExactPutEvent.j0 k t417 t428 (!t442) a0_0 a0_1 a0_2 a0_3 l0_4)))) else (some false)))) else (some false)))))) = some r := H
  have A7 := Aside0.mk A70
  clear A70
  replace H := Option.bind_eq_some_iff.mp H
  obtain ⟨t417, A80, H⟩ := H
  replace H : ((laws_toEvent.f k a0_0 a0_1 a0_2 a0_3 l0_4).bind fun bt420 => ((impl_PutEvent.f k bt420.1 bt420.2.1 bt420.2.2.1 bt420.2.2.2.1 bt420.2.2.2.2).bind fun t428 => ((laws_eqByteS.f k t428 t417).bind fun t431 => (if t431 = true then ((laws_toEvent.f k a0_0 a0_1 a0_2 a0_3 l0_4).bind fun bt432 => ((laws_eqEvent.f k bt420.1 bt420.2.1 bt420.2.2.1 bt420.2.2.2.1 bt420.2.2.2.2 bt432.1 bt432.2.1 bt432.2.2.1 bt432.2.2.2.1 bt432.2.2.2.2).bind fun t439 => (if t439 = true then ((laws_markEvent.f k bt420.1 bt420.2.1 bt420.2.2.1 bt420.2.2.2.1 bt420.2.2.2.2 1).bind fun bt440 => (if bt440.1 < 0 then (laws_FnExactPutEvent.j0 k t417 t428 true a0_0 a0_1 a0_2 a0_3 l0_4) else ((laws_eqByteS.f k t428 t417).bind fun t442 => (laws_FnExactPutEvent.j0 k t417 t428 (!t442) a0_0 a0_1 a0_2 a0_3 l0_4)))) else (some false)))) else (some false))))) = some r := H
  have A8 := Aside0.mk A80
  clear A80
  replace H := Option.bind_eq_some_iff.mp H
  obtain ⟨⟨t420, t421, t422, t423, t424⟩, A90, H⟩ := H
  replace H : ((impl_PutEvent.f k t420 t421 t422 t423 t424).bind fun t428 => ((laws_eqByteS.f k t428 t417).bind fun t431 => (if t431 = true then ((laws_toEvent.f k a0_0 a0_1 a0_2 a0_3 l0_4).bind fun bt432 => ((laws_eqEvent.f k t420 t421 t422 t423 t424 bt432.1 bt432.2.1 bt432.2.2.1 bt432.2.2.2.1 bt432.2.2.2.2).bind fun t439 => (if t439 = true then ((laws_markEvent.f k t420 t421 t422 t423 t424 1).bind fun bt440 => (if bt440.1 < 0 then (laws_FnExactPutEvent.j0 k t417 t428 true a0_0 a0_1 a0_2 a0_3 l0_4) else ((laws_eqByteS.f k t428 t417).bind fun t442 => (laws_FnExactPutEvent.j0 k t417 t428 (!t442) a0_0 a0_1 a0_2 a0_3 l0_4)))) else (some false)))) else (some false)))) = some r := H
  have A9 := Aside0.mk A90
  clear A90
  replace H := Option.bind_eq_some_iff.mp H
  obtain ⟨t428, A100, H⟩ := H
  replace H : ((laws_eqByteS.f k t428 t417).bind fun t431 => (if t431 = true then ((laws_toEvent.f k a0_0 a0_1 a0_2 a0_3 l0_4).bind fun bt432 => ((laws_eqEvent.f k t420 t421 t422 t423 t424 bt432.1 bt432.2.1 bt432.2.2.1 bt432.2.2.2.1 bt432.2.2.2.2).bind fun t439 => (if t439 = true then ((laws_markEvent.f k t420 t421 t422 t423 t424 1).bind fun bt440 => (if bt440.1 < 0 then (laws_FnExactPutEvent.j0 k t417 t428 true a0_0 a0_1 a0_2 a0_3 l0_4) else ((laws_eqByteS.f k t428 t417).bind fun t442 => (laws_FnExactPutEvent.j0 k t417 t428 (!t442) a0_0 a0_1 a0_2 a0_3 l0_4)))) else (some false)))) else (some false))) = some r := H
  have A10 := Aside0.mk A100
  clear A100
  replace H := Option.bind_eq_some_iff.mp H
  obtain ⟨t431, A110, H⟩ := H
  replace H : (if t431 = true then ((laws_toEvent.f k a0_0 a0_1 a0_2 a0_3 l0_4).bind fun bt432 => ((laws_eqEvent.f k t420 t421 t422 t423 t424 bt432.1 bt432.2.1 bt432.2.2.1 bt432.2.2.2.1 bt432.2.2.2.2).bind fun t439 => (if t439 = true then ((laws_markEvent.f k t420 t421 t422 t423 t424 1).bind fun bt440 => (if bt440.1 < 0 then (laws_FnExactPutEvent.j0 k t417 t428 true a0_0 a0_1 a0_2 a0_3 l0_4) else ((laws_eqByteS.f k t428 t417).bind fun t442 => (laws_FnExactPutEvent.j0 k t417 t428 (!t442) a0_0 a0_1 a0_2 a0_3 l0_4)))) else (some false)))) else (some false)) = some r := H
  have A11 := Aside0.mk A110
  clear A110
  by_cases c12 : t431 = true
  ·subst c12
   replace H : ((laws_toEvent.f k a0_0 a0_1 a0_2 a0_3 l0_4).bind fun bt432 => ((laws_eqEvent.f k t420 t421 t422 t423 t424 bt432.1 bt432.2.1 bt432.2.2.1 bt432.2.2.2.1 bt432.2.2.2.2).bind fun t439 => (if t439 = true then ((laws_markEvent.f k t420 t421 t422 t423 t424 1).bind fun bt440 => (if bt440.1 < 0 then (laws_FnExactPutEvent.j0 k t417 t428 true a0_0 a0_1 a0_2 a0_3 l0_4) else ((laws_eqByteS.f k t428 t417).bind fun t442 => (laws_FnExactPutEvent.j0 k t417 t428 (!t442) a0_0 a0_1 a0_2 a0_3 l0_4)))) else (some false)))) = some r := by rw [if_pos rfl] at H; exact H
   replace H := Option.bind_eq_some_iff.mp H
   obtain ⟨⟨t432, t433, t434, t435, t436⟩, A130, H⟩ := H
   replace H : ((laws_eqEvent.f k t420 t421 t422 t423 t424 t432 t433 t434 t435 t436).bind fun t439 => (if t439 = true then ((laws_markEvent.f k t420 t421 t422 t423 t424 1).bind fun bt440 => (if bt440.1 < 0 then (laws_FnExactPutEvent.j0 k t417 t428 true a0_0 a0_1 a0_2 a0_3 l0_4) else ((laws_eqByteS.f k t428 t417).bind fun t442 => (laws_FnExactPutEvent.j0 k t417 t428 (!t442) a0_0 a0_1 a0_2 a0_3 l0_4)))) else (some false))) = some r := H
   have A13 := Aside0.mk A130
   clear A130
   replace H := Option.bind_eq_some_iff.mp H
   obtain ⟨t439, A140, H⟩ := H
   replace H : (if t439 = true then ((laws_markEvent.f k t420 t421 t422 t423 t424 1).bind fun bt440 => (if bt440.1 < 0 then (laws_FnExactPutEvent.j0 k t417 t428 true a0_0 a0_1 a0_2 a0_3 l0_4) else ((laws_eqByteS.f k t428 t417).bind fun t442 => (laws_FnExactPutEvent.j0 k t417 t428 (!t442) a0_0 a0_1 a0_2 a0_3 l0_4)))) else (some false)) = some r := H
   have A14 := Aside0.mk A140
   clear A140
   by_cases c15 : t439 = true
   ·subst c15
    replace H : ((laws_markEvent.f k t420 t421 t422 t423 t424 1).bind fun bt440 => (if bt440.1 < 0 then (laws_FnExactPutEvent.j0 k t417 t428 true a0_0 a0_1 a0_2 a0_3 l0_4) else ((laws_eqByteS.f k t428 t417).bind fun t442 => (laws_FnExactPutEvent.j0 k t417 t428 (!t442) a0_0 a0_1 a0_2 a0_3 l0_4)))) = some r := by rw [if_pos rfl] at H; exact H
    replace H := Option.bind_eq_some_iff.mp H
    obtain ⟨⟨t440, t441⟩, A160, H⟩ := H
    replace H : (if t440 < 0 then (laws_FnExactPutEvent.j0 k t417 t428 true a0_0 a0_1 a0_2 a0_3 l0_4) else ((laws_eqByteS.f k t428 t417).bind fun t442 => (laws_FnExactPutEvent.j0 k t417 t428 (!t442) a0_0 a0_1 a0_2 a0_3 l0_4))) = some r := H
    have A16 := Aside0.mk A160
    clear A160
    have HC17 := Aside0.mk H
    clear H
    go_enter Try.func10, Try.ntmps10
    try go_wp2_with (first | ((with_reducible refine gate_dst (N := 1) rfl ?_); refine box_event ?hg (N := 1) ?hd (cs := #[.int .i64 a0_0, .int .i64 a0_1, .int .i64 a0_2, .int .i64 a0_3, .slice A0_4 l0_4.length c0_4]) (t := 41) ?hr ?_; (case hd => rfl); (case hg => rfl); (case hr => first | (go_simp; done) | (go_simp; rfl)); intro gb408 hg w18 hbox hb; have n0_ := Aside0.mk (below_step zH hb); have n1_ := Aside0.mk (hbox); have n2_ := Aside0.mk ((by rw [hg]; exact (below_size zH) : w.heap.size ≤ gb408)); have n3_ := Aside0.mk ((by rw [hg]; exact (below_size zH) : w.heap.size ≤ gb408)); clear HB; have HB := n0_; have BK408 := n1_; have GW408 := n2_; have GE408 := n3_; clear n0_ n1_ n2_ n3_; clear hb hbox hg; obtain ⟨hcz19_0, hcz19_1, hcz19_2, hcz19_3, hcz19_4⟩ := zc5 BK408.out; obtain ⟨hfz19_0, hfz19_1, hfz19_2, hfz19_3, hfz19_4⟩ := zf BK408.out) | ((with_reducible refine gate_callee (f := 27) rfl ?_); refine goesL_ (some 13) rfl rfl Try.func27 (by kernel_rfl) rfl #[.agg #[.int .i64 a0_0, .int .i64 a0_1, .int .i64 a0_2, .int .i64 a0_3, .slice A0_4 l0_4.length c0_4], .int .i64 1048576] rfl zM ?_; (with_reducible refine (laws_szEvent.calls a0_0 a0_1 a0_2 a0_3 _ _ l0_4 1048576 t409 _ ?side1 ?side2 A2.out).mono ?_); (case side1 => exact zC (Kd.C_below HR0_4.out HB.out)); (case side2 => exact HC0_4.out); rintro e w20 ⟨rfl, hb⟩; refine ⟨_, rfl, ?_⟩; have n0_ := Aside0.mk (blk_below (g := gb408) (o := .cells #[.int .i64 a0_0, .int .i64 a0_1, .int .i64 a0_2, .int .i64 a0_3, .slice A0_4 l0_4.length c0_4] 41 (0, 0)) (zB BK408.out) hb); have n1_ := Aside0.mk (below_step zH hb); clear BK408; clear HB; have BK408 := n0_; have HB := n1_; clear n0_ n1_; (try clear hb); (try clear hb2); (try clear hk); (try clear hi); obtain ⟨hcz21_0, hcz21_1, hcz21_2, hcz21_3, hcz21_4⟩ := zc5 BK408.out; obtain ⟨hfz21_0, hfz21_1, hfz21_2, hfz21_3, hfz21_4⟩ := zf BK408.out) | ((with_reducible refine gate_callee (f := 29) rfl ?_); refine goesL_ (some 17) rfl rfl Try.func29 (by kernel_rfl) rfl #[.agg #[.int .i64 a0_0, .int .i64 a0_1, .int .i64 a0_2, .int .i64 a0_3, .slice A0_4 l0_4.length c0_4]] rfl zM ?_; (with_reducible refine (laws_toEvent.calls k a0_0 a0_1 a0_2 a0_3 _ _ l0_4 t410 t411 t412 t413 t414 _ ?side1 ?side2 A7.out).mono ?_); (case side1 => exact zC (Kd.C_below HR0_4.out HB.out)); (case side2 => exact HC0_4.out); rintro e w22 ⟨v415, rfl, ho0, hb⟩; refine ⟨_, rfl, ?_⟩; have n0_ := Aside0.mk (Kd.R_lower ho0 (below_size zH)); have n1_ := Aside0.mk (blk_below (g := gb408) (o := .cells #[.int .i64 a0_0, .int .i64 a0_1, .int .i64 a0_2, .int .i64 a0_3, .slice A0_4 l0_4.length c0_4] 41 (0, 0)) (zB BK408.out) hb); have n2_ := Aside0.mk (below_step zH hb); clear BK408; clear HB; have HO416 := n0_; have BK408 := n1_; have HB := n2_; clear n0_ n1_ n2_; (try clear hb); (try clear hb2); (try clear hk); (try clear hi); (try clear ho0); obtain ⟨Ao23, co23, eo23⟩ := Kd.R_slice HO416.out; subst eo23) | ((with_reducible refine gate_callee (f := 51) rfl ?_); refine goesL_ (some 18) rfl rfl Try.func51 (by kernel_rfl) rfl #[.agg #[.int .i64 t410, .int .i64 t411, .int .i64 t412, .int .i64 t413, .slice Ao23 t414.length co23]] rfl zM ?_; (with_reducible refine (spec_PutEvent.calls k t410 t411 t412 t413 _ _ t414 t417 _ ?side1 ?side2 A8.out).mono ?_); (case side1 => exact zC ((Kd.R_reads' HO416.out).2.2)); (case side2 => exact (Kd.R_reads' HO416.out).2.1); rintro e w24 ⟨v418, rfl, ho0, hb⟩; refine ⟨_, rfl, ?_⟩; have n0_ := Aside0.mk (Kd.R_elder' (zR HO416.out) (Kd.R_base ho0) hb); have n1_ := Aside0.mk (Kd.R_lower (Kd.R_new' ho0 (Kd.R_lt (zR HO416.out))) (below_size zH)); have n2_ := Aside0.mk (blk_below (g := gb408) (o := .cells #[.int .i64 a0_0, .int .i64 a0_1, .int .i64 a0_2, .int .i64 a0_3, .slice A0_4 l0_4.length c0_4] 41 (0, 0)) (zB BK408.out) hb); have n3_ := Aside0.mk (below_step zH hb); clear HO416; clear BK408; clear HB; have HO416 := n0_; have HO419 := n1_; have BK408 := n2_; have HB := n3_; clear n0_ n1_ n2_ n3_; (try clear hb); (try clear hb2); (try clear hk); (try clear hi); (try clear ho0); obtain ⟨hcz25_0, hcz25_1, hcz25_2, hcz25_3, hcz25_4⟩ := zc5 BK408.out; obtain ⟨hfz25_0, hfz25_1, hfz25_2, hfz25_3, hfz25_4⟩ := zf BK408.out) | ((with_reducible refine gate_callee (f := 29) rfl ?_); refine goesL_ (some 20) rfl rfl Try.func29 (by kernel_rfl) rfl #[.agg #[.int .i64 a0_0, .int .i64 a0_1, .int .i64 a0_2, .int .i64 a0_3, .slice A0_4 l0_4.length c0_4]] rfl zM ?_; (with_reducible refine (laws_toEvent.calls k a0_0 a0_1 a0_2 a0_3 _ _ l0_4 t420 t421 t422 t423 t424 _ ?side1 ?side2 A9.out).mono ?_); (case side1 => exact zC (Kd.C_below HR0_4.out HB.out)); (case side2 => exact HC0_4.out); rintro e w26 ⟨v425, rfl, ho0, hb⟩; refine ⟨_, rfl, ?_⟩; have n0_ := Aside0.mk (Kd.R_elder' (zR HO416.out) (Kd.R_base ho0) hb); have n1_ := Aside0.mk (Kd.R_elder' (zR HO419.out) (Kd.R_base ho0) hb); have n2_ := Aside0.mk (Kd.R_lower (Kd.R_new' (Kd.R_new' ho0 (Kd.R_lt (zR HO416.out))) (Kd.R_lt (zR HO419.out))) (below_size zH)); have n3_ := Aside0.mk (blk_below (g := gb408) (o := .cells #[.int .i64 a0_0, .int .i64 a0_1, .int .i64 a0_2, .int .i64 a0_3, .slice A0_4 l0_4.length c0_4] 41 (0, 0)) (zB BK408.out) hb); have n4_ := Aside0.mk (below_step zH hb); clear HO416; clear HO419; clear BK408; clear HB; have HO416 := n0_; have HO419 := n1_; have HO426 := n2_; have BK408 := n3_; have HB := n4_; clear n0_ n1_ n2_ n3_ n4_; (try clear hb); (try clear hb2); (try clear hk); (try clear hi); (try clear ho0)) | ((with_reducible refine gate_dst (N := 5) rfl ?_); refine box_event ?hg (N := 5) ?hd (cs := #[.int .i64 0, .int .i64 0, .int .i64 0, .int .i64 0, .slice none 0 0]) (t := 44) ?hr ?_; (case hd => rfl); (case hg => rfl); (case hr => first | (go_simp; done) | (go_simp; rfl)); intro gb427 hg w27 hbox hb; have n0_ := Aside0.mk (Kd.R_below (zR HO416.out) hb); have n1_ := Aside0.mk (Kd.R_below (zR HO419.out) hb); have n2_ := Aside0.mk (Kd.R_below (zR HO426.out) hb); have n3_ := Aside0.mk (blk_below (g := gb408) (o := .cells #[.int .i64 a0_0, .int .i64 a0_1, .int .i64 a0_2, .int .i64 a0_3, .slice A0_4 l0_4.length c0_4] 41 (0, 0)) (zB BK408.out) hb); have n4_ := Aside0.mk (below_step zH hb); have n5_ := Aside0.mk (hbox); have n6_ := Aside0.mk ((by rw [hg]; exact (below_size zH) : w.heap.size ≤ gb427)); have n7_ := Aside0.mk ((by rw [hg]; exact (below_size zH) : w.heap.size ≤ gb427)); have n8_ := Aside0.mk ((by rw [hg]; exact Nat.ne_of_lt (blk_lt (g := gb408) (o := .cells #[.int .i64 a0_0, .int .i64 a0_1, .int .i64 a0_2, .int .i64 a0_3, .slice A0_4 l0_4.length c0_4] 41 (0, 0)) (zB BK408.out)) : gb408 ≠ gb427)); have n9_ := Aside0.mk ((by rw [hg]; exact Nat.ne_of_gt (blk_lt (g := gb408) (o := .cells #[.int .i64 a0_0, .int .i64 a0_1, .int .i64 a0_2, .int .i64 a0_3, .slice A0_4 l0_4.length c0_4] 41 (0, 0)) (zB BK408.out)) : gb427 ≠ gb408)); clear HO416; clear HO419; clear HO426; clear BK408; clear HB; have HO416 := n0_; have HO419 := n1_; have HO426 := n2_; have BK408 := n3_; have HB := n4_; have BK427 := n5_; have GW427 := n6_; have GE427 := n7_; have NB408_427 := n8_; have NB427_408 := n9_; clear n0_ n1_ n2_ n3_ n4_ n5_ n6_ n7_ n8_ n9_; clear hb hbox hg; have hnb28 := NB427_408.out; have hnc28 := NB408_427.out; obtain ⟨hcz29_0, hcz29_1, hcz29_2, hcz29_3, hcz29_4⟩ := zc5 BK427.out; obtain ⟨hfz29_0, hfz29_1, hfz29_2, hfz29_3, hfz29_4⟩ := zf BK427.out; obtain ⟨Ao30, co30, eo30⟩ := Kd.R_slice HO426.out; subst eo30) | ((with_reducible refine gate_callee (f := 52) rfl ?_); refine goesL_ (some 22) rfl rfl Try.func52 (by kernel_rfl) rfl #[.agg #[.int .i64 t420, .int .i64 t421, .int .i64 t422, .int .i64 t423, .slice Ao30 t424.length co30]] rfl zM ?_; (with_reducible refine (impl_PutEvent.calls k t420 t421 t422 t423 _ _ t424 t428 _ ?side1 ?side2 A10.out).mono ?_); (case side1 => refine (Kd.R_reads' (e := 5) (base := w.heap.size) (ok := fun k_ => ((True ∧ some k_ ≠ (.slice Ao23 t414.length co23 : Value).ownBlock) ∧ some k_ ≠ (v418 : Value).ownBlock)) (n := t424.length) (c := co30) ?_).2.2; exact (by (with_reducible repeat (first | apply Kd.R_alloc | apply Kd.R_drewN | apply Kd.R_drew)); exact (Kd.R_mono (Kd.R_far (p := ⟨gb427, 4, none⟩) (Kd.R_far (p := ⟨gb427, 3, none⟩) (Kd.R_far (p := ⟨gb427, 2, none⟩) (Kd.R_far (p := ⟨gb427, 1, none⟩) (Kd.R_far (p := ⟨gb427, 0, none⟩) (Kd.R_types HO426.out BK427.out (by decide)) (fun _ hk => hk.2) (.int .i64 t420)) (fun _ hk => hk.2) (.int .i64 t421)) (fun _ hk => hk.2) (.int .i64 t422)) (fun _ hk => hk.2) (.int .i64 t423)) (fun _ hk => hk.2) (.slice Ao30 t424.length co30)) (fun _ h_ => h_.1)))); (case side2 => exact (Kd.R_reads' HO426.out).2.1); rintro e w31 ⟨v429, rfl, ho0, hb⟩; refine ⟨_, rfl, ?_⟩; have n0_ := Aside0.mk (Kd.R_elder' (by (with_reducible repeat (first | apply Kd.R_alloc | apply Kd.R_drewN | apply Kd.R_drew)); exact (Kd.R_mono (Kd.R_far (p := ⟨gb427, 4, none⟩) (Kd.R_far (p := ⟨gb427, 3, none⟩) (Kd.R_far (p := ⟨gb427, 2, none⟩) (Kd.R_far (p := ⟨gb427, 1, none⟩) (Kd.R_far (p := ⟨gb427, 0, none⟩) (Kd.R_types HO416.out BK427.out (by decide)) (fun _ hk => hk.2) (.int .i64 t420)) (fun _ hk => hk.2) (.int .i64 t421)) (fun _ hk => hk.2) (.int .i64 t422)) (fun _ hk => hk.2) (.int .i64 t423)) (fun _ hk => hk.2) (.slice Ao30 t424.length co30)) (fun _ h_ => h_.1))) (Kd.R_base ho0) hb); have n1_ := Aside0.mk (Kd.R_elder' (by (with_reducible repeat (first | apply Kd.R_alloc | apply Kd.R_drewN | apply Kd.R_drew)); exact (Kd.R_mono (Kd.R_far (p := ⟨gb427, 4, none⟩) (Kd.R_far (p := ⟨gb427, 3, none⟩) (Kd.R_far (p := ⟨gb427, 2, none⟩) (Kd.R_far (p := ⟨gb427, 1, none⟩) (Kd.R_far (p := ⟨gb427, 0, none⟩) (Kd.R_types HO419.out BK427.out (by decide)) (fun _ hk => hk.2) (.int .i64 t420)) (fun _ hk => hk.2) (.int .i64 t421)) (fun _ hk => hk.2) (.int .i64 t422)) (fun _ hk => hk.2) (.int .i64 t423)) (fun _ hk => hk.2) (.slice Ao30 t424.length co30)) (fun _ h_ => h_.1))) (Kd.R_base ho0) hb); have n2_ := Aside0.mk (Kd.R_elder' (by (with_reducible repeat (first | apply Kd.R_alloc | apply Kd.R_drewN | apply Kd.R_drew)); exact (Kd.R_mono (Kd.R_far (p := ⟨gb427, 4, none⟩) (Kd.R_far (p := ⟨gb427, 3, none⟩) (Kd.R_far (p := ⟨gb427, 2, none⟩) (Kd.R_far (p := ⟨gb427, 1, none⟩) (Kd.R_far (p := ⟨gb427, 0, none⟩) (Kd.R_types HO426.out BK427.out (by decide)) (fun _ hk => hk.2) (.int .i64 t420)) (fun _ hk => hk.2) (.int .i64 t421)) (fun _ hk => hk.2) (.int .i64 t422)) (fun _ hk => hk.2) (.int .i64 t423)) (fun _ hk => hk.2) (.slice Ao30 t424.length co30)) (fun _ h_ => h_.1))) (Kd.R_base ho0) hb); have n3_ := Aside0.mk (Kd.R_lower (Kd.R_new' (Kd.R_new' (Kd.R_new' ho0 (Kd.R_lt (by (with_reducible repeat (first | apply Kd.R_alloc | apply Kd.R_drewN | apply Kd.R_drew)); exact (Kd.R_mono (Kd.R_far (p := ⟨gb427, 4, none⟩) (Kd.R_far (p := ⟨gb427, 3, none⟩) (Kd.R_far (p := ⟨gb427, 2, none⟩) (Kd.R_far (p := ⟨gb427, 1, none⟩) (Kd.R_far (p := ⟨gb427, 0, none⟩) (Kd.R_types HO416.out BK427.out (by decide)) (fun _ hk => hk.2) (.int .i64 t420)) (fun _ hk => hk.2) (.int .i64 t421)) (fun _ hk => hk.2) (.int .i64 t422)) (fun _ hk => hk.2) (.int .i64 t423)) (fun _ hk => hk.2) (.slice Ao30 t424.length co30)) (fun _ h_ => h_.1))))) (Kd.R_lt (by (with_reducible repeat (first | apply Kd.R_alloc | apply Kd.R_drewN | apply Kd.R_drew)); exact (Kd.R_mono (Kd.R_far (p := ⟨gb427, 4, none⟩) (Kd.R_far (p := ⟨gb427, 3, none⟩) (Kd.R_far (p := ⟨gb427, 2, none⟩) (Kd.R_far (p := ⟨gb427, 1, none⟩) (Kd.R_far (p := ⟨gb427, 0, none⟩) (Kd.R_types HO419.out BK427.out (by decide)) (fun _ hk => hk.2) (.int .i64 t420)) (fun _ hk => hk.2) (.int .i64 t421)) (fun _ hk => hk.2) (.int .i64 t422)) (fun _ hk => hk.2) (.int .i64 t423)) (fun _ hk => hk.2) (.slice Ao30 t424.length co30)) (fun _ h_ => h_.1))))) (Kd.R_lt (by (with_reducible repeat (first | apply Kd.R_alloc | apply Kd.R_drewN | apply Kd.R_drew)); exact (Kd.R_mono (Kd.R_far (p := ⟨gb427, 4, none⟩) (Kd.R_far (p := ⟨gb427, 3, none⟩) (Kd.R_far (p := ⟨gb427, 2, none⟩) (Kd.R_far (p := ⟨gb427, 1, none⟩) (Kd.R_far (p := ⟨gb427, 0, none⟩) (Kd.R_types HO426.out BK427.out (by decide)) (fun _ hk => hk.2) (.int .i64 t420)) (fun _ hk => hk.2) (.int .i64 t421)) (fun _ hk => hk.2) (.int .i64 t422)) (fun _ hk => hk.2) (.int .i64 t423)) (fun _ hk => hk.2) (.slice Ao30 t424.length co30)) (fun _ h_ => h_.1))))) (below_size zH)); have n4_ := Aside0.mk (blk_below (g := gb408) (o := .cells #[.int .i64 a0_0, .int .i64 a0_1, .int .i64 a0_2, .int .i64 a0_3, .slice A0_4 l0_4.length c0_4] 41 (0, 0)) (by (repeat refine zL ?_); refine blk_far ?_ NB408_427.out _; (repeat refine zL ?_); refine blk_far ?_ NB408_427.out _; (repeat refine zL ?_); refine blk_far ?_ NB408_427.out _; (repeat refine zL ?_); refine blk_far ?_ NB408_427.out _; (repeat refine zL ?_); refine blk_far ?_ NB408_427.out _; (repeat refine zL ?_); exact BK408.out) hb); have n5_ := Aside0.mk (blk_below (g := gb427) (o := .cells #[.int .i64 t420, .int .i64 t421, .int .i64 t422, .int .i64 t423, .slice Ao30 t424.length co30] 44 (0, 0)) (by (repeat refine zL ?_); refine blk_put (cs := #[.int .i64 t420, .int .i64 t421, .int .i64 t422, .int .i64 t423, .slice none 0 0]) ?_ 4 _ rfl; (repeat refine zL ?_); refine blk_put (cs := #[.int .i64 t420, .int .i64 t421, .int .i64 t422, .int .i64 0, .slice none 0 0]) ?_ 3 _ rfl; (repeat refine zL ?_); refine blk_put (cs := #[.int .i64 t420, .int .i64 t421, .int .i64 0, .int .i64 0, .slice none 0 0]) ?_ 2 _ rfl; (repeat refine zL ?_); refine blk_put (cs := #[.int .i64 t420, .int .i64 0, .int .i64 0, .int .i64 0, .slice none 0 0]) ?_ 1 _ rfl; (repeat refine zL ?_); refine blk_put (cs := #[.int .i64 0, .int .i64 0, .int .i64 0, .int .i64 0, .slice none 0 0]) ?_ 0 _ rfl; (repeat refine zL ?_); exact BK427.out) hb); have n6_ := Aside0.mk (below_step zH hb); clear HO416; clear HO419; clear HO426; clear BK408; clear BK427; clear HB; have HO416 := n0_; have HO419 := n1_; have HO426 := n2_; have HO430 := n3_; have BK408 := n4_; have BK427 := n5_; have HB := n6_; clear n0_ n1_ n2_ n3_ n4_ n5_ n6_; (try clear hb); (try clear hb2); (try clear hk); (try clear hi); (try clear ho0); obtain ⟨Ao32, co32, eo32⟩ := Kd.R_slice HO430.out; subst eo32; obtain ⟨Ao33, co33, eo33⟩ := Kd.R_slice HO419.out; subst eo33) | ((with_reducible refine gate_callee (f := 53) rfl ?_); refine goesL_ (some 25) rfl rfl Try.func53 (by kernel_rfl) rfl #[.slice Ao32 t428.length co32, .slice Ao33 t417.length co33] rfl zM ?_; (with_reducible refine (laws_eqByteS.calls k _ _ t428 _ _ t417 true _ ?side1 ?side2 ?side3 ?side4 A11.out).mono ?_); (case side1 => exact zC ((Kd.R_reads' HO430.out).2.2)); (case side2 => exact (Kd.R_reads' HO430.out).2.1); (case side3 => exact zC ((Kd.R_reads' HO419.out).2.2)); (case side4 => exact (Kd.R_reads' HO419.out).2.1); rintro e w' ⟨rfl, ⟨nd, rfl⟩⟩; refine ⟨_, rfl, ?_⟩))
    (try (rw [drewN_self w31]; generalize hq_ : World.drewN w31 _ = w31; have n0_ : Aside0 (Kd.R (Kd.int .u8) 5 w31 w.heap.size (fun k_ => some k_ ≠ (.slice Ao33 t417.length co33 : Value).ownBlock ∧ some k_ ≠ (.slice Ao30 t424.length co30 : Value).ownBlock ∧ some k_ ≠ (.slice Ao32 t428.length co32 : Value).ownBlock) (.slice Ao23 t414.length co23) t414) := ⟨by rw [← hq_]; exact (by (with_reducible repeat (first | apply Kd.R_alloc | apply Kd.R_drewN | apply Kd.R_drew)); exact Kd.R_mono HO416.out (fun k_ hk_ => zr))⟩; have n1_ : Aside0 (Kd.R (Kd.int .u8) 5 w31 w.heap.size (fun k_ => some k_ ≠ (.slice Ao23 t414.length co23 : Value).ownBlock ∧ some k_ ≠ (.slice Ao30 t424.length co30 : Value).ownBlock ∧ some k_ ≠ (.slice Ao32 t428.length co32 : Value).ownBlock) (.slice Ao33 t417.length co33) t417) := ⟨by rw [← hq_]; exact (by (with_reducible repeat (first | apply Kd.R_alloc | apply Kd.R_drewN | apply Kd.R_drew)); exact Kd.R_mono HO419.out (fun k_ hk_ => zr))⟩; have n2_ : Aside0 (Kd.R (Kd.int .u8) 5 w31 w.heap.size (fun k_ => some k_ ≠ (.slice Ao23 t414.length co23 : Value).ownBlock ∧ some k_ ≠ (.slice Ao33 t417.length co33 : Value).ownBlock ∧ some k_ ≠ (.slice Ao32 t428.length co32 : Value).ownBlock) (.slice Ao30 t424.length co30) t424) := ⟨by rw [← hq_]; exact (by (with_reducible repeat (first | apply Kd.R_alloc | apply Kd.R_drewN | apply Kd.R_drew)); exact Kd.R_mono HO426.out (fun k_ hk_ => zr))⟩; have n3_ : Aside0 (Kd.R (Kd.int .u8) 5 w31 w.heap.size (fun k_ => some k_ ≠ (.slice Ao23 t414.length co23 : Value).ownBlock ∧ some k_ ≠ (.slice Ao33 t417.length co33 : Value).ownBlock ∧ some k_ ≠ (.slice Ao30 t424.length co30 : Value).ownBlock) (.slice Ao32 t428.length co32) t428) := ⟨by rw [← hq_]; exact (by (with_reducible repeat (first | apply Kd.R_alloc | apply Kd.R_drewN | apply Kd.R_drew)); exact Kd.R_mono HO430.out (fun k_ hk_ => zr))⟩; have n4_ : Aside0 (w31.heap[gb408]? = some (.cells #[.int .i64 a0_0, .int .i64 a0_1, .int .i64 a0_2, .int .i64 a0_3, .slice A0_4 l0_4.length c0_4] 41 (0, 0))) := ⟨by rw [← hq_]; exact (zB BK408.out)⟩; have n5_ : Aside0 (w31.heap[gb427]? = some (.cells #[.int .i64 t420, .int .i64 t421, .int .i64 t422, .int .i64 t423, .slice Ao30 t424.length co30] 44 (0, 0))) := ⟨by rw [← hq_]; exact (zB BK427.out)⟩; have n6_ : Aside0 (Below w.heap.size w w31) := ⟨by rw [← hq_]; exact zH⟩; clear HO416 HO419 HO426 HO430 BK408 BK427 HB hq_; have HO416 := n0_; have HO419 := n1_; have HO426 := n2_; have HO430 := n3_; have BK408 := n4_; have BK427 := n5_; have HB := n6_; clear n0_ n1_ n2_ n3_ n4_ n5_ n6_))
    have n0_ := Aside0.mk (Kd.R_drew HO416.out)
    have n1_ := Aside0.mk (Kd.R_drew HO419.out)
    have n2_ := Aside0.mk (Kd.R_drew HO426.out)
    have n3_ := Aside0.mk (Kd.R_drew HO430.out)
    have n4_ := Aside0.mk (blk_drew BK408.out)
    have n5_ := Aside0.mk (blk_drew BK427.out)
    have n6_ := Aside0.mk (below_drew1 HB.out)
    clear HO416
    clear HO419
    clear HO426
    clear HO430
    clear BK408
    clear BK427
    clear HB
    have HO416 := n0_
    have HO419 := n1_
    have HO426 := n2_
    have HO430 := n3_
    have BK408 := n4_
    have BK427 := n5_
    have HB := n6_
    clear n0_ n1_ n2_ n3_ n4_ n5_ n6_
    refine start_ (n := 5) (S := fun w' => w'.cell? ⟨gb427, 0, none⟩ = some (.int .i64 t420) ∧ w'.cell? ⟨gb427, 1, none⟩ = some (.int .i64 t421) ∧ w'.cell? ⟨gb427, 2, none⟩ = some (.int .i64 t422) ∧ w'.cell? ⟨gb427, 3, none⟩ = some (.int .i64 t423) ∧ w'.cell? ⟨gb427, 4, none⟩ = some (.slice Ao30 t424.length co30) ∧ w'.cell? ⟨gb408, 0, none⟩ = some (.int .i64 a0_0) ∧ w'.cell? ⟨gb408, 1, none⟩ = some (.int .i64 a0_1) ∧ w'.cell? ⟨gb408, 2, none⟩ = some (.int .i64 a0_2) ∧ w'.cell? ⟨gb408, 3, none⟩ = some (.int .i64 a0_3) ∧ w'.cell? ⟨gb408, 4, none⟩ = some (.slice A0_4 l0_4.length c0_4)) (ds := []) #[false, false, false, false, false] (by kernel_rfl) rfl rfl ⟨(blk_cell BK427.out 0).trans rfl, (blk_cell BK427.out 1).trans rfl, (blk_cell BK427.out 2).trans rfl, (blk_cell BK427.out 3).trans rfl, (blk_cell BK427.out 4).trans rfl, (blk_cell BK408.out 0).trans rfl, (blk_cell BK408.out 1).trans rfl, (blk_cell BK408.out 2).trans rfl, (blk_cell BK408.out 3).trans rfl, (blk_cell BK408.out 4).trans rfl⟩ (fun hHeld => ?_)
    generalize w31.drew = w34 at HO416 HO419 HO426 HO430 BK408 BK427 HB hHeld ⊢
    refine take_ (i := 0) (N := some 27) (v := ?_) (a' := ?_) #[true, false, false, false, false] rfl rfl (by kernel_rfl) (fun _ _ _ h => h) (Or.inl ⟨by rfl, ?_⟩) hHeld ?_ ?_
    rotate_left
    ·rintro w' ⟨s0, s1, s2, s3, s4, s5, s6, s7, s8, s9⟩
     go_simp
     with_reducible rfl
    rotate_left
    ·simp only [Act.put, List.setIfInBounds_toArray, List.set_cons_zero, List.set_cons_succ, i64_w, i32_w]
     rfl
    refine take_ (i := 1) (N := some 28) (v := ?_) (a' := ?_) #[true, true, false, false, false] rfl rfl (by kernel_rfl) (fun _ _ _ h => h) (Or.inl ⟨by rfl, ?_⟩) hHeld ?_ ?_
    rotate_left
    ·rintro w' ⟨s0, s1, s2, s3, s4, s5, s6, s7, s8, s9⟩
     go_simp
     with_reducible rfl
    rotate_left
    ·simp only [Act.put, List.setIfInBounds_toArray, List.set_cons_zero, List.set_cons_succ, i64_w, i32_w]
     rfl
    refine one_ (i := 2) (N := some 29) #[true, true, true, false, false] rfl rfl (by kernel_rfl) (by decide) (fun K hK => ?_)
    refine goes_ Try.func29 (by kernel_rfl) rfl #[.agg #[.int .i64 a0_0, .int .i64 a0_1, .int .i64 a0_2, .int .i64 a0_3, .slice A0_4 l0_4.length c0_4]] (by rfl) rfl rfl zM ?_
    with_reducible refine (laws_toEvent.calls k a0_0 a0_1 a0_2 a0_3 _ _ l0_4 t432 t433 t434 t435 t436 _ ?side1 ?side2 A13.out).mono ?_
    (case side1 => exact zC (Kd.C_below HR0_4.out HB.out))
    (case side2 => exact HC0_4.out)
    rintro e w35 ⟨v437, rfl, ho0, hb⟩
    refine ⟨_, rfl, ?_⟩
    have n0_ := Aside0.mk (Kd.R_elder' (zR HO416.out) (Kd.R_base ho0) hb)
    have n1_ := Aside0.mk (Kd.R_elder' (zR HO419.out) (Kd.R_base ho0) hb)
    have n2_ := Aside0.mk (Kd.R_elder' (zR HO426.out) (Kd.R_base ho0) hb)
    have n3_ := Aside0.mk (Kd.R_elder' (zR HO430.out) (Kd.R_base ho0) hb)
    have n4_ := Aside0.mk (Kd.R_lower (Kd.R_new' (Kd.R_new' (Kd.R_new' (Kd.R_new' ho0 (Kd.R_lt (zR HO416.out))) (Kd.R_lt (zR HO419.out))) (Kd.R_lt (zR HO426.out))) (Kd.R_lt (zR HO430.out))) (below_size zH))
    have n5_ := Aside0.mk (blk_below (g := gb408) (o := .cells #[.int .i64 a0_0, .int .i64 a0_1, .int .i64 a0_2, .int .i64 a0_3, .slice A0_4 l0_4.length c0_4] 41 (0, 0)) (zB BK408.out) hb)
    have n6_ := Aside0.mk (blk_below (g := gb427) (o := .cells #[.int .i64 t420, .int .i64 t421, .int .i64 t422, .int .i64 t423, .slice Ao30 t424.length co30] 44 (0, 0)) (zB BK427.out) hb)
    have n7_ := Aside0.mk (below_step zH hb)
    clear HO416
    clear HO419
    clear HO426
    clear HO430
    clear BK408
    clear BK427
    clear HB
    have HO416 := n0_
    have HO419 := n1_
    have HO426 := n2_
    have HO430 := n3_
    have HO438 := n4_
    have BK408 := n5_
    have BK427 := n6_
    have HB := n7_
    clear n0_ n1_ n2_ n3_ n4_ n5_ n6_ n7_
    (try clear hb)
    (try clear hb2)
    (try clear hk)
    (try clear hi)
    (try clear ho0)
    obtain ⟨Ao36, co36, eo36⟩ := Kd.R_slice HO438.out
    (first | subst eo36 | (injection eo36 with f1_ f2_ f3_; have f4_ := f1_.symm; have f5_ := f3_.symm; clear f1_ f2_ f3_; subst f4_; subst f5_))
    refine hK.out _ _ ⟨(blk_cell BK427.out 0).trans rfl, (blk_cell BK427.out 1).trans rfl, (blk_cell BK427.out 2).trans rfl, (blk_cell BK427.out 3).trans rfl, (blk_cell BK427.out 4).trans rfl, (blk_cell BK408.out 0).trans rfl, (blk_cell BK408.out 1).trans rfl, (blk_cell BK408.out 2).trans rfl, (blk_cell BK408.out 3).trans rfl, (blk_cell BK408.out 4).trans rfl⟩ (fun hHeld => ?_)
    clear hK K
    refine norm_ (a' := ?_) ?_ ?_
    rotate_left
    ·show Act.put _ (some 29) _ = _
     simp only [Act.put, List.setIfInBounds_toArray, List.set_cons_zero, List.set_cons_succ, i64_w, i32_w]
     rfl
    refine one_ (i := 3) (N := some 30) #[true, true, true, true, false] rfl rfl (by kernel_rfl) (by decide) (fun K hK => ?_)
    refine goes_ Try.func31 (by kernel_rfl) rfl #[.agg #[.int .i64 t420, .int .i64 t421, .int .i64 t422, .int .i64 t423, .slice Ao30 t424.length co30], .agg #[.int .i64 t432, .int .i64 t433, .int .i64 t434, .int .i64 t435, .slice Ao36 t436.length co36]] (by rfl) rfl rfl zM ?_
    with_reducible refine (laws_eqEvent.calls k t420 t421 t422 t423 _ _ t424 t432 t433 t434 t435 _ _ t436 true _ ?side1 ?side2 ?side3 ?side4 A14.out).mono ?_
    (case side1 => exact zC ((Kd.R_reads' HO426.out).2.2))
    (case side2 => exact (Kd.R_reads' HO426.out).2.1)
    (case side3 => exact zC ((Kd.R_reads' HO438.out).2.2))
    (case side4 => exact (Kd.R_reads' HO438.out).2.1)
    rintro e w37 ⟨rfl, hb⟩
    refine ⟨_, rfl, ?_⟩
    have n0_ := Aside0.mk (Kd.R_below (zR HO416.out) hb)
    have n1_ := Aside0.mk (Kd.R_below (zR HO419.out) hb)
    have n2_ := Aside0.mk (Kd.R_below (zR HO426.out) hb)
    have n3_ := Aside0.mk (Kd.R_below (zR HO430.out) hb)
    have n4_ := Aside0.mk (Kd.R_below (zR HO438.out) hb)
    have n5_ := Aside0.mk (blk_below (g := gb408) (o := .cells #[.int .i64 a0_0, .int .i64 a0_1, .int .i64 a0_2, .int .i64 a0_3, .slice A0_4 l0_4.length c0_4] 41 (0, 0)) (zB BK408.out) hb)
    have n6_ := Aside0.mk (blk_below (g := gb427) (o := .cells #[.int .i64 t420, .int .i64 t421, .int .i64 t422, .int .i64 t423, .slice Ao30 t424.length co30] 44 (0, 0)) (zB BK427.out) hb)
    have n7_ := Aside0.mk (below_step zH hb)
    clear HO416
    clear HO419
    clear HO426
    clear HO430
    clear HO438
    clear BK408
    clear BK427
    clear HB
    have HO416 := n0_
    have HO419 := n1_
    have HO426 := n2_
    have HO430 := n3_
    have HO438 := n4_
    have BK408 := n5_
    have BK427 := n6_
    have HB := n7_
    clear n0_ n1_ n2_ n3_ n4_ n5_ n6_ n7_
    (try clear hb)
    (try clear hb2)
    (try clear hk)
    (try clear hi)
    refine hK.out _ _ ⟨(blk_cell BK427.out 0).trans rfl, (blk_cell BK427.out 1).trans rfl, (blk_cell BK427.out 2).trans rfl, (blk_cell BK427.out 3).trans rfl, (blk_cell BK427.out 4).trans rfl, (blk_cell BK408.out 0).trans rfl, (blk_cell BK408.out 1).trans rfl, (blk_cell BK408.out 2).trans rfl, (blk_cell BK408.out 3).trans rfl, (blk_cell BK408.out 4).trans rfl⟩ (fun hHeld => ?_)
    clear hK K
    refine norm_ (a' := ?_) ?_ ?_
    rotate_left
    ·show Act.put _ (some 30) _ = _
     simp only [Act.put, List.setIfInBounds_toArray, List.set_cons_zero, List.set_cons_succ, i64_w, i32_w]
     rfl
    refine pure_ (i := 4) (N := some 31) (v := ?_) (a' := ?_) #[true, true, true, true, true] rfl rfl (by kernel_rfl) (fun _ _ _ h => h) (Or.inl ⟨by rfl, ?_⟩) ?_ ?_
    rotate_left;(focus intro w';go_simp;with_reducible rfl);rotate_left;(focus simp only [Act.put, List.setIfInBounds_toArray, List.set_cons_zero, List.set_cons_succ, i64_w, i32_w];rfl)
    refine done_ (by kernel_rfl) ?_
    obtain ⟨hcz38_0, hcz38_1, hcz38_2, hcz38_3, hcz38_4⟩ := zc5 BK427.out
    obtain ⟨hfz38_0, hfz38_1, hfz38_2, hfz38_3, hfz38_4⟩ := zf BK427.out
    go_upto_region 14 with (first | ((with_reducible refine gate_callee (f := 49) rfl ?_); refine goesL_ (some 34) rfl rfl Try.func49 (by kernel_rfl) rfl #[.agg #[.int .i64 t420, .int .i64 t421, .int .i64 t422, .int .i64 t423, .slice Ao30 t424.length co30], .int .i64 1] rfl zM ?_; (with_reducible refine (laws_markEvent.calls k t420 t421 t422 t423 (fun k_ => some k_ = (.slice Ao30 t424.length co30 : Value).ownBlock) (.slice Ao30 t424.length co30) t424 1 t440 t441 w _ ?side1 ?side2 A16.out).mono ?_); (case side1 => repeat (first | (with_reducible first | exact HB.out | apply below_alloc | apply pw_below_drewN | apply below_drew1 | refine below_set ?_ GE408.out | refine below_set ?_ GE427.out) | exact HB.out)); (case side2 => exact Kd.R_tight rfl HO426.out); rintro e w39 ⟨rfl, hy0, hb, hkp⟩; refine ⟨_, rfl, ?_⟩; have n0_ := Aside0.mk (blk_kept (zB BK408.out) hkp (fun hs_ => (fun e_ => (Kd.R_ne HO426.out BK408.out (by decide)) e_) hs_)); have n1_ := Aside0.mk (Kd.R_mono (ok' := fun k_ => some k_ ≠ (.slice Ao33 t417.length co33 : Value).ownBlock ∧ some k_ ≠ (.slice Ao30 t424.length co30 : Value).ownBlock ∧ some k_ ≠ (.slice Ao32 t428.length co32 : Value).ownBlock ∧ some k_ ≠ (.slice Ao36 t436.length co36 : Value).ownBlock) (Kd.R_keptB (HO416.out) hkp (fun k_ hk_ hs_ => zq)) (fun k_ hk_ => zr)); have n2_ := Aside0.mk (Kd.R_mono (ok' := fun k_ => some k_ ≠ (.slice Ao23 t414.length co23 : Value).ownBlock ∧ some k_ ≠ (.slice Ao30 t424.length co30 : Value).ownBlock ∧ some k_ ≠ (.slice Ao32 t428.length co32 : Value).ownBlock ∧ some k_ ≠ (.slice Ao36 t436.length co36 : Value).ownBlock) (Kd.R_keptB (HO419.out) hkp (fun k_ hk_ hs_ => zq)) (fun k_ hk_ => zr)); have n3_ := Aside0.mk (Kd.R_reok rfl hy0 (fun k_ e_ => HO426.out.1 k_ e_)); have n4_ := Aside0.mk (blk_kept (zB BK427.out) hkp (fun hs_ => (fun e_ => (Kd.R_ne HO426.out BK427.out (by decide)) e_) hs_)); have n5_ := Aside0.mk (Kd.R_mono (ok' := fun k_ => some k_ ≠ (.slice Ao23 t414.length co23 : Value).ownBlock ∧ some k_ ≠ (.slice Ao33 t417.length co33 : Value).ownBlock ∧ some k_ ≠ (.slice Ao30 t424.length co30 : Value).ownBlock ∧ some k_ ≠ (.slice Ao36 t436.length co36 : Value).ownBlock) (Kd.R_keptB (HO430.out) hkp (fun k_ hk_ hs_ => zq)) (fun k_ hk_ => zr)); have n6_ := Aside0.mk (Kd.R_mono (ok' := fun k_ => some k_ ≠ (.slice Ao23 t414.length co23 : Value).ownBlock ∧ some k_ ≠ (.slice Ao33 t417.length co33 : Value).ownBlock ∧ some k_ ≠ (.slice Ao30 t424.length co30 : Value).ownBlock ∧ some k_ ≠ (.slice Ao32 t428.length co32 : Value).ownBlock) (Kd.R_keptB (HO438.out) hkp (fun k_ hk_ hs_ => zq)) (fun k_ hk_ => zr)); have n7_ := Aside0.mk (hb); clear BK408; clear HO416; clear HO419; clear HO426; clear BK427; clear HO430; clear HO438; clear HB; have BK408 := n0_; have HO416 := n1_; have HO419 := n2_; have HO426 := n3_; have BK427 := n4_; have HO430 := n5_; have HO438 := n6_; have HB := n7_; clear n0_ n1_ n2_ n3_ n4_ n5_ n6_ n7_; (try clear hb); (try clear hkp); (try clear hy0)))
    (try simp only [Act.put, List.setIfInBounds_toArray, List.set_cons_zero, List.set_cons_succ])
    go_cut [42] (fun v42 wc => ∃ (kq : Nat) (x42_16 : Bool), v42 = .bool x42_16 ∧ Aside0 (laws_FnExactPutEvent.j0 kq t417 t428 x42_16 a0_0 a0_1 a0_2 a0_3 l0_4 = some r) ∧ Aside0 (kq ≤ k) ∧ Aside0 (Kd.R (Kd.int .u8) 5 wc w.heap.size (fun k_ => some k_ ≠ ((.slice Ao32 t428.length co32) : Value).ownBlock ∧ some k_ ≠ ((.slice Ao30 t424.length co30) : Value).ownBlock) (.slice Ao33 t417.length co33) t417) ∧ Aside0 (Kd.R (Kd.int .u8) 5 wc w.heap.size (fun k_ => some k_ ≠ ((.slice Ao33 t417.length co33) : Value).ownBlock ∧ some k_ ≠ ((.slice Ao30 t424.length co30) : Value).ownBlock) (.slice Ao32 t428.length co32) t428) ∧ Aside0 (Kd.R (Kd.int .u8) 5 wc w.heap.size (fun k_ => some k_ ≠ ((.slice Ao33 t417.length co33) : Value).ownBlock ∧ some k_ ≠ ((.slice Ao32 t428.length co32) : Value).ownBlock) (.slice Ao30 t424.length co30) t441) ∧ Aside0 (wc.heap[gb408]? = some (.cells #[.int .i64 a0_0, .int .i64 a0_1, .int .i64 a0_2, .int .i64 a0_3, (.slice A0_4 l0_4.length c0_4)] 41 (0, 0))) ∧ Aside0 (wc.heap[gb427]? = some (.cells #[.int .i64 t420, .int .i64 t421, .int .i64 t422, .int .i64 t423, (.slice Ao30 t424.length co30)] 44 (0, 0))) ∧ Aside0 (Below w.heap.size w wc))
    case first =>
     have H := HC17.out
     clear HC17
     by_cases c40 : t440 < 0
     ·rw [if_pos c40] at H
      have c40b0 : decide (t440 < 0) = true := decide_eq_true c40
      clear c40
      (first | rw [c40b0] | (simp only [i64_w, i32_w]; rw [c40b0]) | skip)
      have H' := Aside0.mk H
      clear H
      go_wp2
      go_meet
      case rel => exact ⟨_, (true), zF, H', ⟨by first | omega | exact Nat.le_refl _⟩, ⟨by (with_reducible repeat (first | apply Kd.R_alloc | apply Kd.R_drewN | apply Kd.R_drew)); exact Kd.R_mono HO419.out (fun _ hk => ⟨hk.2.2.1, hk.2.1⟩)⟩, ⟨by (with_reducible repeat (first | apply Kd.R_alloc | apply Kd.R_drewN | apply Kd.R_drew)); exact Kd.R_mono HO430.out (fun _ hk => ⟨hk.2.1, hk.2.2.1⟩)⟩, ⟨by (with_reducible repeat (first | apply Kd.R_alloc | apply Kd.R_drewN | apply Kd.R_drew)); exact Kd.R_mono HO426.out (fun k_ hk_ => zr)⟩, ⟨zB BK408.out⟩, ⟨zB BK427.out⟩, ⟨zH⟩⟩
     ·rw [if_neg c40] at H
      have c40b0 : decide (t440 < 0) = false := decide_eq_false c40
      clear c40
      (first | rw [c40b0] | (simp only [i64_w, i32_w]; rw [c40b0]) | skip)
      replace H := Option.bind_eq_some_iff.mp H
      obtain ⟨t442, A410, H⟩ := H
      replace H : (laws_FnExactPutEvent.j0 k t417 t428 (!t442) a0_0 a0_1 a0_2 a0_3 l0_4) = some r := H
      have A41 := Aside0.mk A410
      clear A410
      have H' := Aside0.mk H
      clear H
      go_wp2_with (first | (go_at_call 53; (with_reducible refine (laws_eqByteS.calls k _ _ t428 _ _ t417 t442 _ ?side1 ?side2 ?side3 ?side4 A41.out).mono ?_); (case side1 => exact zC ((Kd.R_reads' HO430.out).2.2)); (case side2 => exact (Kd.R_reads' HO430.out).2.1); (case side3 => exact zC ((Kd.R_reads' HO419.out).2.2)); (case side4 => exact (Kd.R_reads' HO419.out).2.1); rintro e w' ⟨rfl, ⟨nd, rfl⟩⟩))
      go_meet
      case rel => exact ⟨_, (!t442), zF, H', ⟨by first | omega | exact Nat.le_refl _⟩, ⟨by (with_reducible repeat (first | apply Kd.R_alloc | apply Kd.R_drewN | apply Kd.R_drew)); exact Kd.R_mono HO419.out (fun _ hk => ⟨hk.2.2.1, hk.2.1⟩)⟩, ⟨by (with_reducible repeat (first | apply Kd.R_alloc | apply Kd.R_drewN | apply Kd.R_drew)); exact Kd.R_mono HO430.out (fun _ hk => ⟨hk.2.1, hk.2.2.1⟩)⟩, ⟨by (with_reducible repeat (first | apply Kd.R_alloc | apply Kd.R_drewN | apply Kd.R_drew)); exact Kd.R_mono HO426.out (fun k_ hk_ => zr)⟩, ⟨zB BK408.out⟩, ⟨zB BK427.out⟩, ⟨zH⟩⟩
    case rest =>
     clear HC17
     (try clear c1);(try clear c2);(try clear p2);(try clear c3);(try clear c3b0);(try clear c4);(try clear c5);(try clear c10);(try clear c12);(try clear c15);(try clear c27);(try clear c28);(try clear c29);(try clear c31);(try clear c40);(try clear c40b0);(try clear hcz19_0);(try clear hcz19_1);(try clear hcz19_2);(try clear hcz19_3);(try clear hcz19_4);(try clear hcz21_0);(try clear hcz21_1);(try clear hcz21_2);(try clear hcz21_3);(try clear hcz21_4)
     (try clear hcz25_0);(try clear hcz25_1);(try clear hcz25_2);(try clear hcz25_3);(try clear hcz25_4);(try clear hcz29_0);(try clear hcz29_1);(try clear hcz29_2);(try clear hcz29_3);(try clear hcz29_4);(try clear hcz38_0);(try clear hcz38_1);(try clear hcz38_2);(try clear hcz38_3);(try clear hcz38_4);(try clear hcz5_0);(try clear hcz5_1);(try clear hcz5_2);(try clear hcz5_3);(try clear hcz5_4);(try clear hfz19_0);(try clear hfz19_1);(try clear hfz19_2)
     (try clear hfz19_3);(try clear hfz19_4);(try clear hfz21_0);(try clear hfz21_1);(try clear hfz21_2);(try clear hfz21_3);(try clear hfz21_4);(try clear hfz25_0);(try clear hfz25_1);(try clear hfz25_2);(try clear hfz25_3);(try clear hfz25_4);(try clear hfz29_0);(try clear hfz29_1);(try clear hfz29_2);(try clear hfz29_3);(try clear hfz29_4);(try clear hfz38_0);(try clear hfz38_1);(try clear hfz38_2);(try clear hfz38_3);(try clear hfz38_4);(try clear hfz5_0)
     (try clear hfz5_1);(try clear hfz5_2);(try clear hfz5_3);(try clear hfz5_4)
     obtain ⟨kq, x42_16, rfl, HA, HJ16, HO_4, HO_6, HO_428004, BK408, BK427, HB⟩ := hcut
     have hl428004_16 := (Kd.R_reads' HO_428004.out).1
     rw [hl428004_16] at HO_428004
     (try simp only [hl428004_16])
     (try simp only [hl428004_16] at BK408)
     (try simp only [hl428004_16] at BK427)
     (try simp only [hl428004_16] at HO_4)
     (try simp only [hl428004_16] at HO_6)
     cases kq with
     | zero => exact absurd HA.out (by simp [laws_FnExactPutEvent.j0])
     | succ kj16 =>
      have H := HA.out
      clear HA
      simp only [laws_FnExactPutEvent.j0] at H
      by_cases c42 : x42_16 = true
      ·subst c42
       replace H : (some false) = some r := by rw [if_pos rfl] at H; exact H
       exact absurd ((Option.some.inj H).trans HT_.out) (by decide)
      ·replace c42 := Bool.eq_false_iff.mpr c42
       subst c42
       replace H : ((laws_markByteS.f kj16 t428 1).bind fun bt443 => ((laws_heldByteS.f kj16 bt443.2 1).bind fun t445 => (if t445 < 0 then (some false) else (if t445 = bt443.1 then ((laws_toEvent.f kj16 a0_0 a0_1 a0_2 a0_3 l0_4).bind fun bt446 => ((impl_PutEvent.f kj16 bt446.1 bt446.2.1 bt446.2.2.1 bt446.2.2.2.1 bt446.2.2.2.2).bind fun t453 => ((laws_eqByteS.f kj16 t453 t417).bind fun t456 => (if t456 = true then ((laws_heldByteS.f kj16 bt443.2 1).bind fun t457 => (if t457 < 0 then (some false) else (if t457 = bt443.1 then (some true) else (some false)))) else (some false))))) else (some false))))) = some r := by rw [if_neg (show ¬ (false = true) by decide)] at H; exact H
       replace H := Option.bind_eq_some_iff.mp H
       obtain ⟨⟨t443, t444⟩, A430, H⟩ := H
       replace H : ((laws_heldByteS.f kj16 t444 1).bind fun t445 => (if t445 < 0 then (some false) else (if t445 = t443 then ((laws_toEvent.f kj16 a0_0 a0_1 a0_2 a0_3 l0_4).bind fun bt446 => ((impl_PutEvent.f kj16 bt446.1 bt446.2.1 bt446.2.2.1 bt446.2.2.2.1 bt446.2.2.2.2).bind fun t453 => ((laws_eqByteS.f kj16 t453 t417).bind fun t456 => (if t456 = true then ((laws_heldByteS.f kj16 t444 1).bind fun t457 => (if t457 < 0 then (some false) else (if t457 = t443 then (some true) else (some false)))) else (some false))))) else (some false)))) = some r := H
       have A43 := Aside0.mk A430
       clear A430
       replace H := Option.bind_eq_some_iff.mp H
       obtain ⟨t445, A440, H⟩ := H
       replace H : (if t445 < 0 then (some false) else (if t445 = t443 then ((laws_toEvent.f kj16 a0_0 a0_1 a0_2 a0_3 l0_4).bind fun bt446 => ((impl_PutEvent.f kj16 bt446.1 bt446.2.1 bt446.2.2.1 bt446.2.2.2.1 bt446.2.2.2.2).bind fun t453 => ((laws_eqByteS.f kj16 t453 t417).bind fun t456 => (if t456 = true then ((laws_heldByteS.f kj16 t444 1).bind fun t457 => (if t457 < 0 then (some false) else (if t457 = t443 then (some true) else (some false)))) else (some false))))) else (some false))) = some r := H
       have A44 := Aside0.mk A440
       clear A440
       by_cases c45 : t445 < 0
       ·rw [if_pos c45] at H
        have c45b0 : decide (t445 < 0) = true := decide_eq_true c45
        clear c45
        exact absurd ((Option.some.inj H).trans HT_.out) (by decide)
       ·rw [if_neg c45] at H
        have c45b0 : decide (t445 < 0) = false := decide_eq_false c45
        clear c45
        by_cases c46 : t445 = t443
        ·rw [if_pos c46] at H
         have c46b0 : (t445 == t443) = true := beq_iff_eq.mpr c46
         have c46b1 : (t445 != t443) = false := bne_eq_false_iff_eq.mpr c46
         clear c46
         replace H := Option.bind_eq_some_iff.mp H
         obtain ⟨⟨t446, t447, t448, t449, t450⟩, A470, H⟩ := H
         replace H : ((impl_PutEvent.f kj16 t446 t447 t448 t449 t450).bind fun t453 => ((laws_eqByteS.f kj16 t453 t417).bind fun t456 => (if t456 = true then ((laws_heldByteS.f kj16 t444 1).bind fun t457 => (if t457 < 0 then (some false) else (if t457 = t443 then (some true) else (some false)))) else (some false)))) = some r := H
         have A47 := Aside0.mk A470
         clear A470
         replace H := Option.bind_eq_some_iff.mp H
         obtain ⟨t453, A480, H⟩ := H
         replace H : ((laws_eqByteS.f kj16 t453 t417).bind fun t456 => (if t456 = true then ((laws_heldByteS.f kj16 t444 1).bind fun t457 => (if t457 < 0 then (some false) else (if t457 = t443 then (some true) else (some false)))) else (some false))) = some r := H
         have A48 := Aside0.mk A480
         clear A480
         replace H := Option.bind_eq_some_iff.mp H
         obtain ⟨t456, A490, H⟩ := H
         replace H : (if t456 = true then ((laws_heldByteS.f kj16 t444 1).bind fun t457 => (if t457 < 0 then (some false) else (if t457 = t443 then (some true) else (some false)))) else (some false)) = some r := H
         have A49 := Aside0.mk A490
         clear A490
         by_cases c50 : t456 = true
         ·subst c50
          replace H : ((laws_heldByteS.f kj16 t444 1).bind fun t457 => (if t457 < 0 then (some false) else (if t457 = t443 then (some true) else (some false)))) = some r := by rw [if_pos rfl] at H; exact H
          replace H := Option.bind_eq_some_iff.mp H
          obtain ⟨t457, A510, H⟩ := H
          replace H : (if t457 < 0 then (some false) else (if t457 = t443 then (some true) else (some false))) = some r := H
          have A51 := Aside0.mk A510
          clear A510
          by_cases c52 : t457 < 0
          ·rw [if_pos c52] at H
           have c52b0 : decide (t457 < 0) = true := decide_eq_true c52
           clear c52
           exact absurd ((Option.some.inj H).trans HT_.out) (by decide)
          ·rw [if_neg c52] at H
           have c52b0 : decide (t457 < 0) = false := decide_eq_false c52
           clear c52
           by_cases c53 : t457 = t443
           ·rw [if_pos c53] at H
            have c53b0 : (t457 == t443) = true := beq_iff_eq.mpr c53
            have c53b1 : (t457 != t443) = false := bne_eq_false_iff_eq.mpr c53
            clear c53
            obtain rfl := Option.some.inj H
            go_wp2_with (first | ((with_reducible refine gate_callee (f := 54) rfl ?_); refine goesL_ (some 45) rfl rfl Try.func54 (by kernel_rfl) rfl #[.slice Ao32 t428.length co32, .int .i64 1] rfl zM ?_; (with_reducible refine (laws_markByteS.calls kj16 (fun k_ => some k_ = (.slice Ao32 t428.length co32 : Value).ownBlock) (.slice Ao32 t428.length co32) t428 1 t443 t444 w _ ?side1 ?side2 A43.out).mono ?_); (case side1 => repeat (first | (with_reducible first | exact HB.out | apply below_alloc | apply pw_below_drewN | apply below_drew1 | refine below_set ?_ GE408.out | refine below_set ?_ GE427.out) | exact HB.out)); (case side2 => exact Kd.R_tight rfl HO_6.out); rintro e w54 ⟨rfl, hy0, hb, hkp⟩; refine ⟨_, rfl, ?_⟩; have n0_ := Aside0.mk (Kd.R_mono (ok' := fun k_ => some k_ ≠ (.slice Ao32 t428.length co32 : Value).ownBlock ∧ some k_ ≠ (.slice Ao30 t441.length co30 : Value).ownBlock) (Kd.R_keptB (HO_4.out) hkp (fun k_ hk_ hs_ => zq)) (fun k_ hk_ => zr)); have n1_ := Aside0.mk (Kd.R_reok rfl hy0 (fun k_ e_ => HO_6.out.1 k_ e_)); have n2_ := Aside0.mk (Kd.R_mono (ok' := fun k_ => some k_ ≠ (.slice Ao33 t417.length co33 : Value).ownBlock ∧ some k_ ≠ (.slice Ao32 t428.length co32 : Value).ownBlock) (Kd.R_keptB (HO_428004.out) hkp (fun k_ hk_ hs_ => zq)) (fun k_ hk_ => zr)); have n3_ := Aside0.mk (blk_kept (zB BK408.out) hkp (fun hs_ => (fun e_ => (Kd.R_ne HO_6.out BK408.out (by decide)) e_) hs_)); have n4_ := Aside0.mk (blk_kept (zB BK427.out) hkp (fun hs_ => (fun e_ => (Kd.R_ne HO_6.out BK427.out (by decide)) e_) hs_)); have n5_ := Aside0.mk (hb); clear HO_4; clear HO_6; clear HO_428004; clear BK408; clear BK427; clear HB; have HO_4 := n0_; have HO_6 := n1_; have HO_428004 := n2_; have BK408 := n3_; have BK427 := n4_; have HB := n5_; clear n0_ n1_ n2_ n3_ n4_ n5_; (try clear hb); (try clear hkp); (try clear hy0)) | ((with_reducible refine gate_callee (f := 55) rfl ?_); refine goesL_ (some 48) rfl rfl Try.func55 (by kernel_rfl) rfl #[.slice Ao32 t444.length co32, .int .i64 1] rfl (by (try simp only [List.map_toArray, List.map_cons, List.map_nil]); first | done | (rw [show t444.length = t428.length from (Kd.R_reads' HO_6.out).1.symm] <;> rfl) | rfl | (simp only [List.length_drop, List.length_take]; rfl)) ?_; (with_reducible refine (laws_heldByteS.calls kj16 _ _ t444 1 t445 _ ?side1 ?side2 A44.out).mono ?_); (case side1 => exact zC ((Kd.R_reads' HO_6.out).2.2)); (case side2 => rw [show t444.length = t428.length from (Kd.R_reads' HO_6.out).1.symm]; exact (Kd.R_reads' HO_6.out).2.1); rintro e w' ⟨rfl, ⟨nd, rfl⟩⟩; refine ⟨_, rfl, ?_⟩; have hnb55 := NB408_427.out; have hnc55 := NB427_408.out; obtain ⟨hcz56_0, hcz56_1, hcz56_2, hcz56_3, hcz56_4⟩ := zc5 BK408.out; obtain ⟨hfz56_0, hfz56_1, hfz56_2, hfz56_3, hfz56_4⟩ := zf BK408.out) | ((with_reducible refine gate_callee (f := 29) rfl ?_); refine goesL_ (some 55) rfl rfl Try.func29 (by kernel_rfl) rfl #[.agg #[.int .i64 a0_0, .int .i64 a0_1, .int .i64 a0_2, .int .i64 a0_3, .slice A0_4 l0_4.length c0_4]] rfl zM ?_; (with_reducible refine (laws_toEvent.calls kj16 a0_0 a0_1 a0_2 a0_3 _ _ l0_4 t446 t447 t448 t449 t450 _ ?side1 ?side2 A47.out).mono ?_); (case side1 => exact zC (Kd.C_below HR0_4.out zH)); (case side2 => exact HC0_4.out); rintro e w57 ⟨v451, rfl, ho0, hb⟩; refine ⟨_, rfl, ?_⟩; have n0_ := Aside0.mk (Kd.R_elder' (zR HO_4.out) (Kd.R_base ho0) hb); have n1_ := Aside0.mk (Kd.R_elder' (zR HO_6.out) (Kd.R_base ho0) hb); have n2_ := Aside0.mk (Kd.R_elder' (zR HO_428004.out) (Kd.R_base ho0) hb); have n3_ := Aside0.mk (Kd.R_lower (Kd.R_new' (Kd.R_new' (Kd.R_new' ho0 (Kd.R_lt (zR HO_4.out))) (Kd.R_lt (zR HO_6.out))) (Kd.R_lt (zR HO_428004.out))) (below_size zH)); have n4_ := Aside0.mk (blk_below (g := gb408) (o := .cells #[.int .i64 a0_0, .int .i64 a0_1, .int .i64 a0_2, .int .i64 a0_3, .slice A0_4 l0_4.length c0_4] 41 (0, 0)) (zB BK408.out) hb); have n5_ := Aside0.mk (blk_below (g := gb427) (o := .cells #[.int .i64 t420, .int .i64 t421, .int .i64 t422, .int .i64 t423, .slice Ao30 t441.length co30] 44 (0, 0)) (zB BK427.out) hb); have n6_ := Aside0.mk (below_step zH hb); clear HO_4; clear HO_6; clear HO_428004; clear BK408; clear BK427; clear HB; have HO_4 := n0_; have HO_6 := n1_; have HO_428004 := n2_; have HO452 := n3_; have BK408 := n4_; have BK427 := n5_; have HB := n6_; clear n0_ n1_ n2_ n3_ n4_ n5_ n6_; (try clear hb); (try clear hb2); (try clear hk); (try clear hi); (try clear ho0); obtain ⟨Ao58, co58, eo58⟩ := Kd.R_slice HO452.out; subst eo58) | ((with_reducible refine gate_callee (f := 52) rfl ?_); refine goesL_ (some 56) rfl rfl Try.func52 (by kernel_rfl) rfl #[.agg #[.int .i64 t446, .int .i64 t447, .int .i64 t448, .int .i64 t449, .slice Ao58 t450.length co58]] rfl zM ?_; (with_reducible refine (impl_PutEvent.calls kj16 t446 t447 t448 t449 _ _ t450 t453 _ ?side1 ?side2 A48.out).mono ?_); (case side1 => exact zC ((Kd.R_reads' HO452.out).2.2)); (case side2 => exact (Kd.R_reads' HO452.out).2.1); rintro e w59 ⟨v454, rfl, ho0, hb⟩; refine ⟨_, rfl, ?_⟩; have n0_ := Aside0.mk (Kd.R_elder' (zR HO_4.out) (Kd.R_base ho0) hb); have n1_ := Aside0.mk (Kd.R_elder' (zR HO_6.out) (Kd.R_base ho0) hb); have n2_ := Aside0.mk (Kd.R_elder' (zR HO_428004.out) (Kd.R_base ho0) hb); have n3_ := Aside0.mk (Kd.R_elder' (zR HO452.out) (Kd.R_base ho0) hb); have n4_ := Aside0.mk (Kd.R_lower (Kd.R_new' (Kd.R_new' (Kd.R_new' (Kd.R_new' ho0 (Kd.R_lt (zR HO_4.out))) (Kd.R_lt (zR HO_6.out))) (Kd.R_lt (zR HO_428004.out))) (Kd.R_lt (zR HO452.out))) (below_size zH)); have n5_ := Aside0.mk (blk_below (g := gb408) (o := .cells #[.int .i64 a0_0, .int .i64 a0_1, .int .i64 a0_2, .int .i64 a0_3, .slice A0_4 l0_4.length c0_4] 41 (0, 0)) (zB BK408.out) hb); have n6_ := Aside0.mk (blk_below (g := gb427) (o := .cells #[.int .i64 t420, .int .i64 t421, .int .i64 t422, .int .i64 t423, .slice Ao30 t441.length co30] 44 (0, 0)) (zB BK427.out) hb); have n7_ := Aside0.mk (below_step zH hb); clear HO_4; clear HO_6; clear HO_428004; clear HO452; clear BK408; clear BK427; clear HB; have HO_4 := n0_; have HO_6 := n1_; have HO_428004 := n2_; have HO452 := n3_; have HO455 := n4_; have BK408 := n5_; have BK427 := n6_; have HB := n7_; clear n0_ n1_ n2_ n3_ n4_ n5_ n6_ n7_; (try clear hb); (try clear hb2); (try clear hk); (try clear hi); (try clear ho0); obtain ⟨Ao60, co60, eo60⟩ := Kd.R_slice HO455.out; subst eo60) | ((with_reducible refine gate_callee (f := 53) rfl ?_); refine goesL_ (some 59) rfl rfl Try.func53 (by kernel_rfl) rfl #[.slice Ao60 t453.length co60, .slice Ao33 t417.length co33] rfl zM ?_; (with_reducible refine (laws_eqByteS.calls kj16 _ _ t453 _ _ t417 true _ ?side1 ?side2 ?side3 ?side4 A49.out).mono ?_); (case side1 => exact zC ((Kd.R_reads' HO455.out).2.2)); (case side2 => exact (Kd.R_reads' HO455.out).2.1); (case side3 => exact zC ((Kd.R_reads' HO_4.out).2.2)); (case side4 => exact (Kd.R_reads' HO_4.out).2.1); rintro e w' ⟨rfl, ⟨nd, rfl⟩⟩; refine ⟨_, rfl, ?_⟩) | ((with_reducible refine gate_callee (f := 55) rfl ?_); refine goesL_ (some 63) rfl rfl Try.func55 (by kernel_rfl) rfl #[.slice Ao32 t444.length co32, .int .i64 1] rfl (by (try simp only [List.map_toArray, List.map_cons, List.map_nil]); first | done | (rw [show t444.length = t428.length from (Kd.R_reads' HO_6.out).1.symm] <;> rfl) | rfl | (simp only [List.length_drop, List.length_take]; rfl)) ?_; (with_reducible refine (laws_heldByteS.calls kj16 _ _ t444 1 t457 _ ?side1 ?side2 A51.out).mono ?_); (case side1 => exact zC ((Kd.R_reads' HO_6.out).2.2)); (case side2 => rw [show t444.length = t428.length from (Kd.R_reads' HO_6.out).1.symm]; exact (Kd.R_reads' HO_6.out).2.1); rintro e w' ⟨rfl, ⟨nd, rfl⟩⟩; refine ⟨_, rfl, ?_⟩))
            go_ret
            exact ⟨zE, zH⟩
           ·rw [if_neg c53] at H
            have c53b0 : (t457 == t443) = false := beq_eq_false_iff_ne.mpr c53
            have c53b1 : (t457 != t443) = true := bne_iff_ne.mpr c53
            exact absurd ((Option.some.inj H).trans HT_.out) (by decide)
         ·replace c50 := Bool.eq_false_iff.mpr c50
          subst c50
          replace H : (some false) = some r := by rw [if_neg (show ¬ (false = true) by decide)] at H; exact H
          exact absurd ((Option.some.inj H).trans HT_.out) (by decide)
        ·rw [if_neg c46] at H
         have c46b0 : (t445 == t443) = false := beq_eq_false_iff_ne.mpr c46
         have c46b1 : (t445 != t443) = true := bne_iff_ne.mpr c46
         exact absurd ((Option.some.inj H).trans HT_.out) (by decide)
   ·replace c15 := Bool.eq_false_iff.mpr c15
    subst c15
    replace H : (some false) = some r := by rw [if_neg (show ¬ (false = true) by decide)] at H; exact H
    exact absurd ((Option.some.inj H).trans HT_.out) (by decide)
  ·replace c12 := Bool.eq_false_iff.mpr c12
   subst c12
   replace H : (some false) = some r := by rw [if_neg (show ¬ (false = true) by decide)] at H; exact H
   exact absurd ((Option.some.inj H).trans HT_.out) (by decide)

def wf41 (x : S41) : Prop := ((Lit.int .i64 x.f0).wf = true) ∧ ((Lit.int .i64 x.f1).wf = true) ∧ ((Lit.int .i64 x.f2).wf = true) ∧ ((Lit.int .i64 x.f3).wf = true) ∧ ((x.f4.length ≤ maxLen ∧ ∀ y0 ∈ x.f4, (Lit.int .u8 y0).wf = true))
/-- THE PURE STATEMENT of laws_FnExactPutEvent. -/
def laws_FnExactPutEvent.Pure : Prop := ∀ (a0_0 : Int) (a0_1 : Int) (a0_2 : Int) (a0_3 : Int) (l0_4 : List Int), wf41 (⟨a0_0, a0_1, a0_2, a0_3, l0_4⟩ : S41) → ∃ k, laws_FnExactPutEvent.f k a0_0 a0_1 a0_2 a0_3 l0_4 = some true

end Go.Proofs.Ytabicblkdgpogaa.QFnExactPutEvent
