-- Made by this session's program (wip/tools/myprint.py) out of the translation; Lean checks it.
import Derived.Test.YtabicblkdgpogaaQFnExactTakeEventx0
import Derived.Test.YtabicblkdgpogaaQFnExactTakeEventx1
import Derived.Test.YtabicblkdgpogaaQFnExactTakeEventx9
import Derived.Test.YtabicblkdgpogaaQFnExactTakeEventx10
import Derived.Test.YtabicblkdgpogaaQFnExactTakeEventx17
namespace Go.Proofs.Ytabicblkdgpogaa.QFnExactTakeEvent
open Go.RowKit Go.Proofs.YtabicblkdgpogaaW.PrintWords Go.Proofs.YtabicblkdgpogaaW.PrintLast Go.Proofs.YtabicblkdgpogaaW.PrintMore
attribute [local go_sem] max2_int min2_int max_two min_two max_three min_three max_four min_four   -- for this text's walks alone
set_option linter.unusedVariables false
set_option linter.unusedSimpArgs false

/-! ### laws_FnExactTakeEvent: function 9 -/
mutual
def laws_FnExactTakeEvent.j0 : Nat → Bool → Bool → Bool → Int → Int → List Int → Int → Int → Int → Int → List Int → Int → Int → List Int → Int → Int → Int → Int → List Int → Option (Bool)
 | 0, _, _, _, _, _, _, _, _, _, _, _, _, _, _, _, _, _, _, _ => none
 | k + 1, x5, x8, x40, x322000, x322001, x322002, x337000, x337001, x337002, x337003, x337004, x343000, x343001, x343002, x352000, x352001, x352002, x352003, x352004 => if x40 = true then (some false) else ((laws_toFrame.f k x322000 x322001 x322002).bind fun bt353 => ((laws_eqFrame.f k x343000 x343001 x343002 bt353.1 bt353.2.1 bt353.2.2).bind fun t358 => (if t358 = true then ((laws_markFrame.f k x343000 x343001 x343002 1).bind fun bt359 => (if bt359.1 < 0 then (laws_FnExactTakeEvent.j1 k x5 true x322000 x322001 x322002 x337000 x337001 x337002 x337003 x337004 x352000 x352001 x352002 x352003 x352004) else ((laws_eqEvent.f k x352000 x352001 x352002 x352003 x352004 x337000 x337001 x337002 x337003 x337004).bind fun t361 => (if t361 = true then (laws_FnExactTakeEvent.j1 k x5 (x8 != x5) x322000 x322001 x322002 x337000 x337001 x337002 x337003 x337004 x352000 x352001 x352002 x352003 x352004) else (laws_FnExactTakeEvent.j1 k x5 true x322000 x322001 x322002 x337000 x337001 x337002 x337003 x337004 x352000 x352001 x352002 x352003 x352004))))) else (some false))))
def laws_FnExactTakeEvent.j1 : Nat → Bool → Bool → Int → Int → List Int → Int → Int → Int → Int → List Int → Int → Int → Int → Int → List Int → Option (Bool)
 | 0, _, _, _, _, _, _, _, _, _, _, _, _, _, _, _ => none
 | k + 1, x5, x61, x322000, x322001, x322002, x337000, x337001, x337002, x337003, x337004, x352000, x352001, x352002, x352003, x352004 => if x61 = true then (some false) else ((laws_markEvent.f k x352000 x352001 x352002 x352003 x352004 1).bind fun bt362 => ((laws_heldEvent.f k x352000 x352001 x352002 x352003 bt362.2 1).bind fun t364 => (if t364 < 0 then (some false) else (if t364 = bt362.1 then ((laws_toFrame.f k x322000 x322001 x322002).bind fun bt365 => ((impl_TakeEvent.f k bt365.1 bt365.2.1 bt365.2.2).bind fun bt370 => ((laws_eqEvent.f k bt370.1 bt370.2.1 bt370.2.2.1 bt370.2.2.2.1 bt370.2.2.2.2.1 x337000 x337001 x337002 x337003 x337004).bind fun t379 => (if t379 = true then (laws_FnExactTakeEvent.j2 k bt362.1 (bt370.2.2.2.2.2 != x5) x352000 x352001 x352002 x352003 bt362.2) else (laws_FnExactTakeEvent.j2 k bt362.1 true x352000 x352001 x352002 x352003 bt362.2))))) else (some false)))))
def laws_FnExactTakeEvent.j2 : Nat → Int → Bool → Int → Int → Int → Int → List Int → Option (Bool)
 | 0, _, _, _, _, _, _, _ => none
 | k + 1, x10, x87, x352000, x352001, x352002, x352003, x352004 => if x87 = true then (some false) else ((laws_heldEvent.f k x352000 x352001 x352002 x352003 x352004 1).bind fun t380 => (if t380 < 0 then (some false) else (if t380 = x10 then (some true) else (some false))))
end
def laws_FnExactTakeEvent.f (k : Nat) (a0_0 : Int) (a0_1 : Int) (l0_2 : List Int) : Option (Bool) := (laws_szFrame.f a0_0 a0_1 l0_2 1048576).bind fun t322 => (if t322 < 0 then (some true) else ((laws_toFrame.f k a0_0 a0_1 l0_2).bind fun bt323 => ((spec_TakeEvent.f k bt323.1 bt323.2.1 bt323.2.2).bind fun bt328 => ((laws_toFrame.f k a0_0 a0_1 l0_2).bind fun bt337 => ((impl_TakeEvent.f k bt337.1 bt337.2.1 bt337.2.2).bind fun bt343 => ((laws_eqEvent.f k bt343.1 bt343.2.1 bt343.2.2.1 bt343.2.2.2.1 bt343.2.2.2.2.1 bt328.1 bt328.2.1 bt328.2.2.1 bt328.2.2.2.1 bt328.2.2.2.2.1).bind fun t352 => (if t352 = true then (laws_FnExactTakeEvent.j0 k bt328.2.2.2.2.2 bt343.2.2.2.2.2 (bt343.2.2.2.2.2 != bt328.2.2.2.2.2) a0_0 a0_1 l0_2 bt328.1 bt328.2.1 bt328.2.2.1 bt328.2.2.2.1 bt328.2.2.2.2.1 bt337.1 bt337.2.1 bt337.2.2 bt343.1 bt343.2.1 bt343.2.2.1 bt343.2.2.2.1 bt343.2.2.2.2.1) else (laws_FnExactTakeEvent.j0 k bt328.2.2.2.2.2 bt343.2.2.2.2.2 true a0_0 a0_1 l0_2 bt328.1 bt328.2.1 bt328.2.2.1 bt328.2.2.2.1 bt328.2.2.2.2.1 bt337.1 bt337.2.1 bt337.2.2 bt343.1 bt343.2.1 bt343.2.2.1 bt343.2.2.2.1 bt343.2.2.2.2.1))))))))
theorem laws_FnExactTakeEvent.mono_l : ∀ k, (∀ y0 y1 y2 y3 y4 y5 y6 y7 y8 y9 y10 y11 y12 y13 y14 y15 y16 y17 y18, LeO (laws_FnExactTakeEvent.j0 k y0 y1 y2 y3 y4 y5 y6 y7 y8 y9 y10 y11 y12 y13 y14 y15 y16 y17 y18) (laws_FnExactTakeEvent.j0 (k + 1) y0 y1 y2 y3 y4 y5 y6 y7 y8 y9 y10 y11 y12 y13 y14 y15 y16 y17 y18)) ∧ (∀ y0 y1 y2 y3 y4 y5 y6 y7 y8 y9 y10 y11 y12 y13 y14, LeO (laws_FnExactTakeEvent.j1 k y0 y1 y2 y3 y4 y5 y6 y7 y8 y9 y10 y11 y12 y13 y14) (laws_FnExactTakeEvent.j1 (k + 1) y0 y1 y2 y3 y4 y5 y6 y7 y8 y9 y10 y11 y12 y13 y14)) ∧ (∀ y0 y1 y2 y3 y4 y5 y6, LeO (laws_FnExactTakeEvent.j2 k y0 y1 y2 y3 y4 y5 y6) (laws_FnExactTakeEvent.j2 (k + 1) y0 y1 y2 y3 y4 y5 y6))
 | 0 => ⟨fun _ _ _ _ _ _ _ _ _ _ _ _ _ _ _ _ _ _ _ r h => by simp [laws_FnExactTakeEvent.j0] at h, fun _ _ _ _ _ _ _ _ _ _ _ _ _ _ _ r h => by simp [laws_FnExactTakeEvent.j1] at h, fun _ _ _ _ _ _ _ r h => by simp [laws_FnExactTakeEvent.j2] at h⟩
 | k + 1 => by
  obtain ⟨ih0, ih1, ih2⟩ := laws_FnExactTakeEvent.mono_l k
  refine ⟨?_, ?_, ?_⟩
  ·intro y0 y1 y2 y3 y4 y5 y6 y7 y8 y9 y10 y11 y12 y13 y14 y15 y16 y17 y18
   unfold laws_FnExactTakeEvent.j0
   repeat' first
   | (with_reducible exact ih0 _ _ _ _ _ _ _ _ _ _ _ _ _ _ _ _ _ _ _)
   | (with_reducible exact ih1 _ _ _ _ _ _ _ _ _ _ _ _ _ _ _)
   | (with_reducible exact ih2 _ _ _ _ _ _ _)
   | (with_reducible exact impl_TakeEvent.mono _ _ _ _)
   | (with_reducible exact laws_eqEvent.mono _ _ _ _ _ _ _ _ _ _ _)
   | (with_reducible exact laws_eqFrame.mono _ _ _ _ _ _ _)
   | (with_reducible exact laws_heldEvent.mono _ _ _ _ _ _ _)
   | (with_reducible exact laws_markEvent.mono _ _ _ _ _ _ _)
   | (with_reducible exact laws_markFrame.mono _ _ _ _ _)
   | (with_reducible exact laws_toFrame.mono _ _ _ _)
   | (with_reducible exact spec_TakeEvent.mono _ _ _ _)
   | (with_reducible exact LeO.refl _)
   | (with_reducible exact LeO.none _)
   | (with_reducible refine LeO.ite ?_ ?_)
   | (with_reducible refine LeO.bind ?_ (fun _ => ?_))
   | exact ih0 _ _ _ _ _ _ _ _ _ _ _ _ _ _ _ _ _ _ _
   | exact ih1 _ _ _ _ _ _ _ _ _ _ _ _ _ _ _
   | exact ih2 _ _ _ _ _ _ _
   | exact impl_TakeEvent.mono _ _ _ _
   | exact laws_eqEvent.mono _ _ _ _ _ _ _ _ _ _ _
   | exact laws_eqFrame.mono _ _ _ _ _ _ _
   | exact laws_heldEvent.mono _ _ _ _ _ _ _
   | exact laws_markEvent.mono _ _ _ _ _ _ _
   | exact laws_markFrame.mono _ _ _ _ _
   | exact laws_toFrame.mono _ _ _ _
   | exact spec_TakeEvent.mono _ _ _ _
   | exact LeO.none _
   | refine LeO.ite ?_ ?_
   | refine LeO.bind ?_ (fun _ => ?_)
  ·intro y0 y1 y2 y3 y4 y5 y6 y7 y8 y9 y10 y11 y12 y13 y14
   unfold laws_FnExactTakeEvent.j1
   repeat' first
   | (with_reducible exact ih0 _ _ _ _ _ _ _ _ _ _ _ _ _ _ _ _ _ _ _)
   | (with_reducible exact ih1 _ _ _ _ _ _ _ _ _ _ _ _ _ _ _)
   | (with_reducible exact ih2 _ _ _ _ _ _ _)
   | (with_reducible exact impl_TakeEvent.mono _ _ _ _)
   | (with_reducible exact laws_eqEvent.mono _ _ _ _ _ _ _ _ _ _ _)
   | (with_reducible exact laws_eqFrame.mono _ _ _ _ _ _ _)
   | (with_reducible exact laws_heldEvent.mono _ _ _ _ _ _ _)
   | (with_reducible exact laws_markEvent.mono _ _ _ _ _ _ _)
   | (with_reducible exact laws_markFrame.mono _ _ _ _ _)
   | (with_reducible exact laws_toFrame.mono _ _ _ _)
   | (with_reducible exact spec_TakeEvent.mono _ _ _ _)
   | (with_reducible exact LeO.refl _)
   | (with_reducible exact LeO.none _)
   | (with_reducible refine LeO.ite ?_ ?_)
   | (with_reducible refine LeO.bind ?_ (fun _ => ?_))
   | exact ih0 _ _ _ _ _ _ _ _ _ _ _ _ _ _ _ _ _ _ _
   | exact ih1 _ _ _ _ _ _ _ _ _ _ _ _ _ _ _
   | exact ih2 _ _ _ _ _ _ _
   | exact impl_TakeEvent.mono _ _ _ _
   | exact laws_eqEvent.mono _ _ _ _ _ _ _ _ _ _ _
   | exact laws_eqFrame.mono _ _ _ _ _ _ _
   | exact laws_heldEvent.mono _ _ _ _ _ _ _
   | exact laws_markEvent.mono _ _ _ _ _ _ _
   | exact laws_markFrame.mono _ _ _ _ _
   | exact laws_toFrame.mono _ _ _ _
   | exact spec_TakeEvent.mono _ _ _ _
   | exact LeO.none _
   | refine LeO.ite ?_ ?_
   | refine LeO.bind ?_ (fun _ => ?_)
  ·intro y0 y1 y2 y3 y4 y5 y6
   unfold laws_FnExactTakeEvent.j2
   repeat' first
   | (with_reducible exact ih0 _ _ _ _ _ _ _ _ _ _ _ _ _ _ _ _ _ _ _)
   | (with_reducible exact ih1 _ _ _ _ _ _ _ _ _ _ _ _ _ _ _)
   | (with_reducible exact ih2 _ _ _ _ _ _ _)
   | (with_reducible exact impl_TakeEvent.mono _ _ _ _)
   | (with_reducible exact laws_eqEvent.mono _ _ _ _ _ _ _ _ _ _ _)
   | (with_reducible exact laws_eqFrame.mono _ _ _ _ _ _ _)
   | (with_reducible exact laws_heldEvent.mono _ _ _ _ _ _ _)
   | (with_reducible exact laws_markEvent.mono _ _ _ _ _ _ _)
   | (with_reducible exact laws_markFrame.mono _ _ _ _ _)
   | (with_reducible exact laws_toFrame.mono _ _ _ _)
   | (with_reducible exact spec_TakeEvent.mono _ _ _ _)
   | (with_reducible exact LeO.refl _)
   | (with_reducible exact LeO.none _)
   | (with_reducible refine LeO.ite ?_ ?_)
   | (with_reducible refine LeO.bind ?_ (fun _ => ?_))
   | exact ih0 _ _ _ _ _ _ _ _ _ _ _ _ _ _ _ _ _ _ _
   | exact ih1 _ _ _ _ _ _ _ _ _ _ _ _ _ _ _
   | exact ih2 _ _ _ _ _ _ _
   | exact impl_TakeEvent.mono _ _ _ _
   | exact laws_eqEvent.mono _ _ _ _ _ _ _ _ _ _ _
   | exact laws_eqFrame.mono _ _ _ _ _ _ _
   | exact laws_heldEvent.mono _ _ _ _ _ _ _
   | exact laws_markEvent.mono _ _ _ _ _ _ _
   | exact laws_markFrame.mono _ _ _ _ _
   | exact laws_toFrame.mono _ _ _ _
   | exact spec_TakeEvent.mono _ _ _ _
   | exact LeO.none _
   | refine LeO.ite ?_ ?_
   | refine LeO.bind ?_ (fun _ => ?_)
theorem laws_FnExactTakeEvent.mono : ∀ a0 a1 a2 k, LeO (laws_FnExactTakeEvent.f k a0 a1 a2) (laws_FnExactTakeEvent.f (k + 1) a0 a1 a2) := by
 intro a0 a1 a2 k
 obtain ⟨ih0, ih1, ih2⟩ := laws_FnExactTakeEvent.mono_l k
 unfold laws_FnExactTakeEvent.f
 repeat' first
   | (with_reducible exact ih0 _ _ _ _ _ _ _ _ _ _ _ _ _ _ _ _ _ _ _)
   | (with_reducible exact ih1 _ _ _ _ _ _ _ _ _ _ _ _ _ _ _)
   | (with_reducible exact ih2 _ _ _ _ _ _ _)
   | (with_reducible exact impl_TakeEvent.mono _ _ _ _)
   | (with_reducible exact laws_eqEvent.mono _ _ _ _ _ _ _ _ _ _ _)
   | (with_reducible exact laws_eqFrame.mono _ _ _ _ _ _ _)
   | (with_reducible exact laws_heldEvent.mono _ _ _ _ _ _ _)
   | (with_reducible exact laws_markEvent.mono _ _ _ _ _ _ _)
   | (with_reducible exact laws_markFrame.mono _ _ _ _ _)
   | (with_reducible exact laws_toFrame.mono _ _ _ _)
   | (with_reducible exact spec_TakeEvent.mono _ _ _ _)
   | (with_reducible exact LeO.refl _)
   | (with_reducible exact LeO.none _)
   | (with_reducible refine LeO.ite ?_ ?_)
   | (with_reducible refine LeO.bind ?_ (fun _ => ?_))
   | exact ih0 _ _ _ _ _ _ _ _ _ _ _ _ _ _ _ _ _ _ _
   | exact ih1 _ _ _ _ _ _ _ _ _ _ _ _ _ _ _
   | exact ih2 _ _ _ _ _ _ _
   | exact impl_TakeEvent.mono _ _ _ _
   | exact laws_eqEvent.mono _ _ _ _ _ _ _ _ _ _ _
   | exact laws_eqFrame.mono _ _ _ _ _ _ _
   | exact laws_heldEvent.mono _ _ _ _ _ _ _
   | exact laws_markEvent.mono _ _ _ _ _ _ _
   | exact laws_markFrame.mono _ _ _ _ _
   | exact laws_toFrame.mono _ _ _ _
   | exact spec_TakeEvent.mono _ _ _ _
   | exact LeO.none _
   | refine LeO.ite ?_ ?_
   | refine LeO.bind ?_ (fun _ => ?_)
set_option maxHeartbeats 8000000 in
set_option maxRecDepth 100000 in
theorem laws_FnExactTakeEvent.calls (k : Nat) (a0_0 : Int) (a0_1 : Int) (A0_2 : Option Addr) (c0_2 : Nat) (l0_2 : List Int) (r : Bool) (w : World) (hr0_2 : Kd.C (Kd.int .u8) w A0_2 l0_2.length l0_2) (hc0_2 : l0_2.length ≤ c0_2) (HT_ : Aside0 (r = true)) (h : laws_FnExactTakeEvent.f k a0_0 a0_1 l0_2 = some r) :
  Calls Try.prog 9 #[.agg #[.int .i64 a0_0, .int .i64 a0_1, .slice A0_2 l0_2.length c0_2]] w fun e w' => e = .returned (.bool r) ∧ Below w.heap.size w w' := by
 have hu58 := Try.underlying58
 have hu44 := Try.underlying44
 have hu62 := Try.underlying62
 have HR0_2 := Aside0.mk hr0_2
 have HC0_2 := Aside0.mk hc0_2
 clear hr0_2 hc0_2
 have HB := Aside0.mk (Below.refl w.heap.size w)
 have H : ((laws_szFrame.f a0_0 a0_1 l0_2 1048576).bind fun t322 => (if t322 < 0 then (some true) else ((laws_toFrame.f k a0_0 a0_1 l0_2).bind fun bt323 => ((spec_TakeEvent.f k bt323.1 bt323.2.1 bt323.2.2).bind fun bt328 => ((laws_toFrame.f k a0_0 a0_1 l0_2).bind fun bt337 => ((impl_TakeEvent.f k bt337.1 bt337.2.1 bt337.2.2).bind fun bt343 => ((laws_eqEvent.f k bt343.1 bt343.2.1 bt343.2.2.1 bt343.2.2.2.1 bt343.2.2.2.2.1 bt328.1 bt328.2.1 bt328.2.2.1 bt328.2.2.2.1 bt328.2.2.2.2.1).bind fun t352 => (if t352 = true then (laws_FnExactTakeEvent.j0 k bt328.2.2.2.2.2 bt343.2.2.2.2.2 (bt343.2.2.2.2.2 != bt328.2.2.2.2.2) a0_0 a0_1 l0_2 bt328.1 bt328.2.1 bt328.2.2.1 bt328.2.2.2.1 bt328.2.2.2.2.1 bt337.1 bt337.2.1 bt337.2.2 bt343.1 bt343.2.1 bt343.2.2.1 bt343.2.2.2.1 bt343.2.2.2.2.1) else (laws_FnExactTakeEvent.j0 k bt328.2.2.2.2.2 bt343.2.2.2.2.2 true a0_0 a0_1 l0_2 bt328.1 bt328.2.1 bt328.2.2.1 bt328.2.2.2.1 bt328.2.2.2.2.1 bt337.1 bt337.2.1 bt337.2.2 bt343.1 bt343.2.1 bt343.2.2.1 bt343.2.2.2.1 bt343.2.2.2.2.1))))))))) = some r := h
 clear h
 replace H := Option.bind_eq_some_iff.mp H
 obtain ⟨t322, A20, H⟩ := H
 replace H : (if t322 < 0 then (some true) else ((laws_toFrame.f k a0_0 a0_1 l0_2).bind fun bt323 => ((spec_TakeEvent.f k bt323.1 bt323.2.1 bt323.2.2).bind fun bt328 => ((laws_toFrame.f k a0_0 a0_1 l0_2).bind fun bt337 => ((impl_TakeEvent.f k bt337.1 bt337.2.1 bt337.2.2).bind fun bt343 => ((laws_eqEvent.f k bt343.1 bt343.2.1 bt343.2.2.1 bt343.2.2.2.1 bt343.2.2.2.2.1 bt328.1 bt328.2.1 bt328.2.2.1 bt328.2.2.2.1 bt328.2.2.2.2.1).bind fun t352 => (if t352 = true then (laws_FnExactTakeEvent.j0 k bt328.2.2.2.2.2 bt343.2.2.2.2.2 (bt343.2.2.2.2.2 != bt328.2.2.2.2.2) a0_0 a0_1 l0_2 bt328.1 bt328.2.1 bt328.2.2.1 bt328.2.2.2.1 bt328.2.2.2.2.1 bt337.1 bt337.2.1 bt337.2.2 bt343.1 bt343.2.1 bt343.2.2.1 bt343.2.2.2.1 bt343.2.2.2.2.1) else (laws_FnExactTakeEvent.j0 k bt328.2.2.2.2.2 bt343.2.2.2.2.2 true a0_0 a0_1 l0_2 bt328.1 bt328.2.1 bt328.2.2.1 bt328.2.2.2.1 bt328.2.2.2.2.1 bt337.1 bt337.2.1 bt337.2.2 bt343.1 bt343.2.1 bt343.2.2.1 bt343.2.2.2.1 bt343.2.2.2.2.1)))))))) = some r := H
 have A2 := Aside0.mk A20
 clear A20
 by_cases c3 : t322 < 0
 ·rw [if_pos c3] at H
  have c3b0 : decide (t322 < 0) = true := decide_eq_true c3
  clear c3
  obtain rfl := Option.some.inj H
  go_enter Try.func9, Try.ntmps9
  go_wp2_with (first | ((with_reducible refine gate_dst (N := 1) rfl ?_); refine box_event ?hg (N := 1) ?hd (cs := #[.int .i64 a0_0, .int .i64 a0_1, .slice A0_2 l0_2.length c0_2]) (t := 58) ?hr ?_; (case hd => rfl); (case hg => rfl); (case hr => first | (go_simp; done) | (go_simp; rfl)); intro gb321 hg w4 hbox hb; have n0_ := Aside0.mk (below_step zH hb); have n1_ := Aside0.mk (hbox); have n2_ := Aside0.mk ((by rw [hg]; exact (below_size zH) : w.heap.size ≤ gb321)); have n3_ := Aside0.mk ((by rw [hg]; exact (below_size zH) : w.heap.size ≤ gb321)); clear HB; have HB := n0_; have BK321 := n1_; have GW321 := n2_; have GE321 := n3_; clear n0_ n1_ n2_ n3_; clear hb hbox hg; obtain ⟨hcz5_0, hcz5_1, hcz5_2⟩ := zc3 BK321.out; obtain ⟨hfz5_0, hfz5_1, hfz5_2, _, _⟩ := zf BK321.out) | ((with_reducible refine gate_callee (f := 43) rfl ?_); refine goesL_ (some 16) rfl rfl Try.func43 (by kernel_rfl) rfl #[.agg #[.int .i64 a0_0, .int .i64 a0_1, .slice A0_2 l0_2.length c0_2], .int .i64 1048576] rfl zM ?_; (with_reducible refine (laws_szFrame.calls a0_0 a0_1 _ _ l0_2 1048576 t322 _ ?side1 ?side2 A2.out).mono ?_); (case side1 => exact zC (Kd.C_below HR0_2.out HB.out)); (case side2 => exact HC0_2.out); rintro e w6 ⟨rfl, hb⟩; refine ⟨_, rfl, ?_⟩; have n0_ := Aside0.mk (blk_below (g := gb321) (o := .cells #[.int .i64 a0_0, .int .i64 a0_1, .slice A0_2 l0_2.length c0_2] 58 (0, 0)) (zB BK321.out) hb); have n1_ := Aside0.mk (below_step zH hb); clear BK321; clear HB; have BK321 := n0_; have HB := n1_; clear n0_ n1_; (try clear hb); (try clear hb2); (try clear hk); (try clear hi)))
  go_ret
  exact ⟨zE, zH⟩
 ·rw [if_neg c3] at H
  have c3b0 : decide (t322 < 0) = false := decide_eq_false c3
  clear c3
  replace H := Option.bind_eq_some_iff.mp H
  obtain ⟨⟨t323, t324, t325⟩, A70, H⟩ := H
  replace H : ((spec_TakeEvent.f k t323 t324 t325).bind fun bt328 => ((laws_toFrame.f k a0_0 a0_1 l0_2).bind fun bt337 => ((impl_TakeEvent.f k bt337.1 bt337.2.1 bt337.2.2).bind fun bt343 => ((laws_eqEvent.f k bt343.1 bt343.2.1 bt343.2.2.1 bt343.2.2.2.1 bt343.2.2.2.2.1 bt328.1 bt328.2.1 bt328.2.2.1 bt328.2.2.2.1 bt328.2.2.2.2.1).bind fun t352 => (if t352 = true then (laws_FnExactTakeEvent.j0 k bt328.2.2.2.2.2 bt343.2.2.2.2.2 (bt343.2.2.2.2.2 != bt328.2.2.2.2.2) a0_0 a0_1 l0_2 bt328.1 bt328.2.1 bt328.2.2.1 bt328.2.2.2.1 bt328.2.2.2.2.1 bt337.1 bt337.2.1 bt337.2.2 bt343.1 bt343.2.1 bt343.2.2.1 bt343.2.2.2.1 bt343.2.2.2.2.1) else (laws_FnExactTakeEvent.j0 k bt328.2.2.2.2.2 bt343.2.2.2.2.2 true a0_0 a0_1 l0_2 bt328.1 bt328.2.1 bt328.2.2.1 bt328.2.2.2.1 bt328.2.2.2.2.1 bt337.1 bt337.2.1 bt337.2.2 bt343.1 bt343.2.1 bt343.2.2.1 bt343.2.2.2.1 bt343.2.2.2.2.1)))))) = some r := H
  have A7 := Aside0.mk A70
  clear A70
  replace H := Option.bind_eq_some_iff.mp H
  obtain ⟨⟨t328, t329, t330, t331, t332, t335⟩, A80, H⟩ := H
  replace H : ((laws_toFrame.f k a0_0 a0_1 l0_2).bind fun bt337 => ((impl_TakeEvent.f k bt337.1 bt337.2.1 bt337.2.2).bind fun bt343 => ((laws_eqEvent.f k bt343.1 bt343.2.1 bt343.2.2.1 bt343.2.2.2.1 bt343.2.2.2.2.1 t328 t329 t330 t331 t332).bind fun t352 => (if t352 = true then (laws_FnExactTakeEvent.j0 k t335 bt343.2.2.2.2.2 (bt343.2.2.2.2.2 != t335) a0_0 a0_1 l0_2 t328 t329 t330 t331 t332 bt337.1 bt337.2.1 bt337.2.2 bt343.1 bt343.2.1 bt343.2.2.1 bt343.2.2.2.1 bt343.2.2.2.2.1) else (laws_FnExactTakeEvent.j0 k t335 bt343.2.2.2.2.2 true a0_0 a0_1 l0_2 t328 t329 t330 t331 t332 bt337.1 bt337.2.1 bt337.2.2 bt343.1 bt343.2.1 bt343.2.2.1 bt343.2.2.2.1 bt343.2.2.2.2.1))))) = some r := H
  have A8 := Aside0.mk A80
  clear A80
  replace H := Option.bind_eq_some_iff.mp H
  obtain ⟨⟨t337, t338, t339⟩, A90, H⟩ := H
  replace H : ((impl_TakeEvent.f k t337 t338 t339).bind fun bt343 => ((laws_eqEvent.f k bt343.1 bt343.2.1 bt343.2.2.1 bt343.2.2.2.1 bt343.2.2.2.2.1 t328 t329 t330 t331 t332).bind fun t352 => (if t352 = true then (laws_FnExactTakeEvent.j0 k t335 bt343.2.2.2.2.2 (bt343.2.2.2.2.2 != t335) a0_0 a0_1 l0_2 t328 t329 t330 t331 t332 t337 t338 t339 bt343.1 bt343.2.1 bt343.2.2.1 bt343.2.2.2.1 bt343.2.2.2.2.1) else (laws_FnExactTakeEvent.j0 k t335 bt343.2.2.2.2.2 true a0_0 a0_1 l0_2 t328 t329 t330 t331 t332 t337 t338 t339 bt343.1 bt343.2.1 bt343.2.2.1 bt343.2.2.2.1 bt343.2.2.2.2.1)))) = some r := H
  have A9 := Aside0.mk A90
  clear A90
  replace H := Option.bind_eq_some_iff.mp H
  obtain ⟨⟨t343, t344, t345, t346, t347, t350⟩, A100, H⟩ := H
  replace H : ((laws_eqEvent.f k t343 t344 t345 t346 t347 t328 t329 t330 t331 t332).bind fun t352 => (if t352 = true then (laws_FnExactTakeEvent.j0 k t335 t350 (t350 != t335) a0_0 a0_1 l0_2 t328 t329 t330 t331 t332 t337 t338 t339 t343 t344 t345 t346 t347) else (laws_FnExactTakeEvent.j0 k t335 t350 true a0_0 a0_1 l0_2 t328 t329 t330 t331 t332 t337 t338 t339 t343 t344 t345 t346 t347))) = some r := H
  have A10 := Aside0.mk A100
  clear A100
  have HC11 := Aside0.mk H
  clear H
  go_enter Try.func9, Try.ntmps9
  go_upto_region 8 with (first | ((with_reducible refine gate_dst (N := 1) rfl ?_); refine box_event ?hg (N := 1) ?hd (cs := #[.int .i64 a0_0, .int .i64 a0_1, .slice A0_2 l0_2.length c0_2]) (t := 58) ?hr ?_; (case hd => rfl); (case hg => rfl); (case hr => first | (go_simp; done) | (go_simp; rfl)); intro gb321 hg w12 hbox hb; have n0_ := Aside0.mk (below_step zH hb); have n1_ := Aside0.mk (hbox); have n2_ := Aside0.mk ((by rw [hg]; exact (below_size zH) : w.heap.size ≤ gb321)); have n3_ := Aside0.mk ((by rw [hg]; exact (below_size zH) : w.heap.size ≤ gb321)); clear HB; have HB := n0_; have BK321 := n1_; have GW321 := n2_; have GE321 := n3_; clear n0_ n1_ n2_ n3_; clear hb hbox hg; obtain ⟨hcz13_0, hcz13_1, hcz13_2⟩ := zc3 BK321.out; obtain ⟨hfz13_0, hfz13_1, hfz13_2, _, _⟩ := zf BK321.out) | ((with_reducible refine gate_callee (f := 43) rfl ?_); refine goesL_ (some 16) rfl rfl Try.func43 (by kernel_rfl) rfl #[.agg #[.int .i64 a0_0, .int .i64 a0_1, .slice A0_2 l0_2.length c0_2], .int .i64 1048576] rfl zM ?_; (with_reducible refine (laws_szFrame.calls a0_0 a0_1 _ _ l0_2 1048576 t322 _ ?side1 ?side2 A2.out).mono ?_); (case side1 => exact zC (Kd.C_below HR0_2.out HB.out)); (case side2 => exact HC0_2.out); rintro e w14 ⟨rfl, hb⟩; refine ⟨_, rfl, ?_⟩; have n0_ := Aside0.mk (blk_below (g := gb321) (o := .cells #[.int .i64 a0_0, .int .i64 a0_1, .slice A0_2 l0_2.length c0_2] 58 (0, 0)) (zB BK321.out) hb); have n1_ := Aside0.mk (below_step zH hb); clear BK321; clear HB; have BK321 := n0_; have HB := n1_; clear n0_ n1_; (try clear hb); (try clear hb2); (try clear hk); (try clear hi); obtain ⟨hcz15_0, hcz15_1, hcz15_2⟩ := zc3 BK321.out; obtain ⟨hfz15_0, hfz15_1, hfz15_2, _, _⟩ := zf BK321.out) | ((with_reducible refine gate_callee (f := 45) rfl ?_); refine goesL_ (some 21) rfl rfl Try.func45 (by kernel_rfl) rfl #[.agg #[.int .i64 a0_0, .int .i64 a0_1, .slice A0_2 l0_2.length c0_2]] rfl zM ?_; (with_reducible refine (laws_toFrame.calls k a0_0 a0_1 _ _ l0_2 t323 t324 t325 _ ?side1 ?side2 A7.out).mono ?_); (case side1 => exact zC (Kd.C_below HR0_2.out HB.out)); (case side2 => exact HC0_2.out); rintro e w16 ⟨v326, rfl, ho0, hb⟩; refine ⟨_, rfl, ?_⟩; have n0_ := Aside0.mk (Kd.R_lower ho0 (below_size zH)); have n1_ := Aside0.mk (blk_below (g := gb321) (o := .cells #[.int .i64 a0_0, .int .i64 a0_1, .slice A0_2 l0_2.length c0_2] 58 (0, 0)) (zB BK321.out) hb); have n2_ := Aside0.mk (below_step zH hb); clear BK321; clear HB; have HO327 := n0_; have BK321 := n1_; have HB := n2_; clear n0_ n1_ n2_; (try clear hb); (try clear hb2); (try clear hk); (try clear hi); (try clear ho0); obtain ⟨Ao17, co17, eo17⟩ := Kd.R_slice HO327.out; subst eo17) | ((with_reducible refine gate_callee (f := 44) rfl ?_); refine goesL_ (some 22) rfl rfl Try.func44 (by kernel_rfl) rfl #[.agg #[.int .i64 t323, .int .i64 t324, .slice Ao17 t325.length co17]] rfl zM ?_; (with_reducible refine (spec_TakeEvent.calls k t323 t324 _ _ t325 t328 t329 t330 t331 t332 t335 _ ?side1 ?side2 A8.out).mono ?_); (case side1 => exact zC ((Kd.R_reads' HO327.out).2.2)); (case side2 => exact (Kd.R_reads' HO327.out).2.1); rintro e w18 ⟨v333, rfl, ho0, hb⟩; refine ⟨_, rfl, ?_⟩; have n0_ := Aside0.mk (Kd.R_elder' (zR HO327.out) (Kd.R_base ho0) hb); have n1_ := Aside0.mk (Kd.R_lower (Kd.R_new' ho0 (Kd.R_lt (zR HO327.out))) (below_size zH)); have n2_ := Aside0.mk (blk_below (g := gb321) (o := .cells #[.int .i64 a0_0, .int .i64 a0_1, .slice A0_2 l0_2.length c0_2] 58 (0, 0)) (zB BK321.out) hb); have n3_ := Aside0.mk (below_step zH hb); clear HO327; clear BK321; clear HB; have HO327 := n0_; have HO334 := n1_; have BK321 := n2_; have HB := n3_; clear n0_ n1_ n2_ n3_; (try clear hb); (try clear hb2); (try clear hk); (try clear hi); (try clear ho0)) | ((with_reducible refine gate_dst (N := 4) rfl ?_); refine box_event ?hg (N := 4) ?hd (cs := #[.int .i64 0, .int .i64 0, .int .i64 0, .int .i64 0, .slice none 0 0]) (t := 44) ?hr ?_; (case hd => rfl); (case hg => rfl); (case hr => first | (go_simp; done) | (go_simp; rfl)); intro gb336 hg w19 hbox hb; have n0_ := Aside0.mk (Kd.R_below (zR HO327.out) hb); have n1_ := Aside0.mk (Kd.R_below (zR HO334.out) hb); have n2_ := Aside0.mk (blk_below (g := gb321) (o := .cells #[.int .i64 a0_0, .int .i64 a0_1, .slice A0_2 l0_2.length c0_2] 58 (0, 0)) (zB BK321.out) hb); have n3_ := Aside0.mk (below_step zH hb); have n4_ := Aside0.mk (hbox); have n5_ := Aside0.mk ((by rw [hg]; exact (below_size zH) : w.heap.size ≤ gb336)); have n6_ := Aside0.mk ((by rw [hg]; exact (below_size zH) : w.heap.size ≤ gb336)); have n7_ := Aside0.mk ((by rw [hg]; exact Nat.ne_of_lt (blk_lt (g := gb321) (o := .cells #[.int .i64 a0_0, .int .i64 a0_1, .slice A0_2 l0_2.length c0_2] 58 (0, 0)) (zB BK321.out)) : gb321 ≠ gb336)); have n8_ := Aside0.mk ((by rw [hg]; exact Nat.ne_of_gt (blk_lt (g := gb321) (o := .cells #[.int .i64 a0_0, .int .i64 a0_1, .slice A0_2 l0_2.length c0_2] 58 (0, 0)) (zB BK321.out)) : gb336 ≠ gb321)); clear HO327; clear HO334; clear BK321; clear HB; have HO327 := n0_; have HO334 := n1_; have BK321 := n2_; have HB := n3_; have BK336 := n4_; have GW336 := n5_; have GE336 := n6_; have NB321_336 := n7_; have NB336_321 := n8_; clear n0_ n1_ n2_ n3_ n4_ n5_ n6_ n7_ n8_; clear hb hbox hg; have hnb20 := NB336_321.out; have hnc20 := NB321_336.out; obtain ⟨hcz21_0, hcz21_1, hcz21_2, hcz21_3, hcz21_4⟩ := zc5 BK336.out; obtain ⟨hfz21_0, hfz21_1, hfz21_2, hfz21_3, hfz21_4⟩ := zf BK336.out; obtain ⟨Ao22, co22, eo22⟩ := Kd.R_slice HO334.out; subst eo22; obtain ⟨hcz23_0, hcz23_1, hcz23_2⟩ := zc3 BK321.out; obtain ⟨hfz23_0, hfz23_1, hfz23_2, _, _⟩ := zf BK321.out) | ((with_reducible refine gate_callee (f := 45) rfl ?_); refine goesL_ (some 26) rfl rfl Try.func45 (by kernel_rfl) rfl #[.agg #[.int .i64 a0_0, .int .i64 a0_1, .slice A0_2 l0_2.length c0_2]] rfl zM ?_; (with_reducible refine (laws_toFrame.calls k a0_0 a0_1 _ _ l0_2 t337 t338 t339 _ ?side1 ?side2 A9.out).mono ?_); (case side1 => exact Kd.C_below HR0_2.out zH); (case side2 => exact HC0_2.out); rintro e w24 ⟨v340, rfl, ho0, hb⟩; refine ⟨_, rfl, ?_⟩; have n0_ := Aside0.mk (Kd.R_elder' (by (with_reducible repeat (first | apply Kd.R_alloc | apply Kd.R_drewN | apply Kd.R_drew)); exact (Kd.R_mono (Kd.R_far (p := ⟨gb336, 4, none⟩) (Kd.R_far (p := ⟨gb336, 3, none⟩) (Kd.R_far (p := ⟨gb336, 2, none⟩) (Kd.R_far (p := ⟨gb336, 1, none⟩) (Kd.R_far (p := ⟨gb336, 0, none⟩) (Kd.R_types HO327.out BK336.out (by decide)) (fun _ hk => hk.2) (.int .i64 t328)) (fun _ hk => hk.2) (.int .i64 t329)) (fun _ hk => hk.2) (.int .i64 t330)) (fun _ hk => hk.2) (.int .i64 t331)) (fun _ hk => hk.2) (.slice Ao22 t332.length co22)) (fun _ h_ => h_.1))) (Kd.R_base ho0) hb); have n1_ := Aside0.mk (Kd.R_elder' (by (with_reducible repeat (first | apply Kd.R_alloc | apply Kd.R_drewN | apply Kd.R_drew)); exact (Kd.R_mono (Kd.R_far (p := ⟨gb336, 4, none⟩) (Kd.R_far (p := ⟨gb336, 3, none⟩) (Kd.R_far (p := ⟨gb336, 2, none⟩) (Kd.R_far (p := ⟨gb336, 1, none⟩) (Kd.R_far (p := ⟨gb336, 0, none⟩) (Kd.R_types HO334.out BK336.out (by decide)) (fun _ hk => hk.2) (.int .i64 t328)) (fun _ hk => hk.2) (.int .i64 t329)) (fun _ hk => hk.2) (.int .i64 t330)) (fun _ hk => hk.2) (.int .i64 t331)) (fun _ hk => hk.2) (.slice Ao22 t332.length co22)) (fun _ h_ => h_.1))) (Kd.R_base ho0) hb); have n2_ := Aside0.mk (Kd.R_lower (Kd.R_new' (Kd.R_new' ho0 (Kd.R_lt (by (with_reducible repeat (first | apply Kd.R_alloc | apply Kd.R_drewN | apply Kd.R_drew)); exact (Kd.R_mono (Kd.R_far (p := ⟨gb336, 4, none⟩) (Kd.R_far (p := ⟨gb336, 3, none⟩) (Kd.R_far (p := ⟨gb336, 2, none⟩) (Kd.R_far (p := ⟨gb336, 1, none⟩) (Kd.R_far (p := ⟨gb336, 0, none⟩) (Kd.R_types HO327.out BK336.out (by decide)) (fun _ hk => hk.2) (.int .i64 t328)) (fun _ hk => hk.2) (.int .i64 t329)) (fun _ hk => hk.2) (.int .i64 t330)) (fun _ hk => hk.2) (.int .i64 t331)) (fun _ hk => hk.2) (.slice Ao22 t332.length co22)) (fun _ h_ => h_.1))))) (Kd.R_lt (by (with_reducible repeat (first | apply Kd.R_alloc | apply Kd.R_drewN | apply Kd.R_drew)); exact (Kd.R_mono (Kd.R_far (p := ⟨gb336, 4, none⟩) (Kd.R_far (p := ⟨gb336, 3, none⟩) (Kd.R_far (p := ⟨gb336, 2, none⟩) (Kd.R_far (p := ⟨gb336, 1, none⟩) (Kd.R_far (p := ⟨gb336, 0, none⟩) (Kd.R_types HO334.out BK336.out (by decide)) (fun _ hk => hk.2) (.int .i64 t328)) (fun _ hk => hk.2) (.int .i64 t329)) (fun _ hk => hk.2) (.int .i64 t330)) (fun _ hk => hk.2) (.int .i64 t331)) (fun _ hk => hk.2) (.slice Ao22 t332.length co22)) (fun _ h_ => h_.1))))) (below_size zH)); have n3_ := Aside0.mk (blk_below (g := gb321) (o := .cells #[.int .i64 a0_0, .int .i64 a0_1, .slice A0_2 l0_2.length c0_2] 58 (0, 0)) (by (repeat refine zL ?_); refine blk_far ?_ NB321_336.out _; (repeat refine zL ?_); refine blk_far ?_ NB321_336.out _; (repeat refine zL ?_); refine blk_far ?_ NB321_336.out _; (repeat refine zL ?_); refine blk_far ?_ NB321_336.out _; (repeat refine zL ?_); refine blk_far ?_ NB321_336.out _; (repeat refine zL ?_); exact BK321.out) hb); have n4_ := Aside0.mk (blk_below (g := gb336) (o := .cells #[.int .i64 t328, .int .i64 t329, .int .i64 t330, .int .i64 t331, .slice Ao22 t332.length co22] 44 (0, 0)) (by (repeat refine zL ?_); refine blk_put (cs := #[.int .i64 t328, .int .i64 t329, .int .i64 t330, .int .i64 t331, .slice none 0 0]) ?_ 4 _ rfl; (repeat refine zL ?_); refine blk_put (cs := #[.int .i64 t328, .int .i64 t329, .int .i64 t330, .int .i64 0, .slice none 0 0]) ?_ 3 _ rfl; (repeat refine zL ?_); refine blk_put (cs := #[.int .i64 t328, .int .i64 t329, .int .i64 0, .int .i64 0, .slice none 0 0]) ?_ 2 _ rfl; (repeat refine zL ?_); refine blk_put (cs := #[.int .i64 t328, .int .i64 0, .int .i64 0, .int .i64 0, .slice none 0 0]) ?_ 1 _ rfl; (repeat refine zL ?_); refine blk_put (cs := #[.int .i64 0, .int .i64 0, .int .i64 0, .int .i64 0, .slice none 0 0]) ?_ 0 _ rfl; (repeat refine zL ?_); exact BK336.out) hb); have n5_ := Aside0.mk (below_step zH hb); clear HO327; clear HO334; clear BK321; clear BK336; clear HB; have HO327 := n0_; have HO334 := n1_; have HO341 := n2_; have BK321 := n3_; have BK336 := n4_; have HB := n5_; clear n0_ n1_ n2_ n3_ n4_ n5_; (try clear hb); (try clear hb2); (try clear hk); (try clear hi); (try clear ho0)) | ((with_reducible refine gate_dst (N := 6) rfl ?_); refine box_event ?hg (N := 6) ?hd (cs := #[.int .i64 0, .int .i64 0, .slice none 0 0]) (t := 62) ?hr ?_; (case hd => rfl); (case hg => rfl); (case hr => first | (go_simp; done) | (go_simp; rfl)); intro gb342 hg w25 hbox hb; have n0_ := Aside0.mk (Kd.R_below (zR HO327.out) hb); have n1_ := Aside0.mk (Kd.R_below (zR HO334.out) hb); have n2_ := Aside0.mk (Kd.R_below (zR HO341.out) hb); have n3_ := Aside0.mk (blk_below (g := gb321) (o := .cells #[.int .i64 a0_0, .int .i64 a0_1, .slice A0_2 l0_2.length c0_2] 58 (0, 0)) (zB BK321.out) hb); have n4_ := Aside0.mk (blk_below (g := gb336) (o := .cells #[.int .i64 t328, .int .i64 t329, .int .i64 t330, .int .i64 t331, .slice Ao22 t332.length co22] 44 (0, 0)) (zB BK336.out) hb); have n5_ := Aside0.mk (below_step zH hb); have n6_ := Aside0.mk (hbox); have n7_ := Aside0.mk ((by rw [hg]; exact (below_size zH) : w.heap.size ≤ gb342)); have n8_ := Aside0.mk ((by rw [hg]; exact (below_size zH) : w.heap.size ≤ gb342)); have n9_ := Aside0.mk ((by rw [hg]; exact Nat.ne_of_lt (blk_lt (g := gb321) (o := .cells #[.int .i64 a0_0, .int .i64 a0_1, .slice A0_2 l0_2.length c0_2] 58 (0, 0)) (zB BK321.out)) : gb321 ≠ gb342)); have n10_ := Aside0.mk ((by rw [hg]; exact Nat.ne_of_gt (blk_lt (g := gb321) (o := .cells #[.int .i64 a0_0, .int .i64 a0_1, .slice A0_2 l0_2.length c0_2] 58 (0, 0)) (zB BK321.out)) : gb342 ≠ gb321)); have n11_ := Aside0.mk ((by rw [hg]; exact Nat.ne_of_lt (blk_lt (g := gb336) (o := .cells #[.int .i64 t328, .int .i64 t329, .int .i64 t330, .int .i64 t331, .slice Ao22 t332.length co22] 44 (0, 0)) (zB BK336.out)) : gb336 ≠ gb342)); have n12_ := Aside0.mk ((by rw [hg]; exact Nat.ne_of_gt (blk_lt (g := gb336) (o := .cells #[.int .i64 t328, .int .i64 t329, .int .i64 t330, .int .i64 t331, .slice Ao22 t332.length co22] 44 (0, 0)) (zB BK336.out)) : gb342 ≠ gb336)); clear HO327; clear HO334; clear HO341; clear BK321; clear BK336; clear HB; have HO327 := n0_; have HO334 := n1_; have HO341 := n2_; have BK321 := n3_; have BK336 := n4_; have HB := n5_; have BK342 := n6_; have GW342 := n7_; have GE342 := n8_; have NB321_342 := n9_; have NB342_321 := n10_; have NB336_342 := n11_; have NB342_336 := n12_; clear n0_ n1_ n2_ n3_ n4_ n5_ n6_ n7_ n8_ n9_ n10_ n11_ n12_; clear hb hbox hg; have hnb26 := NB342_321.out; have hnc26 := NB321_342.out; have hnb27 := NB342_336.out; have hnc27 := NB336_342.out; obtain ⟨hcz28_0, hcz28_1, hcz28_2⟩ := zc3 BK342.out; obtain ⟨hfz28_0, hfz28_1, hfz28_2, _, _⟩ := zf BK342.out; obtain ⟨Ao29, co29, eo29⟩ := Kd.R_slice HO341.out; subst eo29) | ((with_reducible refine gate_callee (f := 46) rfl ?_); refine goesL_ (some 29) rfl rfl Try.func46 (by kernel_rfl) rfl #[.agg #[.int .i64 t337, .int .i64 t338, .slice Ao29 t339.length co29]] rfl zM ?_; (with_reducible refine (impl_TakeEvent.calls k t337 t338 _ _ t339 t343 t344 t345 t346 t347 t350 _ ?side1 ?side2 A10.out).mono ?_); (case side1 => refine (Kd.R_reads' (e := 5) (base := w.heap.size) (ok := fun k_ => ((True ∧ some k_ ≠ (.slice Ao17 t325.length co17 : Value).ownBlock) ∧ some k_ ≠ (.slice Ao22 t332.length co22 : Value).ownBlock)) (n := t339.length) (c := co29) ?_).2.2; exact (by (with_reducible repeat (first | apply Kd.R_alloc | apply Kd.R_drewN | apply Kd.R_drew)); exact (Kd.R_mono (Kd.R_far (p := ⟨gb342, 2, none⟩) (Kd.R_far (p := ⟨gb342, 1, none⟩) (Kd.R_far (p := ⟨gb342, 0, none⟩) (Kd.R_types HO341.out BK342.out (by decide)) (fun _ hk => hk.2) (.int .i64 t337)) (fun _ hk => hk.2) (.int .i64 t338)) (fun _ hk => hk.2) (.slice Ao29 t339.length co29)) (fun _ h_ => h_.1)))); (case side2 => exact (Kd.R_reads' HO341.out).2.1); rintro e w30 ⟨v348, rfl, ho0, hb⟩; refine ⟨_, rfl, ?_⟩; have n0_ := Aside0.mk (Kd.R_elder' (by (with_reducible repeat (first | apply Kd.R_alloc | apply Kd.R_drewN | apply Kd.R_drew)); exact (Kd.R_mono (Kd.R_far (p := ⟨gb342, 2, none⟩) (Kd.R_far (p := ⟨gb342, 1, none⟩) (Kd.R_far (p := ⟨gb342, 0, none⟩) (Kd.R_types HO327.out BK342.out (by decide)) (fun _ hk => hk.2) (.int .i64 t337)) (fun _ hk => hk.2) (.int .i64 t338)) (fun _ hk => hk.2) (.slice Ao29 t339.length co29)) (fun _ h_ => h_.1))) (Kd.R_base ho0) hb); have n1_ := Aside0.mk (Kd.R_elder' (by (with_reducible repeat (first | apply Kd.R_alloc | apply Kd.R_drewN | apply Kd.R_drew)); exact (Kd.R_mono (Kd.R_far (p := ⟨gb342, 2, none⟩) (Kd.R_far (p := ⟨gb342, 1, none⟩) (Kd.R_far (p := ⟨gb342, 0, none⟩) (Kd.R_types HO334.out BK342.out (by decide)) (fun _ hk => hk.2) (.int .i64 t337)) (fun _ hk => hk.2) (.int .i64 t338)) (fun _ hk => hk.2) (.slice Ao29 t339.length co29)) (fun _ h_ => h_.1))) (Kd.R_base ho0) hb); have n2_ := Aside0.mk (Kd.R_elder' (by (with_reducible repeat (first | apply Kd.R_alloc | apply Kd.R_drewN | apply Kd.R_drew)); exact (Kd.R_mono (Kd.R_far (p := ⟨gb342, 2, none⟩) (Kd.R_far (p := ⟨gb342, 1, none⟩) (Kd.R_far (p := ⟨gb342, 0, none⟩) (Kd.R_types HO341.out BK342.out (by decide)) (fun _ hk => hk.2) (.int .i64 t337)) (fun _ hk => hk.2) (.int .i64 t338)) (fun _ hk => hk.2) (.slice Ao29 t339.length co29)) (fun _ h_ => h_.1))) (Kd.R_base ho0) hb); have n3_ := Aside0.mk (Kd.R_lower (Kd.R_new' (Kd.R_new' (Kd.R_new' ho0 (Kd.R_lt (by (with_reducible repeat (first | apply Kd.R_alloc | apply Kd.R_drewN | apply Kd.R_drew)); exact (Kd.R_mono (Kd.R_far (p := ⟨gb342, 2, none⟩) (Kd.R_far (p := ⟨gb342, 1, none⟩) (Kd.R_far (p := ⟨gb342, 0, none⟩) (Kd.R_types HO327.out BK342.out (by decide)) (fun _ hk => hk.2) (.int .i64 t337)) (fun _ hk => hk.2) (.int .i64 t338)) (fun _ hk => hk.2) (.slice Ao29 t339.length co29)) (fun _ h_ => h_.1))))) (Kd.R_lt (by (with_reducible repeat (first | apply Kd.R_alloc | apply Kd.R_drewN | apply Kd.R_drew)); exact (Kd.R_mono (Kd.R_far (p := ⟨gb342, 2, none⟩) (Kd.R_far (p := ⟨gb342, 1, none⟩) (Kd.R_far (p := ⟨gb342, 0, none⟩) (Kd.R_types HO334.out BK342.out (by decide)) (fun _ hk => hk.2) (.int .i64 t337)) (fun _ hk => hk.2) (.int .i64 t338)) (fun _ hk => hk.2) (.slice Ao29 t339.length co29)) (fun _ h_ => h_.1))))) (Kd.R_lt (by (with_reducible repeat (first | apply Kd.R_alloc | apply Kd.R_drewN | apply Kd.R_drew)); exact (Kd.R_mono (Kd.R_far (p := ⟨gb342, 2, none⟩) (Kd.R_far (p := ⟨gb342, 1, none⟩) (Kd.R_far (p := ⟨gb342, 0, none⟩) (Kd.R_types HO341.out BK342.out (by decide)) (fun _ hk => hk.2) (.int .i64 t337)) (fun _ hk => hk.2) (.int .i64 t338)) (fun _ hk => hk.2) (.slice Ao29 t339.length co29)) (fun _ h_ => h_.1))))) (below_size zH)); have n4_ := Aside0.mk (blk_below (g := gb321) (o := .cells #[.int .i64 a0_0, .int .i64 a0_1, .slice A0_2 l0_2.length c0_2] 58 (0, 0)) (by (repeat refine zL ?_); refine blk_far ?_ NB321_342.out _; (repeat refine zL ?_); refine blk_far ?_ NB321_342.out _; (repeat refine zL ?_); refine blk_far ?_ NB321_342.out _; (repeat refine zL ?_); exact BK321.out) hb); have n5_ := Aside0.mk (blk_below (g := gb336) (o := .cells #[.int .i64 t328, .int .i64 t329, .int .i64 t330, .int .i64 t331, .slice Ao22 t332.length co22] 44 (0, 0)) (by (repeat refine zL ?_); refine blk_far ?_ NB336_342.out _; (repeat refine zL ?_); refine blk_far ?_ NB336_342.out _; (repeat refine zL ?_); refine blk_far ?_ NB336_342.out _; (repeat refine zL ?_); exact BK336.out) hb); have n6_ := Aside0.mk (blk_below (g := gb342) (o := .cells #[.int .i64 t337, .int .i64 t338, .slice Ao29 t339.length co29] 62 (0, 0)) (by (repeat refine zL ?_); refine blk_put (cs := #[.int .i64 t337, .int .i64 t338, .slice none 0 0]) ?_ 2 _ rfl; (repeat refine zL ?_); refine blk_put (cs := #[.int .i64 t337, .int .i64 0, .slice none 0 0]) ?_ 1 _ rfl; (repeat refine zL ?_); refine blk_put (cs := #[.int .i64 0, .int .i64 0, .slice none 0 0]) ?_ 0 _ rfl; (repeat refine zL ?_); exact BK342.out) hb); have n7_ := Aside0.mk (below_step zH hb); clear HO327; clear HO334; clear HO341; clear BK321; clear BK336; clear BK342; clear HB; have HO327 := n0_; have HO334 := n1_; have HO341 := n2_; have HO349 := n3_; have BK321 := n4_; have BK336 := n5_; have BK342 := n6_; have HB := n7_; clear n0_ n1_ n2_ n3_ n4_ n5_ n6_ n7_; (try clear hb); (try clear hb2); (try clear hk); (try clear hi); (try clear ho0)) | ((with_reducible refine gate_dst (N := 7) rfl ?_); refine box_event ?hg (N := 7) ?hd (cs := #[.int .i64 0, .int .i64 0, .int .i64 0, .int .i64 0, .slice none 0 0]) (t := 44) ?hr ?_; (case hd => rfl); (case hg => rfl); (case hr => first | (go_simp; done) | (go_simp; rfl)); intro gb351 hg w31 hbox hb; have n0_ := Aside0.mk (Kd.R_below (zR HO327.out) hb); have n1_ := Aside0.mk (Kd.R_below (zR HO334.out) hb); have n2_ := Aside0.mk (Kd.R_below (zR HO341.out) hb); have n3_ := Aside0.mk (Kd.R_below (zR HO349.out) hb); have n4_ := Aside0.mk (blk_below (g := gb321) (o := .cells #[.int .i64 a0_0, .int .i64 a0_1, .slice A0_2 l0_2.length c0_2] 58 (0, 0)) (zB BK321.out) hb); have n5_ := Aside0.mk (blk_below (g := gb336) (o := .cells #[.int .i64 t328, .int .i64 t329, .int .i64 t330, .int .i64 t331, .slice Ao22 t332.length co22] 44 (0, 0)) (zB BK336.out) hb); have n6_ := Aside0.mk (blk_below (g := gb342) (o := .cells #[.int .i64 t337, .int .i64 t338, .slice Ao29 t339.length co29] 62 (0, 0)) (zB BK342.out) hb); have n7_ := Aside0.mk (below_step zH hb); have n8_ := Aside0.mk (hbox); have n9_ := Aside0.mk ((by rw [hg]; exact (below_size zH) : w.heap.size ≤ gb351)); have n10_ := Aside0.mk ((by rw [hg]; exact (below_size zH) : w.heap.size ≤ gb351)); have n11_ := Aside0.mk ((by rw [hg]; exact Nat.ne_of_lt (blk_lt (g := gb321) (o := .cells #[.int .i64 a0_0, .int .i64 a0_1, .slice A0_2 l0_2.length c0_2] 58 (0, 0)) (zB BK321.out)) : gb321 ≠ gb351)); have n12_ := Aside0.mk ((by rw [hg]; exact Nat.ne_of_gt (blk_lt (g := gb321) (o := .cells #[.int .i64 a0_0, .int .i64 a0_1, .slice A0_2 l0_2.length c0_2] 58 (0, 0)) (zB BK321.out)) : gb351 ≠ gb321)); have n13_ := Aside0.mk ((by rw [hg]; exact Nat.ne_of_lt (blk_lt (g := gb336) (o := .cells #[.int .i64 t328, .int .i64 t329, .int .i64 t330, .int .i64 t331, .slice Ao22 t332.length co22] 44 (0, 0)) (zB BK336.out)) : gb336 ≠ gb351)); have n14_ := Aside0.mk ((by rw [hg]; exact Nat.ne_of_gt (blk_lt (g := gb336) (o := .cells #[.int .i64 t328, .int .i64 t329, .int .i64 t330, .int .i64 t331, .slice Ao22 t332.length co22] 44 (0, 0)) (zB BK336.out)) : gb351 ≠ gb336)); have n15_ := Aside0.mk ((by rw [hg]; exact Nat.ne_of_lt (blk_lt (g := gb342) (o := .cells #[.int .i64 t337, .int .i64 t338, .slice Ao29 t339.length co29] 62 (0, 0)) (zB BK342.out)) : gb342 ≠ gb351)); have n16_ := Aside0.mk ((by rw [hg]; exact Nat.ne_of_gt (blk_lt (g := gb342) (o := .cells #[.int .i64 t337, .int .i64 t338, .slice Ao29 t339.length co29] 62 (0, 0)) (zB BK342.out)) : gb351 ≠ gb342)); clear HO327; clear HO334; clear HO341; clear HO349; clear BK321; clear BK336; clear BK342; clear HB; have HO327 := n0_; have HO334 := n1_; have HO341 := n2_; have HO349 := n3_; have BK321 := n4_; have BK336 := n5_; have BK342 := n6_; have HB := n7_; have BK351 := n8_; have GW351 := n9_; have GE351 := n10_; have NB321_351 := n11_; have NB351_321 := n12_; have NB336_351 := n13_; have NB351_336 := n14_; have NB342_351 := n15_; have NB351_342 := n16_; clear n0_ n1_ n2_ n3_ n4_ n5_ n6_ n7_ n8_ n9_ n10_ n11_ n12_ n13_ n14_ n15_ n16_; clear hb hbox hg; have hnb32 := NB351_321.out; have hnc32 := NB321_351.out; have hnb33 := NB351_336.out; have hnc33 := NB336_351.out; have hnb34 := NB351_342.out; have hnc34 := NB342_351.out; obtain ⟨hcz35_0, hcz35_1, hcz35_2, hcz35_3, hcz35_4⟩ := zc5 BK351.out; obtain ⟨hfz35_0, hfz35_1, hfz35_2, hfz35_3, hfz35_4⟩ := zf BK351.out; obtain ⟨Ao36, co36, eo36⟩ := Kd.R_slice HO349.out; subst eo36))
  (try simp only [Act.put, List.setIfInBounds_toArray, List.set_cons_zero, List.set_cons_succ])
  go_cut [40] (fun v40 wc => ∃ (kq : Nat) (x40_10 : Bool), v40 = .bool x40_10 ∧ Aside0 (laws_FnExactTakeEvent.j0 kq t335 t350 x40_10 a0_0 a0_1 l0_2 t328 t329 t330 t331 t332 t337 t338 t339 t343 t344 t345 t346 t347 = some r) ∧ Aside0 (kq ≤ k) ∧ Aside0 (Kd.R (Kd.int .u8) 5 wc w.heap.size (fun k_ => some k_ ≠ ((.slice Ao29 t339.length co29) : Value).ownBlock ∧ some k_ ≠ ((.slice Ao36 t347.length co36) : Value).ownBlock) (.slice Ao22 t332.length co22) t332) ∧ Aside0 (Kd.R (Kd.int .u8) 5 wc w.heap.size (fun k_ => some k_ ≠ ((.slice Ao22 t332.length co22) : Value).ownBlock ∧ some k_ ≠ ((.slice Ao36 t347.length co36) : Value).ownBlock) (.slice Ao29 t339.length co29) t339) ∧ Aside0 (Kd.R (Kd.int .u8) 5 wc w.heap.size (fun k_ => some k_ ≠ ((.slice Ao22 t332.length co22) : Value).ownBlock ∧ some k_ ≠ ((.slice Ao29 t339.length co29) : Value).ownBlock) (.slice Ao36 t347.length co36) t347) ∧ Aside0 (wc.heap[gb321]? = some (.cells #[.int .i64 a0_0, .int .i64 a0_1, (.slice A0_2 l0_2.length c0_2)] 58 (0, 0))) ∧ Aside0 (wc.heap[gb336]? = some (.cells #[.int .i64 t328, .int .i64 t329, .int .i64 t330, .int .i64 t331, (.slice Ao22 t332.length co22)] 44 (0, 0))) ∧ Aside0 (wc.heap[gb342]? = some (.cells #[.int .i64 t337, .int .i64 t338, (.slice Ao29 t339.length co29)] 62 (0, 0))) ∧ Aside0 (wc.heap[gb351]? = some (.cells #[.int .i64 t343, .int .i64 t344, .int .i64 t345, .int .i64 t346, (.slice Ao36 t347.length co36)] 44 (0, 0))) ∧ Aside0 (Below w.heap.size w wc))
  case first =>
   have H := HC11.out
   clear HC11
   replace H := Option.bind_eq_some_iff.mp H
   obtain ⟨t352, A370, H⟩ := H
   replace H : (if t352 = true then (laws_FnExactTakeEvent.j0 k t335 t350 (t350 != t335) a0_0 a0_1 l0_2 t328 t329 t330 t331 t332 t337 t338 t339 t343 t344 t345 t346 t347) else (laws_FnExactTakeEvent.j0 k t335 t350 true a0_0 a0_1 l0_2 t328 t329 t330 t331 t332 t337 t338 t339 t343 t344 t345 t346 t347)) = some r := H
   have A37 := Aside0.mk A370
   clear A370
   by_cases c38 : t352 = true
   ·subst c38
    replace H : (laws_FnExactTakeEvent.j0 k t335 t350 (t350 != t335) a0_0 a0_1 l0_2 t328 t329 t330 t331 t332 t337 t338 t339 t343 t344 t345 t346 t347) = some r := by rw [if_pos rfl] at H; exact H
    have H' := Aside0.mk H
    clear H
    have hnb39 := NB351_321.out
    have hnc39 := NB321_351.out
    have hnb40 := NB351_336.out
    have hnc40 := NB336_351.out
    have hnb41 := NB351_342.out
    have hnc41 := NB342_351.out
    obtain ⟨hcz42_0, hcz42_1, hcz42_2, hcz42_3, hcz42_4⟩ := zc5 BK351.out
    obtain ⟨hfz42_0, hfz42_1, hfz42_2, hfz42_3, hfz42_4⟩ := zf BK351.out
    have hnb43 := NB336_321.out
    have hnc43 := NB321_336.out
    have hnb44 := NB336_342.out
    have hnc44 := NB342_336.out
    obtain ⟨hcz45_0, hcz45_1, hcz45_2, hcz45_3, hcz45_4⟩ := zc5 BK336.out
    obtain ⟨hfz45_0, hfz45_1, hfz45_2, hfz45_3, hfz45_4⟩ := zf BK336.out
    go_wp2_with (first | ((with_reducible refine gate_callee (f := 31) rfl ?_); refine goesL_ (some 34) rfl rfl Try.func31 (by kernel_rfl) rfl #[.agg #[.int .i64 t343, .int .i64 t344, .int .i64 t345, .int .i64 t346, .slice Ao36 t347.length co36], .agg #[.int .i64 t328, .int .i64 t329, .int .i64 t330, .int .i64 t331, .slice Ao22 t332.length co22]] rfl zM ?_; (with_reducible refine (laws_eqEvent.calls k t343 t344 t345 t346 _ _ t347 t328 t329 t330 t331 _ _ t332 true _ ?side1 ?side2 ?side3 ?side4 A37.out).mono ?_); (case side1 => refine (Kd.R_reads' (e := 5) (base := w.heap.size) (ok := fun k_ => (((True ∧ some k_ ≠ (.slice Ao17 t325.length co17 : Value).ownBlock) ∧ some k_ ≠ (.slice Ao22 t332.length co22 : Value).ownBlock) ∧ some k_ ≠ (.slice Ao29 t339.length co29 : Value).ownBlock)) (n := t347.length) (c := co36) ?_).2.2; exact (by (with_reducible repeat (first | apply Kd.R_alloc | apply Kd.R_drewN | apply Kd.R_drew)); exact (Kd.R_mono (Kd.R_far (p := ⟨gb351, 4, none⟩) (Kd.R_far (p := ⟨gb351, 3, none⟩) (Kd.R_far (p := ⟨gb351, 2, none⟩) (Kd.R_far (p := ⟨gb351, 1, none⟩) (Kd.R_far (p := ⟨gb351, 0, none⟩) (Kd.R_types HO349.out BK351.out (by decide)) (fun _ hk => hk.2) (.int .i64 t343)) (fun _ hk => hk.2) (.int .i64 t344)) (fun _ hk => hk.2) (.int .i64 t345)) (fun _ hk => hk.2) (.int .i64 t346)) (fun _ hk => hk.2) (.slice Ao36 t347.length co36)) (fun _ h_ => h_.1)))); (case side2 => exact (Kd.R_reads' HO349.out).2.1); (case side3 => refine (Kd.R_reads' (e := 5) (base := w.heap.size) (ok := fun k_ => (((True ∧ some k_ ≠ (.slice Ao17 t325.length co17 : Value).ownBlock) ∧ some k_ ≠ (.slice Ao29 t339.length co29 : Value).ownBlock) ∧ some k_ ≠ (.slice Ao36 t347.length co36 : Value).ownBlock)) (n := t332.length) (c := co22) ?_).2.2; exact (by (with_reducible repeat (first | apply Kd.R_alloc | apply Kd.R_drewN | apply Kd.R_drew)); exact (Kd.R_mono (Kd.R_far (p := ⟨gb351, 4, none⟩) (Kd.R_far (p := ⟨gb351, 3, none⟩) (Kd.R_far (p := ⟨gb351, 2, none⟩) (Kd.R_far (p := ⟨gb351, 1, none⟩) (Kd.R_far (p := ⟨gb351, 0, none⟩) (Kd.R_types HO334.out BK351.out (by decide)) (fun _ hk => hk.2) (.int .i64 t343)) (fun _ hk => hk.2) (.int .i64 t344)) (fun _ hk => hk.2) (.int .i64 t345)) (fun _ hk => hk.2) (.int .i64 t346)) (fun _ hk => hk.2) (.slice Ao36 t347.length co36)) (fun _ h_ => h_.1)))); (case side4 => exact (Kd.R_reads' HO334.out).2.1); rintro e w46 ⟨rfl, hb⟩; refine ⟨_, rfl, ?_⟩; have n0_ := Aside0.mk (Kd.R_below (by (with_reducible repeat (first | apply Kd.R_alloc | apply Kd.R_drewN | apply Kd.R_drew)); exact (Kd.R_mono (Kd.R_far (p := ⟨gb351, 4, none⟩) (Kd.R_far (p := ⟨gb351, 3, none⟩) (Kd.R_far (p := ⟨gb351, 2, none⟩) (Kd.R_far (p := ⟨gb351, 1, none⟩) (Kd.R_far (p := ⟨gb351, 0, none⟩) (Kd.R_types HO327.out BK351.out (by decide)) (fun _ hk => hk.2) (.int .i64 t343)) (fun _ hk => hk.2) (.int .i64 t344)) (fun _ hk => hk.2) (.int .i64 t345)) (fun _ hk => hk.2) (.int .i64 t346)) (fun _ hk => hk.2) (.slice Ao36 t347.length co36)) (fun _ h_ => h_.1))) hb); have n1_ := Aside0.mk (Kd.R_below (by (with_reducible repeat (first | apply Kd.R_alloc | apply Kd.R_drewN | apply Kd.R_drew)); exact (Kd.R_mono (Kd.R_far (p := ⟨gb351, 4, none⟩) (Kd.R_far (p := ⟨gb351, 3, none⟩) (Kd.R_far (p := ⟨gb351, 2, none⟩) (Kd.R_far (p := ⟨gb351, 1, none⟩) (Kd.R_far (p := ⟨gb351, 0, none⟩) (Kd.R_types HO334.out BK351.out (by decide)) (fun _ hk => hk.2) (.int .i64 t343)) (fun _ hk => hk.2) (.int .i64 t344)) (fun _ hk => hk.2) (.int .i64 t345)) (fun _ hk => hk.2) (.int .i64 t346)) (fun _ hk => hk.2) (.slice Ao36 t347.length co36)) (fun _ h_ => h_.1))) hb); have n2_ := Aside0.mk (Kd.R_below (by (with_reducible repeat (first | apply Kd.R_alloc | apply Kd.R_drewN | apply Kd.R_drew)); exact (Kd.R_mono (Kd.R_far (p := ⟨gb351, 4, none⟩) (Kd.R_far (p := ⟨gb351, 3, none⟩) (Kd.R_far (p := ⟨gb351, 2, none⟩) (Kd.R_far (p := ⟨gb351, 1, none⟩) (Kd.R_far (p := ⟨gb351, 0, none⟩) (Kd.R_types HO341.out BK351.out (by decide)) (fun _ hk => hk.2) (.int .i64 t343)) (fun _ hk => hk.2) (.int .i64 t344)) (fun _ hk => hk.2) (.int .i64 t345)) (fun _ hk => hk.2) (.int .i64 t346)) (fun _ hk => hk.2) (.slice Ao36 t347.length co36)) (fun _ h_ => h_.1))) hb); have n3_ := Aside0.mk (Kd.R_below (by (with_reducible repeat (first | apply Kd.R_alloc | apply Kd.R_drewN | apply Kd.R_drew)); exact (Kd.R_mono (Kd.R_far (p := ⟨gb351, 4, none⟩) (Kd.R_far (p := ⟨gb351, 3, none⟩) (Kd.R_far (p := ⟨gb351, 2, none⟩) (Kd.R_far (p := ⟨gb351, 1, none⟩) (Kd.R_far (p := ⟨gb351, 0, none⟩) (Kd.R_types HO349.out BK351.out (by decide)) (fun _ hk => hk.2) (.int .i64 t343)) (fun _ hk => hk.2) (.int .i64 t344)) (fun _ hk => hk.2) (.int .i64 t345)) (fun _ hk => hk.2) (.int .i64 t346)) (fun _ hk => hk.2) (.slice Ao36 t347.length co36)) (fun _ h_ => h_.1))) hb); have n4_ := Aside0.mk (blk_below (g := gb321) (o := .cells #[.int .i64 a0_0, .int .i64 a0_1, .slice A0_2 l0_2.length c0_2] 58 (0, 0)) (by (repeat refine zL ?_); refine blk_far ?_ NB321_351.out _; (repeat refine zL ?_); refine blk_far ?_ NB321_351.out _; (repeat refine zL ?_); refine blk_far ?_ NB321_351.out _; (repeat refine zL ?_); refine blk_far ?_ NB321_351.out _; (repeat refine zL ?_); refine blk_far ?_ NB321_351.out _; (repeat refine zL ?_); exact BK321.out) hb); have n5_ := Aside0.mk (blk_below (g := gb336) (o := .cells #[.int .i64 t328, .int .i64 t329, .int .i64 t330, .int .i64 t331, .slice Ao22 t332.length co22] 44 (0, 0)) (by (repeat refine zL ?_); refine blk_far ?_ NB336_351.out _; (repeat refine zL ?_); refine blk_far ?_ NB336_351.out _; (repeat refine zL ?_); refine blk_far ?_ NB336_351.out _; (repeat refine zL ?_); refine blk_far ?_ NB336_351.out _; (repeat refine zL ?_); refine blk_far ?_ NB336_351.out _; (repeat refine zL ?_); exact BK336.out) hb); have n6_ := Aside0.mk (blk_below (g := gb342) (o := .cells #[.int .i64 t337, .int .i64 t338, .slice Ao29 t339.length co29] 62 (0, 0)) (by (repeat refine zL ?_); refine blk_far ?_ NB342_351.out _; (repeat refine zL ?_); refine blk_far ?_ NB342_351.out _; (repeat refine zL ?_); refine blk_far ?_ NB342_351.out _; (repeat refine zL ?_); refine blk_far ?_ NB342_351.out _; (repeat refine zL ?_); refine blk_far ?_ NB342_351.out _; (repeat refine zL ?_); exact BK342.out) hb); have n7_ := Aside0.mk (blk_below (g := gb351) (o := .cells #[.int .i64 t343, .int .i64 t344, .int .i64 t345, .int .i64 t346, .slice Ao36 t347.length co36] 44 (0, 0)) (by (repeat refine zL ?_); refine blk_put (cs := #[.int .i64 t343, .int .i64 t344, .int .i64 t345, .int .i64 t346, .slice none 0 0]) ?_ 4 _ rfl; (repeat refine zL ?_); refine blk_put (cs := #[.int .i64 t343, .int .i64 t344, .int .i64 t345, .int .i64 0, .slice none 0 0]) ?_ 3 _ rfl; (repeat refine zL ?_); refine blk_put (cs := #[.int .i64 t343, .int .i64 t344, .int .i64 0, .int .i64 0, .slice none 0 0]) ?_ 2 _ rfl; (repeat refine zL ?_); refine blk_put (cs := #[.int .i64 t343, .int .i64 0, .int .i64 0, .int .i64 0, .slice none 0 0]) ?_ 1 _ rfl; (repeat refine zL ?_); refine blk_put (cs := #[.int .i64 0, .int .i64 0, .int .i64 0, .int .i64 0, .slice none 0 0]) ?_ 0 _ rfl; (repeat refine zL ?_); exact BK351.out) hb); have n8_ := Aside0.mk (below_step zH hb); clear HO327; clear HO334; clear HO341; clear HO349; clear BK321; clear BK336; clear BK342; clear BK351; clear HB; have HO327 := n0_; have HO334 := n1_; have HO341 := n2_; have HO349 := n3_; have BK321 := n4_; have BK336 := n5_; have BK342 := n6_; have BK351 := n7_; have HB := n8_; clear n0_ n1_ n2_ n3_ n4_ n5_ n6_ n7_ n8_; (try clear hb); (try clear hb2); (try clear hk); (try clear hi)))
    go_meet
    case rel => exact ⟨_, ((t350 != t335)), zF, H', ⟨by first | omega | exact Nat.le_refl _⟩, ⟨by (with_reducible repeat (first | apply Kd.R_alloc | apply Kd.R_drewN | apply Kd.R_drew)); exact Kd.R_mono HO334.out (fun _ hk => ⟨hk.1.2, hk.2⟩)⟩, ⟨by (with_reducible repeat (first | apply Kd.R_alloc | apply Kd.R_drewN | apply Kd.R_drew)); exact Kd.R_mono HO341.out (fun _ hk => ⟨hk.1.2, hk.2⟩)⟩, ⟨by (with_reducible repeat (first | apply Kd.R_alloc | apply Kd.R_drewN | apply Kd.R_drew)); exact Kd.R_mono HO349.out (fun _ hk => ⟨hk.1.2, hk.2⟩)⟩, ⟨zB BK321.out⟩, ⟨zB BK336.out⟩, ⟨zB BK342.out⟩, ⟨zB BK351.out⟩, ⟨zH⟩⟩
   ·replace c38 := Bool.eq_false_iff.mpr c38
    subst c38
    replace H : (laws_FnExactTakeEvent.j0 k t335 t350 true a0_0 a0_1 l0_2 t328 t329 t330 t331 t332 t337 t338 t339 t343 t344 t345 t346 t347) = some r := by rw [if_neg (show ¬ (false = true) by decide)] at H; exact H
    have H' := Aside0.mk H
    clear H
    have hnb47 := NB351_321.out
    have hnc47 := NB321_351.out
    have hnb48 := NB351_336.out
    have hnc48 := NB336_351.out
    have hnb49 := NB351_342.out
    have hnc49 := NB342_351.out
    obtain ⟨hcz50_0, hcz50_1, hcz50_2, hcz50_3, hcz50_4⟩ := zc5 BK351.out
    obtain ⟨hfz50_0, hfz50_1, hfz50_2, hfz50_3, hfz50_4⟩ := zf BK351.out
    have hnb51 := NB336_321.out
    have hnc51 := NB321_336.out
    have hnb52 := NB336_342.out
    have hnc52 := NB342_336.out
    obtain ⟨hcz53_0, hcz53_1, hcz53_2, hcz53_3, hcz53_4⟩ := zc5 BK336.out
    obtain ⟨hfz53_0, hfz53_1, hfz53_2, hfz53_3, hfz53_4⟩ := zf BK336.out
    go_wp2_with (first | ((with_reducible refine gate_callee (f := 31) rfl ?_); refine goesL_ (some 34) rfl rfl Try.func31 (by kernel_rfl) rfl #[.agg #[.int .i64 t343, .int .i64 t344, .int .i64 t345, .int .i64 t346, .slice Ao36 t347.length co36], .agg #[.int .i64 t328, .int .i64 t329, .int .i64 t330, .int .i64 t331, .slice Ao22 t332.length co22]] rfl zM ?_; (with_reducible refine (laws_eqEvent.calls k t343 t344 t345 t346 _ _ t347 t328 t329 t330 t331 _ _ t332 false _ ?side1 ?side2 ?side3 ?side4 A37.out).mono ?_); (case side1 => refine (Kd.R_reads' (e := 5) (base := w.heap.size) (ok := fun k_ => (((True ∧ some k_ ≠ (.slice Ao17 t325.length co17 : Value).ownBlock) ∧ some k_ ≠ (.slice Ao22 t332.length co22 : Value).ownBlock) ∧ some k_ ≠ (.slice Ao29 t339.length co29 : Value).ownBlock)) (n := t347.length) (c := co36) ?_).2.2; exact (by (with_reducible repeat (first | apply Kd.R_alloc | apply Kd.R_drewN | apply Kd.R_drew)); exact (Kd.R_mono (Kd.R_far (p := ⟨gb351, 4, none⟩) (Kd.R_far (p := ⟨gb351, 3, none⟩) (Kd.R_far (p := ⟨gb351, 2, none⟩) (Kd.R_far (p := ⟨gb351, 1, none⟩) (Kd.R_far (p := ⟨gb351, 0, none⟩) (Kd.R_types HO349.out BK351.out (by decide)) (fun _ hk => hk.2) (.int .i64 t343)) (fun _ hk => hk.2) (.int .i64 t344)) (fun _ hk => hk.2) (.int .i64 t345)) (fun _ hk => hk.2) (.int .i64 t346)) (fun _ hk => hk.2) (.slice Ao36 t347.length co36)) (fun _ h_ => h_.1)))); (case side2 => exact (Kd.R_reads' HO349.out).2.1); (case side3 => refine (Kd.R_reads' (e := 5) (base := w.heap.size) (ok := fun k_ => (((True ∧ some k_ ≠ (.slice Ao17 t325.length co17 : Value).ownBlock) ∧ some k_ ≠ (.slice Ao29 t339.length co29 : Value).ownBlock) ∧ some k_ ≠ (.slice Ao36 t347.length co36 : Value).ownBlock)) (n := t332.length) (c := co22) ?_).2.2; exact (by (with_reducible repeat (first | apply Kd.R_alloc | apply Kd.R_drewN | apply Kd.R_drew)); exact (Kd.R_mono (Kd.R_far (p := ⟨gb351, 4, none⟩) (Kd.R_far (p := ⟨gb351, 3, none⟩) (Kd.R_far (p := ⟨gb351, 2, none⟩) (Kd.R_far (p := ⟨gb351, 1, none⟩) (Kd.R_far (p := ⟨gb351, 0, none⟩) (Kd.R_types HO334.out BK351.out (by decide)) (fun _ hk => hk.2) (.int .i64 t343)) (fun _ hk => hk.2) (.int .i64 t344)) (fun _ hk => hk.2) (.int .i64 t345)) (fun _ hk => hk.2) (.int .i64 t346)) (fun _ hk => hk.2) (.slice Ao36 t347.length co36)) (fun _ h_ => h_.1)))); (case side4 => exact (Kd.R_reads' HO334.out).2.1); rintro e w54 ⟨rfl, hb⟩; refine ⟨_, rfl, ?_⟩; have n0_ := Aside0.mk (Kd.R_below (by (with_reducible repeat (first | apply Kd.R_alloc | apply Kd.R_drewN | apply Kd.R_drew)); exact (Kd.R_mono (Kd.R_far (p := ⟨gb351, 4, none⟩) (Kd.R_far (p := ⟨gb351, 3, none⟩) (Kd.R_far (p := ⟨gb351, 2, none⟩) (Kd.R_far (p := ⟨gb351, 1, none⟩) (Kd.R_far (p := ⟨gb351, 0, none⟩) (Kd.R_types HO327.out BK351.out (by decide)) (fun _ hk => hk.2) (.int .i64 t343)) (fun _ hk => hk.2) (.int .i64 t344)) (fun _ hk => hk.2) (.int .i64 t345)) (fun _ hk => hk.2) (.int .i64 t346)) (fun _ hk => hk.2) (.slice Ao36 t347.length co36)) (fun _ h_ => h_.1))) hb); have n1_ := Aside0.mk (Kd.R_below (by (with_reducible repeat (first | apply Kd.R_alloc | apply Kd.R_drewN | apply Kd.R_drew)); exact (Kd.R_mono (Kd.R_far (p := ⟨gb351, 4, none⟩) (Kd.R_far (p := ⟨gb351, 3, none⟩) (Kd.R_far (p := ⟨gb351, 2, none⟩) (Kd.R_far (p := ⟨gb351, 1, none⟩) (Kd.R_far (p := ⟨gb351, 0, none⟩) (Kd.R_types HO334.out BK351.out (by decide)) (fun _ hk => hk.2) (.int .i64 t343)) (fun _ hk => hk.2) (.int .i64 t344)) (fun _ hk => hk.2) (.int .i64 t345)) (fun _ hk => hk.2) (.int .i64 t346)) (fun _ hk => hk.2) (.slice Ao36 t347.length co36)) (fun _ h_ => h_.1))) hb); have n2_ := Aside0.mk (Kd.R_below (by (with_reducible repeat (first | apply Kd.R_alloc | apply Kd.R_drewN | apply Kd.R_drew)); exact (Kd.R_mono (Kd.R_far (p := ⟨gb351, 4, none⟩) (Kd.R_far (p := ⟨gb351, 3, none⟩) (Kd.R_far (p := ⟨gb351, 2, none⟩) (Kd.R_far (p := ⟨gb351, 1, none⟩) (Kd.R_far (p := ⟨gb351, 0, none⟩) (Kd.R_types HO341.out BK351.out (by decide)) (fun _ hk => hk.2) (.int .i64 t343)) (fun _ hk => hk.2) (.int .i64 t344)) (fun _ hk => hk.2) (.int .i64 t345)) (fun _ hk => hk.2) (.int .i64 t346)) (fun _ hk => hk.2) (.slice Ao36 t347.length co36)) (fun _ h_ => h_.1))) hb); have n3_ := Aside0.mk (Kd.R_below (by (with_reducible repeat (first | apply Kd.R_alloc | apply Kd.R_drewN | apply Kd.R_drew)); exact (Kd.R_mono (Kd.R_far (p := ⟨gb351, 4, none⟩) (Kd.R_far (p := ⟨gb351, 3, none⟩) (Kd.R_far (p := ⟨gb351, 2, none⟩) (Kd.R_far (p := ⟨gb351, 1, none⟩) (Kd.R_far (p := ⟨gb351, 0, none⟩) (Kd.R_types HO349.out BK351.out (by decide)) (fun _ hk => hk.2) (.int .i64 t343)) (fun _ hk => hk.2) (.int .i64 t344)) (fun _ hk => hk.2) (.int .i64 t345)) (fun _ hk => hk.2) (.int .i64 t346)) (fun _ hk => hk.2) (.slice Ao36 t347.length co36)) (fun _ h_ => h_.1))) hb); have n4_ := Aside0.mk (blk_below (g := gb321) (o := .cells #[.int .i64 a0_0, .int .i64 a0_1, .slice A0_2 l0_2.length c0_2] 58 (0, 0)) (by (repeat refine zL ?_); refine blk_far ?_ NB321_351.out _; (repeat refine zL ?_); refine blk_far ?_ NB321_351.out _; (repeat refine zL ?_); refine blk_far ?_ NB321_351.out _; (repeat refine zL ?_); refine blk_far ?_ NB321_351.out _; (repeat refine zL ?_); refine blk_far ?_ NB321_351.out _; (repeat refine zL ?_); exact BK321.out) hb); have n5_ := Aside0.mk (blk_below (g := gb336) (o := .cells #[.int .i64 t328, .int .i64 t329, .int .i64 t330, .int .i64 t331, .slice Ao22 t332.length co22] 44 (0, 0)) (by (repeat refine zL ?_); refine blk_far ?_ NB336_351.out _; (repeat refine zL ?_); refine blk_far ?_ NB336_351.out _; (repeat refine zL ?_); refine blk_far ?_ NB336_351.out _; (repeat refine zL ?_); refine blk_far ?_ NB336_351.out _; (repeat refine zL ?_); refine blk_far ?_ NB336_351.out _; (repeat refine zL ?_); exact BK336.out) hb); have n6_ := Aside0.mk (blk_below (g := gb342) (o := .cells #[.int .i64 t337, .int .i64 t338, .slice Ao29 t339.length co29] 62 (0, 0)) (by (repeat refine zL ?_); refine blk_far ?_ NB342_351.out _; (repeat refine zL ?_); refine blk_far ?_ NB342_351.out _; (repeat refine zL ?_); refine blk_far ?_ NB342_351.out _; (repeat refine zL ?_); refine blk_far ?_ NB342_351.out _; (repeat refine zL ?_); refine blk_far ?_ NB342_351.out _; (repeat refine zL ?_); exact BK342.out) hb); have n7_ := Aside0.mk (blk_below (g := gb351) (o := .cells #[.int .i64 t343, .int .i64 t344, .int .i64 t345, .int .i64 t346, .slice Ao36 t347.length co36] 44 (0, 0)) (by (repeat refine zL ?_); refine blk_put (cs := #[.int .i64 t343, .int .i64 t344, .int .i64 t345, .int .i64 t346, .slice none 0 0]) ?_ 4 _ rfl; (repeat refine zL ?_); refine blk_put (cs := #[.int .i64 t343, .int .i64 t344, .int .i64 t345, .int .i64 0, .slice none 0 0]) ?_ 3 _ rfl; (repeat refine zL ?_); refine blk_put (cs := #[.int .i64 t343, .int .i64 t344, .int .i64 0, .int .i64 0, .slice none 0 0]) ?_ 2 _ rfl; (repeat refine zL ?_); refine blk_put (cs := #[.int .i64 t343, .int .i64 0, .int .i64 0, .int .i64 0, .slice none 0 0]) ?_ 1 _ rfl; (repeat refine zL ?_); refine blk_put (cs := #[.int .i64 0, .int .i64 0, .int .i64 0, .int .i64 0, .slice none 0 0]) ?_ 0 _ rfl; (repeat refine zL ?_); exact BK351.out) hb); have n8_ := Aside0.mk (below_step zH hb); clear HO327; clear HO334; clear HO341; clear HO349; clear BK321; clear BK336; clear BK342; clear BK351; clear HB; have HO327 := n0_; have HO334 := n1_; have HO341 := n2_; have HO349 := n3_; have BK321 := n4_; have BK336 := n5_; have BK342 := n6_; have BK351 := n7_; have HB := n8_; clear n0_ n1_ n2_ n3_ n4_ n5_ n6_ n7_ n8_; (try clear hb); (try clear hb2); (try clear hk); (try clear hi)))
    go_meet
    case rel => exact ⟨_, (true), zF, H', ⟨by first | omega | exact Nat.le_refl _⟩, ⟨by (with_reducible repeat (first | apply Kd.R_alloc | apply Kd.R_drewN | apply Kd.R_drew)); exact Kd.R_mono HO334.out (fun _ hk => ⟨hk.1.2, hk.2⟩)⟩, ⟨by (with_reducible repeat (first | apply Kd.R_alloc | apply Kd.R_drewN | apply Kd.R_drew)); exact Kd.R_mono HO341.out (fun _ hk => ⟨hk.1.2, hk.2⟩)⟩, ⟨by (with_reducible repeat (first | apply Kd.R_alloc | apply Kd.R_drewN | apply Kd.R_drew)); exact Kd.R_mono HO349.out (fun _ hk => ⟨hk.1.2, hk.2⟩)⟩, ⟨zB BK321.out⟩, ⟨zB BK336.out⟩, ⟨zB BK342.out⟩, ⟨zB BK351.out⟩, ⟨zH⟩⟩
  case rest =>
   clear HC11
   (try clear c2);(try clear p2);(try clear c3);(try clear c3b0);(try clear c4);(try clear c5);(try clear c9);(try clear c20);(try clear c26);(try clear c27);(try clear c31);(try clear c32);(try clear c33);(try clear c34);(try clear c38);(try clear c39);(try clear c40);(try clear c41);(try clear c43);(try clear c44);(try clear c45);(try clear c46);(try clear c47);(try clear c48);(try clear c49);(try clear c51);(try clear c52);(try clear hcz13_0);(try clear hcz13_1)
   (try clear hcz13_2);(try clear hcz15_0);(try clear hcz15_1);(try clear hcz15_2);(try clear hcz21_0);(try clear hcz21_1);(try clear hcz21_2);(try clear hcz21_3);(try clear hcz21_4);(try clear hcz23_0);(try clear hcz23_1);(try clear hcz23_2);(try clear hcz28_0);(try clear hcz28_1);(try clear hcz28_2);(try clear hcz35_0);(try clear hcz35_1);(try clear hcz35_2);(try clear hcz35_3);(try clear hcz35_4);(try clear hcz42_0);(try clear hcz42_1);(try clear hcz42_2)
   (try clear hcz42_3);(try clear hcz42_4);(try clear hcz45_0);(try clear hcz45_1);(try clear hcz45_2);(try clear hcz45_3);(try clear hcz45_4);(try clear hcz50_0);(try clear hcz50_1);(try clear hcz50_2);(try clear hcz50_3);(try clear hcz50_4);(try clear hcz53_0);(try clear hcz53_1);(try clear hcz53_2);(try clear hcz53_3);(try clear hcz53_4);(try clear hcz5_0);(try clear hcz5_1);(try clear hcz5_2);(try clear hfz13_0);(try clear hfz13_1);(try clear hfz13_2)
   (try clear hfz15_0);(try clear hfz15_1);(try clear hfz15_2);(try clear hfz21_0);(try clear hfz21_1);(try clear hfz21_2);(try clear hfz21_3);(try clear hfz21_4);(try clear hfz23_0);(try clear hfz23_1);(try clear hfz23_2);(try clear hfz28_0);(try clear hfz28_1);(try clear hfz28_2);(try clear hfz35_0);(try clear hfz35_1);(try clear hfz35_2);(try clear hfz35_3);(try clear hfz35_4);(try clear hfz42_0);(try clear hfz42_1);(try clear hfz42_2);(try clear hfz42_3)
   (try clear hfz42_4);(try clear hfz45_0);(try clear hfz45_1);(try clear hfz45_2);(try clear hfz45_3);(try clear hfz45_4);(try clear hfz50_0);(try clear hfz50_1);(try clear hfz50_2);(try clear hfz50_3);(try clear hfz50_4);(try clear hfz53_0);(try clear hfz53_1);(try clear hfz53_2);(try clear hfz53_3);(try clear hfz53_4);(try clear hfz5_0);(try clear hfz5_1);(try clear hfz5_2)
   obtain ⟨kq, x40_10, rfl, HA, HJ10, HO_337004, HO_343002, HO_352004, BK321, BK336, BK342, BK351, HB⟩ := hcut
   cases kq with
   | zero => exact absurd HA.out (by simp [laws_FnExactTakeEvent.j0])
   | succ kj10 =>
    have H := HA.out
    clear HA
    simp only [laws_FnExactTakeEvent.j0] at H
    by_cases c55 : x40_10 = true
    ·subst c55
     replace H : (some false) = some r := by rw [if_pos rfl] at H; exact H
     exact absurd ((Option.some.inj H).trans HT_.out) (by decide)
    ·replace c55 := Bool.eq_false_iff.mpr c55
     subst c55
     replace H : ((laws_toFrame.f kj10 a0_0 a0_1 l0_2).bind fun bt353 => ((laws_eqFrame.f kj10 t337 t338 t339 bt353.1 bt353.2.1 bt353.2.2).bind fun t358 => (if t358 = true then ((laws_markFrame.f kj10 t337 t338 t339 1).bind fun bt359 => (if bt359.1 < 0 then (laws_FnExactTakeEvent.j1 kj10 t335 true a0_0 a0_1 l0_2 t328 t329 t330 t331 t332 t343 t344 t345 t346 t347) else ((laws_eqEvent.f kj10 t343 t344 t345 t346 t347 t328 t329 t330 t331 t332).bind fun t361 => (if t361 = true then (laws_FnExactTakeEvent.j1 kj10 t335 (t350 != t335) a0_0 a0_1 l0_2 t328 t329 t330 t331 t332 t343 t344 t345 t346 t347) else (laws_FnExactTakeEvent.j1 kj10 t335 true a0_0 a0_1 l0_2 t328 t329 t330 t331 t332 t343 t344 t345 t346 t347))))) else (some false)))) = some r := by rw [if_neg (show ¬ (false = true) by decide)] at H; exact H
     replace H := Option.bind_eq_some_iff.mp H
     obtain ⟨⟨t353, t354, t355⟩, A560, H⟩ := H
     replace H : ((laws_eqFrame.f kj10 t337 t338 t339 t353 t354 t355).bind fun t358 => (if t358 = true then ((laws_markFrame.f kj10 t337 t338 t339 1).bind fun bt359 => (if bt359.1 < 0 then (laws_FnExactTakeEvent.j1 kj10 t335 true a0_0 a0_1 l0_2 t328 t329 t330 t331 t332 t343 t344 t345 t346 t347) else ((laws_eqEvent.f kj10 t343 t344 t345 t346 t347 t328 t329 t330 t331 t332).bind fun t361 => (if t361 = true then (laws_FnExactTakeEvent.j1 kj10 t335 (t350 != t335) a0_0 a0_1 l0_2 t328 t329 t330 t331 t332 t343 t344 t345 t346 t347) else (laws_FnExactTakeEvent.j1 kj10 t335 true a0_0 a0_1 l0_2 t328 t329 t330 t331 t332 t343 t344 t345 t346 t347))))) else (some false))) = some r := H
     have A56 := Aside0.mk A560
     clear A560
     replace H := Option.bind_eq_some_iff.mp H
     obtain ⟨t358, A570, H⟩ := H
     replace H : (if t358 = true then ((laws_markFrame.f kj10 t337 t338 t339 1).bind fun bt359 => (if bt359.1 < 0 then (laws_FnExactTakeEvent.j1 kj10 t335 true a0_0 a0_1 l0_2 t328 t329 t330 t331 t332 t343 t344 t345 t346 t347) else ((laws_eqEvent.f kj10 t343 t344 t345 t346 t347 t328 t329 t330 t331 t332).bind fun t361 => (if t361 = true then (laws_FnExactTakeEvent.j1 kj10 t335 (t350 != t335) a0_0 a0_1 l0_2 t328 t329 t330 t331 t332 t343 t344 t345 t346 t347) else (laws_FnExactTakeEvent.j1 kj10 t335 true a0_0 a0_1 l0_2 t328 t329 t330 t331 t332 t343 t344 t345 t346 t347))))) else (some false)) = some r := H
     have A57 := Aside0.mk A570
     clear A570
     by_cases c58 : t358 = true
     ·subst c58
      replace H : ((laws_markFrame.f kj10 t337 t338 t339 1).bind fun bt359 => (if bt359.1 < 0 then (laws_FnExactTakeEvent.j1 kj10 t335 true a0_0 a0_1 l0_2 t328 t329 t330 t331 t332 t343 t344 t345 t346 t347) else ((laws_eqEvent.f kj10 t343 t344 t345 t346 t347 t328 t329 t330 t331 t332).bind fun t361 => (if t361 = true then (laws_FnExactTakeEvent.j1 kj10 t335 (t350 != t335) a0_0 a0_1 l0_2 t328 t329 t330 t331 t332 t343 t344 t345 t346 t347) else (laws_FnExactTakeEvent.j1 kj10 t335 true a0_0 a0_1 l0_2 t328 t329 t330 t331 t332 t343 t344 t345 t346 t347))))) = some r := by rw [if_pos rfl] at H; exact H
      replace H := Option.bind_eq_some_iff.mp H
      obtain ⟨⟨t359, t360⟩, A590, H⟩ := H
      replace H : (if t359 < 0 then (laws_FnExactTakeEvent.j1 kj10 t335 true a0_0 a0_1 l0_2 t328 t329 t330 t331 t332 t343 t344 t345 t346 t347) else ((laws_eqEvent.f kj10 t343 t344 t345 t346 t347 t328 t329 t330 t331 t332).bind fun t361 => (if t361 = true then (laws_FnExactTakeEvent.j1 kj10 t335 (t350 != t335) a0_0 a0_1 l0_2 t328 t329 t330 t331 t332 t343 t344 t345 t346 t347) else (laws_FnExactTakeEvent.j1 kj10 t335 true a0_0 a0_1 l0_2 t328 t329 t330 t331 t332 t343 t344 t345 t346 t347)))) = some r := H
      have A59 := Aside0.mk A590
      clear A590
      have HC60 := Aside0.mk H
      clear H
      try go_wp2
      have n0_ := Aside0.mk (Kd.R_drew HO_337004.out)
      have n1_ := Aside0.mk (Kd.R_drew HO_343002.out)
      have n2_ := Aside0.mk (Kd.R_drew HO_352004.out)
      have n3_ := Aside0.mk (blk_drew BK321.out)
      have n4_ := Aside0.mk (blk_drew BK336.out)
      have n5_ := Aside0.mk (blk_drew BK342.out)
      have n6_ := Aside0.mk (blk_drew BK351.out)
      have n7_ := Aside0.mk (below_drew1 HB.out)
      clear HO_337004
      clear HO_343002
      clear HO_352004
      clear BK321
      clear BK336
      clear BK342
      clear BK351
      clear HB
      have HO_337004 := n0_
      have HO_343002 := n1_
      have HO_352004 := n2_
      have BK321 := n3_
      have BK336 := n4_
      have BK342 := n5_
      have BK351 := n6_
      have HB := n7_
      clear n0_ n1_ n2_ n3_ n4_ n5_ n6_ n7_
      refine start_ (n := 5) (S := fun w' => w'.cell? ⟨gb342, 0, none⟩ = some (.int .i64 t337) ∧ w'.cell? ⟨gb342, 1, none⟩ = some (.int .i64 t338) ∧ w'.cell? ⟨gb342, 2, none⟩ = some (.slice Ao29 t339.length co29) ∧ w'.cell? ⟨gb321, 0, none⟩ = some (.int .i64 a0_0) ∧ w'.cell? ⟨gb321, 1, none⟩ = some (.int .i64 a0_1) ∧ w'.cell? ⟨gb321, 2, none⟩ = some (.slice A0_2 l0_2.length c0_2)) (ds := []) #[false, false, false, false, false] (by kernel_rfl) rfl rfl ⟨(blk_cell BK342.out 0).trans rfl, (blk_cell BK342.out 1).trans rfl, (blk_cell BK342.out 2).trans rfl, (blk_cell BK321.out 0).trans rfl, (blk_cell BK321.out 1).trans rfl, (blk_cell BK321.out 2).trans rfl⟩ (fun hHeld => ?_)
      generalize wc.drew = w61 at HO_337004 HO_343002 HO_352004 BK321 BK336 BK342 BK351 HB hHeld ⊢
      refine take_ (i := 0) (N := some 41) (v := ?_) (a' := ?_) #[true, false, false, false, false] rfl rfl (by kernel_rfl) (fun _ _ _ h => h) (Or.inl ⟨by rfl, ?_⟩) hHeld ?_ ?_
      rotate_left
      ·rintro w' ⟨s0, s1, s2, s3, s4, s5⟩
       go_simp
       with_reducible rfl
      rotate_left
      ·simp only [Act.put, List.setIfInBounds_toArray, List.set_cons_zero, List.set_cons_succ, i64_w, i32_w]
       rfl
      refine take_ (i := 1) (N := some 42) (v := ?_) (a' := ?_) #[true, true, false, false, false] rfl rfl (by kernel_rfl) (fun _ _ _ h => h) (Or.inl ⟨by rfl, ?_⟩) hHeld ?_ ?_
      rotate_left
      ·rintro w' ⟨s0, s1, s2, s3, s4, s5⟩
       go_simp
       with_reducible rfl
      rotate_left
      ·simp only [Act.put, List.setIfInBounds_toArray, List.set_cons_zero, List.set_cons_succ, i64_w, i32_w]
       rfl
      refine one_ (i := 2) (N := some 43) #[true, true, true, false, false] rfl rfl (by kernel_rfl) (by decide) (fun K hK => ?_)
      refine goes_ Try.func45 (by kernel_rfl) rfl #[.agg #[.int .i64 a0_0, .int .i64 a0_1, .slice A0_2 l0_2.length c0_2]] (by rfl) rfl rfl zM ?_
      with_reducible refine (laws_toFrame.calls kj10 a0_0 a0_1 _ _ l0_2 t353 t354 t355 _ ?side1 ?side2 A56.out).mono ?_
      (case side1 => exact zC (Kd.C_below HR0_2.out HB.out))
      (case side2 => exact HC0_2.out)
      rintro e w62 ⟨v356, rfl, ho0, hb⟩
      refine ⟨_, rfl, ?_⟩
      have n0_ := Aside0.mk (Kd.R_elder' (zR HO_337004.out) (Kd.R_base ho0) hb)
      have n1_ := Aside0.mk (Kd.R_elder' (zR HO_343002.out) (Kd.R_base ho0) hb)
      have n2_ := Aside0.mk (Kd.R_elder' (zR HO_352004.out) (Kd.R_base ho0) hb)
      have n3_ := Aside0.mk (Kd.R_lower (Kd.R_new' (Kd.R_new' (Kd.R_new' ho0 (Kd.R_lt (zR HO_337004.out))) (Kd.R_lt (zR HO_343002.out))) (Kd.R_lt (zR HO_352004.out))) (below_size zH))
      have n4_ := Aside0.mk (blk_below (g := gb321) (o := .cells #[.int .i64 a0_0, .int .i64 a0_1, .slice A0_2 l0_2.length c0_2] 58 (0, 0)) (zB BK321.out) hb)
      have n5_ := Aside0.mk (blk_below (g := gb336) (o := .cells #[.int .i64 t328, .int .i64 t329, .int .i64 t330, .int .i64 t331, .slice Ao22 t332.length co22] 44 (0, 0)) (zB BK336.out) hb)
      have n6_ := Aside0.mk (blk_below (g := gb342) (o := .cells #[.int .i64 t337, .int .i64 t338, .slice Ao29 t339.length co29] 62 (0, 0)) (zB BK342.out) hb)
      have n7_ := Aside0.mk (blk_below (g := gb351) (o := .cells #[.int .i64 t343, .int .i64 t344, .int .i64 t345, .int .i64 t346, .slice Ao36 t347.length co36] 44 (0, 0)) (zB BK351.out) hb)
      have n8_ := Aside0.mk (below_step zH hb)
      clear HO_337004
      clear HO_343002
      clear HO_352004
      clear BK321
      clear BK336
      clear BK342
      clear BK351
      clear HB
      have HO_337004 := n0_
      have HO_343002 := n1_
      have HO_352004 := n2_
      have HO357 := n3_
      have BK321 := n4_
      have BK336 := n5_
      have BK342 := n6_
      have BK351 := n7_
      have HB := n8_
      clear n0_ n1_ n2_ n3_ n4_ n5_ n6_ n7_ n8_
      (try clear hb)
      (try clear hb2)
      (try clear hk)
      (try clear hi)
      (try clear ho0)
      obtain ⟨Ao63, co63, eo63⟩ := Kd.R_slice HO357.out
      (first | subst eo63 | (injection eo63 with f1_ f2_ f3_; have f4_ := f1_.symm; have f5_ := f3_.symm; clear f1_ f2_ f3_; subst f4_; subst f5_))
      refine hK.out _ _ ⟨(blk_cell BK342.out 0).trans rfl, (blk_cell BK342.out 1).trans rfl, (blk_cell BK342.out 2).trans rfl, (blk_cell BK321.out 0).trans rfl, (blk_cell BK321.out 1).trans rfl, (blk_cell BK321.out 2).trans rfl⟩ (fun hHeld => ?_)
      clear hK K
      refine norm_ (a' := ?_) ?_ ?_
      rotate_left
      ·show Act.put _ (some 43) _ = _
       simp only [Act.put, List.setIfInBounds_toArray, List.set_cons_zero, List.set_cons_succ, i64_w, i32_w]
       rfl
      refine one_ (i := 3) (N := some 44) #[true, true, true, true, false] rfl rfl (by kernel_rfl) (by decide) (fun K hK => ?_)
      refine goes_ Try.func47 (by kernel_rfl) rfl #[.agg #[.int .i64 t337, .int .i64 t338, .slice Ao29 t339.length co29], .agg #[.int .i64 t353, .int .i64 t354, .slice Ao63 t355.length co63]] (by rfl) rfl rfl zM ?_
      with_reducible refine (laws_eqFrame.calls kj10 t337 t338 _ _ t339 t353 t354 _ _ t355 true _ ?side1 ?side2 ?side3 ?side4 A57.out).mono ?_
      (case side1 => exact zC ((Kd.R_reads' HO_343002.out).2.2))
      (case side2 => exact (Kd.R_reads' HO_343002.out).2.1)
      (case side3 => exact zC ((Kd.R_reads' HO357.out).2.2))
      (case side4 => exact (Kd.R_reads' HO357.out).2.1)
      rintro e w64 ⟨rfl, hb⟩
      refine ⟨_, rfl, ?_⟩
      have n0_ := Aside0.mk (Kd.R_below (zR HO_337004.out) hb)
      have n1_ := Aside0.mk (Kd.R_below (zR HO_343002.out) hb)
      have n2_ := Aside0.mk (Kd.R_below (zR HO_352004.out) hb)
      have n3_ := Aside0.mk (Kd.R_below (zR HO357.out) hb)
      have n4_ := Aside0.mk (blk_below (g := gb321) (o := .cells #[.int .i64 a0_0, .int .i64 a0_1, .slice A0_2 l0_2.length c0_2] 58 (0, 0)) (zB BK321.out) hb)
      have n5_ := Aside0.mk (blk_below (g := gb336) (o := .cells #[.int .i64 t328, .int .i64 t329, .int .i64 t330, .int .i64 t331, .slice Ao22 t332.length co22] 44 (0, 0)) (zB BK336.out) hb)
      have n6_ := Aside0.mk (blk_below (g := gb342) (o := .cells #[.int .i64 t337, .int .i64 t338, .slice Ao29 t339.length co29] 62 (0, 0)) (zB BK342.out) hb)
      have n7_ := Aside0.mk (blk_below (g := gb351) (o := .cells #[.int .i64 t343, .int .i64 t344, .int .i64 t345, .int .i64 t346, .slice Ao36 t347.length co36] 44 (0, 0)) (zB BK351.out) hb)
      have n8_ := Aside0.mk (below_step zH hb)
      clear HO_337004
      clear HO_343002
      clear HO_352004
      clear HO357
      clear BK321
      clear BK336
      clear BK342
      clear BK351
      clear HB
      have HO_337004 := n0_
      have HO_343002 := n1_
      have HO_352004 := n2_
      have HO357 := n3_
      have BK321 := n4_
      have BK336 := n5_
      have BK342 := n6_
      have BK351 := n7_
      have HB := n8_
      clear n0_ n1_ n2_ n3_ n4_ n5_ n6_ n7_ n8_
      (try clear hb)
      (try clear hb2)
      (try clear hk)
      (try clear hi)
      refine hK.out _ _ ⟨(blk_cell BK342.out 0).trans rfl, (blk_cell BK342.out 1).trans rfl, (blk_cell BK342.out 2).trans rfl, (blk_cell BK321.out 0).trans rfl, (blk_cell BK321.out 1).trans rfl, (blk_cell BK321.out 2).trans rfl⟩ (fun hHeld => ?_)
      clear hK K
      refine norm_ (a' := ?_) ?_ ?_
      rotate_left
      ·show Act.put _ (some 44) _ = _
       simp only [Act.put, List.setIfInBounds_toArray, List.set_cons_zero, List.set_cons_succ, i64_w, i32_w]
       rfl
      refine pure_ (i := 4) (N := some 45) (v := ?_) (a' := ?_) #[true, true, true, true, true] rfl rfl (by kernel_rfl) (fun _ _ _ h => h) (Or.inl ⟨by rfl, ?_⟩) ?_ ?_
      rotate_left;(focus intro w';go_simp;with_reducible rfl);rotate_left;(focus simp only [Act.put, List.setIfInBounds_toArray, List.set_cons_zero, List.set_cons_succ, i64_w, i32_w];rfl)
      refine done_ (by kernel_rfl) ?_
      have hnb65 := NB342_321.out
      have hnc65 := NB321_342.out
      have hnb66 := NB342_336.out
      have hnc66 := NB336_342.out
      have hnb67 := NB342_351.out
      have hnc67 := NB351_342.out
      obtain ⟨hcz68_0, hcz68_1, hcz68_2⟩ := zc3 BK342.out
      obtain ⟨hfz68_0, hfz68_1, hfz68_2, _, _⟩ := zf BK342.out
      go_upto_region 14 with (first | ((with_reducible refine gate_callee (f := 48) rfl ?_); refine goesL_ (some 48) rfl rfl Try.func48 (by kernel_rfl) rfl #[.agg #[.int .i64 t337, .int .i64 t338, .slice Ao29 t339.length co29], .int .i64 1] rfl zM ?_; (with_reducible refine (laws_markFrame.calls kj10 t337 t338 (fun k_ => some k_ = (.slice Ao29 t339.length co29 : Value).ownBlock) (.slice Ao29 t339.length co29) t339 1 t359 t360 w _ ?side1 ?side2 A59.out).mono ?_); (case side1 => repeat (first | (with_reducible first | exact HB.out | apply below_alloc | apply pw_below_drewN | apply below_drew1 | refine below_set ?_ GE321.out | refine below_set ?_ GE336.out | refine below_set ?_ GE342.out | refine below_set ?_ GE351.out) | exact HB.out)); (case side2 => exact Kd.R_tight rfl HO_343002.out); rintro e w69 ⟨rfl, hy0, hb, hkp⟩; refine ⟨_, rfl, ?_⟩; have n0_ := Aside0.mk (Kd.R_mono (ok' := fun k_ => some k_ ≠ (.slice Ao29 t339.length co29 : Value).ownBlock ∧ some k_ ≠ (.slice Ao36 t347.length co36 : Value).ownBlock ∧ some k_ ≠ (.slice Ao63 t355.length co63 : Value).ownBlock) (Kd.R_keptB (HO_337004.out) hkp (fun k_ hk_ hs_ => (hk_.1.1) hs_)) (fun k_ hk_ => ⟨hk_.1.1.1, hk_.1.1.2, hk_.1.2⟩)); have n1_ := Aside0.mk (Kd.R_reok rfl hy0 (fun k_ e_ => HO_343002.out.1 k_ e_)); have n2_ := Aside0.mk (Kd.R_mono (ok' := fun k_ => some k_ ≠ (.slice Ao22 t332.length co22 : Value).ownBlock ∧ some k_ ≠ (.slice Ao29 t339.length co29 : Value).ownBlock ∧ some k_ ≠ (.slice Ao63 t355.length co63 : Value).ownBlock) (Kd.R_keptB (HO_352004.out) hkp (fun k_ hk_ hs_ => (hk_.1.2) hs_)) (fun k_ hk_ => ⟨hk_.1.1.1, hk_.1.1.2, hk_.1.2⟩)); have n3_ := Aside0.mk (blk_kept (zB BK321.out) hkp (fun hs_ => (fun e_ => (Kd.R_ne HO_343002.out BK321.out (by decide)) e_) hs_)); have n4_ := Aside0.mk (blk_kept (zB BK336.out) hkp (fun hs_ => (fun e_ => (Kd.R_ne HO_343002.out BK336.out (by decide)) e_) hs_)); have n5_ := Aside0.mk (blk_kept (zB BK342.out) hkp (fun hs_ => (fun e_ => (Kd.R_ne HO_343002.out BK342.out (by decide)) e_) hs_)); have n6_ := Aside0.mk (blk_kept (zB BK351.out) hkp (fun hs_ => (fun e_ => (Kd.R_ne HO_343002.out BK351.out (by decide)) e_) hs_)); have n7_ := Aside0.mk (Kd.R_mono (ok' := fun k_ => some k_ ≠ (.slice Ao22 t332.length co22 : Value).ownBlock ∧ some k_ ≠ (.slice Ao29 t339.length co29 : Value).ownBlock ∧ some k_ ≠ (.slice Ao36 t347.length co36 : Value).ownBlock) (Kd.R_keptB (HO357.out) hkp (fun k_ hk_ hs_ => (hk_.1.2) hs_)) (fun k_ hk_ => ⟨hk_.1.1.1.2, hk_.1.1.2, hk_.1.2⟩)); have n8_ := Aside0.mk (hb); clear HO_337004; clear HO_343002; clear HO_352004; clear BK321; clear BK336; clear BK342; clear BK351; clear HO357; clear HB; have HO_337004 := n0_; have HO_343002 := n1_; have HO_352004 := n2_; have BK321 := n3_; have BK336 := n4_; have BK342 := n5_; have BK351 := n6_; have HO357 := n7_; have HB := n8_; clear n0_ n1_ n2_ n3_ n4_ n5_ n6_ n7_ n8_; (try clear hb); (try clear hkp); (try clear hy0)))
      (try simp only [Act.put, List.setIfInBounds_toArray, List.set_cons_zero, List.set_cons_succ])
      go_cut [61] (fun v61 wc => ∃ (kq : Nat) (x61_59 : Bool), v61 = .bool x61_59 ∧ Aside0 (laws_FnExactTakeEvent.j1 kq t335 x61_59 a0_0 a0_1 l0_2 t328 t329 t330 t331 t332 t343 t344 t345 t346 t347 = some r) ∧ Aside0 (kq ≤ kj10) ∧ Aside0 (Kd.R (Kd.int .u8) 5 wc w.heap.size (fun k_ => some k_ ≠ ((.slice Ao29 t339.length co29) : Value).ownBlock ∧ some k_ ≠ ((.slice Ao36 t347.length co36) : Value).ownBlock) (.slice Ao22 t332.length co22) t332) ∧ Aside0 (Kd.R (Kd.int .u8) 5 wc w.heap.size (fun k_ => some k_ ≠ ((.slice Ao22 t332.length co22) : Value).ownBlock ∧ some k_ ≠ ((.slice Ao36 t347.length co36) : Value).ownBlock) (.slice Ao29 t339.length co29) t360) ∧ Aside0 (Kd.R (Kd.int .u8) 5 wc w.heap.size (fun k_ => some k_ ≠ ((.slice Ao22 t332.length co22) : Value).ownBlock ∧ some k_ ≠ ((.slice Ao29 t339.length co29) : Value).ownBlock) (.slice Ao36 t347.length co36) t347) ∧ Aside0 (wc.heap[gb321]? = some (.cells #[.int .i64 a0_0, .int .i64 a0_1, (.slice A0_2 l0_2.length c0_2)] 58 (0, 0))) ∧ Aside0 (wc.heap[gb336]? = some (.cells #[.int .i64 t328, .int .i64 t329, .int .i64 t330, .int .i64 t331, (.slice Ao22 t332.length co22)] 44 (0, 0))) ∧ Aside0 (wc.heap[gb342]? = some (.cells #[.int .i64 t337, .int .i64 t338, (.slice Ao29 t339.length co29)] 62 (0, 0))) ∧ Aside0 (wc.heap[gb351]? = some (.cells #[.int .i64 t343, .int .i64 t344, .int .i64 t345, .int .i64 t346, (.slice Ao36 t347.length co36)] 44 (0, 0))) ∧ Aside0 (Below w.heap.size w wc))
      case first =>
       have H := HC60.out
       clear HC60
       by_cases c70 : t359 < 0
       ·rw [if_pos c70] at H
        have c70b0 : decide (t359 < 0) = true := decide_eq_true c70
        clear c70
        (first | rw [c70b0] | (simp only [i64_w, i32_w]; rw [c70b0]) | skip)
        have H' := Aside0.mk H
        clear H
        go_wp2
        go_meet
        case rel => exact ⟨_, (true), zF, H', ⟨by have := HJ10.out; first | omega | exact Nat.le_refl _⟩, ⟨by (with_reducible repeat (first | apply Kd.R_alloc | apply Kd.R_drewN | apply Kd.R_drew)); exact Kd.R_mono HO_337004.out (fun _ hk => ⟨hk.1, hk.2.1⟩)⟩, ⟨by (with_reducible repeat (first | apply Kd.R_alloc | apply Kd.R_drewN | apply Kd.R_drew)); exact Kd.R_mono HO_343002.out (fun _ hk => ⟨hk.1.1, hk.1.2⟩)⟩, ⟨by (with_reducible repeat (first | apply Kd.R_alloc | apply Kd.R_drewN | apply Kd.R_drew)); exact Kd.R_mono HO_352004.out (fun _ hk => ⟨hk.1, hk.2.1⟩)⟩, ⟨zB BK321.out⟩, ⟨zB BK336.out⟩, ⟨zB BK342.out⟩, ⟨zB BK351.out⟩, ⟨zH⟩⟩
       ·rw [if_neg c70] at H
        have c70b0 : decide (t359 < 0) = false := decide_eq_false c70
        clear c70
        (first | rw [c70b0] | (simp only [i64_w, i32_w]; rw [c70b0]) | skip)
        replace H := Option.bind_eq_some_iff.mp H
        obtain ⟨t361, A710, H⟩ := H
        replace H : (if t361 = true then (laws_FnExactTakeEvent.j1 kj10 t335 (t350 != t335) a0_0 a0_1 l0_2 t328 t329 t330 t331 t332 t343 t344 t345 t346 t347) else (laws_FnExactTakeEvent.j1 kj10 t335 true a0_0 a0_1 l0_2 t328 t329 t330 t331 t332 t343 t344 t345 t346 t347)) = some r := H
        have A71 := Aside0.mk A710
        clear A710
        by_cases c72 : t361 = true
        ·subst c72
         replace H : (laws_FnExactTakeEvent.j1 kj10 t335 (t350 != t335) a0_0 a0_1 l0_2 t328 t329 t330 t331 t332 t343 t344 t345 t346 t347) = some r := by rw [if_pos rfl] at H; exact H
         have H' := Aside0.mk H
         clear H
         have hnb73 := NB351_321.out
         have hnc73 := NB321_351.out
         have hnb74 := NB351_336.out
         have hnc74 := NB336_351.out
         have hnb75 := NB351_342.out
         have hnc75 := NB342_351.out
         obtain ⟨hcz76_0, hcz76_1, hcz76_2, hcz76_3, hcz76_4⟩ := zc5 BK351.out
         obtain ⟨hfz76_0, hfz76_1, hfz76_2, hfz76_3, hfz76_4⟩ := zf BK351.out
         have hnb77 := NB336_321.out
         have hnc77 := NB321_336.out
         have hnb78 := NB336_342.out
         have hnc78 := NB342_336.out
         obtain ⟨hcz79_0, hcz79_1, hcz79_2, hcz79_3, hcz79_4⟩ := zc5 BK336.out
         obtain ⟨hfz79_0, hfz79_1, hfz79_2, hfz79_3, hfz79_4⟩ := zf BK336.out
         go_wp2_with (first | (go_at_call 31; (with_reducible refine (laws_eqEvent.calls kj10 t343 t344 t345 t346 _ _ t347 t328 t329 t330 t331 _ _ t332 true _ ?side1 ?side2 ?side3 ?side4 A71.out).mono ?_); (case side1 => exact zC ((Kd.R_reads' HO_352004.out).2.2)); (case side2 => exact (Kd.R_reads' HO_352004.out).2.1); (case side3 => exact zC ((Kd.R_reads' HO_337004.out).2.2)); (case side4 => exact (Kd.R_reads' HO_337004.out).2.1); rintro e w80 ⟨rfl, hb⟩; have n0_ := Aside0.mk (Kd.R_below (zR HO_337004.out) hb); have n1_ := Aside0.mk (Kd.R_below (zR HO_343002.out) hb); have n2_ := Aside0.mk (Kd.R_below (zR HO_352004.out) hb); have n3_ := Aside0.mk (Kd.R_below (zR HO357.out) hb); have n4_ := Aside0.mk (blk_below (g := gb321) (o := .cells #[.int .i64 a0_0, .int .i64 a0_1, .slice A0_2 l0_2.length c0_2] 58 (0, 0)) (zB BK321.out) hb); have n5_ := Aside0.mk (blk_below (g := gb336) (o := .cells #[.int .i64 t328, .int .i64 t329, .int .i64 t330, .int .i64 t331, .slice Ao22 t332.length co22] 44 (0, 0)) (zB BK336.out) hb); have n6_ := Aside0.mk (blk_below (g := gb342) (o := .cells #[.int .i64 t337, .int .i64 t338, .slice Ao29 t339.length co29] 62 (0, 0)) (zB BK342.out) hb); have n7_ := Aside0.mk (blk_below (g := gb351) (o := .cells #[.int .i64 t343, .int .i64 t344, .int .i64 t345, .int .i64 t346, .slice Ao36 t347.length co36] 44 (0, 0)) (zB BK351.out) hb); have n8_ := Aside0.mk (below_step zH hb); clear HO_337004; clear HO_343002; clear HO_352004; clear HO357; clear BK321; clear BK336; clear BK342; clear BK351; clear HB; have HO_337004 := n0_; have HO_343002 := n1_; have HO_352004 := n2_; have HO357 := n3_; have BK321 := n4_; have BK336 := n5_; have BK342 := n6_; have BK351 := n7_; have HB := n8_; clear n0_ n1_ n2_ n3_ n4_ n5_ n6_ n7_ n8_; (try clear hb); (try clear hb2); (try clear hk); (try clear hi)))
         go_meet
         case rel => exact ⟨_, ((t350 != t335)), zF, H', ⟨by have := HJ10.out; first | omega | exact Nat.le_refl _⟩, ⟨by (with_reducible repeat (first | apply Kd.R_alloc | apply Kd.R_drewN | apply Kd.R_drew)); exact Kd.R_mono HO_337004.out (fun _ hk => ⟨hk.1, hk.2.1⟩)⟩, ⟨by (with_reducible repeat (first | apply Kd.R_alloc | apply Kd.R_drewN | apply Kd.R_drew)); exact Kd.R_mono HO_343002.out (fun _ hk => ⟨hk.1.1, hk.1.2⟩)⟩, ⟨by (with_reducible repeat (first | apply Kd.R_alloc | apply Kd.R_drewN | apply Kd.R_drew)); exact Kd.R_mono HO_352004.out (fun _ hk => ⟨hk.1, hk.2.1⟩)⟩, ⟨zB BK321.out⟩, ⟨zB BK336.out⟩, ⟨zB BK342.out⟩, ⟨zB BK351.out⟩, ⟨zH⟩⟩
        ·replace c72 := Bool.eq_false_iff.mpr c72
         subst c72
         replace H : (laws_FnExactTakeEvent.j1 kj10 t335 true a0_0 a0_1 l0_2 t328 t329 t330 t331 t332 t343 t344 t345 t346 t347) = some r := by rw [if_neg (show ¬ (false = true) by decide)] at H; exact H
         have H' := Aside0.mk H
         clear H
         have hnb81 := NB351_321.out
         have hnc81 := NB321_351.out
         have hnb82 := NB351_336.out
         have hnc82 := NB336_351.out
         have hnb83 := NB351_342.out
         have hnc83 := NB342_351.out
         obtain ⟨hcz84_0, hcz84_1, hcz84_2, hcz84_3, hcz84_4⟩ := zc5 BK351.out
         obtain ⟨hfz84_0, hfz84_1, hfz84_2, hfz84_3, hfz84_4⟩ := zf BK351.out
         have hnb85 := NB336_321.out
         have hnc85 := NB321_336.out
         have hnb86 := NB336_342.out
         have hnc86 := NB342_336.out
         obtain ⟨hcz87_0, hcz87_1, hcz87_2, hcz87_3, hcz87_4⟩ := zc5 BK336.out
         obtain ⟨hfz87_0, hfz87_1, hfz87_2, hfz87_3, hfz87_4⟩ := zf BK336.out
         go_wp2_with (first | (go_at_call 31; (with_reducible refine (laws_eqEvent.calls kj10 t343 t344 t345 t346 _ _ t347 t328 t329 t330 t331 _ _ t332 false _ ?side1 ?side2 ?side3 ?side4 A71.out).mono ?_); (case side1 => exact zC ((Kd.R_reads' HO_352004.out).2.2)); (case side2 => exact (Kd.R_reads' HO_352004.out).2.1); (case side3 => exact zC ((Kd.R_reads' HO_337004.out).2.2)); (case side4 => exact (Kd.R_reads' HO_337004.out).2.1); rintro e w88 ⟨rfl, hb⟩; have n0_ := Aside0.mk (Kd.R_below (zR HO_337004.out) hb); have n1_ := Aside0.mk (Kd.R_below (zR HO_343002.out) hb); have n2_ := Aside0.mk (Kd.R_below (zR HO_352004.out) hb); have n3_ := Aside0.mk (Kd.R_below (zR HO357.out) hb); have n4_ := Aside0.mk (blk_below (g := gb321) (o := .cells #[.int .i64 a0_0, .int .i64 a0_1, .slice A0_2 l0_2.length c0_2] 58 (0, 0)) (zB BK321.out) hb); have n5_ := Aside0.mk (blk_below (g := gb336) (o := .cells #[.int .i64 t328, .int .i64 t329, .int .i64 t330, .int .i64 t331, .slice Ao22 t332.length co22] 44 (0, 0)) (zB BK336.out) hb); have n6_ := Aside0.mk (blk_below (g := gb342) (o := .cells #[.int .i64 t337, .int .i64 t338, .slice Ao29 t339.length co29] 62 (0, 0)) (zB BK342.out) hb); have n7_ := Aside0.mk (blk_below (g := gb351) (o := .cells #[.int .i64 t343, .int .i64 t344, .int .i64 t345, .int .i64 t346, .slice Ao36 t347.length co36] 44 (0, 0)) (zB BK351.out) hb); have n8_ := Aside0.mk (below_step zH hb); clear HO_337004; clear HO_343002; clear HO_352004; clear HO357; clear BK321; clear BK336; clear BK342; clear BK351; clear HB; have HO_337004 := n0_; have HO_343002 := n1_; have HO_352004 := n2_; have HO357 := n3_; have BK321 := n4_; have BK336 := n5_; have BK342 := n6_; have BK351 := n7_; have HB := n8_; clear n0_ n1_ n2_ n3_ n4_ n5_ n6_ n7_ n8_; (try clear hb); (try clear hb2); (try clear hk); (try clear hi)))
         go_meet
         case rel => exact ⟨_, (true), zF, H', ⟨by have := HJ10.out; first | omega | exact Nat.le_refl _⟩, ⟨by (with_reducible repeat (first | apply Kd.R_alloc | apply Kd.R_drewN | apply Kd.R_drew)); exact Kd.R_mono HO_337004.out (fun _ hk => ⟨hk.1, hk.2.1⟩)⟩, ⟨by (with_reducible repeat (first | apply Kd.R_alloc | apply Kd.R_drewN | apply Kd.R_drew)); exact Kd.R_mono HO_343002.out (fun _ hk => ⟨hk.1.1, hk.1.2⟩)⟩, ⟨by (with_reducible repeat (first | apply Kd.R_alloc | apply Kd.R_drewN | apply Kd.R_drew)); exact Kd.R_mono HO_352004.out (fun _ hk => ⟨hk.1, hk.2.1⟩)⟩, ⟨zB BK321.out⟩, ⟨zB BK336.out⟩, ⟨zB BK342.out⟩, ⟨zB BK351.out⟩, ⟨zH⟩⟩
      case rest =>
       clear HC60
       (try clear c2);(try clear p2);(try clear c3);(try clear c3b0);(try clear c4);(try clear c5);(try clear c6);(try clear c7);(try clear c8);(try clear c9);(try clear c20);(try clear c26);(try clear c27);(try clear c31);(try clear c32);(try clear c33);(try clear c34);(try clear c38);(try clear c39);(try clear c40);(try clear c41);(try clear c43);(try clear c44);(try clear c45);(try clear c46);(try clear c47);(try clear c48);(try clear c49);(try clear c51);(try clear c52)
       (try clear c55);(try clear c58);(try clear c65);(try clear c66);(try clear c67);(try clear c70);(try clear c70b0);(try clear c72);(try clear c73);(try clear c74);(try clear c75);(try clear c77);(try clear c78);(try clear c81);(try clear c82);(try clear c83);(try clear c85);(try clear c86);(try clear hcz13_0);(try clear hcz13_1);(try clear hcz13_2);(try clear hcz15_0);(try clear hcz15_1);(try clear hcz15_2);(try clear hcz21_0);(try clear hcz21_1);(try clear hcz21_2)
       (try clear hcz21_3);(try clear hcz21_4);(try clear hcz23_0);(try clear hcz23_1);(try clear hcz23_2);(try clear hcz28_0);(try clear hcz28_1);(try clear hcz28_2);(try clear hcz35_0);(try clear hcz35_1);(try clear hcz35_2);(try clear hcz35_3);(try clear hcz35_4);(try clear hcz42_0);(try clear hcz42_1);(try clear hcz42_2);(try clear hcz42_3);(try clear hcz42_4);(try clear hcz45_0);(try clear hcz45_1);(try clear hcz45_2);(try clear hcz45_3);(try clear hcz45_4)
       (try clear hcz50_0);(try clear hcz50_1);(try clear hcz50_2);(try clear hcz50_3);(try clear hcz50_4);(try clear hcz53_0);(try clear hcz53_1);(try clear hcz53_2);(try clear hcz53_3);(try clear hcz53_4);(try clear hcz5_0);(try clear hcz5_1);(try clear hcz5_2);(try clear hcz68_0);(try clear hcz68_1);(try clear hcz68_2);(try clear hcz76_0);(try clear hcz76_1);(try clear hcz76_2);(try clear hcz76_3);(try clear hcz76_4);(try clear hcz79_0);(try clear hcz79_1)
       (try clear hcz79_2);(try clear hcz79_3);(try clear hcz79_4);(try clear hcz84_0);(try clear hcz84_1);(try clear hcz84_2);(try clear hcz84_3);(try clear hcz84_4);(try clear hcz87_0);(try clear hcz87_1);(try clear hcz87_2);(try clear hcz87_3);(try clear hcz87_4);(try clear hfz13_0);(try clear hfz13_1);(try clear hfz13_2);(try clear hfz15_0);(try clear hfz15_1);(try clear hfz15_2);(try clear hfz21_0);(try clear hfz21_1);(try clear hfz21_2);(try clear hfz21_3)
       (try clear hfz21_4);(try clear hfz23_0);(try clear hfz23_1);(try clear hfz23_2);(try clear hfz28_0);(try clear hfz28_1);(try clear hfz28_2);(try clear hfz35_0);(try clear hfz35_1);(try clear hfz35_2);(try clear hfz35_3);(try clear hfz35_4);(try clear hfz42_0);(try clear hfz42_1);(try clear hfz42_2);(try clear hfz42_3);(try clear hfz42_4);(try clear hfz45_0);(try clear hfz45_1);(try clear hfz45_2);(try clear hfz45_3);(try clear hfz45_4);(try clear hfz50_0)
       (try clear hfz50_1);(try clear hfz50_2);(try clear hfz50_3);(try clear hfz50_4);(try clear hfz53_0);(try clear hfz53_1);(try clear hfz53_2);(try clear hfz53_3);(try clear hfz53_4);(try clear hfz5_0);(try clear hfz5_1);(try clear hfz5_2);(try clear hfz68_0);(try clear hfz68_1);(try clear hfz68_2);(try clear hfz76_0);(try clear hfz76_1);(try clear hfz76_2);(try clear hfz76_3);(try clear hfz76_4);(try clear hfz79_0);(try clear hfz79_1);(try clear hfz79_2)
       (try clear hfz79_3);(try clear hfz79_4);(try clear hfz84_0);(try clear hfz84_1);(try clear hfz84_2);(try clear hfz84_3);(try clear hfz84_4);(try clear hfz87_0);(try clear hfz87_1);(try clear hfz87_2);(try clear hfz87_3);(try clear hfz87_4);(try clear p2)
       obtain ⟨kq, x61_59, rfl, HA, HJ59, HO_337004, HO_343002, HO_352004, BK321, BK336, BK342, BK351, HB⟩ := hcut
       have hl343002_59 := (Kd.R_reads' HO_343002.out).1
       rw [hl343002_59] at HO_343002
       (try simp only [hl343002_59])
       (try simp only [hl343002_59] at BK321)
       (try simp only [hl343002_59] at BK336)
       (try simp only [hl343002_59] at BK342)
       (try simp only [hl343002_59] at BK351)
       (try simp only [hl343002_59] at HO_337004)
       (try simp only [hl343002_59] at HO_352004)
       cases kq with
       | zero => exact absurd HA.out (by simp [laws_FnExactTakeEvent.j1])
       | succ kj59 =>
        have H := HA.out
        clear HA
        simp only [laws_FnExactTakeEvent.j1] at H
        by_cases c89 : x61_59 = true
        ·subst c89
         replace H : (some false) = some r := by rw [if_pos rfl] at H; exact H
         exact absurd ((Option.some.inj H).trans HT_.out) (by decide)
        ·replace c89 := Bool.eq_false_iff.mpr c89
         subst c89
         replace H : ((laws_markEvent.f kj59 t343 t344 t345 t346 t347 1).bind fun bt362 => ((laws_heldEvent.f kj59 t343 t344 t345 t346 bt362.2 1).bind fun t364 => (if t364 < 0 then (some false) else (if t364 = bt362.1 then ((laws_toFrame.f kj59 a0_0 a0_1 l0_2).bind fun bt365 => ((impl_TakeEvent.f kj59 bt365.1 bt365.2.1 bt365.2.2).bind fun bt370 => ((laws_eqEvent.f kj59 bt370.1 bt370.2.1 bt370.2.2.1 bt370.2.2.2.1 bt370.2.2.2.2.1 t328 t329 t330 t331 t332).bind fun t379 => (if t379 = true then (laws_FnExactTakeEvent.j2 kj59 bt362.1 (bt370.2.2.2.2.2 != t335) t343 t344 t345 t346 bt362.2) else (laws_FnExactTakeEvent.j2 kj59 bt362.1 true t343 t344 t345 t346 bt362.2))))) else (some false))))) = some r := by rw [if_neg (show ¬ (false = true) by decide)] at H; exact H
         replace H := Option.bind_eq_some_iff.mp H
         obtain ⟨⟨t362, t363⟩, A900, H⟩ := H
         replace H : ((laws_heldEvent.f kj59 t343 t344 t345 t346 t363 1).bind fun t364 => (if t364 < 0 then (some false) else (if t364 = t362 then ((laws_toFrame.f kj59 a0_0 a0_1 l0_2).bind fun bt365 => ((impl_TakeEvent.f kj59 bt365.1 bt365.2.1 bt365.2.2).bind fun bt370 => ((laws_eqEvent.f kj59 bt370.1 bt370.2.1 bt370.2.2.1 bt370.2.2.2.1 bt370.2.2.2.2.1 t328 t329 t330 t331 t332).bind fun t379 => (if t379 = true then (laws_FnExactTakeEvent.j2 kj59 t362 (bt370.2.2.2.2.2 != t335) t343 t344 t345 t346 t363) else (laws_FnExactTakeEvent.j2 kj59 t362 true t343 t344 t345 t346 t363))))) else (some false)))) = some r := H
         have A90 := Aside0.mk A900
         clear A900
         replace H := Option.bind_eq_some_iff.mp H
         obtain ⟨t364, A910, H⟩ := H
         replace H : (if t364 < 0 then (some false) else (if t364 = t362 then ((laws_toFrame.f kj59 a0_0 a0_1 l0_2).bind fun bt365 => ((impl_TakeEvent.f kj59 bt365.1 bt365.2.1 bt365.2.2).bind fun bt370 => ((laws_eqEvent.f kj59 bt370.1 bt370.2.1 bt370.2.2.1 bt370.2.2.2.1 bt370.2.2.2.2.1 t328 t329 t330 t331 t332).bind fun t379 => (if t379 = true then (laws_FnExactTakeEvent.j2 kj59 t362 (bt370.2.2.2.2.2 != t335) t343 t344 t345 t346 t363) else (laws_FnExactTakeEvent.j2 kj59 t362 true t343 t344 t345 t346 t363))))) else (some false))) = some r := H
         have A91 := Aside0.mk A910
         clear A910
         by_cases c92 : t364 < 0
         ·rw [if_pos c92] at H
          have c92b0 : decide (t364 < 0) = true := decide_eq_true c92
          clear c92
          exact absurd ((Option.some.inj H).trans HT_.out) (by decide)
         ·rw [if_neg c92] at H
          have c92b0 : decide (t364 < 0) = false := decide_eq_false c92
          clear c92
          by_cases c93 : t364 = t362
          ·rw [if_pos c93] at H
           have c93b0 : (t364 == t362) = true := beq_iff_eq.mpr c93
           have c93b1 : (t364 != t362) = false := bne_eq_false_iff_eq.mpr c93
           clear c93
           replace H := Option.bind_eq_some_iff.mp H
           obtain ⟨⟨t365, t366, t367⟩, A940, H⟩ := H
           replace H : ((impl_TakeEvent.f kj59 t365 t366 t367).bind fun bt370 => ((laws_eqEvent.f kj59 bt370.1 bt370.2.1 bt370.2.2.1 bt370.2.2.2.1 bt370.2.2.2.2.1 t328 t329 t330 t331 t332).bind fun t379 => (if t379 = true then (laws_FnExactTakeEvent.j2 kj59 t362 (bt370.2.2.2.2.2 != t335) t343 t344 t345 t346 t363) else (laws_FnExactTakeEvent.j2 kj59 t362 true t343 t344 t345 t346 t363)))) = some r := H
           have A94 := Aside0.mk A940
           clear A940
           replace H := Option.bind_eq_some_iff.mp H
           obtain ⟨⟨t370, t371, t372, t373, t374, t377⟩, A950, H⟩ := H
           replace H : ((laws_eqEvent.f kj59 t370 t371 t372 t373 t374 t328 t329 t330 t331 t332).bind fun t379 => (if t379 = true then (laws_FnExactTakeEvent.j2 kj59 t362 (t377 != t335) t343 t344 t345 t346 t363) else (laws_FnExactTakeEvent.j2 kj59 t362 true t343 t344 t345 t346 t363))) = some r := H
           have A95 := Aside0.mk A950
           clear A950
           have HC96 := Aside0.mk H
           clear H
           have hnb97 := NB351_321.out
           have hnc97 := NB321_351.out
           have hnb98 := NB351_336.out
           have hnc98 := NB336_351.out
           have hnb99 := NB351_342.out
           have hnc99 := NB342_351.out
           obtain ⟨hcz100_0, hcz100_1, hcz100_2, hcz100_3, hcz100_4⟩ := zc5 BK351.out
           obtain ⟨hfz100_0, hfz100_1, hfz100_2, hfz100_3, hfz100_4⟩ := zf BK351.out
           go_upto_region 25 with (first | ((with_reducible refine gate_callee (f := 49) rfl ?_); refine goesL_ (some 64) rfl rfl Try.func49 (by kernel_rfl) rfl #[.agg #[.int .i64 t343, .int .i64 t344, .int .i64 t345, .int .i64 t346, .slice Ao36 t347.length co36], .int .i64 1] rfl zM ?_; (with_reducible refine (laws_markEvent.calls kj59 t343 t344 t345 t346 (fun k_ => some k_ = (.slice Ao36 t347.length co36 : Value).ownBlock) (.slice Ao36 t347.length co36) t347 1 t362 t363 w _ ?side1 ?side2 A90.out).mono ?_); (case side1 => repeat (first | (with_reducible first | exact HB.out | apply below_alloc | apply pw_below_drewN | apply below_drew1 | refine below_set ?_ GE321.out | refine below_set ?_ GE336.out | refine below_set ?_ GE342.out | refine below_set ?_ GE351.out) | exact HB.out)); (case side2 => exact Kd.R_tight rfl HO_352004.out); rintro e w101 ⟨rfl, hy0, hb, hkp⟩; refine ⟨_, rfl, ?_⟩; have n0_ := Aside0.mk (Kd.R_mono (ok' := fun k_ => some k_ ≠ (.slice Ao29 t360.length co29 : Value).ownBlock ∧ some k_ ≠ (.slice Ao36 t347.length co36 : Value).ownBlock) (Kd.R_keptB (HO_337004.out) hkp (fun k_ hk_ hs_ => (hk_.2) hs_)) (fun k_ hk_ => ⟨hk_.1.1, hk_.1.2⟩)); have n1_ := Aside0.mk (Kd.R_mono (ok' := fun k_ => some k_ ≠ (.slice Ao22 t332.length co22 : Value).ownBlock ∧ some k_ ≠ (.slice Ao36 t347.length co36 : Value).ownBlock) (Kd.R_keptB (HO_343002.out) hkp (fun k_ hk_ hs_ => (hk_.2) hs_)) (fun k_ hk_ => ⟨hk_.1.1, hk_.1.2⟩)); have n2_ := Aside0.mk (Kd.R_reok rfl hy0 (fun k_ e_ => HO_352004.out.1 k_ e_)); have n3_ := Aside0.mk (blk_kept (zB BK321.out) hkp (fun hs_ => (fun e_ => (Kd.R_ne HO_352004.out BK321.out (by decide)) e_) hs_)); have n4_ := Aside0.mk (blk_kept (zB BK336.out) hkp (fun hs_ => (fun e_ => (Kd.R_ne HO_352004.out BK336.out (by decide)) e_) hs_)); have n5_ := Aside0.mk (blk_kept (zB BK342.out) hkp (fun hs_ => (fun e_ => (Kd.R_ne HO_352004.out BK342.out (by decide)) e_) hs_)); have n6_ := Aside0.mk (blk_kept (zB BK351.out) hkp (fun hs_ => (fun e_ => (Kd.R_ne HO_352004.out BK351.out (by decide)) e_) hs_)); have n7_ := Aside0.mk (hb); clear HO_337004; clear HO_343002; clear HO_352004; clear BK321; clear BK336; clear BK342; clear BK351; clear HB; have HO_337004 := n0_; have HO_343002 := n1_; have HO_352004 := n2_; have BK321 := n3_; have BK336 := n4_; have BK342 := n5_; have BK351 := n6_; have HB := n7_; clear n0_ n1_ n2_ n3_ n4_ n5_ n6_ n7_; (try clear hb); (try clear hkp); (try clear hy0); obtain ⟨hcz102_0, hcz102_1, hcz102_2, hcz102_3, hcz102_4⟩ := zc5 BK351.out; obtain ⟨hfz102_0, hfz102_1, hfz102_2, hfz102_3, hfz102_4⟩ := zf BK351.out) | ((with_reducible refine gate_callee (f := 50) rfl ?_); refine goesL_ (some 67) rfl rfl Try.func50 (by kernel_rfl) rfl #[.agg #[.int .i64 t343, .int .i64 t344, .int .i64 t345, .int .i64 t346, .slice Ao36 t363.length co36], .int .i64 1] rfl (by (try simp only [List.map_toArray, List.map_cons, List.map_nil]); first | done | (rw [show t363.length = t347.length from (Kd.R_reads' HO_352004.out).1.symm] <;> rfl) | rfl | (simp only [List.length_drop, List.length_take]; rfl)) ?_; (with_reducible refine (laws_heldEvent.calls kj59 t343 t344 t345 t346 _ _ t363 1 t364 _ ?side1 ?side2 A91.out).mono ?_); (case side1 => exact zC ((Kd.R_reads' HO_352004.out).2.2)); (case side2 => rw [show t363.length = t347.length from (Kd.R_reads' HO_352004.out).1.symm]; exact (Kd.R_reads' HO_352004.out).2.1); rintro e w103 ⟨rfl, hb⟩; refine ⟨_, rfl, ?_⟩; have n0_ := Aside0.mk (Kd.R_below (zR HO_337004.out) hb); have n1_ := Aside0.mk (Kd.R_below (zR HO_343002.out) hb); have n2_ := Aside0.mk (Kd.R_below (zR HO_352004.out) hb); have n3_ := Aside0.mk (blk_below (g := gb321) (o := .cells #[.int .i64 a0_0, .int .i64 a0_1, .slice A0_2 l0_2.length c0_2] 58 (0, 0)) (zB BK321.out) hb); have n4_ := Aside0.mk (blk_below (g := gb336) (o := .cells #[.int .i64 t328, .int .i64 t329, .int .i64 t330, .int .i64 t331, .slice Ao22 t332.length co22] 44 (0, 0)) (zB BK336.out) hb); have n5_ := Aside0.mk (blk_below (g := gb342) (o := .cells #[.int .i64 t337, .int .i64 t338, .slice Ao29 t360.length co29] 62 (0, 0)) (zB BK342.out) hb); have n6_ := Aside0.mk (blk_below (g := gb351) (o := .cells #[.int .i64 t343, .int .i64 t344, .int .i64 t345, .int .i64 t346, .slice Ao36 t347.length co36] 44 (0, 0)) (zB BK351.out) hb); have n7_ := Aside0.mk (below_step zH hb); clear HO_337004; clear HO_343002; clear HO_352004; clear BK321; clear BK336; clear BK342; clear BK351; clear HB; have HO_337004 := n0_; have HO_343002 := n1_; have HO_352004 := n2_; have BK321 := n3_; have BK336 := n4_; have BK342 := n5_; have BK351 := n6_; have HB := n7_; clear n0_ n1_ n2_ n3_ n4_ n5_ n6_ n7_; (try clear hb); (try clear hb2); (try clear hk); (try clear hi); have hnb104 := NB321_336.out; have hnc104 := NB336_321.out; have hnb105 := NB321_342.out; have hnc105 := NB342_321.out; obtain ⟨hcz106_0, hcz106_1, hcz106_2⟩ := zc3 BK321.out; obtain ⟨hfz106_0, hfz106_1, hfz106_2, _, _⟩ := zf BK321.out) | ((with_reducible refine gate_callee (f := 45) rfl ?_); refine goesL_ (some 75) rfl rfl Try.func45 (by kernel_rfl) rfl #[.agg #[.int .i64 a0_0, .int .i64 a0_1, .slice A0_2 l0_2.length c0_2]] rfl zM ?_; (with_reducible refine (laws_toFrame.calls kj59 a0_0 a0_1 _ _ l0_2 t365 t366 t367 _ ?side1 ?side2 A94.out).mono ?_); (case side1 => exact zC (Kd.C_below HR0_2.out HB.out)); (case side2 => exact HC0_2.out); rintro e w107 ⟨v368, rfl, ho0, hb⟩; refine ⟨_, rfl, ?_⟩; have n0_ := Aside0.mk (Kd.R_elder' (zR HO_337004.out) (Kd.R_base ho0) hb); have n1_ := Aside0.mk (Kd.R_elder' (zR HO_343002.out) (Kd.R_base ho0) hb); have n2_ := Aside0.mk (Kd.R_elder' (zR HO_352004.out) (Kd.R_base ho0) hb); have n3_ := Aside0.mk (Kd.R_lower (Kd.R_new' (Kd.R_new' (Kd.R_new' ho0 (Kd.R_lt (zR HO_337004.out))) (Kd.R_lt (zR HO_343002.out))) (Kd.R_lt (zR HO_352004.out))) (below_size zH)); have n4_ := Aside0.mk (blk_below (g := gb321) (o := .cells #[.int .i64 a0_0, .int .i64 a0_1, .slice A0_2 l0_2.length c0_2] 58 (0, 0)) (zB BK321.out) hb); have n5_ := Aside0.mk (blk_below (g := gb336) (o := .cells #[.int .i64 t328, .int .i64 t329, .int .i64 t330, .int .i64 t331, .slice Ao22 t332.length co22] 44 (0, 0)) (zB BK336.out) hb); have n6_ := Aside0.mk (blk_below (g := gb342) (o := .cells #[.int .i64 t337, .int .i64 t338, .slice Ao29 t360.length co29] 62 (0, 0)) (zB BK342.out) hb); have n7_ := Aside0.mk (blk_below (g := gb351) (o := .cells #[.int .i64 t343, .int .i64 t344, .int .i64 t345, .int .i64 t346, .slice Ao36 t347.length co36] 44 (0, 0)) (zB BK351.out) hb); have n8_ := Aside0.mk (below_step zH hb); clear HO_337004; clear HO_343002; clear HO_352004; clear BK321; clear BK336; clear BK342; clear BK351; clear HB; have HO_337004 := n0_; have HO_343002 := n1_; have HO_352004 := n2_; have HO369 := n3_; have BK321 := n4_; have BK336 := n5_; have BK342 := n6_; have BK351 := n7_; have HB := n8_; clear n0_ n1_ n2_ n3_ n4_ n5_ n6_ n7_ n8_; (try clear hb); (try clear hb2); (try clear hk); (try clear hi); (try clear ho0); obtain ⟨Ao108, co108, eo108⟩ := Kd.R_slice HO369.out; subst eo108) | ((with_reducible refine gate_callee (f := 46) rfl ?_); refine goesL_ (some 76) rfl rfl Try.func46 (by kernel_rfl) rfl #[.agg #[.int .i64 t365, .int .i64 t366, .slice Ao108 t367.length co108]] rfl zM ?_; (with_reducible refine (impl_TakeEvent.calls kj59 t365 t366 _ _ t367 t370 t371 t372 t373 t374 t377 _ ?side1 ?side2 A95.out).mono ?_); (case side1 => exact zC ((Kd.R_reads' HO369.out).2.2)); (case side2 => exact (Kd.R_reads' HO369.out).2.1); rintro e w109 ⟨v375, rfl, ho0, hb⟩; refine ⟨_, rfl, ?_⟩; have n0_ := Aside0.mk (Kd.R_elder' (zR HO_337004.out) (Kd.R_base ho0) hb); have n1_ := Aside0.mk (Kd.R_elder' (zR HO_343002.out) (Kd.R_base ho0) hb); have n2_ := Aside0.mk (Kd.R_elder' (zR HO_352004.out) (Kd.R_base ho0) hb); have n3_ := Aside0.mk (Kd.R_elder' (zR HO369.out) (Kd.R_base ho0) hb); have n4_ := Aside0.mk (Kd.R_lower (Kd.R_new' (Kd.R_new' (Kd.R_new' (Kd.R_new' ho0 (Kd.R_lt (zR HO_337004.out))) (Kd.R_lt (zR HO_343002.out))) (Kd.R_lt (zR HO_352004.out))) (Kd.R_lt (zR HO369.out))) (below_size zH)); have n5_ := Aside0.mk (blk_below (g := gb321) (o := .cells #[.int .i64 a0_0, .int .i64 a0_1, .slice A0_2 l0_2.length c0_2] 58 (0, 0)) (zB BK321.out) hb); have n6_ := Aside0.mk (blk_below (g := gb336) (o := .cells #[.int .i64 t328, .int .i64 t329, .int .i64 t330, .int .i64 t331, .slice Ao22 t332.length co22] 44 (0, 0)) (zB BK336.out) hb); have n7_ := Aside0.mk (blk_below (g := gb342) (o := .cells #[.int .i64 t337, .int .i64 t338, .slice Ao29 t360.length co29] 62 (0, 0)) (zB BK342.out) hb); have n8_ := Aside0.mk (blk_below (g := gb351) (o := .cells #[.int .i64 t343, .int .i64 t344, .int .i64 t345, .int .i64 t346, .slice Ao36 t347.length co36] 44 (0, 0)) (zB BK351.out) hb); have n9_ := Aside0.mk (below_step zH hb); clear HO_337004; clear HO_343002; clear HO_352004; clear HO369; clear BK321; clear BK336; clear BK342; clear BK351; clear HB; have HO_337004 := n0_; have HO_343002 := n1_; have HO_352004 := n2_; have HO369 := n3_; have HO376 := n4_; have BK321 := n5_; have BK336 := n6_; have BK342 := n7_; have BK351 := n8_; have HB := n9_; clear n0_ n1_ n2_ n3_ n4_ n5_ n6_ n7_ n8_ n9_; (try clear hb); (try clear hb2); (try clear hk); (try clear hi); (try clear ho0)) | ((with_reducible refine gate_dst (N := 12) rfl ?_); refine box_event ?hg (N := 12) ?hd (cs := #[.int .i64 0, .int .i64 0, .int .i64 0, .int .i64 0, .slice none 0 0]) (t := 44) ?hr ?_; (case hd => rfl); (case hg => rfl); (case hr => first | (go_simp; done) | (go_simp; rfl)); intro gb378 hg w110 hbox hb; have n0_ := Aside0.mk (Kd.R_below (zR HO_337004.out) hb); have n1_ := Aside0.mk (Kd.R_below (zR HO_343002.out) hb); have n2_ := Aside0.mk (Kd.R_below (zR HO_352004.out) hb); have n3_ := Aside0.mk (Kd.R_below (zR HO369.out) hb); have n4_ := Aside0.mk (Kd.R_below (zR HO376.out) hb); have n5_ := Aside0.mk (blk_below (g := gb321) (o := .cells #[.int .i64 a0_0, .int .i64 a0_1, .slice A0_2 l0_2.length c0_2] 58 (0, 0)) (zB BK321.out) hb); have n6_ := Aside0.mk (blk_below (g := gb336) (o := .cells #[.int .i64 t328, .int .i64 t329, .int .i64 t330, .int .i64 t331, .slice Ao22 t332.length co22] 44 (0, 0)) (zB BK336.out) hb); have n7_ := Aside0.mk (blk_below (g := gb342) (o := .cells #[.int .i64 t337, .int .i64 t338, .slice Ao29 t360.length co29] 62 (0, 0)) (zB BK342.out) hb); have n8_ := Aside0.mk (blk_below (g := gb351) (o := .cells #[.int .i64 t343, .int .i64 t344, .int .i64 t345, .int .i64 t346, .slice Ao36 t347.length co36] 44 (0, 0)) (zB BK351.out) hb); have n9_ := Aside0.mk (below_step zH hb); have n10_ := Aside0.mk (hbox); have n11_ := Aside0.mk ((by rw [hg]; exact (below_size zH) : w.heap.size ≤ gb378)); have n12_ := Aside0.mk ((by rw [hg]; exact (below_size zH) : w.heap.size ≤ gb378)); have n13_ := Aside0.mk ((by rw [hg]; exact Nat.ne_of_lt (blk_lt (g := gb321) (o := .cells #[.int .i64 a0_0, .int .i64 a0_1, .slice A0_2 l0_2.length c0_2] 58 (0, 0)) (zB BK321.out)) : gb321 ≠ gb378)); have n14_ := Aside0.mk ((by rw [hg]; exact Nat.ne_of_gt (blk_lt (g := gb321) (o := .cells #[.int .i64 a0_0, .int .i64 a0_1, .slice A0_2 l0_2.length c0_2] 58 (0, 0)) (zB BK321.out)) : gb378 ≠ gb321)); have n15_ := Aside0.mk ((by rw [hg]; exact Nat.ne_of_lt (blk_lt (g := gb336) (o := .cells #[.int .i64 t328, .int .i64 t329, .int .i64 t330, .int .i64 t331, .slice Ao22 t332.length co22] 44 (0, 0)) (zB BK336.out)) : gb336 ≠ gb378)); have n16_ := Aside0.mk ((by rw [hg]; exact Nat.ne_of_gt (blk_lt (g := gb336) (o := .cells #[.int .i64 t328, .int .i64 t329, .int .i64 t330, .int .i64 t331, .slice Ao22 t332.length co22] 44 (0, 0)) (zB BK336.out)) : gb378 ≠ gb336)); have n17_ := Aside0.mk ((by rw [hg]; exact Nat.ne_of_lt (blk_lt (g := gb342) (o := .cells #[.int .i64 t337, .int .i64 t338, .slice Ao29 t360.length co29] 62 (0, 0)) (zB BK342.out)) : gb342 ≠ gb378)); have n18_ := Aside0.mk ((by rw [hg]; exact Nat.ne_of_gt (blk_lt (g := gb342) (o := .cells #[.int .i64 t337, .int .i64 t338, .slice Ao29 t360.length co29] 62 (0, 0)) (zB BK342.out)) : gb378 ≠ gb342)); have n19_ := Aside0.mk ((by rw [hg]; exact Nat.ne_of_lt (blk_lt (g := gb351) (o := .cells #[.int .i64 t343, .int .i64 t344, .int .i64 t345, .int .i64 t346, .slice Ao36 t347.length co36] 44 (0, 0)) (zB BK351.out)) : gb351 ≠ gb378)); have n20_ := Aside0.mk ((by rw [hg]; exact Nat.ne_of_gt (blk_lt (g := gb351) (o := .cells #[.int .i64 t343, .int .i64 t344, .int .i64 t345, .int .i64 t346, .slice Ao36 t347.length co36] 44 (0, 0)) (zB BK351.out)) : gb378 ≠ gb351)); clear HO_337004; clear HO_343002; clear HO_352004; clear HO369; clear HO376; clear BK321; clear BK336; clear BK342; clear BK351; clear HB; have HO_337004 := n0_; have HO_343002 := n1_; have HO_352004 := n2_; have HO369 := n3_; have HO376 := n4_; have BK321 := n5_; have BK336 := n6_; have BK342 := n7_; have BK351 := n8_; have HB := n9_; have BK378 := n10_; have GW378 := n11_; have GE378 := n12_; have NB321_378 := n13_; have NB378_321 := n14_; have NB336_378 := n15_; have NB378_336 := n16_; have NB342_378 := n17_; have NB378_342 := n18_; have NB351_378 := n19_; have NB378_351 := n20_; clear n0_ n1_ n2_ n3_ n4_ n5_ n6_ n7_ n8_ n9_ n10_ n11_ n12_ n13_ n14_ n15_ n16_ n17_ n18_ n19_ n20_; clear hb hbox hg; have hnb111 := NB378_321.out; have hnc111 := NB321_378.out; have hnb112 := NB378_336.out; have hnc112 := NB336_378.out; have hnb113 := NB378_342.out; have hnc113 := NB342_378.out; have hnb114 := NB378_351.out; have hnc114 := NB351_378.out; obtain ⟨hcz115_0, hcz115_1, hcz115_2, hcz115_3, hcz115_4⟩ := zc5 BK378.out; obtain ⟨hfz115_0, hfz115_1, hfz115_2, hfz115_3, hfz115_4⟩ := zf BK378.out; obtain ⟨Ao116, co116, eo116⟩ := Kd.R_slice HO376.out; subst eo116))
           (try simp only [Act.put, List.setIfInBounds_toArray, List.set_cons_zero, List.set_cons_succ])
           go_cut [87] (fun v87 wc => ∃ (kq : Nat) (x87_95 : Bool), v87 = .bool x87_95 ∧ Aside0 (laws_FnExactTakeEvent.j2 kq t362 x87_95 t343 t344 t345 t346 t363 = some r) ∧ Aside0 (kq ≤ kj59) ∧ Aside0 (Kd.R (Kd.int .u8) 5 wc w.heap.size (fun k_ => some k_ ≠ ((.slice Ao29 t360.length co29) : Value).ownBlock ∧ some k_ ≠ ((.slice Ao36 t347.length co36) : Value).ownBlock ∧ some k_ ≠ ((.slice Ao116 t374.length co116) : Value).ownBlock) (.slice Ao22 t332.length co22) t332) ∧ Aside0 (Kd.R (Kd.int .u8) 5 wc w.heap.size (fun k_ => some k_ ≠ ((.slice Ao22 t332.length co22) : Value).ownBlock ∧ some k_ ≠ ((.slice Ao36 t347.length co36) : Value).ownBlock ∧ some k_ ≠ ((.slice Ao116 t374.length co116) : Value).ownBlock) (.slice Ao29 t360.length co29) t360) ∧ Aside0 (Kd.R (Kd.int .u8) 5 wc w.heap.size (fun k_ => some k_ ≠ ((.slice Ao22 t332.length co22) : Value).ownBlock ∧ some k_ ≠ ((.slice Ao29 t360.length co29) : Value).ownBlock ∧ some k_ ≠ ((.slice Ao116 t374.length co116) : Value).ownBlock) (.slice Ao36 t347.length co36) t363) ∧ Aside0 (Kd.R (Kd.int .u8) 5 wc w.heap.size (fun k_ => some k_ ≠ ((.slice Ao22 t332.length co22) : Value).ownBlock ∧ some k_ ≠ ((.slice Ao29 t360.length co29) : Value).ownBlock ∧ some k_ ≠ ((.slice Ao36 t347.length co36) : Value).ownBlock) (.slice Ao116 t374.length co116) t374) ∧ Aside0 (wc.heap[gb321]? = some (.cells #[.int .i64 a0_0, .int .i64 a0_1, (.slice A0_2 l0_2.length c0_2)] 58 (0, 0))) ∧ Aside0 (wc.heap[gb336]? = some (.cells #[.int .i64 t328, .int .i64 t329, .int .i64 t330, .int .i64 t331, (.slice Ao22 t332.length co22)] 44 (0, 0))) ∧ Aside0 (wc.heap[gb342]? = some (.cells #[.int .i64 t337, .int .i64 t338, (.slice Ao29 t360.length co29)] 62 (0, 0))) ∧ Aside0 (wc.heap[gb351]? = some (.cells #[.int .i64 t343, .int .i64 t344, .int .i64 t345, .int .i64 t346, (.slice Ao36 t347.length co36)] 44 (0, 0))) ∧ Aside0 (wc.heap[gb378]? = some (.cells #[.int .i64 t370, .int .i64 t371, .int .i64 t372, .int .i64 t373, (.slice Ao116 t374.length co116)] 44 (0, 0))) ∧ Aside0 (Below w.heap.size w wc))
           case first =>
            have H := HC96.out
            clear HC96
            replace H := Option.bind_eq_some_iff.mp H
            obtain ⟨t379, A1170, H⟩ := H
            replace H : (if t379 = true then (laws_FnExactTakeEvent.j2 kj59 t362 (t377 != t335) t343 t344 t345 t346 t363) else (laws_FnExactTakeEvent.j2 kj59 t362 true t343 t344 t345 t346 t363)) = some r := H
            have A117 := Aside0.mk A1170
            clear A1170
            by_cases c118 : t379 = true
            ·subst c118
             replace H : (laws_FnExactTakeEvent.j2 kj59 t362 (t377 != t335) t343 t344 t345 t346 t363) = some r := by rw [if_pos rfl] at H; exact H
             have H' := Aside0.mk H
             clear H
             have hnb119 := NB378_321.out
             have hnc119 := NB321_378.out
             have hnb120 := NB378_336.out
             have hnc120 := NB336_378.out
             have hnb121 := NB378_342.out
             have hnc121 := NB342_378.out
             have hnb122 := NB378_351.out
             have hnc122 := NB351_378.out
             obtain ⟨hcz123_0, hcz123_1, hcz123_2, hcz123_3, hcz123_4⟩ := zc5 BK378.out
             obtain ⟨hfz123_0, hfz123_1, hfz123_2, hfz123_3, hfz123_4⟩ := zf BK378.out
             have hnb124 := NB336_321.out
             have hnc124 := NB321_336.out
             have hnb125 := NB336_342.out
             have hnc125 := NB342_336.out
             have hnb126 := NB336_351.out
             have hnc126 := NB351_336.out
             obtain ⟨hcz127_0, hcz127_1, hcz127_2, hcz127_3, hcz127_4⟩ := zc5 BK336.out
             obtain ⟨hfz127_0, hfz127_1, hfz127_2, hfz127_3, hfz127_4⟩ := zf BK336.out
             go_wp2_with (first | ((with_reducible refine gate_callee (f := 31) rfl ?_); refine goesL_ (some 81) rfl rfl Try.func31 (by kernel_rfl) rfl #[.agg #[.int .i64 t370, .int .i64 t371, .int .i64 t372, .int .i64 t373, .slice Ao116 t374.length co116], .agg #[.int .i64 t328, .int .i64 t329, .int .i64 t330, .int .i64 t331, .slice Ao22 t332.length co22]] rfl zM ?_; (with_reducible refine (laws_eqEvent.calls kj59 t370 t371 t372 t373 _ _ t374 t328 t329 t330 t331 _ _ t332 true _ ?side1 ?side2 ?side3 ?side4 A117.out).mono ?_); (case side1 => refine (Kd.R_reads' (e := 5) (base := w.heap.size) (ok := fun k_ => ((((True ∧ some k_ ≠ (.slice Ao22 t332.length co22 : Value).ownBlock) ∧ some k_ ≠ (.slice Ao29 t360.length co29 : Value).ownBlock) ∧ some k_ ≠ (.slice Ao36 t347.length co36 : Value).ownBlock) ∧ some k_ ≠ (.slice Ao108 t367.length co108 : Value).ownBlock)) (n := t374.length) (c := co116) ?_).2.2; exact (by (with_reducible repeat (first | apply Kd.R_alloc | apply Kd.R_drewN | apply Kd.R_drew)); exact (Kd.R_mono (Kd.R_far (p := ⟨gb378, 4, none⟩) (Kd.R_far (p := ⟨gb378, 3, none⟩) (Kd.R_far (p := ⟨gb378, 2, none⟩) (Kd.R_far (p := ⟨gb378, 1, none⟩) (Kd.R_far (p := ⟨gb378, 0, none⟩) (Kd.R_types HO376.out BK378.out (by decide)) (fun _ hk => hk.2) (.int .i64 t370)) (fun _ hk => hk.2) (.int .i64 t371)) (fun _ hk => hk.2) (.int .i64 t372)) (fun _ hk => hk.2) (.int .i64 t373)) (fun _ hk => hk.2) (.slice Ao116 t374.length co116)) (fun _ h_ => h_.1)))); (case side2 => exact (Kd.R_reads' HO376.out).2.1); (case side3 => refine (Kd.R_reads' (e := 5) (base := w.heap.size) (ok := fun k_ => (((some k_ ≠ (.slice Ao29 t360.length co29 : Value).ownBlock ∧ some k_ ≠ (.slice Ao36 t347.length co36 : Value).ownBlock) ∧ some k_ ≠ (.slice Ao108 t367.length co108 : Value).ownBlock) ∧ some k_ ≠ (.slice Ao116 t374.length co116 : Value).ownBlock)) (n := t332.length) (c := co22) ?_).2.2; exact (by (with_reducible repeat (first | apply Kd.R_alloc | apply Kd.R_drewN | apply Kd.R_drew)); exact (Kd.R_mono (Kd.R_far (p := ⟨gb378, 4, none⟩) (Kd.R_far (p := ⟨gb378, 3, none⟩) (Kd.R_far (p := ⟨gb378, 2, none⟩) (Kd.R_far (p := ⟨gb378, 1, none⟩) (Kd.R_far (p := ⟨gb378, 0, none⟩) (Kd.R_types HO_337004.out BK378.out (by decide)) (fun _ hk => hk.2) (.int .i64 t370)) (fun _ hk => hk.2) (.int .i64 t371)) (fun _ hk => hk.2) (.int .i64 t372)) (fun _ hk => hk.2) (.int .i64 t373)) (fun _ hk => hk.2) (.slice Ao116 t374.length co116)) (fun _ h_ => h_.1)))); (case side4 => exact (Kd.R_reads' HO_337004.out).2.1); rintro e w128 ⟨rfl, hb⟩; refine ⟨_, rfl, ?_⟩; have n0_ := Aside0.mk (Kd.R_below (by (with_reducible repeat (first | apply Kd.R_alloc | apply Kd.R_drewN | apply Kd.R_drew)); exact (Kd.R_mono (Kd.R_far (p := ⟨gb378, 4, none⟩) (Kd.R_far (p := ⟨gb378, 3, none⟩) (Kd.R_far (p := ⟨gb378, 2, none⟩) (Kd.R_far (p := ⟨gb378, 1, none⟩) (Kd.R_far (p := ⟨gb378, 0, none⟩) (Kd.R_types HO_337004.out BK378.out (by decide)) (fun _ hk => hk.2) (.int .i64 t370)) (fun _ hk => hk.2) (.int .i64 t371)) (fun _ hk => hk.2) (.int .i64 t372)) (fun _ hk => hk.2) (.int .i64 t373)) (fun _ hk => hk.2) (.slice Ao116 t374.length co116)) (fun _ h_ => h_.1))) hb); have n1_ := Aside0.mk (Kd.R_below (by (with_reducible repeat (first | apply Kd.R_alloc | apply Kd.R_drewN | apply Kd.R_drew)); exact (Kd.R_mono (Kd.R_far (p := ⟨gb378, 4, none⟩) (Kd.R_far (p := ⟨gb378, 3, none⟩) (Kd.R_far (p := ⟨gb378, 2, none⟩) (Kd.R_far (p := ⟨gb378, 1, none⟩) (Kd.R_far (p := ⟨gb378, 0, none⟩) (Kd.R_types HO_343002.out BK378.out (by decide)) (fun _ hk => hk.2) (.int .i64 t370)) (fun _ hk => hk.2) (.int .i64 t371)) (fun _ hk => hk.2) (.int .i64 t372)) (fun _ hk => hk.2) (.int .i64 t373)) (fun _ hk => hk.2) (.slice Ao116 t374.length co116)) (fun _ h_ => h_.1))) hb); have n2_ := Aside0.mk (Kd.R_below (by (with_reducible repeat (first | apply Kd.R_alloc | apply Kd.R_drewN | apply Kd.R_drew)); exact (Kd.R_mono (Kd.R_far (p := ⟨gb378, 4, none⟩) (Kd.R_far (p := ⟨gb378, 3, none⟩) (Kd.R_far (p := ⟨gb378, 2, none⟩) (Kd.R_far (p := ⟨gb378, 1, none⟩) (Kd.R_far (p := ⟨gb378, 0, none⟩) (Kd.R_types HO_352004.out BK378.out (by decide)) (fun _ hk => hk.2) (.int .i64 t370)) (fun _ hk => hk.2) (.int .i64 t371)) (fun _ hk => hk.2) (.int .i64 t372)) (fun _ hk => hk.2) (.int .i64 t373)) (fun _ hk => hk.2) (.slice Ao116 t374.length co116)) (fun _ h_ => h_.1))) hb); have n3_ := Aside0.mk (Kd.R_below (by (with_reducible repeat (first | apply Kd.R_alloc | apply Kd.R_drewN | apply Kd.R_drew)); exact (Kd.R_mono (Kd.R_far (p := ⟨gb378, 4, none⟩) (Kd.R_far (p := ⟨gb378, 3, none⟩) (Kd.R_far (p := ⟨gb378, 2, none⟩) (Kd.R_far (p := ⟨gb378, 1, none⟩) (Kd.R_far (p := ⟨gb378, 0, none⟩) (Kd.R_types HO369.out BK378.out (by decide)) (fun _ hk => hk.2) (.int .i64 t370)) (fun _ hk => hk.2) (.int .i64 t371)) (fun _ hk => hk.2) (.int .i64 t372)) (fun _ hk => hk.2) (.int .i64 t373)) (fun _ hk => hk.2) (.slice Ao116 t374.length co116)) (fun _ h_ => h_.1))) hb); have n4_ := Aside0.mk (Kd.R_below (by (with_reducible repeat (first | apply Kd.R_alloc | apply Kd.R_drewN | apply Kd.R_drew)); exact (Kd.R_mono (Kd.R_far (p := ⟨gb378, 4, none⟩) (Kd.R_far (p := ⟨gb378, 3, none⟩) (Kd.R_far (p := ⟨gb378, 2, none⟩) (Kd.R_far (p := ⟨gb378, 1, none⟩) (Kd.R_far (p := ⟨gb378, 0, none⟩) (Kd.R_types HO376.out BK378.out (by decide)) (fun _ hk => hk.2) (.int .i64 t370)) (fun _ hk => hk.2) (.int .i64 t371)) (fun _ hk => hk.2) (.int .i64 t372)) (fun _ hk => hk.2) (.int .i64 t373)) (fun _ hk => hk.2) (.slice Ao116 t374.length co116)) (fun _ h_ => h_.1))) hb); have n5_ := Aside0.mk (blk_below (g := gb321) (o := .cells #[.int .i64 a0_0, .int .i64 a0_1, .slice A0_2 l0_2.length c0_2] 58 (0, 0)) (by (repeat refine zL ?_); refine blk_far ?_ NB321_378.out _; (repeat refine zL ?_); refine blk_far ?_ NB321_378.out _; (repeat refine zL ?_); refine blk_far ?_ NB321_378.out _; (repeat refine zL ?_); refine blk_far ?_ NB321_378.out _; (repeat refine zL ?_); refine blk_far ?_ NB321_378.out _; (repeat refine zL ?_); exact BK321.out) hb); have n6_ := Aside0.mk (blk_below (g := gb336) (o := .cells #[.int .i64 t328, .int .i64 t329, .int .i64 t330, .int .i64 t331, .slice Ao22 t332.length co22] 44 (0, 0)) (by (repeat refine zL ?_); refine blk_far ?_ NB336_378.out _; (repeat refine zL ?_); refine blk_far ?_ NB336_378.out _; (repeat refine zL ?_); refine blk_far ?_ NB336_378.out _; (repeat refine zL ?_); refine blk_far ?_ NB336_378.out _; (repeat refine zL ?_); refine blk_far ?_ NB336_378.out _; (repeat refine zL ?_); exact BK336.out) hb); have n7_ := Aside0.mk (blk_below (g := gb342) (o := .cells #[.int .i64 t337, .int .i64 t338, .slice Ao29 t360.length co29] 62 (0, 0)) (by (repeat refine zL ?_); refine blk_far ?_ NB342_378.out _; (repeat refine zL ?_); refine blk_far ?_ NB342_378.out _; (repeat refine zL ?_); refine blk_far ?_ NB342_378.out _; (repeat refine zL ?_); refine blk_far ?_ NB342_378.out _; (repeat refine zL ?_); refine blk_far ?_ NB342_378.out _; (repeat refine zL ?_); exact BK342.out) hb); have n8_ := Aside0.mk (blk_below (g := gb351) (o := .cells #[.int .i64 t343, .int .i64 t344, .int .i64 t345, .int .i64 t346, .slice Ao36 t347.length co36] 44 (0, 0)) (by (repeat refine zL ?_); refine blk_far ?_ NB351_378.out _; (repeat refine zL ?_); refine blk_far ?_ NB351_378.out _; (repeat refine zL ?_); refine blk_far ?_ NB351_378.out _; (repeat refine zL ?_); refine blk_far ?_ NB351_378.out _; (repeat refine zL ?_); refine blk_far ?_ NB351_378.out _; (repeat refine zL ?_); exact BK351.out) hb); have n9_ := Aside0.mk (blk_below (g := gb378) (o := .cells #[.int .i64 t370, .int .i64 t371, .int .i64 t372, .int .i64 t373, .slice Ao116 t374.length co116] 44 (0, 0)) (by (repeat refine zL ?_); refine blk_put (cs := #[.int .i64 t370, .int .i64 t371, .int .i64 t372, .int .i64 t373, .slice none 0 0]) ?_ 4 _ rfl; (repeat refine zL ?_); refine blk_put (cs := #[.int .i64 t370, .int .i64 t371, .int .i64 t372, .int .i64 0, .slice none 0 0]) ?_ 3 _ rfl; (repeat refine zL ?_); refine blk_put (cs := #[.int .i64 t370, .int .i64 t371, .int .i64 0, .int .i64 0, .slice none 0 0]) ?_ 2 _ rfl; (repeat refine zL ?_); refine blk_put (cs := #[.int .i64 t370, .int .i64 0, .int .i64 0, .int .i64 0, .slice none 0 0]) ?_ 1 _ rfl; (repeat refine zL ?_); refine blk_put (cs := #[.int .i64 0, .int .i64 0, .int .i64 0, .int .i64 0, .slice none 0 0]) ?_ 0 _ rfl; (repeat refine zL ?_); exact BK378.out) hb); have n10_ := Aside0.mk (below_step zH hb); clear HO_337004; clear HO_343002; clear HO_352004; clear HO369; clear HO376; clear BK321; clear BK336; clear BK342; clear BK351; clear BK378; clear HB; have HO_337004 := n0_; have HO_343002 := n1_; have HO_352004 := n2_; have HO369 := n3_; have HO376 := n4_; have BK321 := n5_; have BK336 := n6_; have BK342 := n7_; have BK351 := n8_; have BK378 := n9_; have HB := n10_; clear n0_ n1_ n2_ n3_ n4_ n5_ n6_ n7_ n8_ n9_ n10_; (try clear hb); (try clear hb2); (try clear hk); (try clear hi)))
             go_meet
             case rel => exact ⟨_, ((t377 != t335)), zF, H', ⟨by have := HJ10.out; have := HJ59.out; first | omega | exact Nat.le_refl _⟩, ⟨by (try simp only [hl343002_59]); (with_reducible repeat (first | apply Kd.R_alloc | apply Kd.R_drewN | apply Kd.R_drew)); exact Kd.R_mono HO_337004.out (fun _ hk => ⟨hk.1.1.1, ⟨hk.1.1.2, hk.2⟩⟩)⟩, ⟨by (try simp only [hl343002_59]); (with_reducible repeat (first | apply Kd.R_alloc | apply Kd.R_drewN | apply Kd.R_drew)); exact Kd.R_mono HO_343002.out (fun _ hk => ⟨hk.1.1.1, ⟨hk.1.1.2, hk.2⟩⟩)⟩, ⟨by (try simp only [hl343002_59]); (with_reducible repeat (first | apply Kd.R_alloc | apply Kd.R_drewN | apply Kd.R_drew)); exact Kd.R_mono HO_352004.out (fun _ hk => ⟨hk.1.1.1, ⟨hk.1.1.2, hk.2⟩⟩)⟩, ⟨by (try simp only [hl343002_59]); (with_reducible repeat (first | apply Kd.R_alloc | apply Kd.R_drewN | apply Kd.R_drew)); exact Kd.R_mono HO376.out (fun _ hk => ⟨hk.1.1.1.2, ⟨hk.1.1.2, hk.1.2⟩⟩)⟩, ⟨by (try simp only [hl343002_59]); (repeat refine zL ?_); exact BK321.out⟩, ⟨by (try simp only [hl343002_59]); (repeat refine zL ?_); exact BK336.out⟩, ⟨by (try simp only [hl343002_59]); (repeat refine zL ?_); exact BK342.out⟩, ⟨by (try simp only [hl343002_59]); (repeat refine zL ?_); exact BK351.out⟩, ⟨by (try simp only [hl343002_59]); (repeat refine zL ?_); exact BK378.out⟩, ⟨zH⟩⟩
            ·replace c118 := Bool.eq_false_iff.mpr c118
             subst c118
             replace H : (laws_FnExactTakeEvent.j2 kj59 t362 true t343 t344 t345 t346 t363) = some r := by rw [if_neg (show ¬ (false = true) by decide)] at H; exact H
             have H' := Aside0.mk H
             clear H
             have hnb129 := NB378_321.out
             have hnc129 := NB321_378.out
             have hnb130 := NB378_336.out
             have hnc130 := NB336_378.out
             have hnb131 := NB378_342.out
             have hnc131 := NB342_378.out
             have hnb132 := NB378_351.out
             have hnc132 := NB351_378.out
             obtain ⟨hcz133_0, hcz133_1, hcz133_2, hcz133_3, hcz133_4⟩ := zc5 BK378.out
             obtain ⟨hfz133_0, hfz133_1, hfz133_2, hfz133_3, hfz133_4⟩ := zf BK378.out
             have hnb134 := NB336_321.out
             have hnc134 := NB321_336.out
             have hnb135 := NB336_342.out
             have hnc135 := NB342_336.out
             have hnb136 := NB336_351.out
             have hnc136 := NB351_336.out
             obtain ⟨hcz137_0, hcz137_1, hcz137_2, hcz137_3, hcz137_4⟩ := zc5 BK336.out
             obtain ⟨hfz137_0, hfz137_1, hfz137_2, hfz137_3, hfz137_4⟩ := zf BK336.out
             go_wp2_with (first | ((with_reducible refine gate_callee (f := 31) rfl ?_); refine goesL_ (some 81) rfl rfl Try.func31 (by kernel_rfl) rfl #[.agg #[.int .i64 t370, .int .i64 t371, .int .i64 t372, .int .i64 t373, .slice Ao116 t374.length co116], .agg #[.int .i64 t328, .int .i64 t329, .int .i64 t330, .int .i64 t331, .slice Ao22 t332.length co22]] rfl zM ?_; (with_reducible refine (laws_eqEvent.calls kj59 t370 t371 t372 t373 _ _ t374 t328 t329 t330 t331 _ _ t332 false _ ?side1 ?side2 ?side3 ?side4 A117.out).mono ?_); (case side1 => refine (Kd.R_reads' (e := 5) (base := w.heap.size) (ok := fun k_ => ((((True ∧ some k_ ≠ (.slice Ao22 t332.length co22 : Value).ownBlock) ∧ some k_ ≠ (.slice Ao29 t360.length co29 : Value).ownBlock) ∧ some k_ ≠ (.slice Ao36 t347.length co36 : Value).ownBlock) ∧ some k_ ≠ (.slice Ao108 t367.length co108 : Value).ownBlock)) (n := t374.length) (c := co116) ?_).2.2; exact (by (with_reducible repeat (first | apply Kd.R_alloc | apply Kd.R_drewN | apply Kd.R_drew)); exact (Kd.R_mono (Kd.R_far (p := ⟨gb378, 4, none⟩) (Kd.R_far (p := ⟨gb378, 3, none⟩) (Kd.R_far (p := ⟨gb378, 2, none⟩) (Kd.R_far (p := ⟨gb378, 1, none⟩) (Kd.R_far (p := ⟨gb378, 0, none⟩) (Kd.R_types HO376.out BK378.out (by decide)) (fun _ hk => hk.2) (.int .i64 t370)) (fun _ hk => hk.2) (.int .i64 t371)) (fun _ hk => hk.2) (.int .i64 t372)) (fun _ hk => hk.2) (.int .i64 t373)) (fun _ hk => hk.2) (.slice Ao116 t374.length co116)) (fun _ h_ => h_.1)))); (case side2 => exact (Kd.R_reads' HO376.out).2.1); (case side3 => refine (Kd.R_reads' (e := 5) (base := w.heap.size) (ok := fun k_ => (((some k_ ≠ (.slice Ao29 t360.length co29 : Value).ownBlock ∧ some k_ ≠ (.slice Ao36 t347.length co36 : Value).ownBlock) ∧ some k_ ≠ (.slice Ao108 t367.length co108 : Value).ownBlock) ∧ some k_ ≠ (.slice Ao116 t374.length co116 : Value).ownBlock)) (n := t332.length) (c := co22) ?_).2.2; exact (by (with_reducible repeat (first | apply Kd.R_alloc | apply Kd.R_drewN | apply Kd.R_drew)); exact (Kd.R_mono (Kd.R_far (p := ⟨gb378, 4, none⟩) (Kd.R_far (p := ⟨gb378, 3, none⟩) (Kd.R_far (p := ⟨gb378, 2, none⟩) (Kd.R_far (p := ⟨gb378, 1, none⟩) (Kd.R_far (p := ⟨gb378, 0, none⟩) (Kd.R_types HO_337004.out BK378.out (by decide)) (fun _ hk => hk.2) (.int .i64 t370)) (fun _ hk => hk.2) (.int .i64 t371)) (fun _ hk => hk.2) (.int .i64 t372)) (fun _ hk => hk.2) (.int .i64 t373)) (fun _ hk => hk.2) (.slice Ao116 t374.length co116)) (fun _ h_ => h_.1)))); (case side4 => exact (Kd.R_reads' HO_337004.out).2.1); rintro e w138 ⟨rfl, hb⟩; refine ⟨_, rfl, ?_⟩; have n0_ := Aside0.mk (Kd.R_below (by (with_reducible repeat (first | apply Kd.R_alloc | apply Kd.R_drewN | apply Kd.R_drew)); exact (Kd.R_mono (Kd.R_far (p := ⟨gb378, 4, none⟩) (Kd.R_far (p := ⟨gb378, 3, none⟩) (Kd.R_far (p := ⟨gb378, 2, none⟩) (Kd.R_far (p := ⟨gb378, 1, none⟩) (Kd.R_far (p := ⟨gb378, 0, none⟩) (Kd.R_types HO_337004.out BK378.out (by decide)) (fun _ hk => hk.2) (.int .i64 t370)) (fun _ hk => hk.2) (.int .i64 t371)) (fun _ hk => hk.2) (.int .i64 t372)) (fun _ hk => hk.2) (.int .i64 t373)) (fun _ hk => hk.2) (.slice Ao116 t374.length co116)) (fun _ h_ => h_.1))) hb); have n1_ := Aside0.mk (Kd.R_below (by (with_reducible repeat (first | apply Kd.R_alloc | apply Kd.R_drewN | apply Kd.R_drew)); exact (Kd.R_mono (Kd.R_far (p := ⟨gb378, 4, none⟩) (Kd.R_far (p := ⟨gb378, 3, none⟩) (Kd.R_far (p := ⟨gb378, 2, none⟩) (Kd.R_far (p := ⟨gb378, 1, none⟩) (Kd.R_far (p := ⟨gb378, 0, none⟩) (Kd.R_types HO_343002.out BK378.out (by decide)) (fun _ hk => hk.2) (.int .i64 t370)) (fun _ hk => hk.2) (.int .i64 t371)) (fun _ hk => hk.2) (.int .i64 t372)) (fun _ hk => hk.2) (.int .i64 t373)) (fun _ hk => hk.2) (.slice Ao116 t374.length co116)) (fun _ h_ => h_.1))) hb); have n2_ := Aside0.mk (Kd.R_below (by (with_reducible repeat (first | apply Kd.R_alloc | apply Kd.R_drewN | apply Kd.R_drew)); exact (Kd.R_mono (Kd.R_far (p := ⟨gb378, 4, none⟩) (Kd.R_far (p := ⟨gb378, 3, none⟩) (Kd.R_far (p := ⟨gb378, 2, none⟩) (Kd.R_far (p := ⟨gb378, 1, none⟩) (Kd.R_far (p := ⟨gb378, 0, none⟩) (Kd.R_types HO_352004.out BK378.out (by decide)) (fun _ hk => hk.2) (.int .i64 t370)) (fun _ hk => hk.2) (.int .i64 t371)) (fun _ hk => hk.2) (.int .i64 t372)) (fun _ hk => hk.2) (.int .i64 t373)) (fun _ hk => hk.2) (.slice Ao116 t374.length co116)) (fun _ h_ => h_.1))) hb); have n3_ := Aside0.mk (Kd.R_below (by (with_reducible repeat (first | apply Kd.R_alloc | apply Kd.R_drewN | apply Kd.R_drew)); exact (Kd.R_mono (Kd.R_far (p := ⟨gb378, 4, none⟩) (Kd.R_far (p := ⟨gb378, 3, none⟩) (Kd.R_far (p := ⟨gb378, 2, none⟩) (Kd.R_far (p := ⟨gb378, 1, none⟩) (Kd.R_far (p := ⟨gb378, 0, none⟩) (Kd.R_types HO369.out BK378.out (by decide)) (fun _ hk => hk.2) (.int .i64 t370)) (fun _ hk => hk.2) (.int .i64 t371)) (fun _ hk => hk.2) (.int .i64 t372)) (fun _ hk => hk.2) (.int .i64 t373)) (fun _ hk => hk.2) (.slice Ao116 t374.length co116)) (fun _ h_ => h_.1))) hb); have n4_ := Aside0.mk (Kd.R_below (by (with_reducible repeat (first | apply Kd.R_alloc | apply Kd.R_drewN | apply Kd.R_drew)); exact (Kd.R_mono (Kd.R_far (p := ⟨gb378, 4, none⟩) (Kd.R_far (p := ⟨gb378, 3, none⟩) (Kd.R_far (p := ⟨gb378, 2, none⟩) (Kd.R_far (p := ⟨gb378, 1, none⟩) (Kd.R_far (p := ⟨gb378, 0, none⟩) (Kd.R_types HO376.out BK378.out (by decide)) (fun _ hk => hk.2) (.int .i64 t370)) (fun _ hk => hk.2) (.int .i64 t371)) (fun _ hk => hk.2) (.int .i64 t372)) (fun _ hk => hk.2) (.int .i64 t373)) (fun _ hk => hk.2) (.slice Ao116 t374.length co116)) (fun _ h_ => h_.1))) hb); have n5_ := Aside0.mk (blk_below (g := gb321) (o := .cells #[.int .i64 a0_0, .int .i64 a0_1, .slice A0_2 l0_2.length c0_2] 58 (0, 0)) (by (repeat refine zL ?_); refine blk_far ?_ NB321_378.out _; (repeat refine zL ?_); refine blk_far ?_ NB321_378.out _; (repeat refine zL ?_); refine blk_far ?_ NB321_378.out _; (repeat refine zL ?_); refine blk_far ?_ NB321_378.out _; (repeat refine zL ?_); refine blk_far ?_ NB321_378.out _; (repeat refine zL ?_); exact BK321.out) hb); have n6_ := Aside0.mk (blk_below (g := gb336) (o := .cells #[.int .i64 t328, .int .i64 t329, .int .i64 t330, .int .i64 t331, .slice Ao22 t332.length co22] 44 (0, 0)) (by (repeat refine zL ?_); refine blk_far ?_ NB336_378.out _; (repeat refine zL ?_); refine blk_far ?_ NB336_378.out _; (repeat refine zL ?_); refine blk_far ?_ NB336_378.out _; (repeat refine zL ?_); refine blk_far ?_ NB336_378.out _; (repeat refine zL ?_); refine blk_far ?_ NB336_378.out _; (repeat refine zL ?_); exact BK336.out) hb); have n7_ := Aside0.mk (blk_below (g := gb342) (o := .cells #[.int .i64 t337, .int .i64 t338, .slice Ao29 t360.length co29] 62 (0, 0)) (by (repeat refine zL ?_); refine blk_far ?_ NB342_378.out _; (repeat refine zL ?_); refine blk_far ?_ NB342_378.out _; (repeat refine zL ?_); refine blk_far ?_ NB342_378.out _; (repeat refine zL ?_); refine blk_far ?_ NB342_378.out _; (repeat refine zL ?_); refine blk_far ?_ NB342_378.out _; (repeat refine zL ?_); exact BK342.out) hb); have n8_ := Aside0.mk (blk_below (g := gb351) (o := .cells #[.int .i64 t343, .int .i64 t344, .int .i64 t345, .int .i64 t346, .slice Ao36 t347.length co36] 44 (0, 0)) (by (repeat refine zL ?_); refine blk_far ?_ NB351_378.out _; (repeat refine zL ?_); refine blk_far ?_ NB351_378.out _; (repeat refine zL ?_); refine blk_far ?_ NB351_378.out _; (repeat refine zL ?_); refine blk_far ?_ NB351_378.out _; (repeat refine zL ?_); refine blk_far ?_ NB351_378.out _; (repeat refine zL ?_); exact BK351.out) hb); have n9_ := Aside0.mk (blk_below (g := gb378) (o := .cells #[.int .i64 t370, .int .i64 t371, .int .i64 t372, .int .i64 t373, .slice Ao116 t374.length co116] 44 (0, 0)) (by (repeat refine zL ?_); refine blk_put (cs := #[.int .i64 t370, .int .i64 t371, .int .i64 t372, .int .i64 t373, .slice none 0 0]) ?_ 4 _ rfl; (repeat refine zL ?_); refine blk_put (cs := #[.int .i64 t370, .int .i64 t371, .int .i64 t372, .int .i64 0, .slice none 0 0]) ?_ 3 _ rfl; (repeat refine zL ?_); refine blk_put (cs := #[.int .i64 t370, .int .i64 t371, .int .i64 0, .int .i64 0, .slice none 0 0]) ?_ 2 _ rfl; (repeat refine zL ?_); refine blk_put (cs := #[.int .i64 t370, .int .i64 0, .int .i64 0, .int .i64 0, .slice none 0 0]) ?_ 1 _ rfl; (repeat refine zL ?_); refine blk_put (cs := #[.int .i64 0, .int .i64 0, .int .i64 0, .int .i64 0, .slice none 0 0]) ?_ 0 _ rfl; (repeat refine zL ?_); exact BK378.out) hb); have n10_ := Aside0.mk (below_step zH hb); clear HO_337004; clear HO_343002; clear HO_352004; clear HO369; clear HO376; clear BK321; clear BK336; clear BK342; clear BK351; clear BK378; clear HB; have HO_337004 := n0_; have HO_343002 := n1_; have HO_352004 := n2_; have HO369 := n3_; have HO376 := n4_; have BK321 := n5_; have BK336 := n6_; have BK342 := n7_; have BK351 := n8_; have BK378 := n9_; have HB := n10_; clear n0_ n1_ n2_ n3_ n4_ n5_ n6_ n7_ n8_ n9_ n10_; (try clear hb); (try clear hb2); (try clear hk); (try clear hi)))
             go_meet
             case rel => exact ⟨_, (true), zF, H', ⟨by have := HJ10.out; have := HJ59.out; first | omega | exact Nat.le_refl _⟩, ⟨by (try simp only [hl343002_59]); (with_reducible repeat (first | apply Kd.R_alloc | apply Kd.R_drewN | apply Kd.R_drew)); exact Kd.R_mono HO_337004.out (fun _ hk => ⟨hk.1.1.1, ⟨hk.1.1.2, hk.2⟩⟩)⟩, ⟨by (try simp only [hl343002_59]); (with_reducible repeat (first | apply Kd.R_alloc | apply Kd.R_drewN | apply Kd.R_drew)); exact Kd.R_mono HO_343002.out (fun _ hk => ⟨hk.1.1.1, ⟨hk.1.1.2, hk.2⟩⟩)⟩, ⟨by (try simp only [hl343002_59]); (with_reducible repeat (first | apply Kd.R_alloc | apply Kd.R_drewN | apply Kd.R_drew)); exact Kd.R_mono HO_352004.out (fun _ hk => ⟨hk.1.1.1, ⟨hk.1.1.2, hk.2⟩⟩)⟩, ⟨by (try simp only [hl343002_59]); (with_reducible repeat (first | apply Kd.R_alloc | apply Kd.R_drewN | apply Kd.R_drew)); exact Kd.R_mono HO376.out (fun _ hk => ⟨hk.1.1.1.2, ⟨hk.1.1.2, hk.1.2⟩⟩)⟩, ⟨by (try simp only [hl343002_59]); (repeat refine zL ?_); exact BK321.out⟩, ⟨by (try simp only [hl343002_59]); (repeat refine zL ?_); exact BK336.out⟩, ⟨by (try simp only [hl343002_59]); (repeat refine zL ?_); exact BK342.out⟩, ⟨by (try simp only [hl343002_59]); (repeat refine zL ?_); exact BK351.out⟩, ⟨by (try simp only [hl343002_59]); (repeat refine zL ?_); exact BK378.out⟩, ⟨zH⟩⟩
           case rest =>
            clear HC96
            (try clear c1);(try clear c2);(try clear p2);(try clear c3);(try clear c3b0);(try clear c4);(try clear c5);(try clear c6);(try clear c7);(try clear c8);(try clear c9);(try clear c10);(try clear c11);(try clear c12);(try clear c13);(try clear c20);(try clear c26);(try clear c27);(try clear c31);(try clear c32);(try clear c33);(try clear c34);(try clear c38);(try clear c39);(try clear c40);(try clear c41);(try clear c43);(try clear c44);(try clear c45);(try clear c46)
            (try clear c47);(try clear c48);(try clear c49);(try clear c50);(try clear c51);(try clear c52);(try clear c55);(try clear c58);(try clear c65);(try clear c66);(try clear c67);(try clear c70);(try clear c70b0);(try clear c72);(try clear c73);(try clear c74);(try clear c75);(try clear c77);(try clear c78);(try clear c81);(try clear c82);(try clear c83);(try clear c85);(try clear c86);(try clear c89);(try clear c92);(try clear c92b0);(try clear c93);(try clear c93b0)
            (try clear c93b1);(try clear c97);(try clear c98);(try clear c99);(try clear c104);(try clear c105);(try clear c111);(try clear c112);(try clear c113);(try clear c114);(try clear c118);(try clear c119);(try clear c120);(try clear c121);(try clear c122);(try clear c124);(try clear c125);(try clear c126);(try clear c129);(try clear c130);(try clear c131);(try clear c132);(try clear c134);(try clear c135);(try clear c136);(try clear hcz100_0);(try clear hcz100_1)
            (try clear hcz100_2);(try clear hcz100_3);(try clear hcz100_4);(try clear hcz102_0);(try clear hcz102_1);(try clear hcz102_2);(try clear hcz102_3);(try clear hcz102_4);(try clear hcz106_0);(try clear hcz106_1);(try clear hcz106_2);(try clear hcz115_0);(try clear hcz115_1);(try clear hcz115_2);(try clear hcz115_3);(try clear hcz115_4);(try clear hcz123_0);(try clear hcz123_1);(try clear hcz123_2);(try clear hcz123_3);(try clear hcz123_4);(try clear hcz127_0)
            (try clear hcz127_1);(try clear hcz127_2);(try clear hcz127_3);(try clear hcz127_4);(try clear hcz133_0);(try clear hcz133_1);(try clear hcz133_2);(try clear hcz133_3);(try clear hcz133_4);(try clear hcz137_0);(try clear hcz137_1);(try clear hcz137_2);(try clear hcz137_3);(try clear hcz137_4);(try clear hcz13_0);(try clear hcz13_1);(try clear hcz13_2);(try clear hcz15_0);(try clear hcz15_1);(try clear hcz15_2);(try clear hcz21_0);(try clear hcz21_1)
            (try clear hcz21_2);(try clear hcz21_3);(try clear hcz21_4);(try clear hcz23_0);(try clear hcz23_1);(try clear hcz23_2);(try clear hcz28_0);(try clear hcz28_1);(try clear hcz28_2);(try clear hcz35_0);(try clear hcz35_1);(try clear hcz35_2);(try clear hcz35_3);(try clear hcz35_4);(try clear hcz42_0);(try clear hcz42_1);(try clear hcz42_2);(try clear hcz42_3);(try clear hcz42_4);(try clear hcz45_0);(try clear hcz45_1);(try clear hcz45_2);(try clear hcz45_3)
            (try clear hcz45_4);(try clear hcz50_0);(try clear hcz50_1);(try clear hcz50_2);(try clear hcz50_3);(try clear hcz50_4);(try clear hcz53_0);(try clear hcz53_1);(try clear hcz53_2);(try clear hcz53_3);(try clear hcz53_4);(try clear hcz5_0);(try clear hcz5_1);(try clear hcz5_2);(try clear hcz68_0);(try clear hcz68_1);(try clear hcz68_2);(try clear hcz76_0);(try clear hcz76_1);(try clear hcz76_2);(try clear hcz76_3);(try clear hcz76_4);(try clear hcz79_0)
            (try clear hcz79_1);(try clear hcz79_2);(try clear hcz79_3);(try clear hcz79_4);(try clear hcz84_0);(try clear hcz84_1);(try clear hcz84_2);(try clear hcz84_3);(try clear hcz84_4);(try clear hcz87_0);(try clear hcz87_1);(try clear hcz87_2);(try clear hcz87_3);(try clear hcz87_4);(try clear hfz100_0);(try clear hfz100_1);(try clear hfz100_2);(try clear hfz100_3);(try clear hfz100_4);(try clear hfz102_0);(try clear hfz102_1);(try clear hfz102_2)
            (try clear hfz102_3);(try clear hfz102_4);(try clear hfz106_0);(try clear hfz106_1);(try clear hfz106_2);(try clear hfz115_0);(try clear hfz115_1);(try clear hfz115_2);(try clear hfz115_3);(try clear hfz115_4);(try clear hfz123_0);(try clear hfz123_1);(try clear hfz123_2);(try clear hfz123_3);(try clear hfz123_4);(try clear hfz127_0);(try clear hfz127_1);(try clear hfz127_2);(try clear hfz127_3);(try clear hfz127_4);(try clear hfz133_0);(try clear hfz133_1)
            (try clear hfz133_2);(try clear hfz133_3);(try clear hfz133_4);(try clear hfz137_0);(try clear hfz137_1);(try clear hfz137_2);(try clear hfz137_3);(try clear hfz137_4);(try clear hfz13_0);(try clear hfz13_1);(try clear hfz13_2);(try clear hfz15_0);(try clear hfz15_1);(try clear hfz15_2);(try clear hfz21_0);(try clear hfz21_1);(try clear hfz21_2);(try clear hfz21_3);(try clear hfz21_4);(try clear hfz23_0);(try clear hfz23_1);(try clear hfz23_2)
            (try clear hfz28_0);(try clear hfz28_1);(try clear hfz28_2);(try clear hfz35_0);(try clear hfz35_1);(try clear hfz35_2);(try clear hfz35_3);(try clear hfz35_4);(try clear hfz42_0);(try clear hfz42_1);(try clear hfz42_2);(try clear hfz42_3);(try clear hfz42_4);(try clear hfz45_0);(try clear hfz45_1);(try clear hfz45_2);(try clear hfz45_3);(try clear hfz45_4);(try clear hfz50_0);(try clear hfz50_1);(try clear hfz50_2);(try clear hfz50_3);(try clear hfz50_4)
            (try clear hfz53_0);(try clear hfz53_1);(try clear hfz53_2);(try clear hfz53_3);(try clear hfz53_4);(try clear hfz5_0);(try clear hfz5_1);(try clear hfz5_2);(try clear hfz68_0);(try clear hfz68_1);(try clear hfz68_2);(try clear hfz76_0);(try clear hfz76_1);(try clear hfz76_2);(try clear hfz76_3);(try clear hfz76_4);(try clear hfz79_0);(try clear hfz79_1);(try clear hfz79_2);(try clear hfz79_3);(try clear hfz79_4);(try clear hfz84_0);(try clear hfz84_1)
            (try clear hfz84_2);(try clear hfz84_3);(try clear hfz84_4);(try clear hfz87_0);(try clear hfz87_1);(try clear hfz87_2);(try clear hfz87_3);(try clear hfz87_4);(try clear p2)
            obtain ⟨kq, x87_95, rfl, HA, HJ95, HO_337004, HO_343002, HO_352004, HO_379004, BK321, BK336, BK342, BK351, BK378, HB⟩ := hcut
            have hl352004_95 := (Kd.R_reads' HO_352004.out).1
            rw [hl352004_95] at HO_352004
            (try simp only [hl352004_95])
            (try simp only [hl352004_95] at BK321)
            (try simp only [hl352004_95] at BK336)
            (try simp only [hl352004_95] at BK342)
            (try simp only [hl352004_95] at BK351)
            (try simp only [hl352004_95] at BK378)
            (try simp only [hl352004_95] at HO_337004)
            (try simp only [hl352004_95] at HO_343002)
            (try simp only [hl352004_95] at HO_379004)
            cases kq with
            | zero => exact absurd HA.out (by simp [laws_FnExactTakeEvent.j2])
            | succ kj95 =>
             have H := HA.out
             clear HA
             simp only [laws_FnExactTakeEvent.j2] at H
             by_cases c139 : x87_95 = true
             ·subst c139
              replace H : (some false) = some r := by rw [if_pos rfl] at H; exact H
              exact absurd ((Option.some.inj H).trans HT_.out) (by decide)
             ·replace c139 := Bool.eq_false_iff.mpr c139
              subst c139
              replace H : ((laws_heldEvent.f kj95 t343 t344 t345 t346 t363 1).bind fun t380 => (if t380 < 0 then (some false) else (if t380 = t362 then (some true) else (some false)))) = some r := by rw [if_neg (show ¬ (false = true) by decide)] at H; exact H
              replace H := Option.bind_eq_some_iff.mp H
              obtain ⟨t380, A1400, H⟩ := H
              replace H : (if t380 < 0 then (some false) else (if t380 = t362 then (some true) else (some false))) = some r := H
              have A140 := Aside0.mk A1400
              clear A1400
              by_cases c141 : t380 < 0
              ·rw [if_pos c141] at H
               have c141b0 : decide (t380 < 0) = true := decide_eq_true c141
               clear c141
               exact absurd ((Option.some.inj H).trans HT_.out) (by decide)
              ·rw [if_neg c141] at H
               have c141b0 : decide (t380 < 0) = false := decide_eq_false c141
               clear c141
               by_cases c142 : t380 = t362
               ·rw [if_pos c142] at H
                have c142b0 : (t380 == t362) = true := beq_iff_eq.mpr c142
                have c142b1 : (t380 != t362) = false := bne_eq_false_iff_eq.mpr c142
                clear c142
                obtain rfl := Option.some.inj H
                have hnb143 := NB351_321.out
                have hnc143 := NB321_351.out
                have hnb144 := NB351_336.out
                have hnc144 := NB336_351.out
                have hnb145 := NB351_342.out
                have hnc145 := NB342_351.out
                have hnb146 := NB351_378.out
                have hnc146 := NB378_351.out
                obtain ⟨hcz147_0, hcz147_1, hcz147_2, hcz147_3, hcz147_4⟩ := zc5 BK351.out
                obtain ⟨hfz147_0, hfz147_1, hfz147_2, hfz147_3, hfz147_4⟩ := zf BK351.out
                go_wp2_with (first | ((with_reducible refine gate_callee (f := 50) rfl ?_); refine goesL_ (some 90) rfl rfl Try.func50 (by kernel_rfl) rfl #[.agg #[.int .i64 t343, .int .i64 t344, .int .i64 t345, .int .i64 t346, .slice Ao36 t363.length co36], .int .i64 1] rfl zM ?_; (with_reducible refine (laws_heldEvent.calls kj95 t343 t344 t345 t346 _ _ t363 1 t380 _ ?side1 ?side2 A140.out).mono ?_); (case side1 => exact zC ((Kd.R_reads' HO_352004.out).2.2)); (case side2 => exact (Kd.R_reads' HO_352004.out).2.1); rintro e w148 ⟨rfl, hb⟩; refine ⟨_, rfl, ?_⟩; have n0_ := Aside0.mk (Kd.R_below (zR HO_337004.out) hb); have n1_ := Aside0.mk (Kd.R_below (zR HO_343002.out) hb); have n2_ := Aside0.mk (Kd.R_below (zR HO_352004.out) hb); have n3_ := Aside0.mk (Kd.R_below (zR HO_379004.out) hb); have n4_ := Aside0.mk (blk_below (g := gb321) (o := .cells #[.int .i64 a0_0, .int .i64 a0_1, .slice A0_2 l0_2.length c0_2] 58 (0, 0)) (zB BK321.out) hb); have n5_ := Aside0.mk (blk_below (g := gb336) (o := .cells #[.int .i64 t328, .int .i64 t329, .int .i64 t330, .int .i64 t331, .slice Ao22 t332.length co22] 44 (0, 0)) (zB BK336.out) hb); have n6_ := Aside0.mk (blk_below (g := gb342) (o := .cells #[.int .i64 t337, .int .i64 t338, .slice Ao29 t360.length co29] 62 (0, 0)) (zB BK342.out) hb); have n7_ := Aside0.mk (blk_below (g := gb351) (o := .cells #[.int .i64 t343, .int .i64 t344, .int .i64 t345, .int .i64 t346, .slice Ao36 t363.length co36] 44 (0, 0)) (zB BK351.out) hb); have n8_ := Aside0.mk (blk_below (g := gb378) (o := .cells #[.int .i64 t370, .int .i64 t371, .int .i64 t372, .int .i64 t373, .slice Ao116 t374.length co116] 44 (0, 0)) (zB BK378.out) hb); have n9_ := Aside0.mk (below_step zH hb); clear HO_337004; clear HO_343002; clear HO_352004; clear HO_379004; clear BK321; clear BK336; clear BK342; clear BK351; clear BK378; clear HB; have HO_337004 := n0_; have HO_343002 := n1_; have HO_352004 := n2_; have HO_379004 := n3_; have BK321 := n4_; have BK336 := n5_; have BK342 := n6_; have BK351 := n7_; have BK378 := n8_; have HB := n9_; clear n0_ n1_ n2_ n3_ n4_ n5_ n6_ n7_ n8_ n9_; (try clear hb); (try clear hb2); (try clear hk); (try clear hi)))
                go_ret
                exact ⟨zE, zH⟩
               ·rw [if_neg c142] at H
                have c142b0 : (t380 == t362) = false := beq_eq_false_iff_ne.mpr c142
                have c142b1 : (t380 != t362) = true := bne_iff_ne.mpr c142
                exact absurd ((Option.some.inj H).trans HT_.out) (by decide)
          ·rw [if_neg c93] at H
           have c93b0 : (t364 == t362) = false := beq_eq_false_iff_ne.mpr c93
           have c93b1 : (t364 != t362) = true := bne_iff_ne.mpr c93
           exact absurd ((Option.some.inj H).trans HT_.out) (by decide)
     ·replace c58 := Bool.eq_false_iff.mpr c58
      subst c58
      replace H : (some false) = some r := by rw [if_neg (show ¬ (false = true) by decide)] at H; exact H
      exact absurd ((Option.some.inj H).trans HT_.out) (by decide)

def wf58 (x : S58) : Prop := ((Lit.int .i64 x.f0).wf = true) ∧ ((Lit.int .i64 x.f1).wf = true) ∧ ((x.f2.length ≤ maxLen ∧ ∀ y0 ∈ x.f2, (Lit.int .u8 y0).wf = true))
/-- THE PURE STATEMENT of laws_FnExactTakeEvent. -/
def laws_FnExactTakeEvent.Pure : Prop := ∀ (a0_0 : Int) (a0_1 : Int) (l0_2 : List Int), wf58 (⟨a0_0, a0_1, l0_2⟩ : S58) → ∃ k, laws_FnExactTakeEvent.f k a0_0 a0_1 l0_2 = some true

end Go.Proofs.Ytabicblkdgpogaa.QFnExactTakeEvent
