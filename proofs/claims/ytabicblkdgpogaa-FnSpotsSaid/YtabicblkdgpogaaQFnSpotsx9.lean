-- Made by this session's program (wip/tools/myprint.py) out of the translation; Lean checks it.
import Derived.Test.YtabicblkdgpogaaQFnSpotsx0
import Derived.Test.YtabicblkdgpogaaQFnSpotsx1
import Derived.Test.YtabicblkdgpogaaQFnSpotsx2
import Derived.Test.YtabicblkdgpogaaQFnSpotsx5
import Derived.Test.YtabicblkdgpogaaQFnSpotsx8
namespace Go.Proofs.Ytabicblkdgpogaa.QFnSpots
open Go.RowKit Go.Proofs.YtabicblkdgpogaaW.PrintWords Go.Proofs.YtabicblkdgpogaaW.PrintLast Go.Proofs.YtabicblkdgpogaaW.PrintMore
attribute [local go_sem] max2_int min2_int max_two min_two max_three min_three max_four min_four   -- for this text's walks alone
set_option linter.unusedVariables false
set_option linter.unusedSimpArgs false

/-! ### laws_FnSpots: function 7 -/
mutual
def laws_FnSpots.j0 : Nat → Int → List Int → List Int → Bool → Option (Bool)
 | 0, _, _, _, _ => none
 | k + 1, x3, x4, x5, x35 => if x35 = true then (some true) else (laws_FnSpots.l0 k x3 x4 x5 (([] : List Int)) 0)
def laws_FnSpots.l0 : Nat → Int → List Int → List Int → List Int → Int → Option (Bool)
 | 0, _, _, _, _, _ => none
 | k + 1, x3, x4, x5, x7, x8 => if x8 < (x4.length : Int) then (if x7.length < 17592186044416 then (laws_FnSpots.l0 k x3 x4 x5 (x7 ++ [x8]) (wrap64 (x8 + 1))) else (none)) else ((spec_Forward.f k x3 x4).bind fun t433 => ((laws_cp.f k x4).bind fun t436 => ((laws_cp.f k x4).bind fun t439 => ((impl_Forward.f k x3 t439).bind fun t442 => ((laws_cp.f k x7).bind fun t445 => ((impl_SpotForward.f k x3 t436 t442 t445).bind fun t448 => (if t448 = true then ((laws_cp.f k x4).bind fun t449 => ((laws_cp.f k x5).bind fun t452 => ((laws_cp.f k x7).bind fun t455 => ((impl_SpotForward.f k x3 t449 t452 t455).bind fun t458 => ((laws_same.f k x5 t433).bind fun t459 => (some (t458 == t459))))))) else (some false))))))))
end
def laws_FnSpots.f (k : Nat) (l0 : List Int) : Option (Bool) := (laws_big.f l0).bind fun t414 => (if t414 = true then (some true) else ((spec_DrawSpotForward.f k l0).bind fun bt415 => ((spec_VectorOk.f k bt415.1 bt415.2.1).bind fun t425 => (if t425 = true then ((spec_VectorOk.f k bt415.1 bt415.2.2.1).bind fun t426 => (if t426 = true then (laws_FnSpots.j0 k bt415.1 bt415.2.1 bt415.2.2.1 ((bt415.2.1.length : Int) != (bt415.2.2.1.length : Int))) else (laws_FnSpots.j0 k bt415.1 bt415.2.1 bt415.2.2.1 true))) else (laws_FnSpots.j0 k bt415.1 bt415.2.1 bt415.2.2.1 true)))))
theorem laws_FnSpots.mono_l : ∀ k, (∀ y0 y1 y2 y3, LeO (laws_FnSpots.j0 k y0 y1 y2 y3) (laws_FnSpots.j0 (k + 1) y0 y1 y2 y3)) ∧ (∀ y0 y1 y2 y3 y4, LeO (laws_FnSpots.l0 k y0 y1 y2 y3 y4) (laws_FnSpots.l0 (k + 1) y0 y1 y2 y3 y4))
 | 0 => ⟨fun _ _ _ _ r h => by simp [laws_FnSpots.j0] at h, fun _ _ _ _ _ r h => by simp [laws_FnSpots.l0] at h⟩
 | k + 1 => by
  obtain ⟨ih0, ih1⟩ := laws_FnSpots.mono_l k
  refine ⟨?_, ?_⟩
  ·intro y0 y1 y2 y3
   unfold laws_FnSpots.j0
   repeat' first
   | (with_reducible exact ih0 _ _ _ _)
   | (with_reducible exact ih1 _ _ _ _ _)
   | (with_reducible exact impl_Forward.mono _ _ _)
   | (with_reducible exact impl_SpotForward.mono _ _ _ _ _)
   | (with_reducible exact laws_cp.mono _ _)
   | (with_reducible exact laws_same.mono _ _ _)
   | (with_reducible exact spec_DrawSpotForward.mono _ _)
   | (with_reducible exact spec_Forward.mono _ _ _)
   | (with_reducible exact spec_VectorOk.mono _ _ _)
   | (with_reducible exact LeO.refl _)
   | (with_reducible exact LeO.none _)
   | (with_reducible refine LeO.ite ?_ ?_)
   | (with_reducible refine LeO.bind ?_ (fun _ => ?_))
   | exact ih0 _ _ _ _
   | exact ih1 _ _ _ _ _
   | exact impl_Forward.mono _ _ _
   | exact impl_SpotForward.mono _ _ _ _ _
   | exact laws_cp.mono _ _
   | exact laws_same.mono _ _ _
   | exact spec_DrawSpotForward.mono _ _
   | exact spec_Forward.mono _ _ _
   | exact spec_VectorOk.mono _ _ _
   | exact LeO.none _
   | refine LeO.ite ?_ ?_
   | refine LeO.bind ?_ (fun _ => ?_)
  ·intro y0 y1 y2 y3 y4
   unfold laws_FnSpots.l0
   repeat' first
   | (with_reducible exact ih0 _ _ _ _)
   | (with_reducible exact ih1 _ _ _ _ _)
   | (with_reducible exact impl_Forward.mono _ _ _)
   | (with_reducible exact impl_SpotForward.mono _ _ _ _ _)
   | (with_reducible exact laws_cp.mono _ _)
   | (with_reducible exact laws_same.mono _ _ _)
   | (with_reducible exact spec_DrawSpotForward.mono _ _)
   | (with_reducible exact spec_Forward.mono _ _ _)
   | (with_reducible exact spec_VectorOk.mono _ _ _)
   | (with_reducible exact LeO.refl _)
   | (with_reducible exact LeO.none _)
   | (with_reducible refine LeO.ite ?_ ?_)
   | (with_reducible refine LeO.bind ?_ (fun _ => ?_))
   | exact ih0 _ _ _ _
   | exact ih1 _ _ _ _ _
   | exact impl_Forward.mono _ _ _
   | exact impl_SpotForward.mono _ _ _ _ _
   | exact laws_cp.mono _ _
   | exact laws_same.mono _ _ _
   | exact spec_DrawSpotForward.mono _ _
   | exact spec_Forward.mono _ _ _
   | exact spec_VectorOk.mono _ _ _
   | exact LeO.none _
   | refine LeO.ite ?_ ?_
   | refine LeO.bind ?_ (fun _ => ?_)
theorem laws_FnSpots.mono : ∀ a0 k, LeO (laws_FnSpots.f k a0) (laws_FnSpots.f (k + 1) a0) := by
 intro a0 k
 obtain ⟨ih0, ih1⟩ := laws_FnSpots.mono_l k
 unfold laws_FnSpots.f
 repeat' first
   | (with_reducible exact ih0 _ _ _ _)
   | (with_reducible exact ih1 _ _ _ _ _)
   | (with_reducible exact impl_Forward.mono _ _ _)
   | (with_reducible exact impl_SpotForward.mono _ _ _ _ _)
   | (with_reducible exact laws_cp.mono _ _)
   | (with_reducible exact laws_same.mono _ _ _)
   | (with_reducible exact spec_DrawSpotForward.mono _ _)
   | (with_reducible exact spec_Forward.mono _ _ _)
   | (with_reducible exact spec_VectorOk.mono _ _ _)
   | (with_reducible exact LeO.refl _)
   | (with_reducible exact LeO.none _)
   | (with_reducible refine LeO.ite ?_ ?_)
   | (with_reducible refine LeO.bind ?_ (fun _ => ?_))
   | exact ih0 _ _ _ _
   | exact ih1 _ _ _ _ _
   | exact impl_Forward.mono _ _ _
   | exact impl_SpotForward.mono _ _ _ _ _
   | exact laws_cp.mono _ _
   | exact laws_same.mono _ _ _
   | exact spec_DrawSpotForward.mono _ _
   | exact spec_Forward.mono _ _ _
   | exact spec_VectorOk.mono _ _ _
   | exact LeO.none _
   | refine LeO.ite ?_ ?_
   | refine LeO.bind ?_ (fun _ => ?_)
set_option maxHeartbeats 8000000 in
set_option maxRecDepth 100000 in
theorem laws_FnSpots.calls (k : Nat) (A0 : Option Addr) (c0 : Nat) (l0 : List Int) (r : Bool) (w : World) (hr0 : Kd.C (Kd.int .u8) w A0 l0.length l0) (hc0 : l0.length ≤ c0) (HT_ : Aside0 (r = true)) (h : laws_FnSpots.f k l0 = some r) :
  Calls Try.prog 7 #[.slice A0 l0.length c0] w fun e w' => e = .returned (.bool r) ∧ Below w.heap.size w w' := by
 have HR0 := Aside0.mk hr0
 have HC0 := Aside0.mk hc0
 clear hr0 hc0
 have HB := Aside0.mk (Below.refl w.heap.size w)
 have H : ((laws_big.f l0).bind fun t414 => (if t414 = true then (some true) else ((spec_DrawSpotForward.f k l0).bind fun bt415 => ((spec_VectorOk.f k bt415.1 bt415.2.1).bind fun t425 => (if t425 = true then ((spec_VectorOk.f k bt415.1 bt415.2.2.1).bind fun t426 => (if t426 = true then (laws_FnSpots.j0 k bt415.1 bt415.2.1 bt415.2.2.1 ((bt415.2.1.length : Int) != (bt415.2.2.1.length : Int))) else (laws_FnSpots.j0 k bt415.1 bt415.2.1 bt415.2.2.1 true))) else (laws_FnSpots.j0 k bt415.1 bt415.2.1 bt415.2.2.1 true)))))) = some r := h
 clear h
 replace H := Option.bind_eq_some_iff.mp H
 obtain ⟨t414, A20, H⟩ := H
 replace H : (if t414 = true then (some true) else ((spec_DrawSpotForward.f k l0).bind fun bt415 => ((spec_VectorOk.f k bt415.1 bt415.2.1).bind fun t425 => (if t425 = true then ((spec_VectorOk.f k bt415.1 bt415.2.2.1).bind fun t426 => (if t426 = true then (laws_FnSpots.j0 k bt415.1 bt415.2.1 bt415.2.2.1 ((bt415.2.1.length : Int) != (bt415.2.2.1.length : Int))) else (laws_FnSpots.j0 k bt415.1 bt415.2.1 bt415.2.2.1 true))) else (laws_FnSpots.j0 k bt415.1 bt415.2.1 bt415.2.2.1 true))))) = some r := H
 have A2 := Aside0.mk A20
 clear A20
 by_cases c3 : t414 = true
 ·subst c3
  replace H : (some true) = some r := by rw [if_pos rfl] at H; exact H
  obtain rfl := Option.some.inj H
  go_enter Try.func7, Try.ntmps7
  go_wp2_with (first | ((with_reducible refine gate_callee (f := 32) rfl ?_); refine goesL_ (some 11) rfl rfl Try.func32 (by kernel_rfl) rfl #[.slice A0 l0.length c0] rfl zM ?_; (with_reducible refine (laws_big.calls _ _ l0 true _ ?side1 ?side2 A2.out).mono ?_); (case side1 => exact zC HR0.out); (case side2 => exact HC0.out); rintro e w' ⟨rfl, ⟨nd, rfl⟩⟩; refine ⟨_, rfl, ?_⟩))
  go_ret
  exact ⟨zE, zH⟩
 ·replace c3 := Bool.eq_false_iff.mpr c3
  subst c3
  replace H : ((spec_DrawSpotForward.f k l0).bind fun bt415 => ((spec_VectorOk.f k bt415.1 bt415.2.1).bind fun t425 => (if t425 = true then ((spec_VectorOk.f k bt415.1 bt415.2.2.1).bind fun t426 => (if t426 = true then (laws_FnSpots.j0 k bt415.1 bt415.2.1 bt415.2.2.1 ((bt415.2.1.length : Int) != (bt415.2.2.1.length : Int))) else (laws_FnSpots.j0 k bt415.1 bt415.2.1 bt415.2.2.1 true))) else (laws_FnSpots.j0 k bt415.1 bt415.2.1 bt415.2.2.1 true)))) = some r := by rw [if_neg (show ¬ (false = true) by decide)] at H; exact H
  replace H := Option.bind_eq_some_iff.mp H
  obtain ⟨⟨t415, t416, t417, t418⟩, A40, H⟩ := H
  replace H : ((spec_VectorOk.f k t415 t416).bind fun t425 => (if t425 = true then ((spec_VectorOk.f k t415 t417).bind fun t426 => (if t426 = true then (laws_FnSpots.j0 k t415 t416 t417 ((t416.length : Int) != (t417.length : Int))) else (laws_FnSpots.j0 k t415 t416 t417 true))) else (laws_FnSpots.j0 k t415 t416 t417 true))) = some r := H
  have A4 := Aside0.mk A40
  clear A40
  have HC5 := Aside0.mk H
  clear H
  go_enter Try.func7, Try.ntmps7
  go_upto_region 4 with (first | ((with_reducible refine gate_callee (f := 32) rfl ?_); refine goesL_ (some 11) rfl rfl Try.func32 (by kernel_rfl) rfl #[.slice A0 l0.length c0] rfl zM ?_; (with_reducible refine (laws_big.calls _ _ l0 false _ ?side1 ?side2 A2.out).mono ?_); (case side1 => exact zC HR0.out); (case side2 => exact HC0.out); rintro e w' ⟨rfl, ⟨nd, rfl⟩⟩; refine ⟨_, rfl, ?_⟩) | ((with_reducible refine gate_callee (f := 33) rfl ?_); refine goesL_ (some 14) rfl rfl Try.func33 (by kernel_rfl) rfl #[.slice A0 l0.length c0] rfl zM ?_; (with_reducible refine (spec_DrawSpotForward.calls k _ _ l0 t415 t416 t417 t418 _ ?side1 ?side2 A4.out).mono ?_); (case side1 => exact zC HR0.out); (case side2 => exact HC0.out); rintro e w6 ⟨v419, v421, v423, rfl, ho0, ho1, ho2, hb⟩; refine ⟨_, rfl, ?_⟩; have n0_ := Aside0.mk (Kd.R_lower ho0 (below_size zH)); have n1_ := Aside0.mk (Kd.R_lower ho1 (below_size zH)); have n2_ := Aside0.mk (Kd.R_lower ho2 (below_size zH)); have n3_ := Aside0.mk (below_step zH hb); clear HB; have HO420 := n0_; have HO422 := n1_; have HO424 := n2_; have HB := n3_; clear n0_ n1_ n2_ n3_; (try clear hb); (try clear hb2); (try clear hk); (try clear hi); (try clear ho0); (try clear ho1); (try clear ho2)))
  (try simp only [Act.put, List.setIfInBounds_toArray, List.set_cons_zero, List.set_cons_succ])
  go_cut [35] (fun v35 wc => ∃ (kq : Nat) (x35_4 : Bool), v35 = .bool x35_4 ∧ Aside0 (laws_FnSpots.j0 kq t415 t416 t417 x35_4 = some r) ∧ Aside0 (kq ≤ k) ∧ Aside0 (Kd.R (Kd.int .i64) 3 wc w.heap.size (fun k_ => some k_ ≠ (v421 : Value).ownBlock) v419 t416) ∧ Aside0 (Kd.R (Kd.int .i64) 3 wc w.heap.size (fun k_ => some k_ ≠ (v419 : Value).ownBlock) v421 t417) ∧ Aside0 (Below w.heap.size w wc))
  case first =>
   have H := HC5.out
   clear HC5
   replace H := Option.bind_eq_some_iff.mp H
   obtain ⟨t425, A70, H⟩ := H
   replace H : (if t425 = true then ((spec_VectorOk.f k t415 t417).bind fun t426 => (if t426 = true then (laws_FnSpots.j0 k t415 t416 t417 ((t416.length : Int) != (t417.length : Int))) else (laws_FnSpots.j0 k t415 t416 t417 true))) else (laws_FnSpots.j0 k t415 t416 t417 true)) = some r := H
   have A7 := Aside0.mk A70
   clear A70
   by_cases c8 : t425 = true
   ·subst c8
    replace H : ((spec_VectorOk.f k t415 t417).bind fun t426 => (if t426 = true then (laws_FnSpots.j0 k t415 t416 t417 ((t416.length : Int) != (t417.length : Int))) else (laws_FnSpots.j0 k t415 t416 t417 true))) = some r := by rw [if_pos rfl] at H; exact H
    replace H := Option.bind_eq_some_iff.mp H
    obtain ⟨t426, A90, H⟩ := H
    replace H : (if t426 = true then (laws_FnSpots.j0 k t415 t416 t417 ((t416.length : Int) != (t417.length : Int))) else (laws_FnSpots.j0 k t415 t416 t417 true)) = some r := H
    have A9 := Aside0.mk A90
    clear A90
    by_cases c10 : t426 = true
    ·subst c10
     replace H : (laws_FnSpots.j0 k t415 t416 t417 ((t416.length : Int) != (t417.length : Int))) = some r := by rw [if_pos rfl] at H; exact H
     have H' := Aside0.mk H
     clear H
     obtain ⟨Ao11, co11, eo11⟩ := Kd.R_slice HO420.out
     subst eo11
     go_wp2_with (first | ((with_reducible refine gate_callee (f := 34) rfl ?_); refine goesL_ (some 21) rfl rfl Try.func34 (by kernel_rfl) rfl #[.int .i64 t415, .slice Ao11 t416.length co11] rfl zM ?_; (with_reducible refine (spec_VectorOk.calls k t415 _ _ t416 true _ ?side1 ?side2 A7.out).mono ?_); (case side1 => exact zC ((Kd.R_reads' HO420.out).2.2)); (case side2 => exact (Kd.R_reads' HO420.out).2.1); rintro e w' ⟨rfl, ⟨nd, rfl⟩⟩; refine ⟨_, rfl, ?_⟩; obtain ⟨Ao12, co12, eo12⟩ := Kd.R_slice HO422.out; subst eo12) | (go_at_call 34; (with_reducible refine (spec_VectorOk.calls k t415 _ _ t417 true _ ?side1 ?side2 A9.out).mono ?_); (case side1 => exact zC ((Kd.R_reads' HO422.out).2.2)); (case side2 => exact (Kd.R_reads' HO422.out).2.1); rintro e w' ⟨rfl, ⟨nd, rfl⟩⟩))
     go_meet
     case rel => exact ⟨_, (((t416.length : Int) != (t417.length : Int))), zF, H', ⟨by first | omega | exact Nat.le_refl _⟩, ⟨by (with_reducible repeat (first | apply Kd.R_alloc | apply Kd.R_drewN | apply Kd.R_drew)); exact Kd.R_mono HO420.out (fun _ hk => hk.1)⟩, ⟨by (with_reducible repeat (first | apply Kd.R_alloc | apply Kd.R_drewN | apply Kd.R_drew)); exact Kd.R_mono HO422.out (fun _ hk => hk.1)⟩, ⟨zH⟩⟩
    ·replace c10 := Bool.eq_false_iff.mpr c10
     subst c10
     replace H : (laws_FnSpots.j0 k t415 t416 t417 true) = some r := by rw [if_neg (show ¬ (false = true) by decide)] at H; exact H
     have H' := Aside0.mk H
     clear H
     obtain ⟨Ao13, co13, eo13⟩ := Kd.R_slice HO420.out
     subst eo13
     go_wp2_with (first | ((with_reducible refine gate_callee (f := 34) rfl ?_); refine goesL_ (some 21) rfl rfl Try.func34 (by kernel_rfl) rfl #[.int .i64 t415, .slice Ao13 t416.length co13] rfl zM ?_; (with_reducible refine (spec_VectorOk.calls k t415 _ _ t416 true _ ?side1 ?side2 A7.out).mono ?_); (case side1 => exact zC ((Kd.R_reads' HO420.out).2.2)); (case side2 => exact (Kd.R_reads' HO420.out).2.1); rintro e w' ⟨rfl, ⟨nd, rfl⟩⟩; refine ⟨_, rfl, ?_⟩; obtain ⟨Ao14, co14, eo14⟩ := Kd.R_slice HO422.out; subst eo14) | (go_at_call 34; (with_reducible refine (spec_VectorOk.calls k t415 _ _ t417 false _ ?side1 ?side2 A9.out).mono ?_); (case side1 => exact zC ((Kd.R_reads' HO422.out).2.2)); (case side2 => exact (Kd.R_reads' HO422.out).2.1); rintro e w' ⟨rfl, ⟨nd, rfl⟩⟩))
     go_meet
     case rel => exact ⟨_, (true), zF, H', ⟨by first | omega | exact Nat.le_refl _⟩, ⟨by (with_reducible repeat (first | apply Kd.R_alloc | apply Kd.R_drewN | apply Kd.R_drew)); exact Kd.R_mono HO420.out (fun _ hk => hk.1)⟩, ⟨by (with_reducible repeat (first | apply Kd.R_alloc | apply Kd.R_drewN | apply Kd.R_drew)); exact Kd.R_mono HO422.out (fun _ hk => hk.1)⟩, ⟨zH⟩⟩
   ·replace c8 := Bool.eq_false_iff.mpr c8
    subst c8
    replace H : (laws_FnSpots.j0 k t415 t416 t417 true) = some r := by rw [if_neg (show ¬ (false = true) by decide)] at H; exact H
    have H' := Aside0.mk H
    clear H
    obtain ⟨Ao15, co15, eo15⟩ := Kd.R_slice HO420.out
    subst eo15
    go_wp2_with (first | ((with_reducible refine gate_callee (f := 34) rfl ?_); refine goesL_ (some 21) rfl rfl Try.func34 (by kernel_rfl) rfl #[.int .i64 t415, .slice Ao15 t416.length co15] rfl zM ?_; (with_reducible refine (spec_VectorOk.calls k t415 _ _ t416 false _ ?side1 ?side2 A7.out).mono ?_); (case side1 => exact zC ((Kd.R_reads' HO420.out).2.2)); (case side2 => exact (Kd.R_reads' HO420.out).2.1); rintro e w' ⟨rfl, ⟨nd, rfl⟩⟩; refine ⟨_, rfl, ?_⟩))
    go_meet
    case rel => exact ⟨_, (true), zF, H', ⟨by first | omega | exact Nat.le_refl _⟩, ⟨by (with_reducible repeat (first | apply Kd.R_alloc | apply Kd.R_drewN | apply Kd.R_drew)); exact Kd.R_mono HO420.out (fun _ hk => hk.1)⟩, ⟨by (with_reducible repeat (first | apply Kd.R_alloc | apply Kd.R_drewN | apply Kd.R_drew)); exact Kd.R_mono HO422.out (fun _ hk => hk.1)⟩, ⟨zH⟩⟩
  case rest =>
   clear HC5
   (try clear c1);(try clear p2);(try clear c3);(try clear c7);(try clear c8);(try clear c10)
   obtain ⟨kq, x35_4, rfl, HA, HJ4, HO_4, HO_5, HB⟩ := hcut
   cases kq with
   | zero => exact absurd HA.out (by simp [laws_FnSpots.j0])
   | succ kj4 =>
    have H := HA.out
    clear HA
    simp only [laws_FnSpots.j0] at H
    by_cases c16 : x35_4 = true
    ·subst c16
     replace H : (some true) = some r := by rw [if_pos rfl] at H; exact H
     obtain rfl := Option.some.inj H
     go_wp2
     go_ret
     exact ⟨zE, zH⟩
    ·replace c16 := Bool.eq_false_iff.mpr c16
     subst c16
     replace H : (laws_FnSpots.l0 kj4 t415 t416 t417 (([] : List Int)) 0) = some r := by rw [if_neg (show ¬ (false = true) by decide)] at H; exact H
     obtain ⟨y427, hy427⟩ : ∃ y_ : List Int, y_ = (([] : List Int)) := ⟨_, rfl⟩
     replace H : (laws_FnSpots.l0 kj4 t415 t416 t417 y427 0) = some r := by first | (rw [hy427]; with_reducible exact H) | (have H2_ := (Option.bind_some _ _).symm.trans H; rw [hy427]; with_reducible exact H2_) | (have H2_ := (Option.bind_some _ _).symm.trans H; with_reducible exact H2_) | with_reducible exact H | (rw [hy427]; exact H) | exact H
     have Ny427 := Aside0.mk hy427
     clear hy427
     have H' := Aside0.mk H
     clear H
     go_wp2_with (first | ((with_reducible refine gate_dst (N := 36) rfl ?_); (try (refine gate_guard (by rfl) ?_; dsimp only)); refine Kd.R_lit (Kd.int .i64) _ 3 ?hg (N := 36) ?hd (xs := ([] : List Int)) (inner := []) (ok := fun _ => True) (okp := fun _ => True) ?hr ?hp (fun _ hk => hk) trivial (Below.refl _ _) (Nat.le_refl _) (by simp) ?_; (case hd => rfl); (case hg => rfl); (case hr => first | (go_simp; done) | (go_simp; rfl)); (case hp => exact (Reps.none _ _)); intro v428 w17 ho18 hb hg_ hnew_; clear hg_ hnew_; (first | rw [← Ny427.out] at ho18 | (simp only [Int.reduceToNat] at ho18; rw [← Ny427.out] at ho18)); have n0_ := Aside0.mk (Kd.R_elder' (zR HO_4.out) (Kd.R_base ho18) hb); have n1_ := Aside0.mk (Kd.R_elder' (zR HO_5.out) (Kd.R_base ho18) hb); have n2_ := Aside0.mk (Kd.R_lower (Kd.R_new' (Kd.R_new' ho18 (Kd.R_lt (zR HO_4.out))) (Kd.R_lt (zR HO_5.out))) (below_size zH)); have n3_ := Aside0.mk (below_step zH hb); clear HO_4; clear HO_5; clear HB; have HO_4 := n0_; have HO_5 := n1_; have HO429 := n2_; have HB := n3_; clear n0_ n1_ n2_ n3_; clear hb ho18))
     go_loopg [7, 8] kj4 (fun kq v7 v8 w' => ∃ (x7_2 : List Int) (x8_2 : Int), v8 = .int .i64 x8_2 ∧ Aside0 (laws_FnSpots.l0 kq t415 t416 t417 x7_2 x8_2 = some r) ∧ Aside0 (kq ≤ kj4) ∧ Aside0 (Kd.R (Kd.int .i64) 3 w' w.heap.size (fun k_ => some k_ ≠ (v421 : Value).ownBlock ∧ some k_ ≠ (v7 : Value).ownBlock) v419 t416) ∧ Aside0 (Kd.R (Kd.int .i64) 3 w' w.heap.size (fun k_ => some k_ ≠ (v419 : Value).ownBlock ∧ some k_ ≠ (v7 : Value).ownBlock) v421 t417) ∧ Aside0 (Kd.R (Kd.int .i64) 3 w' w.heap.size (fun k_ => some k_ ≠ (v419 : Value).ownBlock ∧ some k_ ≠ (v421 : Value).ownBlock) v7 x7_2) ∧ Aside0 (Below w.heap.size w w'))
     case atStart => exact ⟨(y427), (0), zF, H', ⟨Nat.le_refl _⟩, ⟨zR HO_4.out⟩, ⟨zR HO_5.out⟩, ⟨by (with_reducible repeat (first | apply Kd.R_alloc | apply Kd.R_drewN | apply Kd.R_drew)); exact Kd.R_mono HO429.out (fun _ hk => ⟨hk.1.2, hk.2⟩)⟩, ⟨zH⟩⟩
     case round =>
      clear H'
      (try clear c1);(try clear p2);(try clear c3);(try clear c7);(try clear c8);(try clear c10);(try clear c16);(try clear p2)
      obtain ⟨x7_2, x8_2, rfl, HA, HK2, HO_4, HO_5, HO_7, HB⟩ := hrel
      cases gk with
      | zero => exact absurd HA.out (by simp [laws_FnSpots.l0])
      | succ k2 =>
       have H := HA.out
       clear HA
       simp only [laws_FnSpots.l0] at H
       by_cases c19 : x8_2 < (t416.length : Int)
       ·rw [if_pos c19] at H
        have c19b0 : decide (x8_2 < (t416.length : Int)) = true := decide_eq_true c19
        clear c19
        by_cases c20 : x7_2.length < 17592186044416
        ·rw [if_pos c20] at H
         have LMc20 := Aside0.mk c20
         clear c20
         obtain ⟨y430, hy430⟩ : ∃ y_ : List Int, y_ = (x7_2 ++ [x8_2]) := ⟨_, rfl⟩
         replace H : (laws_FnSpots.l0 k2 t415 t416 t417 y430 (wrap64 (x8_2 + 1))) = some r := by first | (rw [hy430]; with_reducible exact H) | (have H2_ := (Option.bind_some _ _).symm.trans H; rw [hy430]; with_reducible exact H2_) | (have H2_ := (Option.bind_some _ _).symm.trans H; with_reducible exact H2_) | with_reducible exact H | (rw [hy430]; exact H) | exact H
         have Ny430 := Aside0.mk hy430
         clear hy430
         have H' := Aside0.mk H
         clear H
         obtain ⟨Ao21, co21, eo21⟩ := Kd.R_slice HO_4.out
         subst eo21
         go_wp2_with (first | ((with_reducible refine gate_builtin (b := .append) (xs := #[.tmp 43, .tmp 45]) rfl ?_); (try (refine gate_guard (by rfl) ?_; dsimp only)); at_builtin; refine Kd.R_append (Kd.int .i64) (w0 := w) w.heap.size rfl (.tmp 43) (.tmp 45) 22 3 (.int .i64 0) 8 rfl Try.underlying22 info3 rfl (by decide) (by omega) u7 x7_2 x8_2 [.int .i64 x8_2] (fun k_ => some k_ ≠ (.slice Ao21 t416.length co21 : Value).ownBlock ∧ some k_ ≠ (v421 : Value).ownBlock) (fun _ => False) rfl rfl ?aP (fun _ hk => hk.elim) ?aF ?aO ?aB ?aS ?aL ?_; (case aP => exact rfl); (case aB => exact zH); (case aF => exact (fun k_ hk => ⟨Kd.fresh' (Kd.R_lt (zR HO_4.out)) k_ hk, Kd.fresh' (Kd.R_lt (zR HO_5.out)) k_ hk⟩)); (case aO => exact (zR HO_7.out)); (case aS => exact (below_size zH)); (case aL => have := LMc20.out; omega); intro v431 w22 ho hb hg hat; rw [← Ny430.out] at ho; have n0_ := Aside0.mk (Kd.R_after (ok := (fun k_ => some k_ ≠ (v421 : Value).ownBlock)) (zR HO_4.out) hg hat); have n1_ := Aside0.mk (Kd.R_after (ok := (fun k_ => some k_ ≠ (.slice Ao21 t416.length co21 : Value).ownBlock)) (zR HO_5.out) hg hat); have n2_ := Aside0.mk (hb); have n3_ := Aside0.mk (ho); clear HO_4; clear HO_5; clear HB; clear HO_7; have HO_4 := n0_; have HO_5 := n1_; have HB := n2_; have HO432 := n3_; clear n0_ n1_ n2_ n3_; clear ho hb hg hat))
         go_roundg k2
         case measure => have := HJ4.out; have := HK2.out; omega
         case rel => exact ⟨(y430), (wrap64 (x8_2 + 1)), zF, H', ⟨by have := HJ4.out; have := HK2.out; omega⟩, ⟨zR HO_4.out⟩, ⟨zR HO_5.out⟩, ⟨zR HO432.out⟩, ⟨zH⟩⟩
        ·rw [if_neg c20] at H
         exact absurd H (by simp)
       ·rw [if_neg c19] at H
        have c19b0 : decide (x8_2 < (t416.length : Int)) = false := decide_eq_false c19
        clear c19
        replace H := Option.bind_eq_some_iff.mp H
        obtain ⟨t433, A230, H⟩ := H
        replace H : ((laws_cp.f k2 t416).bind fun t436 => ((laws_cp.f k2 t416).bind fun t439 => ((impl_Forward.f k2 t415 t439).bind fun t442 => ((laws_cp.f k2 x7_2).bind fun t445 => ((impl_SpotForward.f k2 t415 t436 t442 t445).bind fun t448 => (if t448 = true then ((laws_cp.f k2 t416).bind fun t449 => ((laws_cp.f k2 t417).bind fun t452 => ((laws_cp.f k2 x7_2).bind fun t455 => ((impl_SpotForward.f k2 t415 t449 t452 t455).bind fun t458 => ((laws_same.f k2 t417 t433).bind fun t459 => (some (t458 == t459))))))) else (some false))))))) = some r := H
        have A23 := Aside0.mk A230
        clear A230
        replace H := Option.bind_eq_some_iff.mp H
        obtain ⟨t436, A240, H⟩ := H
        replace H : ((laws_cp.f k2 t416).bind fun t439 => ((impl_Forward.f k2 t415 t439).bind fun t442 => ((laws_cp.f k2 x7_2).bind fun t445 => ((impl_SpotForward.f k2 t415 t436 t442 t445).bind fun t448 => (if t448 = true then ((laws_cp.f k2 t416).bind fun t449 => ((laws_cp.f k2 t417).bind fun t452 => ((laws_cp.f k2 x7_2).bind fun t455 => ((impl_SpotForward.f k2 t415 t449 t452 t455).bind fun t458 => ((laws_same.f k2 t417 t433).bind fun t459 => (some (t458 == t459))))))) else (some false)))))) = some r := H
        have A24 := Aside0.mk A240
        clear A240
        replace H := Option.bind_eq_some_iff.mp H
        obtain ⟨t439, A250, H⟩ := H
        replace H : ((impl_Forward.f k2 t415 t439).bind fun t442 => ((laws_cp.f k2 x7_2).bind fun t445 => ((impl_SpotForward.f k2 t415 t436 t442 t445).bind fun t448 => (if t448 = true then ((laws_cp.f k2 t416).bind fun t449 => ((laws_cp.f k2 t417).bind fun t452 => ((laws_cp.f k2 x7_2).bind fun t455 => ((impl_SpotForward.f k2 t415 t449 t452 t455).bind fun t458 => ((laws_same.f k2 t417 t433).bind fun t459 => (some (t458 == t459))))))) else (some false))))) = some r := H
        have A25 := Aside0.mk A250
        clear A250
        replace H := Option.bind_eq_some_iff.mp H
        obtain ⟨t442, A260, H⟩ := H
        replace H : ((laws_cp.f k2 x7_2).bind fun t445 => ((impl_SpotForward.f k2 t415 t436 t442 t445).bind fun t448 => (if t448 = true then ((laws_cp.f k2 t416).bind fun t449 => ((laws_cp.f k2 t417).bind fun t452 => ((laws_cp.f k2 x7_2).bind fun t455 => ((impl_SpotForward.f k2 t415 t449 t452 t455).bind fun t458 => ((laws_same.f k2 t417 t433).bind fun t459 => (some (t458 == t459))))))) else (some false)))) = some r := H
        have A26 := Aside0.mk A260
        clear A260
        replace H := Option.bind_eq_some_iff.mp H
        obtain ⟨t445, A270, H⟩ := H
        replace H : ((impl_SpotForward.f k2 t415 t436 t442 t445).bind fun t448 => (if t448 = true then ((laws_cp.f k2 t416).bind fun t449 => ((laws_cp.f k2 t417).bind fun t452 => ((laws_cp.f k2 x7_2).bind fun t455 => ((impl_SpotForward.f k2 t415 t449 t452 t455).bind fun t458 => ((laws_same.f k2 t417 t433).bind fun t459 => (some (t458 == t459))))))) else (some false))) = some r := H
        have A27 := Aside0.mk A270
        clear A270
        replace H := Option.bind_eq_some_iff.mp H
        obtain ⟨t448, A280, H⟩ := H
        replace H : (if t448 = true then ((laws_cp.f k2 t416).bind fun t449 => ((laws_cp.f k2 t417).bind fun t452 => ((laws_cp.f k2 x7_2).bind fun t455 => ((impl_SpotForward.f k2 t415 t449 t452 t455).bind fun t458 => ((laws_same.f k2 t417 t433).bind fun t459 => (some (t458 == t459))))))) else (some false)) = some r := H
        have A28 := Aside0.mk A280
        clear A280
        by_cases c29 : t448 = true
        ·subst c29
         replace H : ((laws_cp.f k2 t416).bind fun t449 => ((laws_cp.f k2 t417).bind fun t452 => ((laws_cp.f k2 x7_2).bind fun t455 => ((impl_SpotForward.f k2 t415 t449 t452 t455).bind fun t458 => ((laws_same.f k2 t417 t433).bind fun t459 => (some (t458 == t459))))))) = some r := by rw [if_pos rfl] at H; exact H
         replace H := Option.bind_eq_some_iff.mp H
         obtain ⟨t449, A300, H⟩ := H
         replace H : ((laws_cp.f k2 t417).bind fun t452 => ((laws_cp.f k2 x7_2).bind fun t455 => ((impl_SpotForward.f k2 t415 t449 t452 t455).bind fun t458 => ((laws_same.f k2 t417 t433).bind fun t459 => (some (t458 == t459)))))) = some r := H
         have A30 := Aside0.mk A300
         clear A300
         replace H := Option.bind_eq_some_iff.mp H
         obtain ⟨t452, A310, H⟩ := H
         replace H : ((laws_cp.f k2 x7_2).bind fun t455 => ((impl_SpotForward.f k2 t415 t449 t452 t455).bind fun t458 => ((laws_same.f k2 t417 t433).bind fun t459 => (some (t458 == t459))))) = some r := H
         have A31 := Aside0.mk A310
         clear A310
         replace H := Option.bind_eq_some_iff.mp H
         obtain ⟨t455, A320, H⟩ := H
         replace H : ((impl_SpotForward.f k2 t415 t449 t452 t455).bind fun t458 => ((laws_same.f k2 t417 t433).bind fun t459 => (some (t458 == t459)))) = some r := H
         have A32 := Aside0.mk A320
         clear A320
         replace H := Option.bind_eq_some_iff.mp H
         obtain ⟨t458, A330, H⟩ := H
         replace H : ((laws_same.f k2 t417 t433).bind fun t459 => (some (t458 == t459))) = some r := H
         have A33 := Aside0.mk A330
         clear A330
         replace H := Option.bind_eq_some_iff.mp H
         obtain ⟨t459, A340, H⟩ := H
         replace H : (some (t458 == t459)) = some r := H
         have A34 := Aside0.mk A340
         clear A340
         obtain rfl := Option.some.inj H
         obtain ⟨Ao35, co35, eo35⟩ := Kd.R_slice HO_4.out
         subst eo35
         go_wp2_with (first | ((with_reducible refine gate_callee (f := 35) rfl ?_); refine goesL_ (some 49) rfl rfl Try.func35 (by kernel_rfl) rfl #[.int .i64 t415, .slice Ao35 t416.length co35] rfl zM ?_; (with_reducible refine (spec_Forward.calls k2 t415 _ _ t416 t433 _ ?side1 ?side2 A23.out).mono ?_); (case side1 => exact zC ((Kd.R_reads' HO_4.out).2.2)); (case side2 => exact (Kd.R_reads' HO_4.out).2.1); rintro e w36 ⟨v434, rfl, ho0, hb⟩; refine ⟨_, rfl, ?_⟩; have n0_ := Aside0.mk (Kd.R_elder' (zR HO_4.out) (Kd.R_base ho0) hb); have n1_ := Aside0.mk (Kd.R_elder' (zR HO_5.out) (Kd.R_base ho0) hb); have n2_ := Aside0.mk (Kd.R_elder' (zR HO_7.out) (Kd.R_base ho0) hb); have n3_ := Aside0.mk (Kd.R_lower (Kd.R_new' (Kd.R_new' (Kd.R_new' ho0 (Kd.R_lt (zR HO_4.out))) (Kd.R_lt (zR HO_5.out))) (Kd.R_lt (zR HO_7.out))) (below_size zH)); have n4_ := Aside0.mk (below_step zH hb); clear HO_4; clear HO_5; clear HO_7; clear HB; have HO_4 := n0_; have HO_5 := n1_; have HO_7 := n2_; have HO435 := n3_; have HB := n4_; clear n0_ n1_ n2_ n3_ n4_; (try clear hb); (try clear hb2); (try clear hk); (try clear hi); (try clear ho0)) | ((with_reducible refine gate_callee (f := 37) rfl ?_); refine goesL_ (some 52) rfl rfl Try.func37 (by kernel_rfl) rfl #[.slice Ao35 t416.length co35] rfl zM ?_; (with_reducible refine (laws_cp.calls k2 _ _ t416 t436 _ ?side1 ?side2 A24.out).mono ?_); (case side1 => exact zC ((Kd.R_reads' HO_4.out).2.2)); (case side2 => exact (Kd.R_reads' HO_4.out).2.1); rintro e w37 ⟨v437, rfl, ho0, hb⟩; refine ⟨_, rfl, ?_⟩; have n0_ := Aside0.mk (Kd.R_elder' (zR HO_4.out) (Kd.R_base ho0) hb); have n1_ := Aside0.mk (Kd.R_elder' (zR HO_5.out) (Kd.R_base ho0) hb); have n2_ := Aside0.mk (Kd.R_elder' (zR HO_7.out) (Kd.R_base ho0) hb); have n3_ := Aside0.mk (Kd.R_elder' (zR HO435.out) (Kd.R_base ho0) hb); have n4_ := Aside0.mk (Kd.R_lower (Kd.R_new' (Kd.R_new' (Kd.R_new' (Kd.R_new' ho0 (Kd.R_lt (zR HO_4.out))) (Kd.R_lt (zR HO_5.out))) (Kd.R_lt (zR HO_7.out))) (Kd.R_lt (zR HO435.out))) (below_size zH)); have n5_ := Aside0.mk (below_step zH hb); clear HO_4; clear HO_5; clear HO_7; clear HO435; clear HB; have HO_4 := n0_; have HO_5 := n1_; have HO_7 := n2_; have HO435 := n3_; have HO438 := n4_; have HB := n5_; clear n0_ n1_ n2_ n3_ n4_ n5_; (try clear hb); (try clear hb2); (try clear hk); (try clear hi); (try clear ho0)) | ((with_reducible refine gate_callee (f := 37) rfl ?_); refine goesL_ (some 55) rfl rfl Try.func37 (by kernel_rfl) rfl #[.slice Ao35 t416.length co35] rfl zM ?_; (with_reducible refine (laws_cp.calls k2 _ _ t416 t439 _ ?side1 ?side2 A25.out).mono ?_); (case side1 => exact zC ((Kd.R_reads' HO_4.out).2.2)); (case side2 => exact (Kd.R_reads' HO_4.out).2.1); rintro e w38 ⟨v440, rfl, ho0, hb⟩; refine ⟨_, rfl, ?_⟩; have n0_ := Aside0.mk (Kd.R_elder' (zR HO_4.out) (Kd.R_base ho0) hb); have n1_ := Aside0.mk (Kd.R_elder' (zR HO_5.out) (Kd.R_base ho0) hb); have n2_ := Aside0.mk (Kd.R_elder' (zR HO_7.out) (Kd.R_base ho0) hb); have n3_ := Aside0.mk (Kd.R_elder' (zR HO435.out) (Kd.R_base ho0) hb); have n4_ := Aside0.mk (Kd.R_elder' (zR HO438.out) (Kd.R_base ho0) hb); have n5_ := Aside0.mk (Kd.R_lower (Kd.R_new' (Kd.R_new' (Kd.R_new' (Kd.R_new' (Kd.R_new' ho0 (Kd.R_lt (zR HO_4.out))) (Kd.R_lt (zR HO_5.out))) (Kd.R_lt (zR HO_7.out))) (Kd.R_lt (zR HO435.out))) (Kd.R_lt (zR HO438.out))) (below_size zH)); have n6_ := Aside0.mk (below_step zH hb); clear HO_4; clear HO_5; clear HO_7; clear HO435; clear HO438; clear HB; have HO_4 := n0_; have HO_5 := n1_; have HO_7 := n2_; have HO435 := n3_; have HO438 := n4_; have HO441 := n5_; have HB := n6_; clear n0_ n1_ n2_ n3_ n4_ n5_ n6_; (try clear hb); (try clear hb2); (try clear hk); (try clear hi); (try clear ho0); obtain ⟨Ao39, co39, eo39⟩ := Kd.R_slice HO441.out; subst eo39) | ((with_reducible refine gate_callee (f := 38) rfl ?_); refine goesL_ (some 56) rfl rfl Try.func38 (by kernel_rfl) rfl #[.int .i64 t415, .slice Ao39 t439.length co39] rfl zM ?_; (with_reducible refine (impl_Forward.calls k2 t415 (fun k_ => some k_ = (.slice Ao39 t439.length co39 : Value).ownBlock) _ _ t439 t442 _ ?side1 A26.out).mono ?_); (case side1 => exact Kd.R_V (Kd.R_tight rfl (HO441.out))); rintro e w40 ⟨v443, rfl, ho0, hb⟩; refine ⟨_, rfl, ?_⟩; have n0_ := Aside0.mk (Kd.R_elder' (zR HO_4.out) (Kd.R_base ho0) hb); have n1_ := Aside0.mk (Kd.R_elder' (zR HO_5.out) (Kd.R_base ho0) hb); have n2_ := Aside0.mk (Kd.R_elder' (zR HO_7.out) (Kd.R_base ho0) hb); have n3_ := Aside0.mk (Kd.R_elder' (zR HO435.out) (Kd.R_base ho0) hb); have n4_ := Aside0.mk (Kd.R_elder' (zR HO438.out) (Kd.R_base ho0) hb); have n5_ := Aside0.mk (Kd.R_elder' (zR HO441.out) (Kd.R_base ho0) hb); have n6_ := Aside0.mk (Kd.R_lower (Kd.R_new' (Kd.R_new' (Kd.R_new' (Kd.R_new' (Kd.R_new' (Kd.R_new' (Kd.R_mono (ok' := fun k_ => True) ho0 (fun _ hk_ => trivial)) (Kd.R_lt (zR HO_4.out))) (Kd.R_lt (zR HO_5.out))) (Kd.R_lt (zR HO_7.out))) (Kd.R_lt (zR HO435.out))) (Kd.R_lt (zR HO438.out))) (Kd.R_lt (zR HO441.out))) (below_size zH)); have n7_ := Aside0.mk (below_step zH hb); clear HO_4; clear HO_5; clear HO_7; clear HO435; clear HO438; clear HO441; clear HB; have HO_4 := n0_; have HO_5 := n1_; have HO_7 := n2_; have HO435 := n3_; have HO438 := n4_; have HO441 := n5_; have HO444 := n6_; have HB := n7_; clear n0_ n1_ n2_ n3_ n4_ n5_ n6_ n7_; (try clear hb); (try clear hb2); (try clear hk); (try clear hi); (try clear ho0); obtain ⟨Ao41, co41, eo41⟩ := Kd.R_slice HO_7.out; subst eo41) | ((with_reducible refine gate_callee (f := 37) rfl ?_); refine goesL_ (some 58) rfl rfl Try.func37 (by kernel_rfl) rfl #[.slice Ao41 x7_2.length co41] rfl zM ?_; (with_reducible refine (laws_cp.calls k2 _ _ x7_2 t445 _ ?side1 ?side2 A27.out).mono ?_); (case side1 => exact zC ((Kd.R_reads' HO_7.out).2.2)); (case side2 => exact (Kd.R_reads' HO_7.out).2.1); rintro e w42 ⟨v446, rfl, ho0, hb⟩; refine ⟨_, rfl, ?_⟩; have n0_ := Aside0.mk (Kd.R_elder' (zR HO_4.out) (Kd.R_base ho0) hb); have n1_ := Aside0.mk (Kd.R_elder' (zR HO_5.out) (Kd.R_base ho0) hb); have n2_ := Aside0.mk (Kd.R_elder' (zR HO_7.out) (Kd.R_base ho0) hb); have n3_ := Aside0.mk (Kd.R_elder' (zR HO435.out) (Kd.R_base ho0) hb); have n4_ := Aside0.mk (Kd.R_elder' (zR HO438.out) (Kd.R_base ho0) hb); have n5_ := Aside0.mk (Kd.R_elder' (zR HO441.out) (Kd.R_base ho0) hb); have n6_ := Aside0.mk (Kd.R_elder' (zR HO444.out) (Kd.R_base ho0) hb); have n7_ := Aside0.mk (Kd.R_lower (Kd.R_new' (Kd.R_new' (Kd.R_new' (Kd.R_new' (Kd.R_new' (Kd.R_new' (Kd.R_new' ho0 (Kd.R_lt (zR HO_4.out))) (Kd.R_lt (zR HO_5.out))) (Kd.R_lt (zR HO_7.out))) (Kd.R_lt (zR HO435.out))) (Kd.R_lt (zR HO438.out))) (Kd.R_lt (zR HO441.out))) (Kd.R_lt (zR HO444.out))) (below_size zH)); have n8_ := Aside0.mk (below_step zH hb); clear HO_4; clear HO_5; clear HO_7; clear HO435; clear HO438; clear HO441; clear HO444; clear HB; have HO_4 := n0_; have HO_5 := n1_; have HO_7 := n2_; have HO435 := n3_; have HO438 := n4_; have HO441 := n5_; have HO444 := n6_; have HO447 := n7_; have HB := n8_; clear n0_ n1_ n2_ n3_ n4_ n5_ n6_ n7_ n8_; (try clear hb); (try clear hb2); (try clear hk); (try clear hi); (try clear ho0); obtain ⟨Ao43, co43, eo43⟩ := Kd.R_slice HO438.out; subst eo43; obtain ⟨Ao44, co44, eo44⟩ := Kd.R_slice HO444.out; subst eo44; obtain ⟨Ao45, co45, eo45⟩ := Kd.R_slice HO447.out; subst eo45) | ((with_reducible refine gate_callee (f := 36) rfl ?_); refine goesL_ (some 59) rfl rfl Try.func36 (by kernel_rfl) rfl #[.int .i64 t415, .slice Ao43 t436.length co43, .slice Ao44 t442.length co44, .slice Ao45 t445.length co45] rfl zM ?_; (with_reducible refine (impl_SpotForward.calls k2 t415 (fun k_ => some k_ = (.slice Ao43 t436.length co43 : Value).ownBlock) _ _ t436 (fun k_ => some k_ = (.slice Ao44 t442.length co44 : Value).ownBlock) _ _ t442 _ _ t445 true _ ?side1 ?side2 ?side3 ?side4 A28.out).mono ?_); (case side1 => exact Kd.R_V (Kd.R_tight rfl (HO438.out))); (case side2 => exact Kd.R_V (Kd.R_tight rfl (HO444.out))); (case side3 => exact zC ((Kd.R_reads' HO447.out).2.2)); (case side4 => exact (Kd.R_reads' HO447.out).2.1); rintro e w46 ⟨rfl, hb⟩; refine ⟨_, rfl, ?_⟩; have n0_ := Aside0.mk (Kd.R_below (zR HO_4.out) hb); have n1_ := Aside0.mk (Kd.R_below (zR HO_5.out) hb); have n2_ := Aside0.mk (Kd.R_below (zR HO_7.out) hb); have n3_ := Aside0.mk (Kd.R_below (zR HO435.out) hb); have n4_ := Aside0.mk (Kd.R_below (zR HO438.out) hb); have n5_ := Aside0.mk (Kd.R_below (zR HO441.out) hb); have n6_ := Aside0.mk (Kd.R_below (zR HO444.out) hb); have n7_ := Aside0.mk (Kd.R_below (zR HO447.out) hb); have n8_ := Aside0.mk (below_step zH hb); clear HO_4; clear HO_5; clear HO_7; clear HO435; clear HO438; clear HO441; clear HO444; clear HO447; clear HB; have HO_4 := n0_; have HO_5 := n1_; have HO_7 := n2_; have HO435 := n3_; have HO438 := n4_; have HO441 := n5_; have HO444 := n6_; have HO447 := n7_; have HB := n8_; clear n0_ n1_ n2_ n3_ n4_ n5_ n6_ n7_ n8_; (try clear hb); (try clear hb2); (try clear hk); (try clear hi)) | (go_at_call 37; (with_reducible refine (laws_cp.calls k2 _ _ t416 t449 _ ?side1 ?side2 A30.out).mono ?_); (case side1 => exact zC ((Kd.R_reads' HO_4.out).2.2)); (case side2 => exact (Kd.R_reads' HO_4.out).2.1); rintro e w47 ⟨v450, rfl, ho0, hb⟩; have n0_ := Aside0.mk (Kd.R_elder' (zR HO_4.out) (Kd.R_base ho0) hb); have n1_ := Aside0.mk (Kd.R_elder' (zR HO_5.out) (Kd.R_base ho0) hb); have n2_ := Aside0.mk (Kd.R_elder' (zR HO_7.out) (Kd.R_base ho0) hb); have n3_ := Aside0.mk (Kd.R_elder' (zR HO435.out) (Kd.R_base ho0) hb); have n4_ := Aside0.mk (Kd.R_elder' (zR HO438.out) (Kd.R_base ho0) hb); have n5_ := Aside0.mk (Kd.R_elder' (zR HO441.out) (Kd.R_base ho0) hb); have n6_ := Aside0.mk (Kd.R_elder' (zR HO444.out) (Kd.R_base ho0) hb); have n7_ := Aside0.mk (Kd.R_elder' (zR HO447.out) (Kd.R_base ho0) hb); have n8_ := Aside0.mk (Kd.R_lower (Kd.R_new' (Kd.R_new' (Kd.R_new' (Kd.R_new' (Kd.R_new' (Kd.R_new' (Kd.R_new' (Kd.R_new' ho0 (Kd.R_lt (zR HO_4.out))) (Kd.R_lt (zR HO_5.out))) (Kd.R_lt (zR HO_7.out))) (Kd.R_lt (zR HO435.out))) (Kd.R_lt (zR HO438.out))) (Kd.R_lt (zR HO441.out))) (Kd.R_lt (zR HO444.out))) (Kd.R_lt (zR HO447.out))) (below_size zH)); have n9_ := Aside0.mk (below_step zH hb); clear HO_4; clear HO_5; clear HO_7; clear HO435; clear HO438; clear HO441; clear HO444; clear HO447; clear HB; have HO_4 := n0_; have HO_5 := n1_; have HO_7 := n2_; have HO435 := n3_; have HO438 := n4_; have HO441 := n5_; have HO444 := n6_; have HO447 := n7_; have HO451 := n8_; have HB := n9_; clear n0_ n1_ n2_ n3_ n4_ n5_ n6_ n7_ n8_ n9_; (try clear hb); (try clear hb2); (try clear hk); (try clear hi); (try clear ho0); obtain ⟨Ao48, co48, eo48⟩ := Kd.R_slice HO_5.out; subst eo48) | (go_at_call 37; (with_reducible refine (laws_cp.calls k2 _ _ t417 t452 _ ?side1 ?side2 A31.out).mono ?_); (case side1 => exact zC ((Kd.R_reads' HO_5.out).2.2)); (case side2 => exact (Kd.R_reads' HO_5.out).2.1); rintro e w49 ⟨v453, rfl, ho0, hb⟩; have n0_ := Aside0.mk (Kd.R_elder' (zR HO_4.out) (Kd.R_base ho0) hb); have n1_ := Aside0.mk (Kd.R_elder' (zR HO_5.out) (Kd.R_base ho0) hb); have n2_ := Aside0.mk (Kd.R_elder' (zR HO_7.out) (Kd.R_base ho0) hb); have n3_ := Aside0.mk (Kd.R_elder' (zR HO435.out) (Kd.R_base ho0) hb); have n4_ := Aside0.mk (Kd.R_elder' (zR HO438.out) (Kd.R_base ho0) hb); have n5_ := Aside0.mk (Kd.R_elder' (zR HO441.out) (Kd.R_base ho0) hb); have n6_ := Aside0.mk (Kd.R_elder' (zR HO444.out) (Kd.R_base ho0) hb); have n7_ := Aside0.mk (Kd.R_elder' (zR HO447.out) (Kd.R_base ho0) hb); have n8_ := Aside0.mk (Kd.R_elder' (zR HO451.out) (Kd.R_base ho0) hb); have n9_ := Aside0.mk (Kd.R_lower (Kd.R_new' (Kd.R_new' (Kd.R_new' (Kd.R_new' (Kd.R_new' (Kd.R_new' (Kd.R_new' (Kd.R_new' (Kd.R_new' ho0 (Kd.R_lt (zR HO_4.out))) (Kd.R_lt (zR HO_5.out))) (Kd.R_lt (zR HO_7.out))) (Kd.R_lt (zR HO435.out))) (Kd.R_lt (zR HO438.out))) (Kd.R_lt (zR HO441.out))) (Kd.R_lt (zR HO444.out))) (Kd.R_lt (zR HO447.out))) (Kd.R_lt (zR HO451.out))) (below_size zH)); have n10_ := Aside0.mk (below_step zH hb); clear HO_4; clear HO_5; clear HO_7; clear HO435; clear HO438; clear HO441; clear HO444; clear HO447; clear HO451; clear HB; have HO_4 := n0_; have HO_5 := n1_; have HO_7 := n2_; have HO435 := n3_; have HO438 := n4_; have HO441 := n5_; have HO444 := n6_; have HO447 := n7_; have HO451 := n8_; have HO454 := n9_; have HB := n10_; clear n0_ n1_ n2_ n3_ n4_ n5_ n6_ n7_ n8_ n9_ n10_; (try clear hb); (try clear hb2); (try clear hk); (try clear hi); (try clear ho0)) | (go_at_call 37; (with_reducible refine (laws_cp.calls k2 _ _ x7_2 t455 _ ?side1 ?side2 A32.out).mono ?_); (case side1 => exact zC ((Kd.R_reads' HO_7.out).2.2)); (case side2 => exact (Kd.R_reads' HO_7.out).2.1); rintro e w50 ⟨v456, rfl, ho0, hb⟩; have n0_ := Aside0.mk (Kd.R_elder' (zR HO_4.out) (Kd.R_base ho0) hb); have n1_ := Aside0.mk (Kd.R_elder' (zR HO_5.out) (Kd.R_base ho0) hb); have n2_ := Aside0.mk (Kd.R_elder' (zR HO_7.out) (Kd.R_base ho0) hb); have n3_ := Aside0.mk (Kd.R_elder' (zR HO435.out) (Kd.R_base ho0) hb); have n4_ := Aside0.mk (Kd.R_elder' (zR HO438.out) (Kd.R_base ho0) hb); have n5_ := Aside0.mk (Kd.R_elder' (zR HO441.out) (Kd.R_base ho0) hb); have n6_ := Aside0.mk (Kd.R_elder' (zR HO444.out) (Kd.R_base ho0) hb); have n7_ := Aside0.mk (Kd.R_elder' (zR HO447.out) (Kd.R_base ho0) hb); have n8_ := Aside0.mk (Kd.R_elder' (zR HO451.out) (Kd.R_base ho0) hb); have n9_ := Aside0.mk (Kd.R_elder' (zR HO454.out) (Kd.R_base ho0) hb); have n10_ := Aside0.mk (Kd.R_lower (Kd.R_new' (Kd.R_new' (Kd.R_new' (Kd.R_new' (Kd.R_new' (Kd.R_new' (Kd.R_new' (Kd.R_new' (Kd.R_new' (Kd.R_new' ho0 (Kd.R_lt (zR HO_4.out))) (Kd.R_lt (zR HO_5.out))) (Kd.R_lt (zR HO_7.out))) (Kd.R_lt (zR HO435.out))) (Kd.R_lt (zR HO438.out))) (Kd.R_lt (zR HO441.out))) (Kd.R_lt (zR HO444.out))) (Kd.R_lt (zR HO447.out))) (Kd.R_lt (zR HO451.out))) (Kd.R_lt (zR HO454.out))) (below_size zH)); have n11_ := Aside0.mk (below_step zH hb); clear HO_4; clear HO_5; clear HO_7; clear HO435; clear HO438; clear HO441; clear HO444; clear HO447; clear HO451; clear HO454; clear HB; have HO_4 := n0_; have HO_5 := n1_; have HO_7 := n2_; have HO435 := n3_; have HO438 := n4_; have HO441 := n5_; have HO444 := n6_; have HO447 := n7_; have HO451 := n8_; have HO454 := n9_; have HO457 := n10_; have HB := n11_; clear n0_ n1_ n2_ n3_ n4_ n5_ n6_ n7_ n8_ n9_ n10_ n11_; (try clear hb); (try clear hb2); (try clear hk); (try clear hi); (try clear ho0); obtain ⟨Ao51, co51, eo51⟩ := Kd.R_slice HO451.out; subst eo51; obtain ⟨Ao52, co52, eo52⟩ := Kd.R_slice HO454.out; subst eo52; obtain ⟨Ao53, co53, eo53⟩ := Kd.R_slice HO457.out; subst eo53) | (go_at_call 36; (with_reducible refine (impl_SpotForward.calls k2 t415 (fun k_ => some k_ = (.slice Ao51 t449.length co51 : Value).ownBlock) _ _ t449 (fun k_ => some k_ = (.slice Ao52 t452.length co52 : Value).ownBlock) _ _ t452 _ _ t455 t458 _ ?side1 ?side2 ?side3 ?side4 A33.out).mono ?_); (case side1 => exact Kd.R_V (Kd.R_tight rfl (HO451.out))); (case side2 => exact Kd.R_V (Kd.R_tight rfl (HO454.out))); (case side3 => exact zC ((Kd.R_reads' HO457.out).2.2)); (case side4 => exact (Kd.R_reads' HO457.out).2.1); rintro e w54 ⟨rfl, hb⟩; have n0_ := Aside0.mk (Kd.R_below (zR HO_4.out) hb); have n1_ := Aside0.mk (Kd.R_below (zR HO_5.out) hb); have n2_ := Aside0.mk (Kd.R_below (zR HO_7.out) hb); have n3_ := Aside0.mk (Kd.R_below (zR HO435.out) hb); have n4_ := Aside0.mk (Kd.R_below (zR HO438.out) hb); have n5_ := Aside0.mk (Kd.R_below (zR HO441.out) hb); have n6_ := Aside0.mk (Kd.R_below (zR HO444.out) hb); have n7_ := Aside0.mk (Kd.R_below (zR HO447.out) hb); have n8_ := Aside0.mk (Kd.R_below (zR HO451.out) hb); have n9_ := Aside0.mk (Kd.R_below (zR HO454.out) hb); have n10_ := Aside0.mk (Kd.R_below (zR HO457.out) hb); have n11_ := Aside0.mk (below_step zH hb); clear HO_4; clear HO_5; clear HO_7; clear HO435; clear HO438; clear HO441; clear HO444; clear HO447; clear HO451; clear HO454; clear HO457; clear HB; have HO_4 := n0_; have HO_5 := n1_; have HO_7 := n2_; have HO435 := n3_; have HO438 := n4_; have HO441 := n5_; have HO444 := n6_; have HO447 := n7_; have HO451 := n8_; have HO454 := n9_; have HO457 := n10_; have HB := n11_; clear n0_ n1_ n2_ n3_ n4_ n5_ n6_ n7_ n8_ n9_ n10_ n11_; (try clear hb); (try clear hb2); (try clear hk); (try clear hi); obtain ⟨Ao55, co55, eo55⟩ := Kd.R_slice HO435.out; subst eo55) | (go_at_call 39; (with_reducible refine (laws_same.calls k2 _ _ t417 _ _ t433 t459 _ ?side1 ?side2 ?side3 ?side4 A34.out).mono ?_); (case side1 => exact zC ((Kd.R_reads' HO_5.out).2.2)); (case side2 => exact (Kd.R_reads' HO_5.out).2.1); (case side3 => exact zC ((Kd.R_reads' HO435.out).2.2)); (case side4 => exact (Kd.R_reads' HO435.out).2.1); rintro e w' ⟨rfl, ⟨nd, rfl⟩⟩))
         go_ret
         exact ⟨zE, zH⟩
        ·replace c29 := Bool.eq_false_iff.mpr c29
         subst c29
         replace H : (some false) = some r := by rw [if_neg (show ¬ (false = true) by decide)] at H; exact H
         exact absurd ((Option.some.inj H).trans HT_.out) (by decide)

/-- THE ONE PURE STATEMENT of laws_FnSpots: yours. -/
def laws_FnSpots.Pure : Prop := ∀ (l0 : List Int), l0.length ≤ maxLen → l0.length * 1 ≤ 140737488351232 → (∀ x ∈ l0, (Lit.int .u8 x).wf = true) → ∃ k, laws_FnSpots.f k l0 = some true
theorem laws_FnSpots.walk (P : laws_FnSpots.Pure) (a0 : Option Addr) (len0 cap0 : Nat) (z0 : List Int) (w : World) (w0 : (a0 = none ∧ len0 = 0 ∧ cap0 = 0 ∧ z0 = []) ∨ ∃ x, a0 = some x ∧ len0 ≤ cap0 ∧ cap0 ≤ maxLen ∧ z0.length = cap0 ∧ (∀ i, i < z0.length → w.cell? (x.add i) = some (.int .u8 (z0.getD i 0))) ∧ ∀ n ∈ z0, (Lit.int .u8 n).wf = true) (y0 : len0 * 1 ≤ 140737488351232) :
  Calls Try.prog 7 #[.slice a0 len0 cap0] w fun e w' => e = .returned (.bool true) ∧ Below w.heap.size w w' := by
 obtain ⟨l0, rfl, hr0, hm0, hw0, hc0⟩ := ReadsInt.ofRowC w0
 obtain ⟨k, h⟩ := P l0 hm0 y0 hw0
 refine (laws_FnSpots.calls k _ _ l0 true w (Kd.C_of_reads (d := (0 : Int)) (h1 := fun _ => rfl) hr0) hc0 ⟨rfl⟩ h).mono ?_
 rintro e w' ⟨rfl, hd⟩
 exact ⟨rfl, hd⟩

end Go.Proofs.Ytabicblkdgpogaa.QFnSpots
