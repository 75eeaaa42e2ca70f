-- Made by this session's program (wip/tools/myprint.py) out of the translation; Lean checks it.
import Derived.Test.YtabicblkdgpogaaQFnCertTruex0
import Derived.Test.YtabicblkdgpogaaQFnCertTruex1
import Derived.Test.YtabicblkdgpogaaQFnCertTruex2
import Derived.Test.YtabicblkdgpogaaQFnCertTruex11
import Derived.Test.YtabicblkdgpogaaQFnCertTruex12
namespace Go.Proofs.Ytabicblkdgpogaa.QFnCertTrue
open Go.RowKit Go.Proofs.YtabicblkdgpogaaW.PrintWords Go.Proofs.YtabicblkdgpogaaW.PrintLast Go.Proofs.YtabicblkdgpogaaW.PrintMore
attribute [local go_sem] max2_int min2_int max_two min_two max_three min_three max_four min_four   -- for this text's walks alone
set_option linter.unusedVariables false
set_option linter.unusedSimpArgs false

/-! ### spec_l03DrawTwo: function 144 -/
def spec_l03DrawTwo.j0 : Nat → Int → List Int → List Int → Bool → List Int → Int → Int → Option (Int × List Int × List Int)
 | 0, _, _, _, _, _, _, _ => none
 | k + 1, x8, x9, x10, x43, x426000, x426001, x426002 => if x43 = true then ((spec_l01Below.f x426000 x426001 x426002 8).bind fun bt452 => ((spec_l03DrawPoly.f k x426000 bt452.2.1 bt452.2.2 x8 bt452.1).bind fun bt455 => ((spec_PolyOk.f k x8 bt455.1).bind fun t460 => (if t460 = true then ((spec_l03Mul.f k x8 x9 bt455.1).bind fun t461 => ((spec_l03Mul.f k x8 x10 bt455.1).bind fun t464 => (some (x8, t461, t464)))) else (some (x8, x9, x10)))))) else (some (x8, x9, x10))
def spec_l03DrawTwo.f (k : Nat) (l0 : List Int) (a1 : Int) : Option (Int × List Int × List Int) := (spec_l01New.f k l0).bind fun bt422 => ((spec_l01DrawField.f bt422.1 bt422.2.1 bt422.2.2).bind fun bt426 => ((spec_l01Size.f l0 a1).bind fun t429 => ((spec_l01Below.f bt422.1 bt426.2.1 bt426.2.2 t429).bind fun bt430 => ((spec_l03DrawPoly.f k bt422.1 bt430.2.1 bt430.2.2 bt426.1 bt430.1).bind fun bt433 => ((spec_l01Size.f l0 a1).bind fun t438 => ((spec_l01Below.f bt422.1 bt433.2.1 bt433.2.2 t438).bind fun bt439 => ((spec_l03DrawPoly.f k bt422.1 bt439.2.1 bt439.2.2 bt426.1 bt439.1).bind fun bt442 => ((spec_l01Once.f bt422.1 bt442.2.1 bt442.2.2 4).bind fun bt447 => (if bt447.1 = true then ((spec_PolyOk.f k bt426.1 bt433.1).bind fun t450 => (if t450 = true then ((spec_PolyOk.f k bt426.1 bt442.1).bind fun t451 => (spec_l03DrawTwo.j0 k bt426.1 bt433.1 bt442.1 t451 bt422.1 bt447.2.1 bt447.2.2)) else (spec_l03DrawTwo.j0 k bt426.1 bt433.1 bt442.1 false bt422.1 bt447.2.1 bt447.2.2))) else (spec_l03DrawTwo.j0 k bt426.1 bt433.1 bt442.1 false bt422.1 bt447.2.1 bt447.2.2))))))))))
theorem spec_l03DrawTwo.mono_l : ∀ k, (∀ y0 y1 y2 y3 y4 y5 y6, LeO (spec_l03DrawTwo.j0 k y0 y1 y2 y3 y4 y5 y6) (spec_l03DrawTwo.j0 (k + 1) y0 y1 y2 y3 y4 y5 y6))
 | 0 => fun _ _ _ _ _ _ _ r h => by simp [spec_l03DrawTwo.j0] at h
 | k + 1 => by
  have ih0 := spec_l03DrawTwo.mono_l k
  ·intro y0 y1 y2 y3 y4 y5 y6
   unfold spec_l03DrawTwo.j0
   repeat' first
   | (with_reducible exact ih0 _ _ _ _ _ _ _)
   | (with_reducible exact spec_PolyOk.mono _ _ _)
   | (with_reducible exact spec_l01New.mono _ _)
   | (with_reducible exact spec_l03DrawPoly.mono _ _ _ _ _ _)
   | (with_reducible exact spec_l03Mul.mono _ _ _ _)
   | (with_reducible exact LeO.refl _)
   | (with_reducible exact LeO.none _)
   | (with_reducible refine LeO.ite ?_ ?_)
   | (with_reducible refine LeO.bind ?_ (fun _ => ?_))
   | exact ih0 _ _ _ _ _ _ _
   | exact spec_PolyOk.mono _ _ _
   | exact spec_l01New.mono _ _
   | exact spec_l03DrawPoly.mono _ _ _ _ _ _
   | exact spec_l03Mul.mono _ _ _ _
   | exact LeO.none _
   | refine LeO.ite ?_ ?_
   | refine LeO.bind ?_ (fun _ => ?_)
theorem spec_l03DrawTwo.mono : ∀ a0 a1 k, LeO (spec_l03DrawTwo.f k a0 a1) (spec_l03DrawTwo.f (k + 1) a0 a1) := by
 intro a0 a1 k
 have ih0 := spec_l03DrawTwo.mono_l k
 unfold spec_l03DrawTwo.f
 repeat' first
   | (with_reducible exact ih0 _ _ _ _ _ _ _)
   | (with_reducible exact spec_PolyOk.mono _ _ _)
   | (with_reducible exact spec_l01New.mono _ _)
   | (with_reducible exact spec_l03DrawPoly.mono _ _ _ _ _ _)
   | (with_reducible exact spec_l03Mul.mono _ _ _ _)
   | (with_reducible exact LeO.refl _)
   | (with_reducible exact LeO.none _)
   | (with_reducible refine LeO.ite ?_ ?_)
   | (with_reducible refine LeO.bind ?_ (fun _ => ?_))
   | exact ih0 _ _ _ _ _ _ _
   | exact spec_PolyOk.mono _ _ _
   | exact spec_l01New.mono _ _
   | exact spec_l03DrawPoly.mono _ _ _ _ _ _
   | exact spec_l03Mul.mono _ _ _ _
   | exact LeO.none _
   | refine LeO.ite ?_ ?_
   | refine LeO.bind ?_ (fun _ => ?_)
set_option maxHeartbeats 8000000 in
set_option maxRecDepth 100000 in
theorem spec_l03DrawTwo.calls (k : Nat) (A0 : Option Addr) (c0 : Nat) (l0 : List Int) (a1 : Int) (r1 : Int) (r2 : List Int) (r3 : List Int) (w : World) (hr0 : Kd.C (Kd.int .u8) w A0 l0.length l0) (hc0 : l0.length ≤ c0) (h : spec_l03DrawTwo.f k l0 a1 = some (r1, r2, r3)) :
  Calls Try.prog 144 #[.slice A0 l0.length c0, .int .i64 a1] w fun e w' => ∃ v1_ v2_ : Value, e = .returned (.tuple #[.int .i64 r1, v1_, v2_]) ∧ Kd.R (Kd.int .i64) 3 w' w.heap.size (fun k_ => some k_ ≠ (v2_ : Value).ownBlock) v1_ r2 ∧ Kd.R (Kd.int .i64) 3 w' w.heap.size (fun k_ => some k_ ≠ (v1_ : Value).ownBlock) v2_ r3 ∧ Below w.heap.size w w' := by
 have HR0 := Aside0.mk hr0
 have HC0 := Aside0.mk hc0
 clear hr0 hc0
 have HB := Aside0.mk (Below.refl w.heap.size w)
 have H : ((spec_l01New.f k l0).bind fun bt422 => ((spec_l01DrawField.f bt422.1 bt422.2.1 bt422.2.2).bind fun bt426 => ((spec_l01Size.f l0 a1).bind fun t429 => ((spec_l01Below.f bt422.1 bt426.2.1 bt426.2.2 t429).bind fun bt430 => ((spec_l03DrawPoly.f k bt422.1 bt430.2.1 bt430.2.2 bt426.1 bt430.1).bind fun bt433 => ((spec_l01Size.f l0 a1).bind fun t438 => ((spec_l01Below.f bt422.1 bt433.2.1 bt433.2.2 t438).bind fun bt439 => ((spec_l03DrawPoly.f k bt422.1 bt439.2.1 bt439.2.2 bt426.1 bt439.1).bind fun bt442 => ((spec_l01Once.f bt422.1 bt442.2.1 bt442.2.2 4).bind fun bt447 => (if bt447.1 = true then ((spec_PolyOk.f k bt426.1 bt433.1).bind fun t450 => (if t450 = true then ((spec_PolyOk.f k bt426.1 bt442.1).bind fun t451 => (spec_l03DrawTwo.j0 k bt426.1 bt433.1 bt442.1 t451 bt422.1 bt447.2.1 bt447.2.2)) else (spec_l03DrawTwo.j0 k bt426.1 bt433.1 bt442.1 false bt422.1 bt447.2.1 bt447.2.2))) else (spec_l03DrawTwo.j0 k bt426.1 bt433.1 bt442.1 false bt422.1 bt447.2.1 bt447.2.2))))))))))) = some (r1, r2, r3) := h
 clear h
 replace H := Option.bind_eq_some_iff.mp H
 obtain ⟨⟨t422, t423, t424⟩, A30, H⟩ := H
 (try dsimp -zeta -simprocs only at H)
 have A3 := Aside0.mk A30
 clear A30
 replace H := Option.bind_eq_some_iff.mp H
 obtain ⟨⟨t426, t427, t428⟩, A40, H⟩ := H
 (try dsimp -zeta -simprocs only at H)
 have A4 := Aside0.mk A40
 clear A40
 replace H := Option.bind_eq_some_iff.mp H
 obtain ⟨t429, A50, H⟩ := H
 (try dsimp -zeta -simprocs only at H)
 have A5 := Aside0.mk A50
 clear A50
 replace H := Option.bind_eq_some_iff.mp H
 obtain ⟨⟨t430, t431, t432⟩, A60, H⟩ := H
 (try dsimp -zeta -simprocs only at H)
 have A6 := Aside0.mk A60
 clear A60
 replace H := Option.bind_eq_some_iff.mp H
 obtain ⟨⟨t433, t436, t437⟩, A70, H⟩ := H
 (try dsimp -zeta -simprocs only at H)
 have A7 := Aside0.mk A70
 clear A70
 replace H := Option.bind_eq_some_iff.mp H
 obtain ⟨t438, A80, H⟩ := H
 (try dsimp -zeta -simprocs only at H)
 have A8 := Aside0.mk A80
 clear A80
 replace H := Option.bind_eq_some_iff.mp H
 obtain ⟨⟨t439, t440, t441⟩, A90, H⟩ := H
 (try dsimp -zeta -simprocs only at H)
 have A9 := Aside0.mk A90
 clear A90
 replace H := Option.bind_eq_some_iff.mp H
 obtain ⟨⟨t442, t445, t446⟩, A100, H⟩ := H
 (try dsimp -zeta -simprocs only at H)
 have A10 := Aside0.mk A100
 clear A100
 have HC11 := Aside0.mk H
 clear H
 go_enter Try.func144, Try.ntmps144
 go_upto_region 5 with (first | ((with_reducible refine gate_callee (f := 90) rfl ?_); refine goesL_ (some 13) rfl rfl Try.func90 (by kernel_rfl) rfl #[.slice A0 l0.length c0] rfl zM ?_; (with_reducible refine (spec_l01New.calls k _ _ l0 t422 t423 t424 w _ ?side1 ?side2 ?side3 A3.out).mono ?_); (case side1 => exact zG); (case side2 => exact HR0.out); (case side3 => exact HC0.out); rintro e w12 ⟨g425, rfl, hi, hb, hb2⟩; refine ⟨_, rfl, ?_⟩; replace HB := zA (hb); have HI425 := zA (hi); (try clear hb hb2 hi)) | ((with_reducible refine gate_callee (f := 135) rfl ?_); refine goesL_ (some 15) rfl rfl Try.func135 (by kernel_rfl) rfl #[.pointer (some ⟨g425, 0, none⟩)] rfl zM ?_; (with_reducible refine (spec_l01DrawField.calls g425 t422 t423 t424 t426 t427 t428 w _ ?side1 ?side2 A4.out).mono ?_); (case side1 => exact zI136 HI425.out); (case side2 => exact zG); rintro e w13 ⟨rfl, hi, hb, hk⟩; refine ⟨_, rfl, ?_⟩; replace HB := zA (hb); replace HI425 := zA (hi); (try clear hb hk hi)) | ((with_reducible refine gate_callee (f := 174) rfl ?_); refine goesL_ (some 21) rfl rfl Try.func174 (by kernel_rfl) rfl #[.slice A0 l0.length c0, .int .i64 a1] rfl zM ?_; (with_reducible refine (spec_l01Size.calls _ _ l0 a1 t429 _ ?side1 ?side2 A5.out).mono ?_); (case side1 => exact zC (Kd.C_below HR0.out HB.out)); (case side2 => exact HC0.out); rintro e w' ⟨rfl, ⟨nd, rfl⟩⟩; refine ⟨_, rfl, ?_⟩) | ((with_reducible refine gate_callee (f := 91) rfl ?_); refine goesL_ (some 22) rfl rfl Try.func91 (by kernel_rfl) rfl #[.pointer (some ⟨g425, 0, none⟩), .int .i64 t429] rfl zM ?_; (with_reducible refine (spec_l01Below.calls g425 t422 t427 t428 t429 t430 t431 t432 w _ ?side1 ?side2 A6.out).mono ?_); (case side1 => exact zI136 HI425.out); (case side2 => exact zG); rintro e w14 ⟨rfl, hi, hb, hk⟩; refine ⟨_, rfl, ?_⟩; replace HB := zA (hb); replace HI425 := zA (hi); (try clear hb hk hi)) | ((with_reducible refine gate_callee (f := 173) rfl ?_); refine goesL_ (some 23) rfl rfl Try.func173 (by kernel_rfl) rfl #[.pointer (some ⟨g425, 0, none⟩), .int .i64 t426, .int .i64 t430] rfl zM ?_; (with_reducible refine (spec_l03DrawPoly.calls k g425 t422 t431 t432 t426 t430 t433 t436 t437 w _ ?side1 ?side2 A7.out).mono ?_); (case side1 => exact zI136 HI425.out); (case side2 => exact zG); rintro e w15 ⟨v434, rfl, ho0, hi, hb, hk⟩; refine ⟨_, rfl, ?_⟩; have HO435 := zA (Kd.R_lower ho0 (below_size zG)); replace HB := zA (hb); replace HI425 := zA (hi); (try clear hb hk hi ho0)) | ((with_reducible refine gate_callee (f := 174) rfl ?_); refine goesL_ (some 29) rfl rfl Try.func174 (by kernel_rfl) rfl #[.slice A0 l0.length c0, .int .i64 a1] rfl zM ?_; (with_reducible refine (spec_l01Size.calls _ _ l0 a1 t438 _ ?side1 ?side2 A8.out).mono ?_); (case side1 => exact zC (Kd.C_below HR0.out HB.out)); (case side2 => exact HC0.out); rintro e w' ⟨rfl, ⟨nd, rfl⟩⟩; refine ⟨_, rfl, ?_⟩) | ((with_reducible refine gate_callee (f := 91) rfl ?_); refine goesL_ (some 30) rfl rfl Try.func91 (by kernel_rfl) rfl #[.pointer (some ⟨g425, 0, none⟩), .int .i64 t438] rfl zM ?_; (with_reducible refine (spec_l01Below.calls g425 t422 t436 t437 t438 t439 t440 t441 w _ ?side1 ?side2 A9.out).mono ?_); (case side1 => exact zI136 HI425.out); (case side2 => exact zG); rintro e w16 ⟨rfl, hi, hb, hk⟩; refine ⟨_, rfl, ?_⟩; replace HO435 := zK136 (zJ136 HI425.out) (zR HO435.out) hk; replace HB := zA (hb); replace HI425 := zA (hi); (try clear hb hk hi)) | ((with_reducible refine gate_callee (f := 173) rfl ?_); refine goesL_ (some 31) rfl rfl Try.func173 (by kernel_rfl) rfl #[.pointer (some ⟨g425, 0, none⟩), .int .i64 t426, .int .i64 t439] rfl zM ?_; (with_reducible refine (spec_l03DrawPoly.calls k g425 t422 t440 t441 t426 t439 t442 t445 t446 w _ ?side1 ?side2 A10.out).mono ?_); (case side1 => exact zI136 HI425.out); (case side2 => exact zG); rintro e w17 ⟨v443, rfl, ho0, hi, hb, hk⟩; refine ⟨_, rfl, ?_⟩; have HO444 := zA (Kd.R_lower (zn ho0 HO435.out) (below_size zG)); replace HO435 := zT136 (zJ136 HI425.out) (zR HO435.out) hk ho0; replace HB := zA (hb); replace HI425 := zA (hi); (try clear hb hk hi ho0)))
 (try simp only [Act.put, List.setIfInBounds_toArray, List.set_cons_zero, List.set_cons_succ])
 go_cut [43] (fun v43 wc => ∃ (kq : Nat) (x43_10 : Bool) (x426001_10 : Int) (x426002_10 : Int), v43 = .bool x43_10 ∧ Aside0 (spec_l03DrawTwo.j0 kq t426 t433 t442 x43_10 t422 x426001_10 x426002_10 = some (r1, r2, r3)) ∧ Aside0 (kq ≤ k) ∧ Aside0 (Kd.R (Kd.int .i64) 3 wc w.heap.size (fun k_ => some k_ ≠ (v443 : Value).ownBlock) v434 t433) ∧ Aside0 (Kd.R (Kd.int .i64) 3 wc w.heap.size (fun k_ => some k_ ≠ (v434 : Value).ownBlock) v443 t442) ∧ Aside0 (IsS136 w wc g425 t422 x426001_10 x426002_10) ∧ Aside0 (Below w.heap.size w wc))
 case first =>
  have H := HC11.out
  clear HC11
  replace H := Option.bind_eq_some_iff.mp H
  obtain ⟨⟨t447, t448, t449⟩, A180, H⟩ := H
  (try dsimp -zeta -simprocs only at H)
  have A18 := Aside0.mk A180
  clear A180
  by_cases c19 : t447 = true
  ·subst c19
   rw [if_pos rfl] at H
   replace H := Option.bind_eq_some_iff.mp H
   obtain ⟨t450, A200, H⟩ := H
   (try dsimp -zeta -simprocs only at H)
   have A20 := Aside0.mk A200
   clear A200
   by_cases c21 : t450 = true
   ·subst c21
    rw [if_pos rfl] at H
    replace H := Option.bind_eq_some_iff.mp H
    obtain ⟨t451, A220, H⟩ := H
    (try dsimp -zeta -simprocs only at H)
    have A22 := Aside0.mk A220
    clear A220
    have H' := Aside0.mk H
    clear H
    go_wp2_with (first | ((with_reducible refine gate_callee (f := 92) rfl ?_); refine goesL_ (some 33) rfl rfl Try.func92 (by kernel_rfl) rfl #[.pointer (some ⟨g425, 0, none⟩), .int .i64 4] rfl zM ?_; (with_reducible refine (spec_l01Once.calls g425 t422 t445 t446 4 true t448 t449 w _ ?side1 ?side2 A18.out).mono ?_); (case side1 => exact zI136 HI425.out); (case side2 => exact zG); rintro e w23 ⟨rfl, hi, hb, hk⟩; refine ⟨_, rfl, ?_⟩; replace HO435 := zK136 (zJ136 HI425.out) (zR HO435.out) hk; replace HO444 := zK136 (zJ136 HI425.out) (zR HO444.out) hk; replace HB := zA (hb); replace HI425 := zA (hi); (try clear hb hk hi); obtain ⟨Ao24, co24, eo24⟩ := Kd.R_slice HO435.out; subst eo24) | (go_at_call 41; (with_reducible refine (spec_PolyOk.calls k t426 _ _ t433 true _ ?side1 ?side2 A20.out).mono ?_); (case side1 => exact zC ((Kd.R_reads' HO435.out).2.2)); (case side2 => exact (Kd.R_reads' HO435.out).2.1); rintro e w' ⟨rfl, ⟨nd, rfl⟩⟩; obtain ⟨Ao25, co25, eo25⟩ := Kd.R_slice HO444.out; subst eo25) | (go_at_call 41; (with_reducible refine (spec_PolyOk.calls k t426 _ _ t442 t451 _ ?side1 ?side2 A22.out).mono ?_); (case side1 => exact zC ((Kd.R_reads' HO444.out).2.2)); (case side2 => exact (Kd.R_reads' HO444.out).2.1); rintro e w' ⟨rfl, ⟨nd, rfl⟩⟩))
    go_meet
    case rel => exact ⟨_, (t451), (t448), (t449), zF, H', ⟨by first | omega | exact Nat.le_refl _⟩, ⟨by (with_reducible repeat (first | apply Kd.R_alloc | apply Kd.R_drewN | apply Kd.R_drew)); exact Kd.R_mono HO435.out (fun _ hk => hk.2)⟩, ⟨by (with_reducible repeat (first | apply Kd.R_alloc | apply Kd.R_drewN | apply Kd.R_drew)); exact Kd.R_mono HO444.out (fun _ hk => hk.2)⟩, ⟨by repeat (first | (with_reducible first | exact HI425.out | apply IsS136.alloc | apply IsS136.drewN | apply IsS136.drew | apply IsS136.set_1 | apply IsS136.set_2) | exact HI425.out)⟩, ⟨zG⟩⟩
   ·replace c21 := Bool.eq_false_iff.mpr c21
    subst c21
    rw [if_neg (show ¬ (false = true) by decide)] at H
    have H' := Aside0.mk H
    clear H
    go_wp2_with (first | ((with_reducible refine gate_callee (f := 92) rfl ?_); refine goesL_ (some 33) rfl rfl Try.func92 (by kernel_rfl) rfl #[.pointer (some ⟨g425, 0, none⟩), .int .i64 4] rfl zM ?_; (with_reducible refine (spec_l01Once.calls g425 t422 t445 t446 4 true t448 t449 w _ ?side1 ?side2 A18.out).mono ?_); (case side1 => exact zI136 HI425.out); (case side2 => exact zG); rintro e w26 ⟨rfl, hi, hb, hk⟩; refine ⟨_, rfl, ?_⟩; replace HO435 := zK136 (zJ136 HI425.out) (zR HO435.out) hk; replace HO444 := zK136 (zJ136 HI425.out) (zR HO444.out) hk; replace HB := zA (hb); replace HI425 := zA (hi); (try clear hb hk hi); obtain ⟨Ao27, co27, eo27⟩ := Kd.R_slice HO435.out; subst eo27) | (go_at_call 41; (with_reducible refine (spec_PolyOk.calls k t426 _ _ t433 false _ ?side1 ?side2 A20.out).mono ?_); (case side1 => exact zC ((Kd.R_reads' HO435.out).2.2)); (case side2 => exact (Kd.R_reads' HO435.out).2.1); rintro e w' ⟨rfl, ⟨nd, rfl⟩⟩))
    go_meet
    case rel => exact ⟨_, (false), (t448), (t449), zF, H', ⟨by first | omega | exact Nat.le_refl _⟩, ⟨by (with_reducible repeat (first | apply Kd.R_alloc | apply Kd.R_drewN | apply Kd.R_drew)); exact Kd.R_mono HO435.out (fun _ hk => hk.2)⟩, ⟨by (with_reducible repeat (first | apply Kd.R_alloc | apply Kd.R_drewN | apply Kd.R_drew)); exact Kd.R_mono HO444.out (fun _ hk => hk.2)⟩, ⟨by repeat (first | (with_reducible first | exact HI425.out | apply IsS136.alloc | apply IsS136.drewN | apply IsS136.drew | apply IsS136.set_1 | apply IsS136.set_2) | exact HI425.out)⟩, ⟨zG⟩⟩
  ·replace c19 := Bool.eq_false_iff.mpr c19
   subst c19
   rw [if_neg (show ¬ (false = true) by decide)] at H
   have H' := Aside0.mk H
   clear H
   go_wp2_with (first | ((with_reducible refine gate_callee (f := 92) rfl ?_); refine goesL_ (some 33) rfl rfl Try.func92 (by kernel_rfl) rfl #[.pointer (some ⟨g425, 0, none⟩), .int .i64 4] rfl zM ?_; (with_reducible refine (spec_l01Once.calls g425 t422 t445 t446 4 false t448 t449 w _ ?side1 ?side2 A18.out).mono ?_); (case side1 => exact zI136 HI425.out); (case side2 => exact zG); rintro e w28 ⟨rfl, hi, hb, hk⟩; refine ⟨_, rfl, ?_⟩; replace HO435 := zK136 (zJ136 HI425.out) (zR HO435.out) hk; replace HO444 := zK136 (zJ136 HI425.out) (zR HO444.out) hk; replace HB := zA (hb); replace HI425 := zA (hi); (try clear hb hk hi)))
   go_meet
   case rel => exact ⟨_, (false), (t448), (t449), zF, H', ⟨by first | omega | exact Nat.le_refl _⟩, ⟨by (with_reducible repeat (first | apply Kd.R_alloc | apply Kd.R_drewN | apply Kd.R_drew)); exact Kd.R_mono HO435.out (fun _ hk => hk.2)⟩, ⟨by (with_reducible repeat (first | apply Kd.R_alloc | apply Kd.R_drewN | apply Kd.R_drew)); exact Kd.R_mono HO444.out (fun _ hk => hk.2)⟩, ⟨by repeat (first | (with_reducible first | exact HI425.out | apply IsS136.alloc | apply IsS136.drewN | apply IsS136.drew | apply IsS136.set_1 | apply IsS136.set_2) | exact HI425.out)⟩, ⟨zG⟩⟩
 case rest =>
  clear HC11
  skip
  obtain ⟨kq, x43_10, x426001_10, x426002_10, rfl, HA, HJ10, HO_9, HO_10, HI425, HB⟩ := hcut
  cases kq with
  | zero => exact absurd HA.out (by simp [spec_l03DrawTwo.j0])
  | succ kj10 =>
   have H := HA.out
   clear HA
   simp only [spec_l03DrawTwo.j0] at H
   by_cases c29 : x43_10 = true
   ·subst c29
    rw [if_pos rfl] at H
    replace H := Option.bind_eq_some_iff.mp H
    obtain ⟨⟨t452, t453, t454⟩, A300, H⟩ := H
    (try dsimp -zeta -simprocs only at H)
    have A30 := Aside0.mk A300
    clear A300
    replace H := Option.bind_eq_some_iff.mp H
    obtain ⟨⟨t455, t458, t459⟩, A310, H⟩ := H
    (try dsimp -zeta -simprocs only at H)
    have A31 := Aside0.mk A310
    clear A310
    replace H := Option.bind_eq_some_iff.mp H
    obtain ⟨t460, A320, H⟩ := H
    (try dsimp -zeta -simprocs only at H)
    have A32 := Aside0.mk A320
    clear A320
    by_cases c33 : t460 = true
    ·subst c33
     rw [if_pos rfl] at H
     replace H := Option.bind_eq_some_iff.mp H
     obtain ⟨t461, A340, H⟩ := H
     (try dsimp -zeta -simprocs only at H)
     have A34 := Aside0.mk A340
     clear A340
     replace H := Option.bind_eq_some_iff.mp H
     obtain ⟨t464, A350, H⟩ := H
     (try dsimp -zeta -simprocs only at H)
     have A35 := Aside0.mk A350
     clear A350
     simp only [Option.some.injEq, Prod.mk.injEq] at H
     obtain ⟨rfl, rfl, rfl⟩ := H
     go_wp2_with (first | ((with_reducible refine gate_callee (f := 91) rfl ?_); refine goesL_ (some 47) rfl rfl Try.func91 (by kernel_rfl) rfl #[.pointer (some ⟨g425, 0, none⟩), .int .i64 8] rfl zM ?_; (with_reducible refine (spec_l01Below.calls g425 t422 x426001_10 x426002_10 8 t452 t453 t454 w _ ?side1 ?side2 A30.out).mono ?_); (case side1 => exact zI136 HI425.out); (case side2 => exact zG); rintro e w36 ⟨rfl, hi, hb, hk⟩; refine ⟨_, rfl, ?_⟩; replace HO_9 := zK136 (zJ136 HI425.out) (zR HO_9.out) hk; replace HO_10 := zK136 (zJ136 HI425.out) (zR HO_10.out) hk; replace HB := zA (hb); replace HI425 := zA (hi); (try clear hb hk hi)) | ((with_reducible refine gate_callee (f := 173) rfl ?_); refine goesL_ (some 48) rfl rfl Try.func173 (by kernel_rfl) rfl #[.pointer (some ⟨g425, 0, none⟩), .int .i64 t426, .int .i64 t452] rfl zM ?_; (with_reducible refine (spec_l03DrawPoly.calls kj10 g425 t422 t453 t454 t426 t452 t455 t458 t459 w _ ?side1 ?side2 A31.out).mono ?_); (case side1 => exact zI136 HI425.out); (case side2 => exact zG); rintro e w37 ⟨v456, rfl, ho0, hi, hb, hk⟩; refine ⟨_, rfl, ?_⟩; have HO457 := zA (Kd.R_lower (zn (Kd.R_new' ho0 (Kd.R_lt (zR HO_9.out))) HO_10.out) (below_size zG)); replace HO_9 := zT136 (zJ136 HI425.out) (zR HO_9.out) hk ho0; replace HO_10 := zT136 (zJ136 HI425.out) (zR HO_10.out) hk ho0; replace HB := zA (hb); replace HI425 := zA (hi); (try clear hb hk hi ho0); obtain ⟨Ao38, co38, eo38⟩ := Kd.R_slice HO457.out; subst eo38) | ((with_reducible refine gate_callee (f := 41) rfl ?_); refine goesL_ (some 51) rfl rfl Try.func41 (by kernel_rfl) rfl #[.int .i64 t426, .slice Ao38 t455.length co38] rfl zM ?_; (with_reducible refine (spec_PolyOk.calls kj10 t426 _ _ t455 true _ ?side1 ?side2 A32.out).mono ?_); (case side1 => exact zC ((Kd.R_reads' HO457.out).2.2)); (case side2 => exact (Kd.R_reads' HO457.out).2.1); rintro e w' ⟨rfl, ⟨nd, rfl⟩⟩; refine ⟨_, rfl, ?_⟩; obtain ⟨Ao39, co39, eo39⟩ := Kd.R_slice HO_9.out; subst eo39) | ((with_reducible refine gate_callee (f := 103) rfl ?_); refine goesL_ (some 56) rfl rfl Try.func103 (by kernel_rfl) rfl #[.int .i64 t426, .slice Ao39 t433.length co39, .slice Ao38 t455.length co38] rfl zM ?_; (with_reducible refine (spec_l03Mul.calls kj10 t426 _ _ t433 _ _ t455 t461 _ ?side1 ?side2 ?side3 ?side4 A34.out).mono ?_); (case side1 => exact zC ((Kd.R_reads' HO_9.out).2.2)); (case side2 => exact (Kd.R_reads' HO_9.out).2.1); (case side3 => exact zC ((Kd.R_reads' HO457.out).2.2)); (case side4 => exact (Kd.R_reads' HO457.out).2.1); rintro e w40 ⟨v462, rfl, ho0, hb⟩; refine ⟨_, rfl, ?_⟩; have HO463 := zA (Kd.R_lower (zn (Kd.R_new' (zn ho0 HO_9.out) (Kd.R_lt (zR HO_10.out))) HO457.out) (below_size zG)); replace HO_9 := z2 HO_9.out ho0 hb; replace HO_10 := z2 HO_10.out ho0 hb; replace HO457 := z2 HO457.out ho0 hb; replace HB := zA (below_step zG hb); replace HI425 := zA (IsS136.below (zI136 HI425.out) hb); (try clear hb ho0); obtain ⟨Ao41, co41, eo41⟩ := Kd.R_slice HO_10.out; subst eo41) | ((with_reducible refine gate_callee (f := 103) rfl ?_); refine goesL_ (some 60) rfl rfl Try.func103 (by kernel_rfl) rfl #[.int .i64 t426, .slice Ao41 t442.length co41, .slice Ao38 t455.length co38] rfl zM ?_; (with_reducible refine (spec_l03Mul.calls kj10 t426 _ _ t442 _ _ t455 t464 _ ?side1 ?side2 ?side3 ?side4 A35.out).mono ?_); (case side1 => exact zC ((Kd.R_reads' HO_10.out).2.2)); (case side2 => exact (Kd.R_reads' HO_10.out).2.1); (case side3 => exact zC ((Kd.R_reads' HO457.out).2.2)); (case side4 => exact (Kd.R_reads' HO457.out).2.1); rintro e w42 ⟨v465, rfl, ho0, hb⟩; refine ⟨_, rfl, ?_⟩; have HO466 := zA (Kd.R_lower (zn (Kd.R_new' (zn (Kd.R_new' ho0 (Kd.R_lt (zR HO_9.out))) HO_10.out) (Kd.R_lt (zR HO457.out))) HO463.out) (below_size zG)); replace HO_9 := z2 HO_9.out ho0 hb; replace HO_10 := z2 HO_10.out ho0 hb; replace HO457 := z2 HO457.out ho0 hb; replace HO463 := z2 HO463.out ho0 hb; replace HB := zA (below_step zG hb); replace HI425 := zA (IsS136.below (zI136 HI425.out) hb); (try clear hb ho0)))
     go_ret3
     exact ⟨_, _, zE, by (with_reducible repeat (first | apply Kd.R_alloc | apply Kd.R_drewN | apply Kd.R_drew)); exact Kd.R_mono HO463.out (fun _ hk => hk.2), by (with_reducible repeat (first | apply Kd.R_alloc | apply Kd.R_drewN | apply Kd.R_drew)); exact Kd.R_mono HO466.out (fun _ hk => hk.2), zG⟩
    ·replace c33 := Bool.eq_false_iff.mpr c33
     subst c33
     rw [if_neg (show ¬ (false = true) by decide)] at H
     simp only [Option.some.injEq, Prod.mk.injEq] at H
     obtain ⟨rfl, rfl, rfl⟩ := H
     go_wp2_with (first | ((with_reducible refine gate_callee (f := 91) rfl ?_); refine goesL_ (some 47) rfl rfl Try.func91 (by kernel_rfl) rfl #[.pointer (some ⟨g425, 0, none⟩), .int .i64 8] rfl zM ?_; (with_reducible refine (spec_l01Below.calls g425 t422 x426001_10 x426002_10 8 t452 t453 t454 w _ ?side1 ?side2 A30.out).mono ?_); (case side1 => exact zI136 HI425.out); (case side2 => exact zG); rintro e w43 ⟨rfl, hi, hb, hk⟩; refine ⟨_, rfl, ?_⟩; replace HO_9 := zK136 (zJ136 HI425.out) (zR HO_9.out) hk; replace HO_10 := zK136 (zJ136 HI425.out) (zR HO_10.out) hk; replace HB := zA (hb); replace HI425 := zA (hi); (try clear hb hk hi)) | ((with_reducible refine gate_callee (f := 173) rfl ?_); refine goesL_ (some 48) rfl rfl Try.func173 (by kernel_rfl) rfl #[.pointer (some ⟨g425, 0, none⟩), .int .i64 t426, .int .i64 t452] rfl zM ?_; (with_reducible refine (spec_l03DrawPoly.calls kj10 g425 t422 t453 t454 t426 t452 t455 t458 t459 w _ ?side1 ?side2 A31.out).mono ?_); (case side1 => exact zI136 HI425.out); (case side2 => exact zG); rintro e w44 ⟨v456, rfl, ho0, hi, hb, hk⟩; refine ⟨_, rfl, ?_⟩; have HO457 := zA (Kd.R_lower (zn (Kd.R_new' ho0 (Kd.R_lt (zR HO_9.out))) HO_10.out) (below_size zG)); replace HO_9 := zT136 (zJ136 HI425.out) (zR HO_9.out) hk ho0; replace HO_10 := zT136 (zJ136 HI425.out) (zR HO_10.out) hk ho0; replace HB := zA (hb); replace HI425 := zA (hi); (try clear hb hk hi ho0); obtain ⟨Ao45, co45, eo45⟩ := Kd.R_slice HO457.out; subst eo45) | ((with_reducible refine gate_callee (f := 41) rfl ?_); refine goesL_ (some 51) rfl rfl Try.func41 (by kernel_rfl) rfl #[.int .i64 t426, .slice Ao45 t455.length co45] rfl zM ?_; (with_reducible refine (spec_PolyOk.calls kj10 t426 _ _ t455 false _ ?side1 ?side2 A32.out).mono ?_); (case side1 => exact zC ((Kd.R_reads' HO457.out).2.2)); (case side2 => exact (Kd.R_reads' HO457.out).2.1); rintro e w' ⟨rfl, ⟨nd, rfl⟩⟩; refine ⟨_, rfl, ?_⟩))
     go_ret3
     exact ⟨_, _, zE, by (with_reducible repeat (first | apply Kd.R_alloc | apply Kd.R_drewN | apply Kd.R_drew)); exact Kd.R_mono HO_9.out (fun _ hk => hk.1), by (with_reducible repeat (first | apply Kd.R_alloc | apply Kd.R_drewN | apply Kd.R_drew)); exact Kd.R_mono HO_10.out (fun _ hk => hk.1), zG⟩
   ·replace c29 := Bool.eq_false_iff.mpr c29
    subst c29
    rw [if_neg (show ¬ (false = true) by decide)] at H
    simp only [Option.some.injEq, Prod.mk.injEq] at H
    obtain ⟨rfl, rfl, rfl⟩ := H
    go_wp2
    go_ret3
    exact ⟨_, _, zE, zR HO_9.out, by (with_reducible repeat (first | apply Kd.R_alloc | apply Kd.R_drewN | apply Kd.R_drew)); exact HO_10.out, zG⟩

/-! ### spec_DrawMakeCert: function 101 -/
def spec_DrawMakeCert.f (k : Nat) (l0 : List Int) : Option (Int × List Int × List Int) := (spec_l03DrawTwo.f k l0 30).bind fun bt467 => ((spec_l01New.f k l0).bind fun bt474 => ((spec_l01Once.f bt474.1 bt474.2.1 bt474.2.2 8).bind fun bt478 => (if bt478.1 = true then ((spec_l01DrawList.f k bt474.1 bt478.2.1 bt478.2.2 0 9).bind fun bt481 => ((spec_l03Cut.f k bt481.1).bind fun t486 => ((spec_l01Below.f bt474.1 bt481.2.1 bt481.2.2 2).bind fun bt489 => ((spec_l01DrawList.f k bt474.1 bt489.2.1 bt489.2.2 0 (wrap64 (9 + bt489.1))).bind fun bt492 => ((spec_l03Cut.f k bt492.1).bind fun t497 => (some (0, t486, t497))))))) else (some (bt467.1, bt467.2.1, bt467.2.2)))))
theorem spec_DrawMakeCert.mono : ∀ a0 k, LeO (spec_DrawMakeCert.f k a0) (spec_DrawMakeCert.f (k + 1) a0) := by
 intro a0 k
 unfold spec_DrawMakeCert.f
 repeat' first
   | (with_reducible exact spec_l01DrawList.mono _ _ _ _ _ _)
   | (with_reducible exact spec_l01New.mono _ _)
   | (with_reducible exact spec_l03Cut.mono _ _)
   | (with_reducible exact spec_l03DrawTwo.mono _ _ _)
   | (with_reducible exact LeO.refl _)
   | (with_reducible exact LeO.none _)
   | (with_reducible refine LeO.ite ?_ ?_)
   | (with_reducible refine LeO.bind ?_ (fun _ => ?_))
   | exact spec_l01DrawList.mono _ _ _ _ _ _
   | exact spec_l01New.mono _ _
   | exact spec_l03Cut.mono _ _
   | exact spec_l03DrawTwo.mono _ _ _
   | exact LeO.none _
   | refine LeO.ite ?_ ?_
   | refine LeO.bind ?_ (fun _ => ?_)
set_option maxHeartbeats 8000000 in
set_option maxRecDepth 100000 in
theorem spec_DrawMakeCert.calls (k : Nat) (A0 : Option Addr) (c0 : Nat) (l0 : List Int) (r1 : Int) (r2 : List Int) (r3 : List Int) (w : World) (hr0 : Kd.C (Kd.int .u8) w A0 l0.length l0) (hc0 : l0.length ≤ c0) (h : spec_DrawMakeCert.f k l0 = some (r1, r2, r3)) :
  Calls Try.prog 101 #[.slice A0 l0.length c0] w fun e w' => ∃ v1_ v2_ : Value, e = .returned (.tuple #[.int .i64 r1, v1_, v2_]) ∧ Kd.R (Kd.int .i64) 3 w' w.heap.size (fun k_ => some k_ ≠ (v2_ : Value).ownBlock) v1_ r2 ∧ Kd.R (Kd.int .i64) 3 w' w.heap.size (fun k_ => some k_ ≠ (v1_ : Value).ownBlock) v2_ r3 ∧ Below w.heap.size w w' := by
 have HR0 := Aside0.mk hr0
 have HC0 := Aside0.mk hc0
 clear hr0 hc0
 have HB := Aside0.mk (Below.refl w.heap.size w)
 have H : ((spec_l03DrawTwo.f k l0 30).bind fun bt467 => ((spec_l01New.f k l0).bind fun bt474 => ((spec_l01Once.f bt474.1 bt474.2.1 bt474.2.2 8).bind fun bt478 => (if bt478.1 = true then ((spec_l01DrawList.f k bt474.1 bt478.2.1 bt478.2.2 0 9).bind fun bt481 => ((spec_l03Cut.f k bt481.1).bind fun t486 => ((spec_l01Below.f bt474.1 bt481.2.1 bt481.2.2 2).bind fun bt489 => ((spec_l01DrawList.f k bt474.1 bt489.2.1 bt489.2.2 0 (wrap64 (9 + bt489.1))).bind fun bt492 => ((spec_l03Cut.f k bt492.1).bind fun t497 => (some (0, t486, t497))))))) else (some (bt467.1, bt467.2.1, bt467.2.2)))))) = some (r1, r2, r3) := h
 clear h
 replace H := Option.bind_eq_some_iff.mp H
 obtain ⟨⟨t467, t468, t469⟩, A20, H⟩ := H
 (try dsimp -zeta -simprocs only at H)
 have A2 := Aside0.mk A20
 clear A20
 replace H := Option.bind_eq_some_iff.mp H
 obtain ⟨⟨t474, t475, t476⟩, A30, H⟩ := H
 (try dsimp -zeta -simprocs only at H)
 have A3 := Aside0.mk A30
 clear A30
 replace H := Option.bind_eq_some_iff.mp H
 obtain ⟨⟨t478, t479, t480⟩, A40, H⟩ := H
 (try dsimp -zeta -simprocs only at H)
 have A4 := Aside0.mk A40
 clear A40
 by_cases c5 : t478 = true
 ·subst c5
  rw [if_pos rfl] at H
  replace H := Option.bind_eq_some_iff.mp H
  obtain ⟨⟨t481, t484, t485⟩, A60, H⟩ := H
  (try dsimp -zeta -simprocs only at H)
  have A6 := Aside0.mk A60
  clear A60
  replace H := Option.bind_eq_some_iff.mp H
  obtain ⟨t486, A70, H⟩ := H
  (try dsimp -zeta -simprocs only at H)
  have A7 := Aside0.mk A70
  clear A70
  replace H := Option.bind_eq_some_iff.mp H
  obtain ⟨⟨t489, t490, t491⟩, A80, H⟩ := H
  (try dsimp -zeta -simprocs only at H)
  have A8 := Aside0.mk A80
  clear A80
  replace H := Option.bind_eq_some_iff.mp H
  obtain ⟨⟨t492, t495, t496⟩, A90, H⟩ := H
  (try dsimp -zeta -simprocs only at H)
  have A9 := Aside0.mk A90
  clear A90
  replace H := Option.bind_eq_some_iff.mp H
  obtain ⟨t497, A100, H⟩ := H
  (try dsimp -zeta -simprocs only at H)
  have A10 := Aside0.mk A100
  clear A100
  simp only [Option.some.injEq, Prod.mk.injEq] at H
  obtain ⟨rfl, rfl, rfl⟩ := H
  go_enter Try.func101, Try.ntmps101
  go_wp2_with (first | ((with_reducible refine gate_callee (f := 144) rfl ?_); refine goesL_ (some 11) rfl rfl Try.func144 (by kernel_rfl) rfl #[.slice A0 l0.length c0, .int .i64 30] rfl zM ?_; (with_reducible refine (spec_l03DrawTwo.calls k _ _ l0 30 t467 t468 t469 _ ?side1 ?side2 A2.out).mono ?_); (case side1 => exact zC HR0.out); (case side2 => exact HC0.out); rintro e w11 ⟨v470, v472, rfl, ho0, ho1, hb⟩; refine ⟨_, rfl, ?_⟩; have HO471 := zA (Kd.R_lower ho0 (below_size zH)); have HO473 := zA (Kd.R_lower ho1 (below_size zH)); replace HB := zA (below_step zH hb); (try clear hb ho0 ho1)) | ((with_reducible refine gate_callee (f := 90) rfl ?_); refine goesL_ (some 16) rfl rfl Try.func90 (by kernel_rfl) rfl #[.slice A0 l0.length c0] rfl zM ?_; (with_reducible refine (spec_l01New.calls k _ _ l0 t474 t475 t476 w _ ?side1 ?side2 ?side3 A3.out).mono ?_); (case side1 => exact zG); (case side2 => exact HR0.out); (case side3 => exact HC0.out); rintro e w12 ⟨g477, rfl, hi, hb, hb2⟩; refine ⟨_, rfl, ?_⟩; replace HO471 := zA (Kd.R_below (zR HO471.out) hb2); replace HO473 := zA (Kd.R_below (zR HO473.out) hb2); replace HB := zA (hb); have HI477 := zA (hi); (try clear hb hb2 hi)) | ((with_reducible refine gate_callee (f := 92) rfl ?_); refine goesL_ (some 18) rfl rfl Try.func92 (by kernel_rfl) rfl #[.pointer (some ⟨g477, 0, none⟩), .int .i64 8] rfl zM ?_; (with_reducible refine (spec_l01Once.calls g477 t474 t475 t476 8 true t479 t480 w _ ?side1 ?side2 A4.out).mono ?_); (case side1 => exact zI136 HI477.out); (case side2 => exact zG); rintro e w13 ⟨rfl, hi, hb, hk⟩; refine ⟨_, rfl, ?_⟩; replace HO471 := zK136 (zJ136 HI477.out) (zR HO471.out) hk; replace HO473 := zK136 (zJ136 HI477.out) (zR HO473.out) hk; replace HB := zA (hb); replace HI477 := zA (hi); (try clear hb hk hi)) | ((with_reducible refine gate_callee (f := 146) rfl ?_); refine goesL_ (some 20) rfl rfl Try.func146 (by kernel_rfl) rfl #[.pointer (some ⟨g477, 0, none⟩), .int .i64 0, .int .i64 9] rfl zM ?_; (with_reducible refine (spec_l01DrawList.calls k g477 t474 t479 t480 0 9 t481 t484 t485 w _ ?side1 ?side2 A6.out).mono ?_); (case side1 => exact zI136 HI477.out); (case side2 => exact zG); rintro e w14 ⟨v482, rfl, ho0, hi, hb, hk⟩; refine ⟨_, rfl, ?_⟩; have HO483 := zA (Kd.R_lower (zn (Kd.R_new' ho0 (Kd.R_lt (zR HO471.out))) HO473.out) (below_size zG)); replace HO471 := zT136 (zJ136 HI477.out) (zR HO471.out) hk ho0; replace HO473 := zT136 (zJ136 HI477.out) (zR HO473.out) hk ho0; replace HB := zA (hb); replace HI477 := zA (hi); (try clear hb hk hi ho0); obtain ⟨Ao15, co15, eo15⟩ := Kd.R_slice HO483.out; subst eo15) | ((with_reducible refine gate_callee (f := 145) rfl ?_); refine goesL_ (some 21) rfl rfl Try.func145 (by kernel_rfl) rfl #[.slice Ao15 t481.length co15] rfl zM ?_; (with_reducible refine (spec_l03Cut.calls k _ _ t481 t486 _ ?side1 ?side2 A7.out).mono ?_); (case side1 => exact zC ((Kd.R_reads' HO483.out).2.2)); (case side2 => exact (Kd.R_reads' HO483.out).2.1); rintro e w16 ⟨v487, rfl, ho0, hb⟩; refine ⟨_, rfl, ?_⟩; have HO488 := zA (Kd.R_lower (zn (Kd.R_new' (zn ho0 HO471.out) (Kd.R_lt (zR HO473.out))) HO483.out) (below_size zG)); replace HO471 := z2 HO471.out ho0 hb; replace HO473 := z2 HO473.out ho0 hb; replace HO483 := z2 HO483.out ho0 hb; replace HB := zA (below_step zG hb); replace HI477 := zA (IsS136.below (zI136 HI477.out) hb); (try clear hb ho0)) | ((with_reducible refine gate_callee (f := 91) rfl ?_); refine goesL_ (some 24) rfl rfl Try.func91 (by kernel_rfl) rfl #[.pointer (some ⟨g477, 0, none⟩), .int .i64 2] rfl zM ?_; (with_reducible refine (spec_l01Below.calls g477 t474 t484 t485 2 t489 t490 t491 w _ ?side1 ?side2 A8.out).mono ?_); (case side1 => exact zI136 HI477.out); (case side2 => exact zG); rintro e w17 ⟨rfl, hi, hb, hk⟩; refine ⟨_, rfl, ?_⟩; replace HO471 := zK136 (zJ136 HI477.out) (zR HO471.out) hk; replace HO473 := zK136 (zJ136 HI477.out) (zR HO473.out) hk; replace HO483 := zK136 (zJ136 HI477.out) (zR HO483.out) hk; replace HO488 := zK136 (zJ136 HI477.out) (zR HO488.out) hk; replace HB := zA (hb); replace HI477 := zA (hi); (try clear hb hk hi)) | ((with_reducible refine gate_callee (f := 146) rfl ?_); refine goesL_ (some 26) rfl rfl Try.func146 (by kernel_rfl) rfl #[.pointer (some ⟨g477, 0, none⟩), .int .i64 0, .int .i64 (wrap64 (9 + t489))] rfl zM ?_; (with_reducible refine (spec_l01DrawList.calls k g477 t474 t490 t491 0 (wrap64 (9 + t489)) t492 t495 t496 w _ ?side1 ?side2 A9.out).mono ?_); (case side1 => exact zI136 HI477.out); (case side2 => exact zG); rintro e w18 ⟨v493, rfl, ho0, hi, hb, hk⟩; refine ⟨_, rfl, ?_⟩; have HO494 := zA (Kd.R_lower (zn (Kd.R_new' (zn (Kd.R_new' ho0 (Kd.R_lt (zR HO471.out))) HO473.out) (Kd.R_lt (zR HO483.out))) HO488.out) (below_size zG)); replace HO471 := zT136 (zJ136 HI477.out) (zR HO471.out) hk ho0; replace HO473 := zT136 (zJ136 HI477.out) (zR HO473.out) hk ho0; replace HO483 := zT136 (zJ136 HI477.out) (zR HO483.out) hk ho0; replace HO488 := zT136 (zJ136 HI477.out) (zR HO488.out) hk ho0; replace HB := zA (hb); replace HI477 := zA (hi); (try clear hb hk hi ho0); obtain ⟨Ao19, co19, eo19⟩ := Kd.R_slice HO494.out; subst eo19) | ((with_reducible refine gate_callee (f := 145) rfl ?_); refine goesL_ (some 27) rfl rfl Try.func145 (by kernel_rfl) rfl #[.slice Ao19 t492.length co19] rfl zM ?_; (with_reducible refine (spec_l03Cut.calls k _ _ t492 t497 _ ?side1 ?side2 A10.out).mono ?_); (case side1 => exact zC ((Kd.R_reads' HO494.out).2.2)); (case side2 => exact (Kd.R_reads' HO494.out).2.1); rintro e w20 ⟨v498, rfl, ho0, hb⟩; refine ⟨_, rfl, ?_⟩; have HO499 := zA (Kd.R_lower (zn (Kd.R_new' (zn (Kd.R_new' (zn ho0 HO471.out) (Kd.R_lt (zR HO473.out))) HO483.out) (Kd.R_lt (zR HO488.out))) HO494.out) (below_size zG)); replace HO471 := z2 HO471.out ho0 hb; replace HO473 := z2 HO473.out ho0 hb; replace HO483 := z2 HO483.out ho0 hb; replace HO488 := z2 HO488.out ho0 hb; replace HO494 := z2 HO494.out ho0 hb; replace HB := zA (below_step zG hb); replace HI477 := zA (IsS136.below (zI136 HI477.out) hb); (try clear hb ho0)))
  go_ret3
  exact ⟨_, _, zE, by (with_reducible repeat (first | apply Kd.R_alloc | apply Kd.R_drewN | apply Kd.R_drew)); exact Kd.R_mono HO488.out (fun _ hk => hk.2), by (with_reducible repeat (first | apply Kd.R_alloc | apply Kd.R_drewN | apply Kd.R_drew)); exact Kd.R_mono HO499.out (fun _ hk => hk.1.2), zG⟩
 ·replace c5 := Bool.eq_false_iff.mpr c5
  subst c5
  rw [if_neg (show ¬ (false = true) by decide)] at H
  simp only [Option.some.injEq, Prod.mk.injEq] at H
  obtain ⟨rfl, rfl, rfl⟩ := H
  go_enter Try.func101, Try.ntmps101
  go_wp2_with (first | ((with_reducible refine gate_callee (f := 144) rfl ?_); refine goesL_ (some 11) rfl rfl Try.func144 (by kernel_rfl) rfl #[.slice A0 l0.length c0, .int .i64 30] rfl zM ?_; (with_reducible refine (spec_l03DrawTwo.calls k _ _ l0 30 t467 t468 t469 _ ?side1 ?side2 A2.out).mono ?_); (case side1 => exact zC HR0.out); (case side2 => exact HC0.out); rintro e w21 ⟨v470, v472, rfl, ho0, ho1, hb⟩; refine ⟨_, rfl, ?_⟩; have HO471 := zA (Kd.R_lower ho0 (below_size zH)); have HO473 := zA (Kd.R_lower ho1 (below_size zH)); replace HB := zA (below_step zH hb); (try clear hb ho0 ho1)) | ((with_reducible refine gate_callee (f := 90) rfl ?_); refine goesL_ (some 16) rfl rfl Try.func90 (by kernel_rfl) rfl #[.slice A0 l0.length c0] rfl zM ?_; (with_reducible refine (spec_l01New.calls k _ _ l0 t474 t475 t476 w _ ?side1 ?side2 ?side3 A3.out).mono ?_); (case side1 => exact zG); (case side2 => exact HR0.out); (case side3 => exact HC0.out); rintro e w22 ⟨g477, rfl, hi, hb, hb2⟩; refine ⟨_, rfl, ?_⟩; replace HO471 := zA (Kd.R_below (zR HO471.out) hb2); replace HO473 := zA (Kd.R_below (zR HO473.out) hb2); replace HB := zA (hb); have HI477 := zA (hi); (try clear hb hb2 hi)) | ((with_reducible refine gate_callee (f := 92) rfl ?_); refine goesL_ (some 18) rfl rfl Try.func92 (by kernel_rfl) rfl #[.pointer (some ⟨g477, 0, none⟩), .int .i64 8] rfl zM ?_; (with_reducible refine (spec_l01Once.calls g477 t474 t475 t476 8 false t479 t480 w _ ?side1 ?side2 A4.out).mono ?_); (case side1 => exact zI136 HI477.out); (case side2 => exact zG); rintro e w23 ⟨rfl, hi, hb, hk⟩; refine ⟨_, rfl, ?_⟩; replace HO471 := zK136 (zJ136 HI477.out) (zR HO471.out) hk; replace HO473 := zK136 (zJ136 HI477.out) (zR HO473.out) hk; replace HB := zA (hb); replace HI477 := zA (hi); (try clear hb hk hi)))
  go_ret3
  exact ⟨_, _, zE, zR HO471.out, by (with_reducible repeat (first | apply Kd.R_alloc | apply Kd.R_drewN | apply Kd.R_drew)); exact HO473.out, zG⟩

end Go.Proofs.Ytabicblkdgpogaa.QFnCertTrue
