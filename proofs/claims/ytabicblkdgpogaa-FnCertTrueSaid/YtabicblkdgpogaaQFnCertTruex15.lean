-- Made by this session's program (wip/tools/myprint.py) out of the translation; Lean checks it.
import Derived.Test.YtabicblkdgpogaaQFnCertTruex0
import Derived.Test.YtabicblkdgpogaaQFnCertTruex1
import Derived.Test.YtabicblkdgpogaaQFnCertTruex2
import Derived.Test.YtabicblkdgpogaaQFnCertTruex4
import Derived.Test.YtabicblkdgpogaaQFnCertTruex7
import Derived.Test.YtabicblkdgpogaaQFnCertTruex10
import Derived.Test.YtabicblkdgpogaaQFnCertTruex11
import Derived.Test.YtabicblkdgpogaaQFnCertTruex14
namespace Go.Proofs.Ytabicblkdgpogaa.QFnCertTrue
open Go.RowKit Go.Proofs.YtabicblkdgpogaaW.PrintWords Go.Proofs.YtabicblkdgpogaaW.PrintLast Go.Proofs.YtabicblkdgpogaaW.PrintMore
attribute [local go_sem] max2_int min2_int max_two min_two max_three min_three max_four min_four   -- for this text's walks alone
set_option linter.unusedVariables false
set_option linter.unusedSimpArgs false

/-! ### laws_FnCertTrue: function 8 -/
mutual
def laws_FnCertTrue.j0 : Nat → Int → List Int → List Int → List Int → Bool → List Int → List Int → List Int → Option (Bool)
 | 0, _, _, _, _, _, _, _, _ => none
 | k + 1, x3, x4, x5, x6, x38, x599000, x599001, x599002 => if x38 = true then (some true) else ((laws_cp.f k x4).bind fun t600 => ((laws_cp.f k x5).bind fun t603 => ((impl_MakeCert.f k x3 t600 t603).bind fun bt606 => ((spec_MulPoly.f k x3 x4 x5).bind fun bt617 => (if bt606.2.2.2 = true then ((laws_same.f k bt606.1 x599000).bind fun t621 => (if t621 = true then ((laws_cp.f k x4).bind fun t622 => ((laws_cp.f k x5).bind fun t625 => ((laws_cp.f k bt617.1).bind fun t628 => ((impl_CheckCert.f k x3 t622 t625 t628 bt606.1 bt606.2.1 bt606.2.2.1).bind fun t631 => (laws_FnCertTrue.j1 k x3 x4 x5 x6 bt617.1 (!t631) bt606.1 bt606.2.1 bt606.2.2.1))))) else (laws_FnCertTrue.j1 k x3 x4 x5 x6 bt617.1 true bt606.1 bt606.2.1 bt606.2.2.1))) else (laws_FnCertTrue.j1 k x3 x4 x5 x6 bt617.1 true bt606.1 bt606.2.1 bt606.2.2.1))))))
def laws_FnCertTrue.j1 : Nat → Int → List Int → List Int → List Int → List Int → Bool → List Int → List Int → List Int → Option (Bool)
 | 0, _, _, _, _, _, _, _, _, _ => none
 | k + 1, x3, x4, x5, x6, x12, x76, x617000, x617001, x617002 => if x76 = true then (some false) else ((laws_cp.f k x4).bind fun t632 => ((laws_cp.f k x5).bind fun t635 => ((laws_cp.f k x6).bind fun t638 => ((impl_CheckCert.f k x3 t632 t635 t638 x617000 x617001 x617002).bind fun t641 => ((laws_same.f k x6 x12).bind fun t642 => (some (t641 == t642)))))))
end
def laws_FnCertTrue.f (k : Nat) (l0 : List Int) : Option (Bool) := (laws_big.f l0).bind fun t567 => (if t567 = true then (some true) else ((spec_DrawCheckCert.f k l0).bind fun bt568 => ((spec_MakeCert.f k bt568.1 bt568.2.1 bt568.2.2.1).bind fun bt588 => (if bt588.2.2.2 = true then ((spec_PolyOk.f k bt568.1 bt568.2.2.2.1).bind fun t599 => (laws_FnCertTrue.j0 k bt568.1 bt568.2.1 bt568.2.2.1 bt568.2.2.2.1 (!t599) bt588.1 bt588.2.1 bt588.2.2.1)) else (laws_FnCertTrue.j0 k bt568.1 bt568.2.1 bt568.2.2.1 bt568.2.2.2.1 true bt588.1 bt588.2.1 bt588.2.2.1)))))
theorem laws_FnCertTrue.mono_l : ∀ k, (∀ y0 y1 y2 y3 y4 y5 y6 y7, LeO (laws_FnCertTrue.j0 k y0 y1 y2 y3 y4 y5 y6 y7) (laws_FnCertTrue.j0 (k + 1) y0 y1 y2 y3 y4 y5 y6 y7)) ∧ (∀ y0 y1 y2 y3 y4 y5 y6 y7 y8, LeO (laws_FnCertTrue.j1 k y0 y1 y2 y3 y4 y5 y6 y7 y8) (laws_FnCertTrue.j1 (k + 1) y0 y1 y2 y3 y4 y5 y6 y7 y8))
 | 0 => ⟨fun _ _ _ _ _ _ _ _ r h => by simp [laws_FnCertTrue.j0] at h, fun _ _ _ _ _ _ _ _ _ r h => by simp [laws_FnCertTrue.j1] at h⟩
 | k + 1 => by
  obtain ⟨ih0, ih1⟩ := laws_FnCertTrue.mono_l k
  refine ⟨?_, ?_⟩
  ·intro y0 y1 y2 y3 y4 y5 y6 y7
   unfold laws_FnCertTrue.j0
   repeat' first
   | (with_reducible exact ih0 _ _ _ _ _ _ _ _)
   | (with_reducible exact ih1 _ _ _ _ _ _ _ _ _)
   | (with_reducible exact impl_CheckCert.mono _ _ _ _ _ _ _ _)
   | (with_reducible exact impl_MakeCert.mono _ _ _ _)
   | (with_reducible exact laws_cp.mono _ _)
   | (with_reducible exact laws_same.mono _ _ _)
   | (with_reducible exact spec_DrawCheckCert.mono _ _)
   | (with_reducible exact spec_MakeCert.mono _ _ _ _)
   | (with_reducible exact spec_MulPoly.mono _ _ _ _)
   | (with_reducible exact spec_PolyOk.mono _ _ _)
   | (with_reducible exact LeO.refl _)
   | (with_reducible exact LeO.none _)
   | (with_reducible refine LeO.ite ?_ ?_)
   | (with_reducible refine LeO.bind ?_ (fun _ => ?_))
   | exact ih0 _ _ _ _ _ _ _ _
   | exact ih1 _ _ _ _ _ _ _ _ _
   | exact impl_CheckCert.mono _ _ _ _ _ _ _ _
   | exact impl_MakeCert.mono _ _ _ _
   | exact laws_cp.mono _ _
   | exact laws_same.mono _ _ _
   | exact spec_DrawCheckCert.mono _ _
   | exact spec_MakeCert.mono _ _ _ _
   | exact spec_MulPoly.mono _ _ _ _
   | exact spec_PolyOk.mono _ _ _
   | exact LeO.none _
   | refine LeO.ite ?_ ?_
   | refine LeO.bind ?_ (fun _ => ?_)
  ·intro y0 y1 y2 y3 y4 y5 y6 y7 y8
   unfold laws_FnCertTrue.j1
   repeat' first
   | (with_reducible exact ih0 _ _ _ _ _ _ _ _)
   | (with_reducible exact ih1 _ _ _ _ _ _ _ _ _)
   | (with_reducible exact impl_CheckCert.mono _ _ _ _ _ _ _ _)
   | (with_reducible exact impl_MakeCert.mono _ _ _ _)
   | (with_reducible exact laws_cp.mono _ _)
   | (with_reducible exact laws_same.mono _ _ _)
   | (with_reducible exact spec_DrawCheckCert.mono _ _)
   | (with_reducible exact spec_MakeCert.mono _ _ _ _)
   | (with_reducible exact spec_MulPoly.mono _ _ _ _)
   | (with_reducible exact spec_PolyOk.mono _ _ _)
   | (with_reducible exact LeO.refl _)
   | (with_reducible exact LeO.none _)
   | (with_reducible refine LeO.ite ?_ ?_)
   | (with_reducible refine LeO.bind ?_ (fun _ => ?_))
   | exact ih0 _ _ _ _ _ _ _ _
   | exact ih1 _ _ _ _ _ _ _ _ _
   | exact impl_CheckCert.mono _ _ _ _ _ _ _ _
   | exact impl_MakeCert.mono _ _ _ _
   | exact laws_cp.mono _ _
   | exact laws_same.mono _ _ _
   | exact spec_DrawCheckCert.mono _ _
   | exact spec_MakeCert.mono _ _ _ _
   | exact spec_MulPoly.mono _ _ _ _
   | exact spec_PolyOk.mono _ _ _
   | exact LeO.none _
   | refine LeO.ite ?_ ?_
   | refine LeO.bind ?_ (fun _ => ?_)
theorem laws_FnCertTrue.mono : ∀ a0 k, LeO (laws_FnCertTrue.f k a0) (laws_FnCertTrue.f (k + 1) a0) := by
 intro a0 k
 obtain ⟨ih0, ih1⟩ := laws_FnCertTrue.mono_l k
 unfold laws_FnCertTrue.f
 repeat' first
   | (with_reducible exact ih0 _ _ _ _ _ _ _ _)
   | (with_reducible exact ih1 _ _ _ _ _ _ _ _ _)
   | (with_reducible exact impl_CheckCert.mono _ _ _ _ _ _ _ _)
   | (with_reducible exact impl_MakeCert.mono _ _ _ _)
   | (with_reducible exact laws_cp.mono _ _)
   | (with_reducible exact laws_same.mono _ _ _)
   | (with_reducible exact spec_DrawCheckCert.mono _ _)
   | (with_reducible exact spec_MakeCert.mono _ _ _ _)
   | (with_reducible exact spec_MulPoly.mono _ _ _ _)
   | (with_reducible exact spec_PolyOk.mono _ _ _)
   | (with_reducible exact LeO.refl _)
   | (with_reducible exact LeO.none _)
   | (with_reducible refine LeO.ite ?_ ?_)
   | (with_reducible refine LeO.bind ?_ (fun _ => ?_))
   | exact ih0 _ _ _ _ _ _ _ _
   | exact ih1 _ _ _ _ _ _ _ _ _
   | exact impl_CheckCert.mono _ _ _ _ _ _ _ _
   | exact impl_MakeCert.mono _ _ _ _
   | exact laws_cp.mono _ _
   | exact laws_same.mono _ _ _
   | exact spec_DrawCheckCert.mono _ _
   | exact spec_MakeCert.mono _ _ _ _
   | exact spec_MulPoly.mono _ _ _ _
   | exact spec_PolyOk.mono _ _ _
   | exact LeO.none _
   | refine LeO.ite ?_ ?_
   | refine LeO.bind ?_ (fun _ => ?_)
def laws_FnCertTrue.T9 : Bool × List (List Nat × List Nat) := (true, [([], []), ([0], [0]), ([1], [1]), ([2], [2]), ([3, 2], [2, 3]), ([2], [2]), ([5, 2], [2, 5]), ([4, 6, 2, 2], [2, 4, 6]), ([7, 2], [2, 7]), ([2, 8], [2, 8]), ([9, 7], [9]), ([10], [10]), ([10], [10]), ([12, 10, 10], [10, 12]), ([10], [10]), ([14, 13, 10], [10, 14]), ([10], [10]), ([16, 15, 10], [10, 16]), ([10], [10]), ([11, 13, 15, 17, 18, 17, 10], [10, 11, 13, 15, 17, 18]), ([19, 10], [10, 19]), ([10, 20], [10, 20])])
def laws_FnCertTrue.B9 : List Nat := [0, 1, 3, 7, 15, 7, 39, 127, 255, 511, 1023, 2047, 2047, 6143, 2047, 30719, 2047, 129023, 2047, 524287, 1048575, 2097151]
theorem laws_FnCertTrue.tab9 : rtab .any (opsOf Try.f8 9) = laws_FnCertTrue.T9 := by kernel_rfl
theorem laws_FnCertTrue.bits9 : waitsOk laws_FnCertTrue.T9.2 laws_FnCertTrue.B9 = true := by kernel_rfl
def laws_FnCertTrue.T11 : Bool × List (List Nat × List Nat) := (true, [([], []), ([], []), ([1], [1]), ([], []), ([3, 2], [3]), ([], []), ([5, 4], [5]), ([], []), ([0, 2, 4, 6, 7, 6], [0, 2, 4, 6, 7]), ([], []), ([], []), ([9, 10, 8], [9, 10]), ([8, 11], [8, 11]), ([12, 11, 0, 1, 2, 3, 4, 5, 6, 7, 8, 9, 10, 11, 12], [12])])
def laws_FnCertTrue.B11 : List Nat := [0, 0, 2, 0, 14, 0, 62, 0, 255, 0, 0, 2047, 4095, 8191]
theorem laws_FnCertTrue.tab11 : rtab .any (opsOf Try.f8 11) = laws_FnCertTrue.T11 := by kernel_rfl
theorem laws_FnCertTrue.bits11 : waitsOk laws_FnCertTrue.T11.2 laws_FnCertTrue.B11 = true := by kernel_rfl
set_option maxHeartbeats 8000000 in
set_option maxRecDepth 100000 in
theorem laws_FnCertTrue.calls (k : Nat) (A0 : Option Addr) (c0 : Nat) (l0 : List Int) (r : Bool) (w : World) (hr0 : Kd.C (Kd.int .u8) w A0 l0.length l0) (hc0 : l0.length ≤ c0) (HT_ : Aside0 (r = true)) (h : laws_FnCertTrue.f k l0 = some r) :
  Calls Try.prog 8 #[.slice A0 l0.length c0] w fun e w' => e = .returned (.bool r) ∧ Below w.heap.size w w' := by
 have hu27 := Try.underlying27
 have HR0 := Aside0.mk hr0
 have HC0 := Aside0.mk hc0
 clear hr0 hc0
 have HB := Aside0.mk (Below.refl w.heap.size w)
 have H : ((laws_big.f l0).bind fun t567 => (if t567 = true then (some true) else ((spec_DrawCheckCert.f k l0).bind fun bt568 => ((spec_MakeCert.f k bt568.1 bt568.2.1 bt568.2.2.1).bind fun bt588 => (if bt588.2.2.2 = true then ((spec_PolyOk.f k bt568.1 bt568.2.2.2.1).bind fun t599 => (laws_FnCertTrue.j0 k bt568.1 bt568.2.1 bt568.2.2.1 bt568.2.2.2.1 (!t599) bt588.1 bt588.2.1 bt588.2.2.1)) else (laws_FnCertTrue.j0 k bt568.1 bt568.2.1 bt568.2.2.1 bt568.2.2.2.1 true bt588.1 bt588.2.1 bt588.2.2.1)))))) = some r := h
 clear h
 replace H := Option.bind_eq_some_iff.mp H
 obtain ⟨t567, A20, H⟩ := H
 (try dsimp -zeta -simprocs only at H)
 have A2 := Aside0.mk A20
 clear A20
 by_cases c3 : t567 = true
 ·subst c3
  rw [if_pos rfl] at H
  obtain rfl := Option.some.inj H
  go_enter Try.func8, Try.ntmps8
  go_wp2_with (first | ((with_reducible refine gate_callee (f := 32) rfl ?_); refine goesL_ (some 15) rfl rfl Try.func32 (by kernel_rfl) rfl #[.slice A0 l0.length c0] rfl zM ?_; (with_reducible refine (laws_big.calls _ _ l0 true _ ?side1 ?side2 A2.out).mono ?_); (case side1 => exact zC HR0.out); (case side2 => exact HC0.out); rintro e w' ⟨rfl, ⟨nd, rfl⟩⟩; refine ⟨_, rfl, ?_⟩))
  go_ret
  exact ⟨zE, zH⟩
 ·replace c3 := Bool.eq_false_iff.mpr c3
  subst c3
  rw [if_neg (show ¬ (false = true) by decide)] at H
  replace H := Option.bind_eq_some_iff.mp H
  obtain ⟨⟨t568, t569, t572, t575, t578, t581, t584⟩, A40, H⟩ := H
  (try dsimp -zeta -simprocs only at H)
  have A4 := Aside0.mk A40
  clear A40
  replace H := Option.bind_eq_some_iff.mp H
  obtain ⟨⟨t588, t591, t594, t597⟩, A50, H⟩ := H
  (try dsimp -zeta -simprocs only at H)
  have A5 := Aside0.mk A50
  clear A50
  have HC6 := Aside0.mk H
  clear H
  go_enter Try.func8, Try.ntmps8
  go_upto_region 5 with (first | ((with_reducible refine gate_callee (f := 32) rfl ?_); refine goesL_ (some 15) rfl rfl Try.func32 (by kernel_rfl) rfl #[.slice A0 l0.length c0] rfl zM ?_; (with_reducible refine (laws_big.calls _ _ l0 false _ ?side1 ?side2 A2.out).mono ?_); (case side1 => exact zC HR0.out); (case side2 => exact HC0.out); rintro e w' ⟨rfl, ⟨nd, rfl⟩⟩; refine ⟨_, rfl, ?_⟩) | ((with_reducible refine gate_callee (f := 40) rfl ?_); refine goesL_ (some 18) rfl rfl Try.func40 (by kernel_rfl) rfl #[.slice A0 l0.length c0] rfl zM ?_; (with_reducible refine (spec_DrawCheckCert.calls k _ _ l0 t568 t569 t572 t575 t578 t581 t584 _ ?side1 ?side2 A4.out).mono ?_); (case side1 => exact zC HR0.out); (case side2 => exact HC0.out); rintro e w7 ⟨v570, v573, v576, v579, v582, v585, rfl, ho0, ho1, ho2, ho3, ho4, ho5, hb⟩; refine ⟨_, rfl, ?_⟩; have HO571 := zA (Kd.R_lower ho0 (below_size zH)); have HO574 := zA (Kd.R_lower ho1 (below_size zH)); have HO577 := zA (Kd.R_lower ho2 (below_size zH)); have HO580 := zA (Kd.R_lower ho3 (below_size zH)); have HO583 := zA (Kd.R_lower ho4 (below_size zH)); have HO586 := zA (Kd.R_lower ho5 (below_size zH)); replace HB := zA (below_step zH hb); (try clear hb ho0 ho1 ho2 ho3 ho4 ho5)) | ((with_reducible refine gate_dst (N := 7) rfl ?_); refine box_event ?hg (N := 7) ?hd (cs := #[.slice none 0 0, .slice none 0 0, .slice none 0 0]) (t := 27) ?hr ?_; (case hd => rfl); (case hg => rfl); (case hr => first | (go_simp; done) | (go_simp; rfl)); intro gb587 hg w8 hbox hb; replace HO571 := zA (Kd.R_below (zR HO571.out) hb); replace HO574 := zA (Kd.R_below (zR HO574.out) hb); replace HO577 := zA (Kd.R_below (zR HO577.out) hb); replace HO580 := zA (Kd.R_below (zR HO580.out) hb); replace HO583 := zA (Kd.R_below (zR HO583.out) hb); replace HO586 := zA (Kd.R_below (zR HO586.out) hb); have BK587 := zA (hbox); have GW587 := zA ((by rw [hg]; exact (below_size zH) : w.heap.size ≤ gb587)); have GE587 := zA ((by rw [hg]; exact (below_size zH) : w.heap.size ≤ gb587)); replace HB := zA (below_step zH hb); clear hb hbox hg; obtain ⟨Ao9, co9, eo9⟩ := Kd.R_slice HO580.out; subst eo9; obtain ⟨hcz10_0, hcz10_1, hcz10_2⟩ := zc3 BK587.out; obtain ⟨hfz10_0, hfz10_1, hfz10_2, _, _⟩ := zf BK587.out; obtain ⟨Ao11, co11, eo11⟩ := Kd.R_slice HO583.out; subst eo11; obtain ⟨Ao12, co12, eo12⟩ := Kd.R_slice HO586.out; subst eo12; obtain ⟨Ao13, co13, eo13⟩ := Kd.R_slice HO571.out; subst eo13; obtain ⟨Ao14, co14, eo14⟩ := Kd.R_slice HO574.out; subst eo14) | ((with_reducible refine gate_callee (f := 17) rfl ?_); refine goesL_ (some 28) rfl rfl Try.func17 (by kernel_rfl) rfl #[.int .i64 t568, .slice Ao13 t569.length co13, .slice Ao14 t572.length co14] rfl zM ?_; (with_reducible refine (spec_MakeCert.calls k t568 _ _ t569 _ _ t572 t588 t591 t594 t597 _ ?side1 ?side2 ?side3 ?side4 A5.out).mono ?_); (case side1 => exact zC (Kd.R_reads' (zV gb587 2 (zV gb587 1 (zV gb587 0 (Kd.R_types HO571.out BK587.out (by decide)) (.slice Ao9 t578.length co9)) (.slice Ao11 t581.length co11)) (.slice Ao12 t584.length co12))).2.2); (case side2 => exact (Kd.R_reads' HO571.out).2.1); (case side3 => exact zC (Kd.R_reads' (zV gb587 2 (zV gb587 1 (zV gb587 0 (Kd.R_types HO574.out BK587.out (by decide)) (.slice Ao9 t578.length co9)) (.slice Ao11 t581.length co11)) (.slice Ao12 t584.length co12))).2.2); (case side4 => exact (Kd.R_reads' HO574.out).2.1); rintro e w15 ⟨v589, v592, v595, rfl, ho0, ho1, ho2, hb⟩; refine ⟨_, rfl, ?_⟩; have HO590 := zA (Kd.R_lower (Kd.R_new' (Kd.R_new' (Kd.R_new' (Kd.R_new' (Kd.R_new' (Kd.R_new' ho0 (Kd.R_lt (zW3 HO571.out BK587.out))) (Kd.R_lt (zW3 HO574.out BK587.out))) (Kd.R_lt (zW3 HO577.out BK587.out))) (Kd.R_lt (zW3 HO580.out BK587.out))) (Kd.R_lt (zW3 HO583.out BK587.out))) (Kd.R_lt (zW3 HO586.out BK587.out))) (below_size zH)); have HO593 := zA (Kd.R_lower (Kd.R_new' (Kd.R_new' (Kd.R_new' (Kd.R_new' (Kd.R_new' (Kd.R_new' ho1 (Kd.R_lt (zW3 HO571.out BK587.out))) (Kd.R_lt (zW3 HO574.out BK587.out))) (Kd.R_lt (zW3 HO577.out BK587.out))) (Kd.R_lt (zW3 HO580.out BK587.out))) (Kd.R_lt (zW3 HO583.out BK587.out))) (Kd.R_lt (zW3 HO586.out BK587.out))) (below_size zH)); have HO596 := zA (Kd.R_lower (Kd.R_new' (Kd.R_new' (Kd.R_new' (Kd.R_new' (Kd.R_new' (Kd.R_new' ho2 (Kd.R_lt (zW3 HO571.out BK587.out))) (Kd.R_lt (zW3 HO574.out BK587.out))) (Kd.R_lt (zW3 HO577.out BK587.out))) (Kd.R_lt (zW3 HO580.out BK587.out))) (Kd.R_lt (zW3 HO583.out BK587.out))) (Kd.R_lt (zW3 HO586.out BK587.out))) (below_size zH)); replace HO571 := zA (Kd.R_mono (Kd.R_told (Kd.R_told (Kd.R_told (Kd.R_old (zW3 HO571.out BK587.out) hb) (Kd.R_base ho0)) (Kd.R_base ho1)) (Kd.R_base ho2)) (fun _ h_ => h_.1)); replace HO574 := zA (Kd.R_mono (Kd.R_told (Kd.R_told (Kd.R_told (Kd.R_old (zW3 HO574.out BK587.out) hb) (Kd.R_base ho0)) (Kd.R_base ho1)) (Kd.R_base ho2)) (fun _ h_ => h_.1)); replace HO577 := zA (Kd.R_mono (Kd.R_told (Kd.R_told (Kd.R_told (Kd.R_old (zW3 HO577.out BK587.out) hb) (Kd.R_base ho0)) (Kd.R_base ho1)) (Kd.R_base ho2)) (fun _ h_ => h_.1)); replace HO580 := zA (Kd.R_mono (Kd.R_told (Kd.R_told (Kd.R_told (Kd.R_old (zW3 HO580.out BK587.out) hb) (Kd.R_base ho0)) (Kd.R_base ho1)) (Kd.R_base ho2)) (fun _ h_ => h_.1)); replace HO583 := zA (Kd.R_mono (Kd.R_told (Kd.R_told (Kd.R_told (Kd.R_old (zW3 HO583.out BK587.out) hb) (Kd.R_base ho0)) (Kd.R_base ho1)) (Kd.R_base ho2)) (fun _ h_ => h_.1)); replace HO586 := zA (Kd.R_mono (Kd.R_told (Kd.R_told (Kd.R_told (Kd.R_old (zW3 HO586.out BK587.out) hb) (Kd.R_base ho0)) (Kd.R_base ho1)) (Kd.R_base ho2)) (fun _ h_ => h_.1)); replace BK587 := Aside0.mk (blk_below (g := gb587) (o := .cells #[.slice Ao9 t578.length co9, .slice Ao11 t581.length co11, .slice Ao12 t584.length co12] 27 (0, 0)) (by (repeat refine zL ?_); refine blk_put (cs := #[.slice Ao9 t578.length co9, .slice Ao11 t581.length co11, .slice none 0 0]) ?_ 2 _ rfl; (repeat refine zL ?_); refine blk_put (cs := #[.slice Ao9 t578.length co9, .slice none 0 0, .slice none 0 0]) ?_ 1 _ rfl; (repeat refine zL ?_); refine blk_put (cs := #[.slice none 0 0, .slice none 0 0, .slice none 0 0]) ?_ 0 _ rfl; (repeat refine zL ?_); exact BK587.out) hb); replace HB := zA (below_step zH hb); (try clear hb ho0 ho1 ho2)) | ((with_reducible refine gate_dst (N := 8) rfl ?_); refine box_event ?hg (N := 8) ?hd (cs := #[.slice none 0 0, .slice none 0 0, .slice none 0 0]) (t := 27) ?hr ?_; (case hd => rfl); (case hg => rfl); (case hr => first | (go_simp; done) | (go_simp; rfl)); intro gb598 hg w16 hbox hb; replace HO571 := zA (Kd.R_below (zR HO571.out) hb); replace HO574 := zA (Kd.R_below (zR HO574.out) hb); replace HO577 := zA (Kd.R_below (zR HO577.out) hb); replace HO580 := zA (Kd.R_below (zR HO580.out) hb); replace HO583 := zA (Kd.R_below (zR HO583.out) hb); replace HO586 := zA (Kd.R_below (zR HO586.out) hb); replace HO590 := zA (Kd.R_below (zR HO590.out) hb); replace HO593 := zA (Kd.R_below (zR HO593.out) hb); replace HO596 := zA (Kd.R_below (zR HO596.out) hb); have BK598 := zA (hbox); have GW598 := zA ((by rw [hg]; exact (below_size zH) : w.heap.size ≤ gb598)); have GE598 := zA ((by rw [hg]; exact (below_size zH) : w.heap.size ≤ gb598)); replace HB := zA (below_step zH hb); have NB587_598 := Aside0.mk ((by rw [hg]; exact Nat.ne_of_lt (blk_lt (g := gb587) (o := .cells #[.slice Ao9 t578.length co9, .slice Ao11 t581.length co11, .slice Ao12 t584.length co12] 27 (0, 0)) (zB BK587.out)) : gb587 ≠ gb598)); have NB598_587 := Aside0.mk ((by rw [hg]; exact Nat.ne_of_gt (blk_lt (g := gb587) (o := .cells #[.slice Ao9 t578.length co9, .slice Ao11 t581.length co11, .slice Ao12 t584.length co12] 27 (0, 0)) (zB BK587.out)) : gb598 ≠ gb587)); replace BK587 := zb BK587.out hb; clear hb hbox hg; obtain ⟨Ao17, co17, eo17⟩ := Kd.R_slice HO590.out; subst eo17; have hnb18 := NB598_587.out; have hnc18 := NB587_598.out; obtain ⟨hcz19_0, hcz19_1, hcz19_2⟩ := zc3 BK598.out; obtain ⟨hfz19_0, hfz19_1, hfz19_2, _, _⟩ := zf BK598.out; obtain ⟨Ao20, co20, eo20⟩ := Kd.R_slice HO593.out; subst eo20; obtain ⟨Ao21, co21, eo21⟩ := Kd.R_slice HO596.out; subst eo21))
  (try simp only [Act.put, List.setIfInBounds_toArray, List.set_cons_zero, List.set_cons_succ])
  go_cut [38] (fun v38 wc => ∃ (kq : Nat) (x38_5 : Bool), v38 = .bool x38_5 ∧ Aside0 (laws_FnCertTrue.j0 kq t568 t569 t572 t575 x38_5 t588 t591 t594 = some r) ∧ Aside0 (kq ≤ k) ∧ Aside0 (Kd.R (Kd.int .i64) 3 wc w.heap.size (fun k_ => some k_ ≠ ((.slice Ao14 t572.length co14) : Value).ownBlock ∧ some k_ ≠ (v576 : Value).ownBlock ∧ some k_ ≠ ((.slice Ao9 t578.length co9) : Value).ownBlock ∧ some k_ ≠ ((.slice Ao11 t581.length co11) : Value).ownBlock ∧ some k_ ≠ ((.slice Ao12 t584.length co12) : Value).ownBlock ∧ some k_ ≠ ((.slice Ao17 t588.length co17) : Value).ownBlock ∧ some k_ ≠ ((.slice Ao20 t591.length co20) : Value).ownBlock ∧ some k_ ≠ ((.slice Ao21 t594.length co21) : Value).ownBlock) (.slice Ao13 t569.length co13) t569) ∧ Aside0 (Kd.R (Kd.int .i64) 3 wc w.heap.size (fun k_ => some k_ ≠ ((.slice Ao13 t569.length co13) : Value).ownBlock ∧ some k_ ≠ (v576 : Value).ownBlock ∧ some k_ ≠ ((.slice Ao9 t578.length co9) : Value).ownBlock ∧ some k_ ≠ ((.slice Ao11 t581.length co11) : Value).ownBlock ∧ some k_ ≠ ((.slice Ao12 t584.length co12) : Value).ownBlock ∧ some k_ ≠ ((.slice Ao17 t588.length co17) : Value).ownBlock ∧ some k_ ≠ ((.slice Ao20 t591.length co20) : Value).ownBlock ∧ some k_ ≠ ((.slice Ao21 t594.length co21) : Value).ownBlock) (.slice Ao14 t572.length co14) t572) ∧ Aside0 (Kd.R (Kd.int .i64) 3 wc w.heap.size (fun k_ => some k_ ≠ ((.slice Ao13 t569.length co13) : Value).ownBlock ∧ some k_ ≠ ((.slice Ao14 t572.length co14) : Value).ownBlock ∧ some k_ ≠ ((.slice Ao9 t578.length co9) : Value).ownBlock ∧ some k_ ≠ ((.slice Ao11 t581.length co11) : Value).ownBlock ∧ some k_ ≠ ((.slice Ao12 t584.length co12) : Value).ownBlock ∧ some k_ ≠ ((.slice Ao17 t588.length co17) : Value).ownBlock ∧ some k_ ≠ ((.slice Ao20 t591.length co20) : Value).ownBlock ∧ some k_ ≠ ((.slice Ao21 t594.length co21) : Value).ownBlock) v576 t575) ∧ Aside0 (Kd.R (Kd.int .i64) 3 wc w.heap.size (fun k_ => some k_ ≠ ((.slice Ao13 t569.length co13) : Value).ownBlock ∧ some k_ ≠ ((.slice Ao14 t572.length co14) : Value).ownBlock ∧ some k_ ≠ (v576 : Value).ownBlock ∧ some k_ ≠ ((.slice Ao11 t581.length co11) : Value).ownBlock ∧ some k_ ≠ ((.slice Ao12 t584.length co12) : Value).ownBlock ∧ some k_ ≠ ((.slice Ao17 t588.length co17) : Value).ownBlock ∧ some k_ ≠ ((.slice Ao20 t591.length co20) : Value).ownBlock ∧ some k_ ≠ ((.slice Ao21 t594.length co21) : Value).ownBlock) (.slice Ao9 t578.length co9) t578) ∧ Aside0 (Kd.R (Kd.int .i64) 3 wc w.heap.size (fun k_ => some k_ ≠ ((.slice Ao13 t569.length co13) : Value).ownBlock ∧ some k_ ≠ ((.slice Ao14 t572.length co14) : Value).ownBlock ∧ some k_ ≠ (v576 : Value).ownBlock ∧ some k_ ≠ ((.slice Ao9 t578.length co9) : Value).ownBlock ∧ some k_ ≠ ((.slice Ao12 t584.length co12) : Value).ownBlock ∧ some k_ ≠ ((.slice Ao17 t588.length co17) : Value).ownBlock ∧ some k_ ≠ ((.slice Ao20 t591.length co20) : Value).ownBlock ∧ some k_ ≠ ((.slice Ao21 t594.length co21) : Value).ownBlock) (.slice Ao11 t581.length co11) t581) ∧ Aside0 (Kd.R (Kd.int .i64) 3 wc w.heap.size (fun k_ => some k_ ≠ ((.slice Ao13 t569.length co13) : Value).ownBlock ∧ some k_ ≠ ((.slice Ao14 t572.length co14) : Value).ownBlock ∧ some k_ ≠ (v576 : Value).ownBlock ∧ some k_ ≠ ((.slice Ao9 t578.length co9) : Value).ownBlock ∧ some k_ ≠ ((.slice Ao11 t581.length co11) : Value).ownBlock ∧ some k_ ≠ ((.slice Ao17 t588.length co17) : Value).ownBlock ∧ some k_ ≠ ((.slice Ao20 t591.length co20) : Value).ownBlock ∧ some k_ ≠ ((.slice Ao21 t594.length co21) : Value).ownBlock) (.slice Ao12 t584.length co12) t584) ∧ Aside0 (Kd.R (Kd.int .i64) 3 wc w.heap.size (fun k_ => some k_ ≠ ((.slice Ao13 t569.length co13) : Value).ownBlock ∧ some k_ ≠ ((.slice Ao14 t572.length co14) : Value).ownBlock ∧ some k_ ≠ (v576 : Value).ownBlock ∧ some k_ ≠ ((.slice Ao9 t578.length co9) : Value).ownBlock ∧ some k_ ≠ ((.slice Ao11 t581.length co11) : Value).ownBlock ∧ some k_ ≠ ((.slice Ao12 t584.length co12) : Value).ownBlock ∧ some k_ ≠ ((.slice Ao20 t591.length co20) : Value).ownBlock ∧ some k_ ≠ ((.slice Ao21 t594.length co21) : Value).ownBlock) (.slice Ao17 t588.length co17) t588) ∧ Aside0 (Kd.R (Kd.int .i64) 3 wc w.heap.size (fun k_ => some k_ ≠ ((.slice Ao13 t569.length co13) : Value).ownBlock ∧ some k_ ≠ ((.slice Ao14 t572.length co14) : Value).ownBlock ∧ some k_ ≠ (v576 : Value).ownBlock ∧ some k_ ≠ ((.slice Ao9 t578.length co9) : Value).ownBlock ∧ some k_ ≠ ((.slice Ao11 t581.length co11) : Value).ownBlock ∧ some k_ ≠ ((.slice Ao12 t584.length co12) : Value).ownBlock ∧ some k_ ≠ ((.slice Ao17 t588.length co17) : Value).ownBlock ∧ some k_ ≠ ((.slice Ao21 t594.length co21) : Value).ownBlock) (.slice Ao20 t591.length co20) t591) ∧ Aside0 (Kd.R (Kd.int .i64) 3 wc w.heap.size (fun k_ => some k_ ≠ ((.slice Ao13 t569.length co13) : Value).ownBlock ∧ some k_ ≠ ((.slice Ao14 t572.length co14) : Value).ownBlock ∧ some k_ ≠ (v576 : Value).ownBlock ∧ some k_ ≠ ((.slice Ao9 t578.length co9) : Value).ownBlock ∧ some k_ ≠ ((.slice Ao11 t581.length co11) : Value).ownBlock ∧ some k_ ≠ ((.slice Ao12 t584.length co12) : Value).ownBlock ∧ some k_ ≠ ((.slice Ao17 t588.length co17) : Value).ownBlock ∧ some k_ ≠ ((.slice Ao20 t591.length co20) : Value).ownBlock) (.slice Ao21 t594.length co21) t594) ∧ Aside0 (wc.heap[gb587]? = some (.cells #[(.slice Ao9 t578.length co9), (.slice Ao11 t581.length co11), (.slice Ao12 t584.length co12)] 27 (0, 0))) ∧ Aside0 (wc.heap[gb598]? = some (.cells #[(.slice Ao17 t588.length co17), (.slice Ao20 t591.length co20), (.slice Ao21 t594.length co21)] 27 (0, 0))) ∧ Aside0 (Below w.heap.size w wc))
  case first =>
   have H := HC6.out
   clear HC6
   by_cases c22 : t597 = true
   ·subst c22
    rw [if_pos rfl] at H
    replace H := Option.bind_eq_some_iff.mp H
    obtain ⟨t599, A230, H⟩ := H
    (try dsimp -zeta -simprocs only at H)
    have A23 := Aside0.mk A230
    clear A230
    have H' := Aside0.mk H
    clear H
    obtain ⟨Ao24, co24, eo24⟩ := Kd.R_slice HO577.out
    subst eo24
    go_wp2_with (first | (go_at_call 41; (with_reducible refine (spec_PolyOk.calls k t568 _ _ t575 t599 _ ?side1 ?side2 A23.out).mono ?_); (case side1 => exact zC (Kd.R_reads' (zV gb598 2 (zV gb598 1 (zV gb598 0 (Kd.R_types HO577.out BK598.out (by decide)) (.slice Ao17 t588.length co17)) (.slice Ao20 t591.length co20)) (.slice Ao21 t594.length co21))).2.2); (case side2 => exact (Kd.R_reads' HO577.out).2.1); rintro e w' ⟨rfl, ⟨nd, rfl⟩⟩))
    go_meet
    case rel => exact ⟨_, (!t599), zF, H', ⟨by first | omega | exact Nat.le_refl _⟩, ⟨by (with_reducible repeat (first | apply Kd.R_alloc | apply Kd.R_drewN | apply Kd.R_drew)); exact Kd.R_mono (zV gb598 2 (zV gb598 1 (zV gb598 0 (Kd.R_types HO571.out BK598.out (by decide)) (.slice Ao17 t588.length co17)) (.slice Ao20 t591.length co20)) (.slice Ao21 t594.length co21)) (fun _ hk => ⟨hk.1.1.1.1.1, ⟨hk.1.1.1.1.2.1, ⟨hk.1.1.1.1.2.2.1, ⟨hk.1.1.1.1.2.2.2.1, ⟨hk.1.1.1.1.2.2.2.2, ⟨hk.1.1.1.2, ⟨hk.1.1.2, hk.1.2⟩⟩⟩⟩⟩⟩⟩)⟩, ⟨by (with_reducible repeat (first | apply Kd.R_alloc | apply Kd.R_drewN | apply Kd.R_drew)); exact Kd.R_mono (zV gb598 2 (zV gb598 1 (zV gb598 0 (Kd.R_types HO574.out BK598.out (by decide)) (.slice Ao17 t588.length co17)) (.slice Ao20 t591.length co20)) (.slice Ao21 t594.length co21)) (fun _ hk => ⟨hk.1.1.1.1.1, ⟨hk.1.1.1.1.2.1, ⟨hk.1.1.1.1.2.2.1, ⟨hk.1.1.1.1.2.2.2.1, ⟨hk.1.1.1.1.2.2.2.2, ⟨hk.1.1.1.2, ⟨hk.1.1.2, hk.1.2⟩⟩⟩⟩⟩⟩⟩)⟩, ⟨by (with_reducible repeat (first | apply Kd.R_alloc | apply Kd.R_drewN | apply Kd.R_drew)); exact Kd.R_mono (zV gb598 2 (zV gb598 1 (zV gb598 0 (Kd.R_types HO577.out BK598.out (by decide)) (.slice Ao17 t588.length co17)) (.slice Ao20 t591.length co20)) (.slice Ao21 t594.length co21)) (fun _ hk => ⟨hk.1.1.1.1.1, ⟨hk.1.1.1.1.2.1, ⟨hk.1.1.1.1.2.2.1, ⟨hk.1.1.1.1.2.2.2.1, ⟨hk.1.1.1.1.2.2.2.2, ⟨hk.1.1.1.2, ⟨hk.1.1.2, hk.1.2⟩⟩⟩⟩⟩⟩⟩)⟩, ⟨by (with_reducible repeat (first | apply Kd.R_alloc | apply Kd.R_drewN | apply Kd.R_drew)); exact Kd.R_mono (zV gb598 2 (zV gb598 1 (zV gb598 0 (Kd.R_types HO580.out BK598.out (by decide)) (.slice Ao17 t588.length co17)) (.slice Ao20 t591.length co20)) (.slice Ao21 t594.length co21)) (fun _ hk => ⟨hk.1.1.1.1.1, ⟨hk.1.1.1.1.2.1, ⟨hk.1.1.1.1.2.2.1, ⟨hk.1.1.1.1.2.2.2.1, ⟨hk.1.1.1.1.2.2.2.2, ⟨hk.1.1.1.2, ⟨hk.1.1.2, hk.1.2⟩⟩⟩⟩⟩⟩⟩)⟩, ⟨by (with_reducible repeat (first | apply Kd.R_alloc | apply Kd.R_drewN | apply Kd.R_drew)); exact Kd.R_mono (zV gb598 2 (zV gb598 1 (zV gb598 0 (Kd.R_types HO583.out BK598.out (by decide)) (.slice Ao17 t588.length co17)) (.slice Ao20 t591.length co20)) (.slice Ao21 t594.length co21)) (fun _ hk => ⟨hk.1.1.1.1.1, ⟨hk.1.1.1.1.2.1, ⟨hk.1.1.1.1.2.2.1, ⟨hk.1.1.1.1.2.2.2.1, ⟨hk.1.1.1.1.2.2.2.2, ⟨hk.1.1.1.2, ⟨hk.1.1.2, hk.1.2⟩⟩⟩⟩⟩⟩⟩)⟩, ⟨by (with_reducible repeat (first | apply Kd.R_alloc | apply Kd.R_drewN | apply Kd.R_drew)); exact Kd.R_mono (zV gb598 2 (zV gb598 1 (zV gb598 0 (Kd.R_types HO586.out BK598.out (by decide)) (.slice Ao17 t588.length co17)) (.slice Ao20 t591.length co20)) (.slice Ao21 t594.length co21)) (fun _ hk => ⟨hk.1.1.1.1.1, ⟨hk.1.1.1.1.2.1, ⟨hk.1.1.1.1.2.2.1, ⟨hk.1.1.1.1.2.2.2.1, ⟨hk.1.1.1.1.2.2.2.2, ⟨hk.1.1.1.2, ⟨hk.1.1.2, hk.1.2⟩⟩⟩⟩⟩⟩⟩)⟩, ⟨by (with_reducible repeat (first | apply Kd.R_alloc | apply Kd.R_drewN | apply Kd.R_drew)); exact Kd.R_mono (zV gb598 2 (zV gb598 1 (zV gb598 0 (Kd.R_types HO590.out BK598.out (by decide)) (.slice Ao17 t588.length co17)) (.slice Ao20 t591.length co20)) (.slice Ao21 t594.length co21)) (fun _ hk => ⟨hk.1.1.1.1.1.1.2, ⟨hk.1.1.1.1.1.2, ⟨hk.1.1.1.1.2, ⟨hk.1.1.1.2, ⟨hk.1.1.2, ⟨hk.1.2, ⟨hk.1.1.1.1.1.1.1.1, hk.1.1.1.1.1.1.1.2⟩⟩⟩⟩⟩⟩⟩)⟩, ⟨by (with_reducible repeat (first | apply Kd.R_alloc | apply Kd.R_drewN | apply Kd.R_drew)); exact Kd.R_mono (zV gb598 2 (zV gb598 1 (zV gb598 0 (Kd.R_types HO593.out BK598.out (by decide)) (.slice Ao17 t588.length co17)) (.slice Ao20 t591.length co20)) (.slice Ao21 t594.length co21)) (fun _ hk => ⟨hk.1.1.1.1.1.1.2, ⟨hk.1.1.1.1.1.2, ⟨hk.1.1.1.1.2, ⟨hk.1.1.1.2, ⟨hk.1.1.2, ⟨hk.1.2, ⟨hk.1.1.1.1.1.1.1.1, hk.1.1.1.1.1.1.1.2⟩⟩⟩⟩⟩⟩⟩)⟩, ⟨by (with_reducible repeat (first | apply Kd.R_alloc | apply Kd.R_drewN | apply Kd.R_drew)); exact Kd.R_mono (zV gb598 2 (zV gb598 1 (zV gb598 0 (Kd.R_types HO596.out BK598.out (by decide)) (.slice Ao17 t588.length co17)) (.slice Ao20 t591.length co20)) (.slice Ao21 t594.length co21)) (fun _ hk => ⟨hk.1.1.1.1.1.1.2, ⟨hk.1.1.1.1.1.2, ⟨hk.1.1.1.1.2, ⟨hk.1.1.1.2, ⟨hk.1.1.2, ⟨hk.1.2, ⟨hk.1.1.1.1.1.1.1.1, hk.1.1.1.1.1.1.1.2⟩⟩⟩⟩⟩⟩⟩)⟩, ⟨by (repeat refine zL ?_); refine blk_far ?_ NB587_598.out _; (repeat refine zL ?_); refine blk_far ?_ NB587_598.out _; (repeat refine zL ?_); refine blk_far ?_ NB587_598.out _; (repeat refine zL ?_); exact BK587.out⟩, ⟨by (repeat refine zL ?_); refine blk_put (cs := #[.slice Ao17 t588.length co17, .slice Ao20 t591.length co20, .slice none 0 0]) ?_ 2 _ rfl; (repeat refine zL ?_); refine blk_put (cs := #[.slice Ao17 t588.length co17, .slice none 0 0, .slice none 0 0]) ?_ 1 _ rfl; (repeat refine zL ?_); refine blk_put (cs := #[.slice none 0 0, .slice none 0 0, .slice none 0 0]) ?_ 0 _ rfl; (repeat refine zL ?_); exact BK598.out⟩, ⟨zH⟩⟩
   ·replace c22 := Bool.eq_false_iff.mpr c22
    subst c22
    rw [if_neg (show ¬ (false = true) by decide)] at H
    have H' := Aside0.mk H
    clear H
    go_wp2
    go_meet
    case rel => exact ⟨_, (true), zF, H', ⟨by first | omega | exact Nat.le_refl _⟩, ⟨by (with_reducible repeat (first | apply Kd.R_alloc | apply Kd.R_drewN | apply Kd.R_drew)); exact Kd.R_mono (zV gb598 2 (zV gb598 1 (zV gb598 0 (Kd.R_types HO571.out BK598.out (by decide)) (.slice Ao17 t588.length co17)) (.slice Ao20 t591.length co20)) (.slice Ao21 t594.length co21)) (fun _ hk => ⟨hk.1.1.1.1.1, ⟨hk.1.1.1.1.2.1, ⟨hk.1.1.1.1.2.2.1, ⟨hk.1.1.1.1.2.2.2.1, ⟨hk.1.1.1.1.2.2.2.2, ⟨hk.1.1.1.2, ⟨hk.1.1.2, hk.1.2⟩⟩⟩⟩⟩⟩⟩)⟩, ⟨by (with_reducible repeat (first | apply Kd.R_alloc | apply Kd.R_drewN | apply Kd.R_drew)); exact Kd.R_mono (zV gb598 2 (zV gb598 1 (zV gb598 0 (Kd.R_types HO574.out BK598.out (by decide)) (.slice Ao17 t588.length co17)) (.slice Ao20 t591.length co20)) (.slice Ao21 t594.length co21)) (fun _ hk => ⟨hk.1.1.1.1.1, ⟨hk.1.1.1.1.2.1, ⟨hk.1.1.1.1.2.2.1, ⟨hk.1.1.1.1.2.2.2.1, ⟨hk.1.1.1.1.2.2.2.2, ⟨hk.1.1.1.2, ⟨hk.1.1.2, hk.1.2⟩⟩⟩⟩⟩⟩⟩)⟩, ⟨by (with_reducible repeat (first | apply Kd.R_alloc | apply Kd.R_drewN | apply Kd.R_drew)); exact Kd.R_mono (zV gb598 2 (zV gb598 1 (zV gb598 0 (Kd.R_types HO577.out BK598.out (by decide)) (.slice Ao17 t588.length co17)) (.slice Ao20 t591.length co20)) (.slice Ao21 t594.length co21)) (fun _ hk => ⟨hk.1.1.1.1.1, ⟨hk.1.1.1.1.2.1, ⟨hk.1.1.1.1.2.2.1, ⟨hk.1.1.1.1.2.2.2.1, ⟨hk.1.1.1.1.2.2.2.2, ⟨hk.1.1.1.2, ⟨hk.1.1.2, hk.1.2⟩⟩⟩⟩⟩⟩⟩)⟩, ⟨by (with_reducible repeat (first | apply Kd.R_alloc | apply Kd.R_drewN | apply Kd.R_drew)); exact Kd.R_mono (zV gb598 2 (zV gb598 1 (zV gb598 0 (Kd.R_types HO580.out BK598.out (by decide)) (.slice Ao17 t588.length co17)) (.slice Ao20 t591.length co20)) (.slice Ao21 t594.length co21)) (fun _ hk => ⟨hk.1.1.1.1.1, ⟨hk.1.1.1.1.2.1, ⟨hk.1.1.1.1.2.2.1, ⟨hk.1.1.1.1.2.2.2.1, ⟨hk.1.1.1.1.2.2.2.2, ⟨hk.1.1.1.2, ⟨hk.1.1.2, hk.1.2⟩⟩⟩⟩⟩⟩⟩)⟩, ⟨by (with_reducible repeat (first | apply Kd.R_alloc | apply Kd.R_drewN | apply Kd.R_drew)); exact Kd.R_mono (zV gb598 2 (zV gb598 1 (zV gb598 0 (Kd.R_types HO583.out BK598.out (by decide)) (.slice Ao17 t588.length co17)) (.slice Ao20 t591.length co20)) (.slice Ao21 t594.length co21)) (fun _ hk => ⟨hk.1.1.1.1.1, ⟨hk.1.1.1.1.2.1, ⟨hk.1.1.1.1.2.2.1, ⟨hk.1.1.1.1.2.2.2.1, ⟨hk.1.1.1.1.2.2.2.2, ⟨hk.1.1.1.2, ⟨hk.1.1.2, hk.1.2⟩⟩⟩⟩⟩⟩⟩)⟩, ⟨by (with_reducible repeat (first | apply Kd.R_alloc | apply Kd.R_drewN | apply Kd.R_drew)); exact Kd.R_mono (zV gb598 2 (zV gb598 1 (zV gb598 0 (Kd.R_types HO586.out BK598.out (by decide)) (.slice Ao17 t588.length co17)) (.slice Ao20 t591.length co20)) (.slice Ao21 t594.length co21)) (fun _ hk => ⟨hk.1.1.1.1.1, ⟨hk.1.1.1.1.2.1, ⟨hk.1.1.1.1.2.2.1, ⟨hk.1.1.1.1.2.2.2.1, ⟨hk.1.1.1.1.2.2.2.2, ⟨hk.1.1.1.2, ⟨hk.1.1.2, hk.1.2⟩⟩⟩⟩⟩⟩⟩)⟩, ⟨by (with_reducible repeat (first | apply Kd.R_alloc | apply Kd.R_drewN | apply Kd.R_drew)); exact Kd.R_mono (zV gb598 2 (zV gb598 1 (zV gb598 0 (Kd.R_types HO590.out BK598.out (by decide)) (.slice Ao17 t588.length co17)) (.slice Ao20 t591.length co20)) (.slice Ao21 t594.length co21)) (fun _ hk => ⟨hk.1.1.1.1.1.1.2, ⟨hk.1.1.1.1.1.2, ⟨hk.1.1.1.1.2, ⟨hk.1.1.1.2, ⟨hk.1.1.2, ⟨hk.1.2, ⟨hk.1.1.1.1.1.1.1.1, hk.1.1.1.1.1.1.1.2⟩⟩⟩⟩⟩⟩⟩)⟩, ⟨by (with_reducible repeat (first | apply Kd.R_alloc | apply Kd.R_drewN | apply Kd.R_drew)); exact Kd.R_mono (zV gb598 2 (zV gb598 1 (zV gb598 0 (Kd.R_types HO593.out BK598.out (by decide)) (.slice Ao17 t588.length co17)) (.slice Ao20 t591.length co20)) (.slice Ao21 t594.length co21)) (fun _ hk => ⟨hk.1.1.1.1.1.1.2, ⟨hk.1.1.1.1.1.2, ⟨hk.1.1.1.1.2, ⟨hk.1.1.1.2, ⟨hk.1.1.2, ⟨hk.1.2, ⟨hk.1.1.1.1.1.1.1.1, hk.1.1.1.1.1.1.1.2⟩⟩⟩⟩⟩⟩⟩)⟩, ⟨by (with_reducible repeat (first | apply Kd.R_alloc | apply Kd.R_drewN | apply Kd.R_drew)); exact Kd.R_mono (zV gb598 2 (zV gb598 1 (zV gb598 0 (Kd.R_types HO596.out BK598.out (by decide)) (.slice Ao17 t588.length co17)) (.slice Ao20 t591.length co20)) (.slice Ao21 t594.length co21)) (fun _ hk => ⟨hk.1.1.1.1.1.1.2, ⟨hk.1.1.1.1.1.2, ⟨hk.1.1.1.1.2, ⟨hk.1.1.1.2, ⟨hk.1.1.2, ⟨hk.1.2, ⟨hk.1.1.1.1.1.1.1.1, hk.1.1.1.1.1.1.1.2⟩⟩⟩⟩⟩⟩⟩)⟩, ⟨by (repeat refine zL ?_); refine blk_far ?_ NB587_598.out _; (repeat refine zL ?_); refine blk_far ?_ NB587_598.out _; (repeat refine zL ?_); refine blk_far ?_ NB587_598.out _; (repeat refine zL ?_); exact BK587.out⟩, ⟨by (repeat refine zL ?_); refine blk_put (cs := #[.slice Ao17 t588.length co17, .slice Ao20 t591.length co20, .slice none 0 0]) ?_ 2 _ rfl; (repeat refine zL ?_); refine blk_put (cs := #[.slice Ao17 t588.length co17, .slice none 0 0, .slice none 0 0]) ?_ 1 _ rfl; (repeat refine zL ?_); refine blk_put (cs := #[.slice none 0 0, .slice none 0 0, .slice none 0 0]) ?_ 0 _ rfl; (repeat refine zL ?_); exact BK598.out⟩, ⟨zH⟩⟩
  case rest =>
   clear HC6
   skip
   obtain ⟨kq, x38_5, rfl, HA, HJ5, HO_4, HO_5, HO_6, HO_588000, HO_588001, HO_588002, HO_599000, HO_599001, HO_599002, BK587, BK598, HB⟩ := hcut
   cases kq with
   | zero => exact absurd HA.out (by simp [laws_FnCertTrue.j0])
   | succ kj5 =>
    have H := HA.out
    clear HA
    simp only [laws_FnCertTrue.j0] at H
    by_cases c25 : x38_5 = true
    ·subst c25
     rw [if_pos rfl] at H
     obtain rfl := Option.some.inj H
     go_wp2
     go_ret
     exact ⟨zE, zH⟩
    ·replace c25 := Bool.eq_false_iff.mpr c25
     subst c25
     rw [if_neg (show ¬ (false = true) by decide)] at H
     replace H := Option.bind_eq_some_iff.mp H
     obtain ⟨t600, A260, H⟩ := H
     (try dsimp -zeta -simprocs only at H)
     have A26 := Aside0.mk A260
     clear A260
     replace H := Option.bind_eq_some_iff.mp H
     obtain ⟨t603, A270, H⟩ := H
     (try dsimp -zeta -simprocs only at H)
     have A27 := Aside0.mk A270
     clear A270
     replace H := Option.bind_eq_some_iff.mp H
     obtain ⟨⟨t606, t609, t612, t615⟩, A280, H⟩ := H
     (try dsimp -zeta -simprocs only at H)
     have A28 := Aside0.mk A280
     clear A280
     replace H := Option.bind_eq_some_iff.mp H
     obtain ⟨⟨t617, t618⟩, A290, H⟩ := H
     (try dsimp -zeta -simprocs only at H)
     have A29 := Aside0.mk A290
     clear A290
     have HC30 := Aside0.mk H
     clear H
     go_upto_region 9 with (first | ((with_reducible refine gate_callee (f := 37) rfl ?_); refine goesL_ (some 42) rfl rfl Try.func37 (by kernel_rfl) rfl #[.slice Ao13 t569.length co13] rfl zM ?_; (with_reducible refine (laws_cp.calls kj5 _ _ t569 t600 _ ?side1 ?side2 A26.out).mono ?_); (case side1 => exact zC ((Kd.R_reads' HO_4.out).2.2)); (case side2 => exact (Kd.R_reads' HO_4.out).2.1); rintro e w31 ⟨v601, rfl, ho0, hb⟩; refine ⟨_, rfl, ?_⟩; have HO602 := zA (Kd.R_lower (zn (Kd.R_new' (zn (Kd.R_new' (zn (Kd.R_new' (zn (Kd.R_new' (zn ho0 HO_4.out) (Kd.R_lt (zR HO_5.out))) HO_6.out) (Kd.R_lt (zR HO_588000.out))) HO_588001.out) (Kd.R_lt (zR HO_588002.out))) HO_599000.out) (Kd.R_lt (zR HO_599001.out))) HO_599002.out) (below_size zH)); replace HO_4 := z2 HO_4.out ho0 hb; replace HO_5 := z2 HO_5.out ho0 hb; replace HO_6 := z2 HO_6.out ho0 hb; replace HO_588000 := z2 HO_588000.out ho0 hb; replace HO_588001 := z2 HO_588001.out ho0 hb; replace HO_588002 := z2 HO_588002.out ho0 hb; replace HO_599000 := z2 HO_599000.out ho0 hb; replace HO_599001 := z2 HO_599001.out ho0 hb; replace HO_599002 := z2 HO_599002.out ho0 hb; replace BK587 := zb BK587.out hb; replace BK598 := zb BK598.out hb; replace HB := zA (below_step zH hb); (try clear hb ho0)) | ((with_reducible refine gate_callee (f := 37) rfl ?_); refine goesL_ (some 44) rfl rfl Try.func37 (by kernel_rfl) rfl #[.slice Ao14 t572.length co14] rfl zM ?_; (with_reducible refine (laws_cp.calls kj5 _ _ t572 t603 _ ?side1 ?side2 A27.out).mono ?_); (case side1 => exact zC ((Kd.R_reads' HO_5.out).2.2)); (case side2 => exact (Kd.R_reads' HO_5.out).2.1); rintro e w32 ⟨v604, rfl, ho0, hb⟩; refine ⟨_, rfl, ?_⟩; have HO605 := zA (Kd.R_lower (zn (Kd.R_new' (zn (Kd.R_new' (zn (Kd.R_new' (zn (Kd.R_new' (zn (Kd.R_new' ho0 (Kd.R_lt (zR HO_4.out))) HO_5.out) (Kd.R_lt (zR HO_6.out))) HO_588000.out) (Kd.R_lt (zR HO_588001.out))) HO_588002.out) (Kd.R_lt (zR HO_599000.out))) HO_599001.out) (Kd.R_lt (zR HO_599002.out))) HO602.out) (below_size zH)); replace HO_4 := z2 HO_4.out ho0 hb; replace HO_5 := z2 HO_5.out ho0 hb; replace HO_6 := z2 HO_6.out ho0 hb; replace HO_588000 := z2 HO_588000.out ho0 hb; replace HO_588001 := z2 HO_588001.out ho0 hb; replace HO_588002 := z2 HO_588002.out ho0 hb; replace HO_599000 := z2 HO_599000.out ho0 hb; replace HO_599001 := z2 HO_599001.out ho0 hb; replace HO_599002 := z2 HO_599002.out ho0 hb; replace HO602 := z2 HO602.out ho0 hb; replace BK587 := zb BK587.out hb; replace BK598 := zb BK598.out hb; replace HB := zA (below_step zH hb); (try clear hb ho0); obtain ⟨Ao33, co33, eo33⟩ := Kd.R_slice HO602.out; subst eo33; obtain ⟨Ao34, co34, eo34⟩ := Kd.R_slice HO605.out; subst eo34) | ((with_reducible refine gate_callee (f := 18) rfl ?_); refine goesL_ (some 45) rfl rfl Try.func18 (by kernel_rfl) rfl #[.int .i64 t568, .slice Ao33 t600.length co33, .slice Ao34 t603.length co34] rfl zM ?_; (with_reducible refine (impl_MakeCert.calls kj5 t568 (fun k_ => some k_ = (.slice Ao33 t600.length co33 : Value).ownBlock) _ _ t600 (fun k_ => some k_ = (.slice Ao34 t603.length co34 : Value).ownBlock) _ _ t603 t606 t609 t612 t615 _ ?side1 ?side2 A28.out).mono ?_); (case side1 => exact Kd.R_V (Kd.R_tight rfl (Kd.R_types (Kd.R_types (HO602.out) BK587.out (by decide)) BK598.out (by decide)))); (case side2 => exact Kd.R_V (Kd.R_tight rfl (Kd.R_types (Kd.R_types (HO605.out) BK587.out (by decide)) BK598.out (by decide)))); rintro e w35 ⟨v607, v610, v613, rfl, ho0, ho1, ho2, hb⟩; refine ⟨_, rfl, ?_⟩; have HO608 := Aside0.mk (Kd.R_lower (zn (Kd.R_new' (zn (Kd.R_new' (zn (Kd.R_new' (zn (Kd.R_new' (zn (Kd.R_new' (zn (Kd.R_mono (ok' := fun k_ => some k_ ≠ (v610 : Value).ownBlock ∧ some k_ ≠ (v613 : Value).ownBlock) ho0 (fun _ hk_ => hk_.2)) HO_4.out) (Kd.R_lt (zR HO_5.out))) HO_6.out) (Kd.R_lt (zR HO_588000.out))) HO_588001.out) (Kd.R_lt (zR HO_588002.out))) HO_599000.out) (Kd.R_lt (zR HO_599001.out))) HO_599002.out) (Kd.R_lt (zR HO602.out))) HO605.out) (below_size zH)); have HO611 := Aside0.mk (Kd.R_lower (zn (Kd.R_new' (zn (Kd.R_new' (zn (Kd.R_new' (zn (Kd.R_new' (zn (Kd.R_new' (zn (Kd.R_mono (ok' := fun k_ => some k_ ≠ (v607 : Value).ownBlock ∧ some k_ ≠ (v613 : Value).ownBlock) ho1 (fun _ hk_ => hk_.2)) HO_4.out) (Kd.R_lt (zR HO_5.out))) HO_6.out) (Kd.R_lt (zR HO_588000.out))) HO_588001.out) (Kd.R_lt (zR HO_588002.out))) HO_599000.out) (Kd.R_lt (zR HO_599001.out))) HO_599002.out) (Kd.R_lt (zR HO602.out))) HO605.out) (below_size zH)); have HO614 := Aside0.mk (Kd.R_lower (zn (Kd.R_new' (zn (Kd.R_new' (zn (Kd.R_new' (zn (Kd.R_new' (zn (Kd.R_new' (zn (Kd.R_mono (ok' := fun k_ => some k_ ≠ (v607 : Value).ownBlock ∧ some k_ ≠ (v610 : Value).ownBlock) ho2 (fun _ hk_ => hk_.2)) HO_4.out) (Kd.R_lt (zR HO_5.out))) HO_6.out) (Kd.R_lt (zR HO_588000.out))) HO_588001.out) (Kd.R_lt (zR HO_588002.out))) HO_599000.out) (Kd.R_lt (zR HO_599001.out))) HO_599002.out) (Kd.R_lt (zR HO602.out))) HO605.out) (below_size zH)); replace HO_4 := zA (Kd.R_mono (Kd.R_told (Kd.R_told (Kd.R_told (Kd.R_old (zR HO_4.out) hb) (Kd.R_base ho0)) (Kd.R_base ho1)) (Kd.R_base ho2)) (fun _ h_ => h_.1)); replace HO_5 := zA (Kd.R_mono (Kd.R_told (Kd.R_told (Kd.R_told (Kd.R_old (zR HO_5.out) hb) (Kd.R_base ho0)) (Kd.R_base ho1)) (Kd.R_base ho2)) (fun _ h_ => h_.1)); replace HO_6 := zA (Kd.R_mono (Kd.R_told (Kd.R_told (Kd.R_told (Kd.R_old (zR HO_6.out) hb) (Kd.R_base ho0)) (Kd.R_base ho1)) (Kd.R_base ho2)) (fun _ h_ => h_.1)); replace HO_588000 := zA (Kd.R_mono (Kd.R_told (Kd.R_told (Kd.R_told (Kd.R_old (zR HO_588000.out) hb) (Kd.R_base ho0)) (Kd.R_base ho1)) (Kd.R_base ho2)) (fun _ h_ => h_.1)); replace HO_588001 := zA (Kd.R_mono (Kd.R_told (Kd.R_told (Kd.R_told (Kd.R_old (zR HO_588001.out) hb) (Kd.R_base ho0)) (Kd.R_base ho1)) (Kd.R_base ho2)) (fun _ h_ => h_.1)); replace HO_588002 := zA (Kd.R_mono (Kd.R_told (Kd.R_told (Kd.R_told (Kd.R_old (zR HO_588002.out) hb) (Kd.R_base ho0)) (Kd.R_base ho1)) (Kd.R_base ho2)) (fun _ h_ => h_.1)); replace HO_599000 := zA (Kd.R_mono (Kd.R_told (Kd.R_told (Kd.R_told (Kd.R_old (zR HO_599000.out) hb) (Kd.R_base ho0)) (Kd.R_base ho1)) (Kd.R_base ho2)) (fun _ h_ => h_.1)); replace HO_599001 := zA (Kd.R_mono (Kd.R_told (Kd.R_told (Kd.R_told (Kd.R_old (zR HO_599001.out) hb) (Kd.R_base ho0)) (Kd.R_base ho1)) (Kd.R_base ho2)) (fun _ h_ => h_.1)); replace HO_599002 := zA (Kd.R_mono (Kd.R_told (Kd.R_told (Kd.R_told (Kd.R_old (zR HO_599002.out) hb) (Kd.R_base ho0)) (Kd.R_base ho1)) (Kd.R_base ho2)) (fun _ h_ => h_.1)); replace HO602 := zA (Kd.R_mono (Kd.R_told (Kd.R_told (Kd.R_told (Kd.R_old (zR HO602.out) hb) (Kd.R_base ho0)) (Kd.R_base ho1)) (Kd.R_base ho2)) (fun _ h_ => h_.1)); replace HO605 := zA (Kd.R_mono (Kd.R_told (Kd.R_told (Kd.R_told (Kd.R_old (zR HO605.out) hb) (Kd.R_base ho0)) (Kd.R_base ho1)) (Kd.R_base ho2)) (fun _ h_ => h_.1)); replace BK587 := zb BK587.out hb; replace BK598 := zb BK598.out hb; replace HB := zA (below_step zH hb); (try clear hb ho0 ho1 ho2)) | ((with_reducible refine gate_dst (N := 10) rfl ?_); refine box_event ?hg (N := 10) ?hd (cs := #[.slice none 0 0, .slice none 0 0, .slice none 0 0]) (t := 27) ?hr ?_; (case hd => rfl); (case hg => rfl); (case hr => first | (go_simp; done) | (go_simp; rfl)); intro gb616 hg w36 hbox hb; replace HO_4 := zA (Kd.R_below (zR HO_4.out) hb); replace HO_5 := zA (Kd.R_below (zR HO_5.out) hb); replace HO_6 := zA (Kd.R_below (zR HO_6.out) hb); replace HO_588000 := zA (Kd.R_below (zR HO_588000.out) hb); replace HO_588001 := zA (Kd.R_below (zR HO_588001.out) hb); replace HO_588002 := zA (Kd.R_below (zR HO_588002.out) hb); replace HO_599000 := zA (Kd.R_below (zR HO_599000.out) hb); replace HO_599001 := zA (Kd.R_below (zR HO_599001.out) hb); replace HO_599002 := zA (Kd.R_below (zR HO_599002.out) hb); replace HO602 := zA (Kd.R_below (zR HO602.out) hb); replace HO605 := zA (Kd.R_below (zR HO605.out) hb); replace HO608 := zA (Kd.R_below (zR HO608.out) hb); replace HO611 := zA (Kd.R_below (zR HO611.out) hb); replace HO614 := zA (Kd.R_below (zR HO614.out) hb); have BK616 := zA (hbox); have GW616 := zA ((by rw [hg]; exact (below_size zH) : w.heap.size ≤ gb616)); have GE616 := zA ((by rw [hg]; exact (below_size zH) : w.heap.size ≤ gb616)); replace HB := zA (below_step zH hb); have NB587_616 := Aside0.mk ((by rw [hg]; exact Nat.ne_of_lt (blk_lt (g := gb587) (o := .cells #[.slice Ao9 t578.length co9, .slice Ao11 t581.length co11, .slice Ao12 t584.length co12] 27 (0, 0)) (zB BK587.out)) : gb587 ≠ gb616)); have NB616_587 := Aside0.mk ((by rw [hg]; exact Nat.ne_of_gt (blk_lt (g := gb587) (o := .cells #[.slice Ao9 t578.length co9, .slice Ao11 t581.length co11, .slice Ao12 t584.length co12] 27 (0, 0)) (zB BK587.out)) : gb616 ≠ gb587)); replace BK587 := zb BK587.out hb; have NB598_616 := Aside0.mk ((by rw [hg]; exact Nat.ne_of_lt (blk_lt (g := gb598) (o := .cells #[.slice Ao17 t588.length co17, .slice Ao20 t591.length co20, .slice Ao21 t594.length co21] 27 (0, 0)) (zB BK598.out)) : gb598 ≠ gb616)); have NB616_598 := Aside0.mk ((by rw [hg]; exact Nat.ne_of_gt (blk_lt (g := gb598) (o := .cells #[.slice Ao17 t588.length co17, .slice Ao20 t591.length co20, .slice Ao21 t594.length co21] 27 (0, 0)) (zB BK598.out)) : gb616 ≠ gb598)); replace BK598 := zb BK598.out hb; clear hb hbox hg; obtain ⟨Ao37, co37, eo37⟩ := Kd.R_slice HO608.out; subst eo37; have hnb38 := NB616_587.out; have hnc38 := NB587_616.out; have hnb39 := NB616_598.out; have hnc39 := NB598_616.out; obtain ⟨hcz40_0, hcz40_1, hcz40_2⟩ := zc3 BK616.out; obtain ⟨hfz40_0, hfz40_1, hfz40_2, _, _⟩ := zf BK616.out; obtain ⟨Ao41, co41, eo41⟩ := Kd.R_slice HO611.out; subst eo41; obtain ⟨Ao42, co42, eo42⟩ := Kd.R_slice HO614.out; subst eo42) | ((with_reducible refine gate_callee (f := 42) rfl ?_); refine goesL_ (some 52) rfl rfl Try.func42 (by kernel_rfl) rfl #[.int .i64 t568, .slice Ao13 t569.length co13, .slice Ao14 t572.length co14] rfl zM ?_; (with_reducible refine (spec_MulPoly.calls kj5 t568 _ _ t569 _ _ t572 t617 t618 _ ?side1 ?side2 ?side3 ?side4 A29.out).mono ?_); (case side1 => exact zC (Kd.R_reads' (zV gb616 2 (zV gb616 1 (zV gb616 0 (Kd.R_types HO_4.out BK616.out (by decide)) (.slice Ao37 t606.length co37)) (.slice Ao41 t609.length co41)) (.slice Ao42 t612.length co42))).2.2); (case side2 => exact (Kd.R_reads' HO_4.out).2.1); (case side3 => exact zC (Kd.R_reads' (zV gb616 2 (zV gb616 1 (zV gb616 0 (Kd.R_types HO_5.out BK616.out (by decide)) (.slice Ao37 t606.length co37)) (.slice Ao41 t609.length co41)) (.slice Ao42 t612.length co42))).2.2); (case side4 => exact (Kd.R_reads' HO_5.out).2.1); rintro e w43 ⟨v619, rfl, ho0, hb⟩; refine ⟨_, rfl, ?_⟩; have HO620 := zA (Kd.R_lower (Kd.R_new' (Kd.R_new' (Kd.R_new' (Kd.R_new' (Kd.R_new' (Kd.R_new' (Kd.R_new' (Kd.R_new' (Kd.R_new' (Kd.R_new' (Kd.R_new' (Kd.R_new' (Kd.R_new' (Kd.R_new' ho0 (Kd.R_lt (zW3 HO_4.out BK616.out))) (Kd.R_lt (zW3 HO_5.out BK616.out))) (Kd.R_lt (zW3 HO_6.out BK616.out))) (Kd.R_lt (zW3 HO_588000.out BK616.out))) (Kd.R_lt (zW3 HO_588001.out BK616.out))) (Kd.R_lt (zW3 HO_588002.out BK616.out))) (Kd.R_lt (zW3 HO_599000.out BK616.out))) (Kd.R_lt (zW3 HO_599001.out BK616.out))) (Kd.R_lt (zW3 HO_599002.out BK616.out))) (Kd.R_lt (zW3 HO602.out BK616.out))) (Kd.R_lt (zW3 HO605.out BK616.out))) (Kd.R_lt (zW3 HO608.out BK616.out))) (Kd.R_lt (zW3 HO611.out BK616.out))) (Kd.R_lt (zW3 HO614.out BK616.out))) (below_size zH)); replace HO_4 := zA (Kd.R_elder' (zW3 HO_4.out BK616.out) (Kd.R_base ho0) hb); replace HO_5 := zA (Kd.R_elder' (zW3 HO_5.out BK616.out) (Kd.R_base ho0) hb); replace HO_6 := zA (Kd.R_elder' (zW3 HO_6.out BK616.out) (Kd.R_base ho0) hb); replace HO_588000 := zA (Kd.R_elder' (zW3 HO_588000.out BK616.out) (Kd.R_base ho0) hb); replace HO_588001 := zA (Kd.R_elder' (zW3 HO_588001.out BK616.out) (Kd.R_base ho0) hb); replace HO_588002 := zA (Kd.R_elder' (zW3 HO_588002.out BK616.out) (Kd.R_base ho0) hb); replace HO_599000 := zA (Kd.R_elder' (zW3 HO_599000.out BK616.out) (Kd.R_base ho0) hb); replace HO_599001 := zA (Kd.R_elder' (zW3 HO_599001.out BK616.out) (Kd.R_base ho0) hb); replace HO_599002 := zA (Kd.R_elder' (zW3 HO_599002.out BK616.out) (Kd.R_base ho0) hb); replace HO602 := zA (Kd.R_elder' (zW3 HO602.out BK616.out) (Kd.R_base ho0) hb); replace HO605 := zA (Kd.R_elder' (zW3 HO605.out BK616.out) (Kd.R_base ho0) hb); replace HO608 := zA (Kd.R_elder' (zW3 HO608.out BK616.out) (Kd.R_base ho0) hb); replace HO611 := zA (Kd.R_elder' (zW3 HO611.out BK616.out) (Kd.R_base ho0) hb); replace HO614 := zA (Kd.R_elder' (zW3 HO614.out BK616.out) (Kd.R_base ho0) hb); replace BK587 := Aside0.mk (blk_below (g := gb587) (o := .cells #[.slice Ao9 t578.length co9, .slice Ao11 t581.length co11, .slice Ao12 t584.length co12] 27 (0, 0)) (by (repeat refine zL ?_); refine blk_far ?_ NB587_616.out _; (repeat refine zL ?_); refine blk_far ?_ NB587_616.out _; (repeat refine zL ?_); refine blk_far ?_ NB587_616.out _; (repeat refine zL ?_); exact BK587.out) hb); replace BK598 := Aside0.mk (blk_below (g := gb598) (o := .cells #[.slice Ao17 t588.length co17, .slice Ao20 t591.length co20, .slice Ao21 t594.length co21] 27 (0, 0)) (by (repeat refine zL ?_); refine blk_far ?_ NB598_616.out _; (repeat refine zL ?_); refine blk_far ?_ NB598_616.out _; (repeat refine zL ?_); refine blk_far ?_ NB598_616.out _; (repeat refine zL ?_); exact BK598.out) hb); replace BK616 := Aside0.mk (blk_below (g := gb616) (o := .cells #[.slice Ao37 t606.length co37, .slice Ao41 t609.length co41, .slice Ao42 t612.length co42] 27 (0, 0)) (by (repeat refine zL ?_); refine blk_put (cs := #[.slice Ao37 t606.length co37, .slice Ao41 t609.length co41, .slice none 0 0]) ?_ 2 _ rfl; (repeat refine zL ?_); refine blk_put (cs := #[.slice Ao37 t606.length co37, .slice none 0 0, .slice none 0 0]) ?_ 1 _ rfl; (repeat refine zL ?_); refine blk_put (cs := #[.slice none 0 0, .slice none 0 0, .slice none 0 0]) ?_ 0 _ rfl; (repeat refine zL ?_); exact BK616.out) hb); replace HB := zA (below_step zH hb); (try clear hb ho0)))
     (try simp only [Act.put, List.setIfInBounds_toArray, List.set_cons_zero, List.set_cons_succ])
     go_cut [76] (fun v76 wc => ∃ (kq : Nat) (x76_29 : Bool), v76 = .bool x76_29 ∧ Aside0 (laws_FnCertTrue.j1 kq t568 t569 t572 t575 t617 x76_29 t606 t609 t612 = some r) ∧ Aside0 (kq ≤ kj5) ∧ Aside0 (Kd.R (Kd.int .i64) 3 wc w.heap.size (fun k_ => some k_ ≠ ((.slice Ao14 t572.length co14) : Value).ownBlock ∧ some k_ ≠ (v576 : Value).ownBlock ∧ some k_ ≠ (v619 : Value).ownBlock ∧ some k_ ≠ ((.slice Ao9 t578.length co9) : Value).ownBlock ∧ some k_ ≠ ((.slice Ao11 t581.length co11) : Value).ownBlock ∧ some k_ ≠ ((.slice Ao12 t584.length co12) : Value).ownBlock ∧ some k_ ≠ ((.slice Ao17 t588.length co17) : Value).ownBlock ∧ some k_ ≠ ((.slice Ao20 t591.length co20) : Value).ownBlock ∧ some k_ ≠ ((.slice Ao21 t594.length co21) : Value).ownBlock ∧ some k_ ≠ ((.slice Ao37 t606.length co37) : Value).ownBlock ∧ some k_ ≠ ((.slice Ao41 t609.length co41) : Value).ownBlock ∧ some k_ ≠ ((.slice Ao42 t612.length co42) : Value).ownBlock) (.slice Ao13 t569.length co13) t569) ∧ Aside0 (Kd.R (Kd.int .i64) 3 wc w.heap.size (fun k_ => some k_ ≠ ((.slice Ao13 t569.length co13) : Value).ownBlock ∧ some k_ ≠ (v576 : Value).ownBlock ∧ some k_ ≠ (v619 : Value).ownBlock ∧ some k_ ≠ ((.slice Ao9 t578.length co9) : Value).ownBlock ∧ some k_ ≠ ((.slice Ao11 t581.length co11) : Value).ownBlock ∧ some k_ ≠ ((.slice Ao12 t584.length co12) : Value).ownBlock ∧ some k_ ≠ ((.slice Ao17 t588.length co17) : Value).ownBlock ∧ some k_ ≠ ((.slice Ao20 t591.length co20) : Value).ownBlock ∧ some k_ ≠ ((.slice Ao21 t594.length co21) : Value).ownBlock ∧ some k_ ≠ ((.slice Ao37 t606.length co37) : Value).ownBlock ∧ some k_ ≠ ((.slice Ao41 t609.length co41) : Value).ownBlock ∧ some k_ ≠ ((.slice Ao42 t612.length co42) : Value).ownBlock) (.slice Ao14 t572.length co14) t572) ∧ Aside0 (Kd.R (Kd.int .i64) 3 wc w.heap.size (fun k_ => some k_ ≠ ((.slice Ao13 t569.length co13) : Value).ownBlock ∧ some k_ ≠ ((.slice Ao14 t572.length co14) : Value).ownBlock ∧ some k_ ≠ (v619 : Value).ownBlock ∧ some k_ ≠ ((.slice Ao9 t578.length co9) : Value).ownBlock ∧ some k_ ≠ ((.slice Ao11 t581.length co11) : Value).ownBlock ∧ some k_ ≠ ((.slice Ao12 t584.length co12) : Value).ownBlock ∧ some k_ ≠ ((.slice Ao17 t588.length co17) : Value).ownBlock ∧ some k_ ≠ ((.slice Ao20 t591.length co20) : Value).ownBlock ∧ some k_ ≠ ((.slice Ao21 t594.length co21) : Value).ownBlock ∧ some k_ ≠ ((.slice Ao37 t606.length co37) : Value).ownBlock ∧ some k_ ≠ ((.slice Ao41 t609.length co41) : Value).ownBlock ∧ some k_ ≠ ((.slice Ao42 t612.length co42) : Value).ownBlock) v576 t575) ∧ Aside0 (Kd.R (Kd.int .i64) 3 wc w.heap.size (fun k_ => some k_ ≠ ((.slice Ao13 t569.length co13) : Value).ownBlock ∧ some k_ ≠ ((.slice Ao14 t572.length co14) : Value).ownBlock ∧ some k_ ≠ (v576 : Value).ownBlock ∧ some k_ ≠ ((.slice Ao9 t578.length co9) : Value).ownBlock ∧ some k_ ≠ ((.slice Ao11 t581.length co11) : Value).ownBlock ∧ some k_ ≠ ((.slice Ao12 t584.length co12) : Value).ownBlock ∧ some k_ ≠ ((.slice Ao17 t588.length co17) : Value).ownBlock ∧ some k_ ≠ ((.slice Ao20 t591.length co20) : Value).ownBlock ∧ some k_ ≠ ((.slice Ao21 t594.length co21) : Value).ownBlock ∧ some k_ ≠ ((.slice Ao37 t606.length co37) : Value).ownBlock ∧ some k_ ≠ ((.slice Ao41 t609.length co41) : Value).ownBlock ∧ some k_ ≠ ((.slice Ao42 t612.length co42) : Value).ownBlock) v619 t617) ∧ Aside0 (Kd.R (Kd.int .i64) 3 wc w.heap.size (fun k_ => some k_ ≠ ((.slice Ao13 t569.length co13) : Value).ownBlock ∧ some k_ ≠ ((.slice Ao14 t572.length co14) : Value).ownBlock ∧ some k_ ≠ (v576 : Value).ownBlock ∧ some k_ ≠ (v619 : Value).ownBlock ∧ some k_ ≠ ((.slice Ao11 t581.length co11) : Value).ownBlock ∧ some k_ ≠ ((.slice Ao12 t584.length co12) : Value).ownBlock ∧ some k_ ≠ ((.slice Ao17 t588.length co17) : Value).ownBlock ∧ some k_ ≠ ((.slice Ao20 t591.length co20) : Value).ownBlock ∧ some k_ ≠ ((.slice Ao21 t594.length co21) : Value).ownBlock ∧ some k_ ≠ ((.slice Ao37 t606.length co37) : Value).ownBlock ∧ some k_ ≠ ((.slice Ao41 t609.length co41) : Value).ownBlock ∧ some k_ ≠ ((.slice Ao42 t612.length co42) : Value).ownBlock) (.slice Ao9 t578.length co9) t578) ∧ Aside0 (Kd.R (Kd.int .i64) 3 wc w.heap.size (fun k_ => some k_ ≠ ((.slice Ao13 t569.length co13) : Value).ownBlock ∧ some k_ ≠ ((.slice Ao14 t572.length co14) : Value).ownBlock ∧ some k_ ≠ (v576 : Value).ownBlock ∧ some k_ ≠ (v619 : Value).ownBlock ∧ some k_ ≠ ((.slice Ao9 t578.length co9) : Value).ownBlock ∧ some k_ ≠ ((.slice Ao12 t584.length co12) : Value).ownBlock ∧ some k_ ≠ ((.slice Ao17 t588.length co17) : Value).ownBlock ∧ some k_ ≠ ((.slice Ao20 t591.length co20) : Value).ownBlock ∧ some k_ ≠ ((.slice Ao21 t594.length co21) : Value).ownBlock ∧ some k_ ≠ ((.slice Ao37 t606.length co37) : Value).ownBlock ∧ some k_ ≠ ((.slice Ao41 t609.length co41) : Value).ownBlock ∧ some k_ ≠ ((.slice Ao42 t612.length co42) : Value).ownBlock) (.slice Ao11 t581.length co11) t581) ∧ Aside0 (Kd.R (Kd.int .i64) 3 wc w.heap.size (fun k_ => some k_ ≠ ((.slice Ao13 t569.length co13) : Value).ownBlock ∧ some k_ ≠ ((.slice Ao14 t572.length co14) : Value).ownBlock ∧ some k_ ≠ (v576 : Value).ownBlock ∧ some k_ ≠ (v619 : Value).ownBlock ∧ some k_ ≠ ((.slice Ao9 t578.length co9) : Value).ownBlock ∧ some k_ ≠ ((.slice Ao11 t581.length co11) : Value).ownBlock ∧ some k_ ≠ ((.slice Ao17 t588.length co17) : Value).ownBlock ∧ some k_ ≠ ((.slice Ao20 t591.length co20) : Value).ownBlock ∧ some k_ ≠ ((.slice Ao21 t594.length co21) : Value).ownBlock ∧ some k_ ≠ ((.slice Ao37 t606.length co37) : Value).ownBlock ∧ some k_ ≠ ((.slice Ao41 t609.length co41) : Value).ownBlock ∧ some k_ ≠ ((.slice Ao42 t612.length co42) : Value).ownBlock) (.slice Ao12 t584.length co12) t584) ∧ Aside0 (Kd.R (Kd.int .i64) 3 wc w.heap.size (fun k_ => some k_ ≠ ((.slice Ao13 t569.length co13) : Value).ownBlock ∧ some k_ ≠ ((.slice Ao14 t572.length co14) : Value).ownBlock ∧ some k_ ≠ (v576 : Value).ownBlock ∧ some k_ ≠ (v619 : Value).ownBlock ∧ some k_ ≠ ((.slice Ao9 t578.length co9) : Value).ownBlock ∧ some k_ ≠ ((.slice Ao11 t581.length co11) : Value).ownBlock ∧ some k_ ≠ ((.slice Ao12 t584.length co12) : Value).ownBlock ∧ some k_ ≠ ((.slice Ao20 t591.length co20) : Value).ownBlock ∧ some k_ ≠ ((.slice Ao21 t594.length co21) : Value).ownBlock ∧ some k_ ≠ ((.slice Ao37 t606.length co37) : Value).ownBlock ∧ some k_ ≠ ((.slice Ao41 t609.length co41) : Value).ownBlock ∧ some k_ ≠ ((.slice Ao42 t612.length co42) : Value).ownBlock) (.slice Ao17 t588.length co17) t588) ∧ Aside0 (Kd.R (Kd.int .i64) 3 wc w.heap.size (fun k_ => some k_ ≠ ((.slice Ao13 t569.length co13) : Value).ownBlock ∧ some k_ ≠ ((.slice Ao14 t572.length co14) : Value).ownBlock ∧ some k_ ≠ (v576 : Value).ownBlock ∧ some k_ ≠ (v619 : Value).ownBlock ∧ some k_ ≠ ((.slice Ao9 t578.length co9) : Value).ownBlock ∧ some k_ ≠ ((.slice Ao11 t581.length co11) : Value).ownBlock ∧ some k_ ≠ ((.slice Ao12 t584.length co12) : Value).ownBlock ∧ some k_ ≠ ((.slice Ao17 t588.length co17) : Value).ownBlock ∧ some k_ ≠ ((.slice Ao21 t594.length co21) : Value).ownBlock ∧ some k_ ≠ ((.slice Ao37 t606.length co37) : Value).ownBlock ∧ some k_ ≠ ((.slice Ao41 t609.length co41) : Value).ownBlock ∧ some k_ ≠ ((.slice Ao42 t612.length co42) : Value).ownBlock) (.slice Ao20 t591.length co20) t591) ∧ Aside0 (Kd.R (Kd.int .i64) 3 wc w.heap.size (fun k_ => some k_ ≠ ((.slice Ao13 t569.length co13) : Value).ownBlock ∧ some k_ ≠ ((.slice Ao14 t572.length co14) : Value).ownBlock ∧ some k_ ≠ (v576 : Value).ownBlock ∧ some k_ ≠ (v619 : Value).ownBlock ∧ some k_ ≠ ((.slice Ao9 t578.length co9) : Value).ownBlock ∧ some k_ ≠ ((.slice Ao11 t581.length co11) : Value).ownBlock ∧ some k_ ≠ ((.slice Ao12 t584.length co12) : Value).ownBlock ∧ some k_ ≠ ((.slice Ao17 t588.length co17) : Value).ownBlock ∧ some k_ ≠ ((.slice Ao20 t591.length co20) : Value).ownBlock ∧ some k_ ≠ ((.slice Ao37 t606.length co37) : Value).ownBlock ∧ some k_ ≠ ((.slice Ao41 t609.length co41) : Value).ownBlock ∧ some k_ ≠ ((.slice Ao42 t612.length co42) : Value).ownBlock) (.slice Ao21 t594.length co21) t594) ∧ Aside0 (Kd.R (Kd.int .i64) 3 wc w.heap.size (fun k_ => some k_ ≠ ((.slice Ao13 t569.length co13) : Value).ownBlock ∧ some k_ ≠ ((.slice Ao14 t572.length co14) : Value).ownBlock ∧ some k_ ≠ (v576 : Value).ownBlock ∧ some k_ ≠ (v619 : Value).ownBlock ∧ some k_ ≠ ((.slice Ao9 t578.length co9) : Value).ownBlock ∧ some k_ ≠ ((.slice Ao11 t581.length co11) : Value).ownBlock ∧ some k_ ≠ ((.slice Ao12 t584.length co12) : Value).ownBlock ∧ some k_ ≠ ((.slice Ao17 t588.length co17) : Value).ownBlock ∧ some k_ ≠ ((.slice Ao20 t591.length co20) : Value).ownBlock ∧ some k_ ≠ ((.slice Ao21 t594.length co21) : Value).ownBlock ∧ some k_ ≠ ((.slice Ao41 t609.length co41) : Value).ownBlock ∧ some k_ ≠ ((.slice Ao42 t612.length co42) : Value).ownBlock) (.slice Ao37 t606.length co37) t606) ∧ Aside0 (Kd.R (Kd.int .i64) 3 wc w.heap.size (fun k_ => some k_ ≠ ((.slice Ao13 t569.length co13) : Value).ownBlock ∧ some k_ ≠ ((.slice Ao14 t572.length co14) : Value).ownBlock ∧ some k_ ≠ (v576 : Value).ownBlock ∧ some k_ ≠ (v619 : Value).ownBlock ∧ some k_ ≠ ((.slice Ao9 t578.length co9) : Value).ownBlock ∧ some k_ ≠ ((.slice Ao11 t581.length co11) : Value).ownBlock ∧ some k_ ≠ ((.slice Ao12 t584.length co12) : Value).ownBlock ∧ some k_ ≠ ((.slice Ao17 t588.length co17) : Value).ownBlock ∧ some k_ ≠ ((.slice Ao20 t591.length co20) : Value).ownBlock ∧ some k_ ≠ ((.slice Ao21 t594.length co21) : Value).ownBlock ∧ some k_ ≠ ((.slice Ao37 t606.length co37) : Value).ownBlock ∧ some k_ ≠ ((.slice Ao42 t612.length co42) : Value).ownBlock) (.slice Ao41 t609.length co41) t609) ∧ Aside0 (Kd.R (Kd.int .i64) 3 wc w.heap.size (fun k_ => some k_ ≠ ((.slice Ao13 t569.length co13) : Value).ownBlock ∧ some k_ ≠ ((.slice Ao14 t572.length co14) : Value).ownBlock ∧ some k_ ≠ (v576 : Value).ownBlock ∧ some k_ ≠ (v619 : Value).ownBlock ∧ some k_ ≠ ((.slice Ao9 t578.length co9) : Value).ownBlock ∧ some k_ ≠ ((.slice Ao11 t581.length co11) : Value).ownBlock ∧ some k_ ≠ ((.slice Ao12 t584.length co12) : Value).ownBlock ∧ some k_ ≠ ((.slice Ao17 t588.length co17) : Value).ownBlock ∧ some k_ ≠ ((.slice Ao20 t591.length co20) : Value).ownBlock ∧ some k_ ≠ ((.slice Ao21 t594.length co21) : Value).ownBlock ∧ some k_ ≠ ((.slice Ao37 t606.length co37) : Value).ownBlock ∧ some k_ ≠ ((.slice Ao41 t609.length co41) : Value).ownBlock) (.slice Ao42 t612.length co42) t612) ∧ Aside0 (wc.heap[gb587]? = some (.cells #[(.slice Ao9 t578.length co9), (.slice Ao11 t581.length co11), (.slice Ao12 t584.length co12)] 27 (0, 0))) ∧ Aside0 (wc.heap[gb598]? = some (.cells #[(.slice Ao17 t588.length co17), (.slice Ao20 t591.length co20), (.slice Ao21 t594.length co21)] 27 (0, 0))) ∧ Aside0 (wc.heap[gb616]? = some (.cells #[(.slice Ao37 t606.length co37), (.slice Ao41 t609.length co41), (.slice Ao42 t612.length co42)] 27 (0, 0))) ∧ Aside0 (Below w.heap.size w wc))
     case first =>
      have H := HC30.out
      clear HC30
      by_cases c44 : t615 = true
      ·subst c44
       rw [if_pos rfl] at H
       replace H := Option.bind_eq_some_iff.mp H
       obtain ⟨t621, A450, H⟩ := H
       (try dsimp -zeta -simprocs only at H)
       have A45 := Aside0.mk A450
       clear A450
       by_cases c46 : t621 = true
       ·subst c46
        rw [if_pos rfl] at H
        replace H := Option.bind_eq_some_iff.mp H
        obtain ⟨t622, A470, H⟩ := H
        (try dsimp -zeta -simprocs only at H)
        have A47 := Aside0.mk A470
        clear A470
        replace H := Option.bind_eq_some_iff.mp H
        obtain ⟨t625, A480, H⟩ := H
        (try dsimp -zeta -simprocs only at H)
        have A48 := Aside0.mk A480
        clear A480
        replace H := Option.bind_eq_some_iff.mp H
        obtain ⟨t628, A490, H⟩ := H
        (try dsimp -zeta -simprocs only at H)
        have A49 := Aside0.mk A490
        clear A490
        replace H := Option.bind_eq_some_iff.mp H
        obtain ⟨t631, A500, H⟩ := H
        (try dsimp -zeta -simprocs only at H)
        have A50 := Aside0.mk A500
        clear A500
        have H' := Aside0.mk H
        clear H
        try go_wp2
        replace HO_4 := zA (Kd.R_drew HO_4.out)
        replace HO_5 := zA (Kd.R_drew HO_5.out)
        replace HO_6 := zA (Kd.R_drew HO_6.out)
        replace HO_588000 := zA (Kd.R_drew HO_588000.out)
        replace HO_588001 := zA (Kd.R_drew HO_588001.out)
        replace HO_588002 := zA (Kd.R_drew HO_588002.out)
        replace HO_599000 := zA (Kd.R_drew HO_599000.out)
        replace HO_599001 := zA (Kd.R_drew HO_599001.out)
        replace HO_599002 := zA (Kd.R_drew HO_599002.out)
        replace HO602 := zA (Kd.R_drew HO602.out)
        replace HO605 := zA (Kd.R_drew HO605.out)
        replace HO608 := zA (Kd.R_drew HO608.out)
        replace HO611 := zA (Kd.R_drew HO611.out)
        replace HO614 := zA (Kd.R_drew HO614.out)
        replace HO620 := zA (Kd.R_drew HO620.out)
        replace BK587 := zA (blk_drew BK587.out)
        replace BK598 := zA (blk_drew BK598.out)
        replace BK616 := zA (blk_drew BK616.out)
        replace HB := zA (below_drew1 HB.out)
        refine start_ (n := 22) (S := fun w' => w'.cell? ⟨gb616, 0, none⟩ = some (.slice Ao37 t606.length co37) ∧ w'.cell? ⟨gb616, 1, none⟩ = some (.slice Ao41 t609.length co41) ∧ w'.cell? ⟨gb616, 2, none⟩ = some (.slice Ao42 t612.length co42) ∧ w'.cell? ⟨gb598, 0, none⟩ = some (.slice Ao17 t588.length co17) ∧ w'.cell? ⟨gb598, 1, none⟩ = some (.slice Ao20 t591.length co20) ∧ w'.cell? ⟨gb598, 2, none⟩ = some (.slice Ao21 t594.length co21)) (ds := []) #[false, false, false, false, false, false, false, false, false, false, false, false, false, false, false, false, false, false, false, false, false, false] (by kernel_rfl) rfl rfl ⟨zk BK616.out 0, zk BK616.out 1, zk BK616.out 2, zk BK598.out 0, zk BK598.out 1, zk BK598.out 2⟩ (fun hHeld => ?_); refine with_tabW laws_FnCertTrue.tab9 laws_FnCertTrue.bits9 (fun HT_ HW_ => ?_)
        generalize w43.drew = w51 at HO_4 HO_5 HO_6 HO_588000 HO_588001 HO_588002 HO_599000 HO_599001 HO_599002 HO602 HO605 HO608 HO611 HO614 HO620 BK587 BK598 BK616 HB hHeld ⊢
        refine pA HT_ 0 (some 55) ?_
        refine pA HT_ 1 (some 56) ?_
        refine pA HT_ 2 (some 57) ?_
        refine pA HT_ 3 (some 58) ?_
        refine pA HT_ 5 (some 60) ?_
        refine tA6 HT_ HW_ 4 (some 59) hHeld ?_
        refine tA6 HT_ HW_ 6 (some 61) hHeld ?_
        refine oA HT_ 7 (some 62) (fun K hK => ?_)
        refine gA Try.func39 #[.slice Ao37 t606.length co37, .slice Ao17 t588.length co17] ?_
        with_reducible refine (laws_same.calls kj5 _ _ t606 _ _ t588 true _ ?side1 ?side2 ?side3 ?side4 A45.out).mono ?_
        (case side1 => exact zC ((Kd.R_reads' HO608.out).2.2))
        (case side2 => exact (Kd.R_reads' HO608.out).2.1)
        (case side3 => exact zC ((Kd.R_reads' HO_599000.out).2.2))
        (case side4 => exact (Kd.R_reads' HO_599000.out).2.1)
        rintro e w' ⟨rfl, ⟨nd, rfl⟩⟩
        refine ⟨_, rfl, ?_⟩
        refine hK.out _ _ ⟨zk BK616.out 0, zk BK616.out 1, zk BK616.out 2, zk BK598.out 0, zk BK598.out 1, zk BK598.out 2⟩ (fun hHeld => ?_)
        clear hK K
        refine nA ?_
        refine pA HT_ 8 (some 63) ?_
        refine pA HT_ 9 (some 64) ?_
        refine pA HT_ 10 (some 65) ?_
        refine pA HT_ 11 (some 66) ?_
        refine pA HT_ 12 (some 67) ?_
        refine pA HT_ 14 (some 69) ?_
        refine pA HT_ 16 (some 71) ?_
        refine tA6 HT_ HW_ 18 (some 73) hHeld ?_
        refine oA HT_ 13 (some 68) (fun K hK => ?_)
        refine gA Try.func37 #[.slice Ao13 t569.length co13] ?_
        with_reducible refine (laws_cp.calls kj5 _ _ t569 t622 _ ?side1 ?side2 A47.out).mono ?_
        (case side1 => exact zC ((Kd.R_reads' HO_4.out).2.2))
        (case side2 => exact (Kd.R_reads' HO_4.out).2.1)
        rintro e w52 ⟨v623, rfl, ho0, hb⟩
        refine ⟨_, rfl, ?_⟩
        have HO624 := zA (Kd.R_lower (zn (Kd.R_new' (zn (Kd.R_new' (zn (Kd.R_new' (zn (Kd.R_new' (zn (Kd.R_new' (zn (Kd.R_new' (zn (Kd.R_new' (zn ho0 HO_4.out) (Kd.R_lt (zR HO_5.out))) HO_6.out) (Kd.R_lt (zR HO_588000.out))) HO_588001.out) (Kd.R_lt (zR HO_588002.out))) HO_599000.out) (Kd.R_lt (zR HO_599001.out))) HO_599002.out) (Kd.R_lt (zR HO602.out))) HO605.out) (Kd.R_lt (zR HO608.out))) HO611.out) (Kd.R_lt (zR HO614.out))) HO620.out) (below_size zH))
        replace HO_4 := z2 HO_4.out ho0 hb
        replace HO_5 := z2 HO_5.out ho0 hb
        replace HO_6 := z2 HO_6.out ho0 hb
        replace HO_588000 := z2 HO_588000.out ho0 hb
        replace HO_588001 := z2 HO_588001.out ho0 hb
        replace HO_588002 := z2 HO_588002.out ho0 hb
        replace HO_599000 := z2 HO_599000.out ho0 hb
        replace HO_599001 := z2 HO_599001.out ho0 hb
        replace HO_599002 := z2 HO_599002.out ho0 hb
        replace HO602 := z2 HO602.out ho0 hb
        replace HO605 := z2 HO605.out ho0 hb
        replace HO608 := z2 HO608.out ho0 hb
        replace HO611 := z2 HO611.out ho0 hb
        replace HO614 := z2 HO614.out ho0 hb
        replace HO620 := z2 HO620.out ho0 hb
        replace BK587 := zb BK587.out hb
        replace BK598 := zb BK598.out hb
        replace BK616 := zb BK616.out hb
        replace HB := zA (below_step zH hb)
        (try clear hb ho0)
        refine hK.out _ _ ⟨zk BK616.out 0, zk BK616.out 1, zk BK616.out 2, zk BK598.out 0, zk BK598.out 1, zk BK598.out 2⟩ (fun hHeld => ?_)
        clear hK K
        refine nA ?_
        refine oA HT_ 15 (some 70) (fun K hK => ?_)
        refine gA Try.func37 #[.slice Ao14 t572.length co14] ?_
        with_reducible refine (laws_cp.calls kj5 _ _ t572 t625 _ ?side1 ?side2 A48.out).mono ?_
        (case side1 => exact zC ((Kd.R_reads' HO_5.out).2.2))
        (case side2 => exact (Kd.R_reads' HO_5.out).2.1)
        rintro e w53 ⟨v626, rfl, ho0, hb⟩
        refine ⟨_, rfl, ?_⟩
        have HO627 := zA (Kd.R_lower (zn (Kd.R_new' (zn (Kd.R_new' (zn (Kd.R_new' (zn (Kd.R_new' (zn (Kd.R_new' (zn (Kd.R_new' (zn (Kd.R_new' (zn (Kd.R_new' ho0 (Kd.R_lt (zR HO_4.out))) HO_5.out) (Kd.R_lt (zR HO_6.out))) HO_588000.out) (Kd.R_lt (zR HO_588001.out))) HO_588002.out) (Kd.R_lt (zR HO_599000.out))) HO_599001.out) (Kd.R_lt (zR HO_599002.out))) HO602.out) (Kd.R_lt (zR HO605.out))) HO608.out) (Kd.R_lt (zR HO611.out))) HO614.out) (Kd.R_lt (zR HO620.out))) HO624.out) (below_size zH))
        replace HO_4 := z2 HO_4.out ho0 hb
        replace HO_5 := z2 HO_5.out ho0 hb
        replace HO_6 := z2 HO_6.out ho0 hb
        replace HO_588000 := z2 HO_588000.out ho0 hb
        replace HO_588001 := z2 HO_588001.out ho0 hb
        replace HO_588002 := z2 HO_588002.out ho0 hb
        replace HO_599000 := z2 HO_599000.out ho0 hb
        replace HO_599001 := z2 HO_599001.out ho0 hb
        replace HO_599002 := z2 HO_599002.out ho0 hb
        replace HO602 := z2 HO602.out ho0 hb
        replace HO605 := z2 HO605.out ho0 hb
        replace HO608 := z2 HO608.out ho0 hb
        replace HO611 := z2 HO611.out ho0 hb
        replace HO614 := z2 HO614.out ho0 hb
        replace HO620 := z2 HO620.out ho0 hb
        replace HO624 := z2 HO624.out ho0 hb
        replace BK587 := zb BK587.out hb
        replace BK598 := zb BK598.out hb
        replace BK616 := zb BK616.out hb
        replace HB := zA (below_step zH hb)
        (try clear hb ho0)
        obtain ⟨Ao54, co54, eo54⟩ := Kd.R_slice HO620.out
        (first | subst eo54 | (injection eo54 with f1_ f2_ f3_; have f4_ := f1_.symm; have f5_ := f3_.symm; clear f1_ f2_ f3_; subst f4_; subst f5_))
        refine hK.out _ _ ⟨zk BK616.out 0, zk BK616.out 1, zk BK616.out 2, zk BK598.out 0, zk BK598.out 1, zk BK598.out 2⟩ (fun hHeld => ?_)
        clear hK K
        refine nA ?_
        refine oA HT_ 17 (some 72) (fun K hK => ?_)
        refine gA Try.func37 #[.slice Ao54 t617.length co54] ?_
        with_reducible refine (laws_cp.calls kj5 _ _ t617 t628 _ ?side1 ?side2 A49.out).mono ?_
        (case side1 => exact zC ((Kd.R_reads' HO620.out).2.2))
        (case side2 => exact (Kd.R_reads' HO620.out).2.1)
        rintro e w55 ⟨v629, rfl, ho0, hb⟩
        refine ⟨_, rfl, ?_⟩
        have HO630 := zA (Kd.R_lower (zn (Kd.R_new' (zn (Kd.R_new' (zn (Kd.R_new' (zn (Kd.R_new' (zn (Kd.R_new' (zn (Kd.R_new' (zn (Kd.R_new' (zn (Kd.R_new' (zn ho0 HO_4.out) (Kd.R_lt (zR HO_5.out))) HO_6.out) (Kd.R_lt (zR HO_588000.out))) HO_588001.out) (Kd.R_lt (zR HO_588002.out))) HO_599000.out) (Kd.R_lt (zR HO_599001.out))) HO_599002.out) (Kd.R_lt (zR HO602.out))) HO605.out) (Kd.R_lt (zR HO608.out))) HO611.out) (Kd.R_lt (zR HO614.out))) HO620.out) (Kd.R_lt (zR HO624.out))) HO627.out) (below_size zH))
        replace HO_4 := z2 HO_4.out ho0 hb
        replace HO_5 := z2 HO_5.out ho0 hb
        replace HO_6 := z2 HO_6.out ho0 hb
        replace HO_588000 := z2 HO_588000.out ho0 hb
        replace HO_588001 := z2 HO_588001.out ho0 hb
        replace HO_588002 := z2 HO_588002.out ho0 hb
        replace HO_599000 := z2 HO_599000.out ho0 hb
        replace HO_599001 := z2 HO_599001.out ho0 hb
        replace HO_599002 := z2 HO_599002.out ho0 hb
        replace HO602 := z2 HO602.out ho0 hb
        replace HO605 := z2 HO605.out ho0 hb
        replace HO608 := z2 HO608.out ho0 hb
        replace HO611 := z2 HO611.out ho0 hb
        replace HO614 := z2 HO614.out ho0 hb
        replace HO620 := z2 HO620.out ho0 hb
        replace HO624 := z2 HO624.out ho0 hb
        replace HO627 := z2 HO627.out ho0 hb
        replace BK587 := zb BK587.out hb
        replace BK598 := zb BK598.out hb
        replace BK616 := zb BK616.out hb
        replace HB := zA (below_step zH hb)
        (try clear hb ho0)
        obtain ⟨Ao56, co56, eo56⟩ := Kd.R_slice HO624.out
        (first | subst eo56 | (injection eo56 with f1_ f2_ f3_; have f4_ := f1_.symm; have f5_ := f3_.symm; clear f1_ f2_ f3_; subst f4_; subst f5_))
        obtain ⟨Ao57, co57, eo57⟩ := Kd.R_slice HO627.out
        (first | subst eo57 | (injection eo57 with f1_ f2_ f3_; have f4_ := f1_.symm; have f5_ := f3_.symm; clear f1_ f2_ f3_; subst f4_; subst f5_))
        obtain ⟨Ao58, co58, eo58⟩ := Kd.R_slice HO630.out
        (first | subst eo58 | (injection eo58 with f1_ f2_ f3_; have f4_ := f1_.symm; have f5_ := f3_.symm; clear f1_ f2_ f3_; subst f4_; subst f5_))
        refine hK.out _ _ ⟨zk BK616.out 0, zk BK616.out 1, zk BK616.out 2, zk BK598.out 0, zk BK598.out 1, zk BK598.out 2⟩ (fun hHeld => ?_)
        clear hK K
        refine nA ?_
        refine oA HT_ 19 (some 74) (fun K hK => ?_)
        refine gA Try.func26 #[.int .i64 t568, .slice Ao56 t622.length co56, .slice Ao57 t625.length co57, .slice Ao58 t628.length co58, .agg #[.slice Ao37 t606.length co37, .slice Ao41 t609.length co41, .slice Ao42 t612.length co42]] ?_
        with_reducible refine (impl_CheckCert.calls kj5 t568 (fun k_ => some k_ = (.slice Ao56 t622.length co56 : Value).ownBlock) _ _ t622 (fun k_ => some k_ = (.slice Ao57 t625.length co57 : Value).ownBlock) _ _ t625 (fun k_ => some k_ = (.slice Ao58 t628.length co58 : Value).ownBlock) _ _ t628 _ _ t606 _ _ t609 _ _ t612 t631 _ ?side1 ?side2 ?side3 ?side4 ?side5 ?side6 ?side7 ?side8 ?side9 A50.out).mono ?_
        (case side1 => exact Kd.R_V (Kd.R_tight rfl (Kd.R_types (Kd.R_types (Kd.R_types (HO624.out) BK587.out (by decide)) BK598.out (by decide)) BK616.out (by decide))))
        (case side2 => exact Kd.R_V (Kd.R_tight rfl (Kd.R_types (Kd.R_types (Kd.R_types (HO627.out) BK587.out (by decide)) BK598.out (by decide)) BK616.out (by decide))))
        (case side3 => exact Kd.R_V (Kd.R_tight rfl (Kd.R_types (Kd.R_types (Kd.R_types (HO630.out) BK587.out (by decide)) BK598.out (by decide)) BK616.out (by decide))))
        (case side4 => exact zC ((Kd.R_reads' HO608.out).2.2))
        (case side5 => exact (Kd.R_reads' HO608.out).2.1)
        (case side6 => exact zC ((Kd.R_reads' HO611.out).2.2))
        (case side7 => exact (Kd.R_reads' HO611.out).2.1)
        (case side8 => exact zC ((Kd.R_reads' HO614.out).2.2))
        (case side9 => exact (Kd.R_reads' HO614.out).2.1)
        rintro e w59 ⟨rfl, hb⟩
        refine ⟨_, rfl, ?_⟩
        replace HO_4 := zA (Kd.R_below (zR HO_4.out) hb)
        replace HO_5 := zA (Kd.R_below (zR HO_5.out) hb)
        replace HO_6 := zA (Kd.R_below (zR HO_6.out) hb)
        replace HO_588000 := zA (Kd.R_below (zR HO_588000.out) hb)
        replace HO_588001 := zA (Kd.R_below (zR HO_588001.out) hb)
        replace HO_588002 := zA (Kd.R_below (zR HO_588002.out) hb)
        replace HO_599000 := zA (Kd.R_below (zR HO_599000.out) hb)
        replace HO_599001 := zA (Kd.R_below (zR HO_599001.out) hb)
        replace HO_599002 := zA (Kd.R_below (zR HO_599002.out) hb)
        replace HO602 := zA (Kd.R_below (zR HO602.out) hb)
        replace HO605 := zA (Kd.R_below (zR HO605.out) hb)
        replace HO608 := zA (Kd.R_below (zR HO608.out) hb)
        replace HO611 := zA (Kd.R_below (zR HO611.out) hb)
        replace HO614 := zA (Kd.R_below (zR HO614.out) hb)
        replace HO620 := zA (Kd.R_below (zR HO620.out) hb)
        replace HO624 := zA (Kd.R_below (zR HO624.out) hb)
        replace HO627 := zA (Kd.R_below (zR HO627.out) hb)
        replace HO630 := zA (Kd.R_below (zR HO630.out) hb)
        replace BK587 := zb BK587.out hb
        replace BK598 := zb BK598.out hb
        replace BK616 := zb BK616.out hb
        replace HB := zA (below_step zH hb)
        (try clear hb)
        refine hK.out _ _ ⟨zk BK616.out 0, zk BK616.out 1, zk BK616.out 2, zk BK598.out 0, zk BK598.out 1, zk BK598.out 2⟩ (fun hHeld => ?_)
        clear hK K
        refine nA ?_
        refine pA HT_ 20 (some 75) ?_
        refine pA HT_ 21 (some 76) ?_
        refine done_ (done_of HT_.out (by kernel_rfl)) ?_
        try go_wp2
        go_meet
        case rel => exact ⟨_, (!t631), zF, H', ⟨by have := HJ5.out; first | omega | exact Nat.le_refl _⟩, ⟨by (with_reducible repeat (first | apply Kd.R_alloc | apply Kd.R_drewN | apply Kd.R_drew)); exact Kd.R_mono HO_4.out (fun _ hk => ⟨hk.1.1.1.1.1.1.1.1.1.1, ⟨hk.1.1.1.1.1.1.1.1.1.2.1, ⟨hk.1.1.1.2, ⟨hk.1.1.1.1.1.1.1.1.1.2.2.1, ⟨hk.1.1.1.1.1.1.1.1.1.2.2.2.1, ⟨hk.1.1.1.1.1.1.1.1.1.2.2.2.2.1, ⟨hk.1.1.1.1.1.1.1.1.1.2.2.2.2.2.1, ⟨hk.1.1.1.1.1.1.1.1.1.2.2.2.2.2.2.1, ⟨hk.1.1.1.1.1.1.1.1.1.2.2.2.2.2.2.2, ⟨hk.1.1.1.1.1.1.2, ⟨hk.1.1.1.1.1.2, hk.1.1.1.1.2⟩⟩⟩⟩⟩⟩⟩⟩⟩⟩⟩)⟩, ⟨by (with_reducible repeat (first | apply Kd.R_alloc | apply Kd.R_drewN | apply Kd.R_drew)); exact Kd.R_mono HO_5.out (fun _ hk => ⟨hk.1.1.1.1.1.1.1.1.1.1, ⟨hk.1.1.1.1.1.1.1.1.1.2.1, ⟨hk.1.1.1.2, ⟨hk.1.1.1.1.1.1.1.1.1.2.2.1, ⟨hk.1.1.1.1.1.1.1.1.1.2.2.2.1, ⟨hk.1.1.1.1.1.1.1.1.1.2.2.2.2.1, ⟨hk.1.1.1.1.1.1.1.1.1.2.2.2.2.2.1, ⟨hk.1.1.1.1.1.1.1.1.1.2.2.2.2.2.2.1, ⟨hk.1.1.1.1.1.1.1.1.1.2.2.2.2.2.2.2, ⟨hk.1.1.1.1.1.1.2, ⟨hk.1.1.1.1.1.2, hk.1.1.1.1.2⟩⟩⟩⟩⟩⟩⟩⟩⟩⟩⟩)⟩, ⟨by (with_reducible repeat (first | apply Kd.R_alloc | apply Kd.R_drewN | apply Kd.R_drew)); exact Kd.R_mono HO_6.out (fun _ hk => ⟨hk.1.1.1.1.1.1.1.1.1.1, ⟨hk.1.1.1.1.1.1.1.1.1.2.1, ⟨hk.1.1.1.2, ⟨hk.1.1.1.1.1.1.1.1.1.2.2.1, ⟨hk.1.1.1.1.1.1.1.1.1.2.2.2.1, ⟨hk.1.1.1.1.1.1.1.1.1.2.2.2.2.1, ⟨hk.1.1.1.1.1.1.1.1.1.2.2.2.2.2.1, ⟨hk.1.1.1.1.1.1.1.1.1.2.2.2.2.2.2.1, ⟨hk.1.1.1.1.1.1.1.1.1.2.2.2.2.2.2.2, ⟨hk.1.1.1.1.1.1.2, ⟨hk.1.1.1.1.1.2, hk.1.1.1.1.2⟩⟩⟩⟩⟩⟩⟩⟩⟩⟩⟩)⟩, ⟨by (with_reducible repeat (first | apply Kd.R_alloc | apply Kd.R_drewN | apply Kd.R_drew)); exact Kd.R_mono HO620.out (fun _ hk => ⟨hk.1.1.1.1.1.1.1.1.1.1.1.1.1.1.1.1.2, ⟨hk.1.1.1.1.1.1.1.1.1.1.1.1.1.1.1.2, ⟨hk.1.1.1.1.1.1.1.1.1.1.1.1.1.1.2, ⟨hk.1.1.1.1.1.1.1.1.1.1.1.1.1.2, ⟨hk.1.1.1.1.1.1.1.1.1.1.1.1.2, ⟨hk.1.1.1.1.1.1.1.1.1.1.1.2, ⟨hk.1.1.1.1.1.1.1.1.1.1.2, ⟨hk.1.1.1.1.1.1.1.1.1.2, ⟨hk.1.1.1.1.1.1.1.1.2, ⟨hk.1.1.1.1.1.2, ⟨hk.1.1.1.1.2, hk.1.1.1.2⟩⟩⟩⟩⟩⟩⟩⟩⟩⟩⟩)⟩, ⟨by (with_reducible repeat (first | apply Kd.R_alloc | apply Kd.R_drewN | apply Kd.R_drew)); exact Kd.R_mono HO_588000.out (fun _ hk => ⟨hk.1.1.1.1.1.1.1.1.1.1, ⟨hk.1.1.1.1.1.1.1.1.1.2.1, ⟨hk.1.1.1.1.1.1.1.1.1.2.2.1, ⟨hk.1.1.1.2, ⟨hk.1.1.1.1.1.1.1.1.1.2.2.2.1, ⟨hk.1.1.1.1.1.1.1.1.1.2.2.2.2.1, ⟨hk.1.1.1.1.1.1.1.1.1.2.2.2.2.2.1, ⟨hk.1.1.1.1.1.1.1.1.1.2.2.2.2.2.2.1, ⟨hk.1.1.1.1.1.1.1.1.1.2.2.2.2.2.2.2, ⟨hk.1.1.1.1.1.1.2, ⟨hk.1.1.1.1.1.2, hk.1.1.1.1.2⟩⟩⟩⟩⟩⟩⟩⟩⟩⟩⟩)⟩, ⟨by (with_reducible repeat (first | apply Kd.R_alloc | apply Kd.R_drewN | apply Kd.R_drew)); exact Kd.R_mono HO_588001.out (fun _ hk => ⟨hk.1.1.1.1.1.1.1.1.1.1, ⟨hk.1.1.1.1.1.1.1.1.1.2.1, ⟨hk.1.1.1.1.1.1.1.1.1.2.2.1, ⟨hk.1.1.1.2, ⟨hk.1.1.1.1.1.1.1.1.1.2.2.2.1, ⟨hk.1.1.1.1.1.1.1.1.1.2.2.2.2.1, ⟨hk.1.1.1.1.1.1.1.1.1.2.2.2.2.2.1, ⟨hk.1.1.1.1.1.1.1.1.1.2.2.2.2.2.2.1, ⟨hk.1.1.1.1.1.1.1.1.1.2.2.2.2.2.2.2, ⟨hk.1.1.1.1.1.1.2, ⟨hk.1.1.1.1.1.2, hk.1.1.1.1.2⟩⟩⟩⟩⟩⟩⟩⟩⟩⟩⟩)⟩, ⟨by (with_reducible repeat (first | apply Kd.R_alloc | apply Kd.R_drewN | apply Kd.R_drew)); exact Kd.R_mono HO_588002.out (fun _ hk => ⟨hk.1.1.1.1.1.1.1.1.1.1, ⟨hk.1.1.1.1.1.1.1.1.1.2.1, ⟨hk.1.1.1.1.1.1.1.1.1.2.2.1, ⟨hk.1.1.1.2, ⟨hk.1.1.1.1.1.1.1.1.1.2.2.2.1, ⟨hk.1.1.1.1.1.1.1.1.1.2.2.2.2.1, ⟨hk.1.1.1.1.1.1.1.1.1.2.2.2.2.2.1, ⟨hk.1.1.1.1.1.1.1.1.1.2.2.2.2.2.2.1, ⟨hk.1.1.1.1.1.1.1.1.1.2.2.2.2.2.2.2, ⟨hk.1.1.1.1.1.1.2, ⟨hk.1.1.1.1.1.2, hk.1.1.1.1.2⟩⟩⟩⟩⟩⟩⟩⟩⟩⟩⟩)⟩, ⟨by (with_reducible repeat (first | apply Kd.R_alloc | apply Kd.R_drewN | apply Kd.R_drew)); exact Kd.R_mono HO_599000.out (fun _ hk => ⟨hk.1.1.1.1.1.1.1.1.1.1, ⟨hk.1.1.1.1.1.1.1.1.1.2.1, ⟨hk.1.1.1.1.1.1.1.1.1.2.2.1, ⟨hk.1.1.1.2, ⟨hk.1.1.1.1.1.1.1.1.1.2.2.2.1, ⟨hk.1.1.1.1.1.1.1.1.1.2.2.2.2.1, ⟨hk.1.1.1.1.1.1.1.1.1.2.2.2.2.2.1, ⟨hk.1.1.1.1.1.1.1.1.1.2.2.2.2.2.2.1, ⟨hk.1.1.1.1.1.1.1.1.1.2.2.2.2.2.2.2, ⟨hk.1.1.1.1.1.1.2, ⟨hk.1.1.1.1.1.2, hk.1.1.1.1.2⟩⟩⟩⟩⟩⟩⟩⟩⟩⟩⟩)⟩, ⟨by (with_reducible repeat (first | apply Kd.R_alloc | apply Kd.R_drewN | apply Kd.R_drew)); exact Kd.R_mono HO_599001.out (fun _ hk => ⟨hk.1.1.1.1.1.1.1.1.1.1, ⟨hk.1.1.1.1.1.1.1.1.1.2.1, ⟨hk.1.1.1.1.1.1.1.1.1.2.2.1, ⟨hk.1.1.1.2, ⟨hk.1.1.1.1.1.1.1.1.1.2.2.2.1, ⟨hk.1.1.1.1.1.1.1.1.1.2.2.2.2.1, ⟨hk.1.1.1.1.1.1.1.1.1.2.2.2.2.2.1, ⟨hk.1.1.1.1.1.1.1.1.1.2.2.2.2.2.2.1, ⟨hk.1.1.1.1.1.1.1.1.1.2.2.2.2.2.2.2, ⟨hk.1.1.1.1.1.1.2, ⟨hk.1.1.1.1.1.2, hk.1.1.1.1.2⟩⟩⟩⟩⟩⟩⟩⟩⟩⟩⟩)⟩, ⟨by (with_reducible repeat (first | apply Kd.R_alloc | apply Kd.R_drewN | apply Kd.R_drew)); exact Kd.R_mono HO_599002.out (fun _ hk => ⟨hk.1.1.1.1.1.1.1.1.1.1, ⟨hk.1.1.1.1.1.1.1.1.1.2.1, ⟨hk.1.1.1.1.1.1.1.1.1.2.2.1, ⟨hk.1.1.1.2, ⟨hk.1.1.1.1.1.1.1.1.1.2.2.2.1, ⟨hk.1.1.1.1.1.1.1.1.1.2.2.2.2.1, ⟨hk.1.1.1.1.1.1.1.1.1.2.2.2.2.2.1, ⟨hk.1.1.1.1.1.1.1.1.1.2.2.2.2.2.2.1, ⟨hk.1.1.1.1.1.1.1.1.1.2.2.2.2.2.2.2, ⟨hk.1.1.1.1.1.1.2, ⟨hk.1.1.1.1.1.2, hk.1.1.1.1.2⟩⟩⟩⟩⟩⟩⟩⟩⟩⟩⟩)⟩, ⟨by (with_reducible repeat (first | apply Kd.R_alloc | apply Kd.R_drewN | apply Kd.R_drew)); exact Kd.R_mono HO608.out (fun _ hk => ⟨hk.1.1.1.1.1.1.1.1.1.1.1.1.1.1.2, ⟨hk.1.1.1.1.1.1.1.1.1.1.1.1.1.2, ⟨hk.1.1.1.1.1.1.1.1.1.1.1.1.2, ⟨hk.1.1.1.2, ⟨hk.1.1.1.1.1.1.1.1.1.1.1.2, ⟨hk.1.1.1.1.1.1.1.1.1.1.2, ⟨hk.1.1.1.1.1.1.1.1.1.2, ⟨hk.1.1.1.1.1.1.1.1.2, ⟨hk.1.1.1.1.1.1.1.2, ⟨hk.1.1.1.1.1.1.2, ⟨hk.1.1.1.1.1.1.1.1.1.1.1.1.1.1.1.1, hk.1.1.1.1.1.1.1.1.1.1.1.1.1.1.1.2⟩⟩⟩⟩⟩⟩⟩⟩⟩⟩⟩)⟩, ⟨by (with_reducible repeat (first | apply Kd.R_alloc | apply Kd.R_drewN | apply Kd.R_drew)); exact Kd.R_mono HO611.out (fun _ hk => ⟨hk.1.1.1.1.1.1.1.1.1.1.1.1.1.1.2, ⟨hk.1.1.1.1.1.1.1.1.1.1.1.1.1.2, ⟨hk.1.1.1.1.1.1.1.1.1.1.1.1.2, ⟨hk.1.1.1.2, ⟨hk.1.1.1.1.1.1.1.1.1.1.1.2, ⟨hk.1.1.1.1.1.1.1.1.1.1.2, ⟨hk.1.1.1.1.1.1.1.1.1.2, ⟨hk.1.1.1.1.1.1.1.1.2, ⟨hk.1.1.1.1.1.1.1.2, ⟨hk.1.1.1.1.1.1.2, ⟨hk.1.1.1.1.1.1.1.1.1.1.1.1.1.1.1.1, hk.1.1.1.1.1.1.1.1.1.1.1.1.1.1.1.2⟩⟩⟩⟩⟩⟩⟩⟩⟩⟩⟩)⟩, ⟨by (with_reducible repeat (first | apply Kd.R_alloc | apply Kd.R_drewN | apply Kd.R_drew)); exact Kd.R_mono HO614.out (fun _ hk => ⟨hk.1.1.1.1.1.1.1.1.1.1.1.1.1.1.2, ⟨hk.1.1.1.1.1.1.1.1.1.1.1.1.1.2, ⟨hk.1.1.1.1.1.1.1.1.1.1.1.1.2, ⟨hk.1.1.1.2, ⟨hk.1.1.1.1.1.1.1.1.1.1.1.2, ⟨hk.1.1.1.1.1.1.1.1.1.1.2, ⟨hk.1.1.1.1.1.1.1.1.1.2, ⟨hk.1.1.1.1.1.1.1.1.2, ⟨hk.1.1.1.1.1.1.1.2, ⟨hk.1.1.1.1.1.1.2, ⟨hk.1.1.1.1.1.1.1.1.1.1.1.1.1.1.1.1, hk.1.1.1.1.1.1.1.1.1.1.1.1.1.1.1.2⟩⟩⟩⟩⟩⟩⟩⟩⟩⟩⟩)⟩, ⟨zB BK587.out⟩, ⟨zB BK598.out⟩, ⟨zB BK616.out⟩, ⟨zH⟩⟩
       ·replace c46 := Bool.eq_false_iff.mpr c46
        subst c46
        rw [if_neg (show ¬ (false = true) by decide)] at H
        have H' := Aside0.mk H
        clear H
        try go_wp2
        replace HO_4 := zA (Kd.R_drew HO_4.out)
        replace HO_5 := zA (Kd.R_drew HO_5.out)
        replace HO_6 := zA (Kd.R_drew HO_6.out)
        replace HO_588000 := zA (Kd.R_drew HO_588000.out)
        replace HO_588001 := zA (Kd.R_drew HO_588001.out)
        replace HO_588002 := zA (Kd.R_drew HO_588002.out)
        replace HO_599000 := zA (Kd.R_drew HO_599000.out)
        replace HO_599001 := zA (Kd.R_drew HO_599001.out)
        replace HO_599002 := zA (Kd.R_drew HO_599002.out)
        replace HO602 := zA (Kd.R_drew HO602.out)
        replace HO605 := zA (Kd.R_drew HO605.out)
        replace HO608 := zA (Kd.R_drew HO608.out)
        replace HO611 := zA (Kd.R_drew HO611.out)
        replace HO614 := zA (Kd.R_drew HO614.out)
        replace HO620 := zA (Kd.R_drew HO620.out)
        replace BK587 := zA (blk_drew BK587.out)
        replace BK598 := zA (blk_drew BK598.out)
        replace BK616 := zA (blk_drew BK616.out)
        replace HB := zA (below_drew1 HB.out)
        refine start_ (n := 22) (S := fun w' => w'.cell? ⟨gb616, 0, none⟩ = some (.slice Ao37 t606.length co37) ∧ w'.cell? ⟨gb616, 1, none⟩ = some (.slice Ao41 t609.length co41) ∧ w'.cell? ⟨gb616, 2, none⟩ = some (.slice Ao42 t612.length co42) ∧ w'.cell? ⟨gb598, 0, none⟩ = some (.slice Ao17 t588.length co17) ∧ w'.cell? ⟨gb598, 1, none⟩ = some (.slice Ao20 t591.length co20) ∧ w'.cell? ⟨gb598, 2, none⟩ = some (.slice Ao21 t594.length co21)) (ds := []) #[false, false, false, false, false, false, false, false, false, false, false, false, false, false, false, false, false, false, false, false, false, false] (by kernel_rfl) rfl rfl ⟨zk BK616.out 0, zk BK616.out 1, zk BK616.out 2, zk BK598.out 0, zk BK598.out 1, zk BK598.out 2⟩ (fun hHeld => ?_); refine with_tabW laws_FnCertTrue.tab9 laws_FnCertTrue.bits9 (fun HT_ HW_ => ?_)
        generalize w43.drew = w60 at HO_4 HO_5 HO_6 HO_588000 HO_588001 HO_588002 HO_599000 HO_599001 HO_599002 HO602 HO605 HO608 HO611 HO614 HO620 BK587 BK598 BK616 HB hHeld ⊢
        refine pA HT_ 0 (some 55) ?_
        refine pA HT_ 1 (some 56) ?_
        refine pA HT_ 2 (some 57) ?_
        refine pA HT_ 3 (some 58) ?_
        refine pA HT_ 5 (some 60) ?_
        refine tA6 HT_ HW_ 4 (some 59) hHeld ?_
        refine tA6 HT_ HW_ 6 (some 61) hHeld ?_
        refine oA HT_ 7 (some 62) (fun K hK => ?_)
        refine gA Try.func39 #[.slice Ao37 t606.length co37, .slice Ao17 t588.length co17] ?_
        with_reducible refine (laws_same.calls kj5 _ _ t606 _ _ t588 false _ ?side1 ?side2 ?side3 ?side4 A45.out).mono ?_
        (case side1 => exact zC ((Kd.R_reads' HO608.out).2.2))
        (case side2 => exact (Kd.R_reads' HO608.out).2.1)
        (case side3 => exact zC ((Kd.R_reads' HO_599000.out).2.2))
        (case side4 => exact (Kd.R_reads' HO_599000.out).2.1)
        rintro e w' ⟨rfl, ⟨nd, rfl⟩⟩
        refine ⟨_, rfl, ?_⟩
        refine hK.out _ _ ⟨zk BK616.out 0, zk BK616.out 1, zk BK616.out 2, zk BK598.out 0, zk BK598.out 1, zk BK598.out 2⟩ (fun hHeld => ?_)
        clear hK K
        refine nA ?_
        refine pA HT_ 8 (some 63) ?_
        refine pA HT_ 9 (some 64) ?_
        refine pA HT_ 10 (some 65) ?_
        refine pU HT_ 11 (some 66) ?_
        refine pU HT_ 12 (some 67) ?_
        refine pU HT_ 13 (some 68) ?_
        refine pU HT_ 14 (some 69) ?_
        refine pU HT_ 15 (some 70) ?_
        refine pU HT_ 16 (some 71) ?_
        refine pU HT_ 17 (some 72) ?_
        refine pU HT_ 18 (some 73) ?_
        refine pU HT_ 19 (some 74) ?_
        refine pU HT_ 20 (some 75) ?_
        refine pA HT_ 21 (some 76) ?_
        refine done_ (done_of HT_.out (by kernel_rfl)) ?_
        try go_wp2
        go_meet
        case rel => exact ⟨_, (true), zF, H', ⟨by have := HJ5.out; first | omega | exact Nat.le_refl _⟩, ⟨by (with_reducible repeat (first | apply Kd.R_alloc | apply Kd.R_drewN | apply Kd.R_drew)); exact Kd.R_mono HO_4.out (fun _ hk => ⟨hk.1.1.1.1.1.1.1, ⟨hk.1.1.1.1.1.1.2.1, ⟨hk.2, ⟨hk.1.1.1.1.1.1.2.2.1, ⟨hk.1.1.1.1.1.1.2.2.2.1, ⟨hk.1.1.1.1.1.1.2.2.2.2.1, ⟨hk.1.1.1.1.1.1.2.2.2.2.2.1, ⟨hk.1.1.1.1.1.1.2.2.2.2.2.2.1, ⟨hk.1.1.1.1.1.1.2.2.2.2.2.2.2, ⟨hk.1.1.1.2, ⟨hk.1.1.2, hk.1.2⟩⟩⟩⟩⟩⟩⟩⟩⟩⟩⟩)⟩, ⟨by (with_reducible repeat (first | apply Kd.R_alloc | apply Kd.R_drewN | apply Kd.R_drew)); exact Kd.R_mono HO_5.out (fun _ hk => ⟨hk.1.1.1.1.1.1.1, ⟨hk.1.1.1.1.1.1.2.1, ⟨hk.2, ⟨hk.1.1.1.1.1.1.2.2.1, ⟨hk.1.1.1.1.1.1.2.2.2.1, ⟨hk.1.1.1.1.1.1.2.2.2.2.1, ⟨hk.1.1.1.1.1.1.2.2.2.2.2.1, ⟨hk.1.1.1.1.1.1.2.2.2.2.2.2.1, ⟨hk.1.1.1.1.1.1.2.2.2.2.2.2.2, ⟨hk.1.1.1.2, ⟨hk.1.1.2, hk.1.2⟩⟩⟩⟩⟩⟩⟩⟩⟩⟩⟩)⟩, ⟨by (with_reducible repeat (first | apply Kd.R_alloc | apply Kd.R_drewN | apply Kd.R_drew)); exact Kd.R_mono HO_6.out (fun _ hk => ⟨hk.1.1.1.1.1.1.1, ⟨hk.1.1.1.1.1.1.2.1, ⟨hk.2, ⟨hk.1.1.1.1.1.1.2.2.1, ⟨hk.1.1.1.1.1.1.2.2.2.1, ⟨hk.1.1.1.1.1.1.2.2.2.2.1, ⟨hk.1.1.1.1.1.1.2.2.2.2.2.1, ⟨hk.1.1.1.1.1.1.2.2.2.2.2.2.1, ⟨hk.1.1.1.1.1.1.2.2.2.2.2.2.2, ⟨hk.1.1.1.2, ⟨hk.1.1.2, hk.1.2⟩⟩⟩⟩⟩⟩⟩⟩⟩⟩⟩)⟩, ⟨by (with_reducible repeat (first | apply Kd.R_alloc | apply Kd.R_drewN | apply Kd.R_drew)); exact Kd.R_mono HO620.out (fun _ hk => ⟨hk.1.1.1.1.1.1.1.1.1.1.1.1.1.2, ⟨hk.1.1.1.1.1.1.1.1.1.1.1.1.2, ⟨hk.1.1.1.1.1.1.1.1.1.1.1.2, ⟨hk.1.1.1.1.1.1.1.1.1.1.2, ⟨hk.1.1.1.1.1.1.1.1.1.2, ⟨hk.1.1.1.1.1.1.1.1.2, ⟨hk.1.1.1.1.1.1.1.2, ⟨hk.1.1.1.1.1.1.2, ⟨hk.1.1.1.1.1.2, ⟨hk.1.1.2, ⟨hk.1.2, hk.2⟩⟩⟩⟩⟩⟩⟩⟩⟩⟩⟩)⟩, ⟨by (with_reducible repeat (first | apply Kd.R_alloc | apply Kd.R_drewN | apply Kd.R_drew)); exact Kd.R_mono HO_588000.out (fun _ hk => ⟨hk.1.1.1.1.1.1.1, ⟨hk.1.1.1.1.1.1.2.1, ⟨hk.1.1.1.1.1.1.2.2.1, ⟨hk.2, ⟨hk.1.1.1.1.1.1.2.2.2.1, ⟨hk.1.1.1.1.1.1.2.2.2.2.1, ⟨hk.1.1.1.1.1.1.2.2.2.2.2.1, ⟨hk.1.1.1.1.1.1.2.2.2.2.2.2.1, ⟨hk.1.1.1.1.1.1.2.2.2.2.2.2.2, ⟨hk.1.1.1.2, ⟨hk.1.1.2, hk.1.2⟩⟩⟩⟩⟩⟩⟩⟩⟩⟩⟩)⟩, ⟨by (with_reducible repeat (first | apply Kd.R_alloc | apply Kd.R_drewN | apply Kd.R_drew)); exact Kd.R_mono HO_588001.out (fun _ hk => ⟨hk.1.1.1.1.1.1.1, ⟨hk.1.1.1.1.1.1.2.1, ⟨hk.1.1.1.1.1.1.2.2.1, ⟨hk.2, ⟨hk.1.1.1.1.1.1.2.2.2.1, ⟨hk.1.1.1.1.1.1.2.2.2.2.1, ⟨hk.1.1.1.1.1.1.2.2.2.2.2.1, ⟨hk.1.1.1.1.1.1.2.2.2.2.2.2.1, ⟨hk.1.1.1.1.1.1.2.2.2.2.2.2.2, ⟨hk.1.1.1.2, ⟨hk.1.1.2, hk.1.2⟩⟩⟩⟩⟩⟩⟩⟩⟩⟩⟩)⟩, ⟨by (with_reducible repeat (first | apply Kd.R_alloc | apply Kd.R_drewN | apply Kd.R_drew)); exact Kd.R_mono HO_588002.out (fun _ hk => ⟨hk.1.1.1.1.1.1.1, ⟨hk.1.1.1.1.1.1.2.1, ⟨hk.1.1.1.1.1.1.2.2.1, ⟨hk.2, ⟨hk.1.1.1.1.1.1.2.2.2.1, ⟨hk.1.1.1.1.1.1.2.2.2.2.1, ⟨hk.1.1.1.1.1.1.2.2.2.2.2.1, ⟨hk.1.1.1.1.1.1.2.2.2.2.2.2.1, ⟨hk.1.1.1.1.1.1.2.2.2.2.2.2.2, ⟨hk.1.1.1.2, ⟨hk.1.1.2, hk.1.2⟩⟩⟩⟩⟩⟩⟩⟩⟩⟩⟩)⟩, ⟨by (with_reducible repeat (first | apply Kd.R_alloc | apply Kd.R_drewN | apply Kd.R_drew)); exact Kd.R_mono HO_599000.out (fun _ hk => ⟨hk.1.1.1.1.1.1.1, ⟨hk.1.1.1.1.1.1.2.1, ⟨hk.1.1.1.1.1.1.2.2.1, ⟨hk.2, ⟨hk.1.1.1.1.1.1.2.2.2.1, ⟨hk.1.1.1.1.1.1.2.2.2.2.1, ⟨hk.1.1.1.1.1.1.2.2.2.2.2.1, ⟨hk.1.1.1.1.1.1.2.2.2.2.2.2.1, ⟨hk.1.1.1.1.1.1.2.2.2.2.2.2.2, ⟨hk.1.1.1.2, ⟨hk.1.1.2, hk.1.2⟩⟩⟩⟩⟩⟩⟩⟩⟩⟩⟩)⟩, ⟨by (with_reducible repeat (first | apply Kd.R_alloc | apply Kd.R_drewN | apply Kd.R_drew)); exact Kd.R_mono HO_599001.out (fun _ hk => ⟨hk.1.1.1.1.1.1.1, ⟨hk.1.1.1.1.1.1.2.1, ⟨hk.1.1.1.1.1.1.2.2.1, ⟨hk.2, ⟨hk.1.1.1.1.1.1.2.2.2.1, ⟨hk.1.1.1.1.1.1.2.2.2.2.1, ⟨hk.1.1.1.1.1.1.2.2.2.2.2.1, ⟨hk.1.1.1.1.1.1.2.2.2.2.2.2.1, ⟨hk.1.1.1.1.1.1.2.2.2.2.2.2.2, ⟨hk.1.1.1.2, ⟨hk.1.1.2, hk.1.2⟩⟩⟩⟩⟩⟩⟩⟩⟩⟩⟩)⟩, ⟨by (with_reducible repeat (first | apply Kd.R_alloc | apply Kd.R_drewN | apply Kd.R_drew)); exact Kd.R_mono HO_599002.out (fun _ hk => ⟨hk.1.1.1.1.1.1.1, ⟨hk.1.1.1.1.1.1.2.1, ⟨hk.1.1.1.1.1.1.2.2.1, ⟨hk.2, ⟨hk.1.1.1.1.1.1.2.2.2.1, ⟨hk.1.1.1.1.1.1.2.2.2.2.1, ⟨hk.1.1.1.1.1.1.2.2.2.2.2.1, ⟨hk.1.1.1.1.1.1.2.2.2.2.2.2.1, ⟨hk.1.1.1.1.1.1.2.2.2.2.2.2.2, ⟨hk.1.1.1.2, ⟨hk.1.1.2, hk.1.2⟩⟩⟩⟩⟩⟩⟩⟩⟩⟩⟩)⟩, ⟨by (with_reducible repeat (first | apply Kd.R_alloc | apply Kd.R_drewN | apply Kd.R_drew)); exact Kd.R_mono HO608.out (fun _ hk => ⟨hk.1.1.1.1.1.1.1.1.1.1.1.2, ⟨hk.1.1.1.1.1.1.1.1.1.1.2, ⟨hk.1.1.1.1.1.1.1.1.1.2, ⟨hk.2, ⟨hk.1.1.1.1.1.1.1.1.2, ⟨hk.1.1.1.1.1.1.1.2, ⟨hk.1.1.1.1.1.1.2, ⟨hk.1.1.1.1.1.2, ⟨hk.1.1.1.1.2, ⟨hk.1.1.1.2, ⟨hk.1.1.1.1.1.1.1.1.1.1.1.1.1, hk.1.1.1.1.1.1.1.1.1.1.1.1.2⟩⟩⟩⟩⟩⟩⟩⟩⟩⟩⟩)⟩, ⟨by (with_reducible repeat (first | apply Kd.R_alloc | apply Kd.R_drewN | apply Kd.R_drew)); exact Kd.R_mono HO611.out (fun _ hk => ⟨hk.1.1.1.1.1.1.1.1.1.1.1.2, ⟨hk.1.1.1.1.1.1.1.1.1.1.2, ⟨hk.1.1.1.1.1.1.1.1.1.2, ⟨hk.2, ⟨hk.1.1.1.1.1.1.1.1.2, ⟨hk.1.1.1.1.1.1.1.2, ⟨hk.1.1.1.1.1.1.2, ⟨hk.1.1.1.1.1.2, ⟨hk.1.1.1.1.2, ⟨hk.1.1.1.2, ⟨hk.1.1.1.1.1.1.1.1.1.1.1.1.1, hk.1.1.1.1.1.1.1.1.1.1.1.1.2⟩⟩⟩⟩⟩⟩⟩⟩⟩⟩⟩)⟩, ⟨by (with_reducible repeat (first | apply Kd.R_alloc | apply Kd.R_drewN | apply Kd.R_drew)); exact Kd.R_mono HO614.out (fun _ hk => ⟨hk.1.1.1.1.1.1.1.1.1.1.1.2, ⟨hk.1.1.1.1.1.1.1.1.1.1.2, ⟨hk.1.1.1.1.1.1.1.1.1.2, ⟨hk.2, ⟨hk.1.1.1.1.1.1.1.1.2, ⟨hk.1.1.1.1.1.1.1.2, ⟨hk.1.1.1.1.1.1.2, ⟨hk.1.1.1.1.1.2, ⟨hk.1.1.1.1.2, ⟨hk.1.1.1.2, ⟨hk.1.1.1.1.1.1.1.1.1.1.1.1.1, hk.1.1.1.1.1.1.1.1.1.1.1.1.2⟩⟩⟩⟩⟩⟩⟩⟩⟩⟩⟩)⟩, ⟨zB BK587.out⟩, ⟨zB BK598.out⟩, ⟨zB BK616.out⟩, ⟨zH⟩⟩
      ·replace c44 := Bool.eq_false_iff.mpr c44
       subst c44
       rw [if_neg (show ¬ (false = true) by decide)] at H
       have H' := Aside0.mk H
       clear H
       try go_wp2
       replace HO_4 := zA (Kd.R_drew HO_4.out)
       replace HO_5 := zA (Kd.R_drew HO_5.out)
       replace HO_6 := zA (Kd.R_drew HO_6.out)
       replace HO_588000 := zA (Kd.R_drew HO_588000.out)
       replace HO_588001 := zA (Kd.R_drew HO_588001.out)
       replace HO_588002 := zA (Kd.R_drew HO_588002.out)
       replace HO_599000 := zA (Kd.R_drew HO_599000.out)
       replace HO_599001 := zA (Kd.R_drew HO_599001.out)
       replace HO_599002 := zA (Kd.R_drew HO_599002.out)
       replace HO602 := zA (Kd.R_drew HO602.out)
       replace HO605 := zA (Kd.R_drew HO605.out)
       replace HO608 := zA (Kd.R_drew HO608.out)
       replace HO611 := zA (Kd.R_drew HO611.out)
       replace HO614 := zA (Kd.R_drew HO614.out)
       replace HO620 := zA (Kd.R_drew HO620.out)
       replace BK587 := zA (blk_drew BK587.out)
       replace BK598 := zA (blk_drew BK598.out)
       replace BK616 := zA (blk_drew BK616.out)
       replace HB := zA (below_drew1 HB.out)
       refine start_ (n := 22) (S := fun w' => True) (ds := []) #[false, false, false, false, false, false, false, false, false, false, false, false, false, false, false, false, false, false, false, false, false, false] (by kernel_rfl) rfl rfl trivial (fun hHeld => ?_); refine with_tabW laws_FnCertTrue.tab9 laws_FnCertTrue.bits9 (fun HT_ HW_ => ?_)
       generalize w43.drew = w61 at HO_4 HO_5 HO_6 HO_588000 HO_588001 HO_588002 HO_599000 HO_599001 HO_599002 HO602 HO605 HO608 HO611 HO614 HO620 BK587 BK598 BK616 HB hHeld ⊢
       refine pA HT_ 0 (some 55) ?_
       refine pA HT_ 1 (some 56) ?_
       refine pA HT_ 2 (some 57) ?_
       refine pU HT_ 3 (some 58) ?_
       refine pU HT_ 4 (some 59) ?_
       refine pU HT_ 5 (some 60) ?_
       refine pU HT_ 6 (some 61) ?_
       refine pU HT_ 7 (some 62) ?_
       refine pU HT_ 8 (some 63) ?_
       refine pA HT_ 9 (some 64) ?_
       refine pA HT_ 10 (some 65) ?_
       refine pU HT_ 11 (some 66) ?_
       refine pU HT_ 12 (some 67) ?_
       refine pU HT_ 13 (some 68) ?_
       refine pU HT_ 14 (some 69) ?_
       refine pU HT_ 15 (some 70) ?_
       refine pU HT_ 16 (some 71) ?_
       refine pU HT_ 17 (some 72) ?_
       refine pU HT_ 18 (some 73) ?_
       refine pU HT_ 19 (some 74) ?_
       refine pU HT_ 20 (some 75) ?_
       refine pA HT_ 21 (some 76) ?_
       refine done_ (done_of HT_.out (by kernel_rfl)) ?_
       try go_wp2
       go_meet
       case rel => exact ⟨_, (true), zF, H', ⟨by have := HJ5.out; first | omega | exact Nat.le_refl _⟩, ⟨by (with_reducible repeat (first | apply Kd.R_alloc | apply Kd.R_drewN | apply Kd.R_drew)); exact Kd.R_mono HO_4.out (fun _ hk => ⟨hk.1.1.1.1.1.1.1, ⟨hk.1.1.1.1.1.1.2.1, ⟨hk.2, ⟨hk.1.1.1.1.1.1.2.2.1, ⟨hk.1.1.1.1.1.1.2.2.2.1, ⟨hk.1.1.1.1.1.1.2.2.2.2.1, ⟨hk.1.1.1.1.1.1.2.2.2.2.2.1, ⟨hk.1.1.1.1.1.1.2.2.2.2.2.2.1, ⟨hk.1.1.1.1.1.1.2.2.2.2.2.2.2, ⟨hk.1.1.1.2, ⟨hk.1.1.2, hk.1.2⟩⟩⟩⟩⟩⟩⟩⟩⟩⟩⟩)⟩, ⟨by (with_reducible repeat (first | apply Kd.R_alloc | apply Kd.R_drewN | apply Kd.R_drew)); exact Kd.R_mono HO_5.out (fun _ hk => ⟨hk.1.1.1.1.1.1.1, ⟨hk.1.1.1.1.1.1.2.1, ⟨hk.2, ⟨hk.1.1.1.1.1.1.2.2.1, ⟨hk.1.1.1.1.1.1.2.2.2.1, ⟨hk.1.1.1.1.1.1.2.2.2.2.1, ⟨hk.1.1.1.1.1.1.2.2.2.2.2.1, ⟨hk.1.1.1.1.1.1.2.2.2.2.2.2.1, ⟨hk.1.1.1.1.1.1.2.2.2.2.2.2.2, ⟨hk.1.1.1.2, ⟨hk.1.1.2, hk.1.2⟩⟩⟩⟩⟩⟩⟩⟩⟩⟩⟩)⟩, ⟨by (with_reducible repeat (first | apply Kd.R_alloc | apply Kd.R_drewN | apply Kd.R_drew)); exact Kd.R_mono HO_6.out (fun _ hk => ⟨hk.1.1.1.1.1.1.1, ⟨hk.1.1.1.1.1.1.2.1, ⟨hk.2, ⟨hk.1.1.1.1.1.1.2.2.1, ⟨hk.1.1.1.1.1.1.2.2.2.1, ⟨hk.1.1.1.1.1.1.2.2.2.2.1, ⟨hk.1.1.1.1.1.1.2.2.2.2.2.1, ⟨hk.1.1.1.1.1.1.2.2.2.2.2.2.1, ⟨hk.1.1.1.1.1.1.2.2.2.2.2.2.2, ⟨hk.1.1.1.2, ⟨hk.1.1.2, hk.1.2⟩⟩⟩⟩⟩⟩⟩⟩⟩⟩⟩)⟩, ⟨by (with_reducible repeat (first | apply Kd.R_alloc | apply Kd.R_drewN | apply Kd.R_drew)); exact Kd.R_mono HO620.out (fun _ hk => ⟨hk.1.1.1.1.1.1.1.1.1.1.1.1.1.2, ⟨hk.1.1.1.1.1.1.1.1.1.1.1.1.2, ⟨hk.1.1.1.1.1.1.1.1.1.1.1.2, ⟨hk.1.1.1.1.1.1.1.1.1.1.2, ⟨hk.1.1.1.1.1.1.1.1.1.2, ⟨hk.1.1.1.1.1.1.1.1.2, ⟨hk.1.1.1.1.1.1.1.2, ⟨hk.1.1.1.1.1.1.2, ⟨hk.1.1.1.1.1.2, ⟨hk.1.1.2, ⟨hk.1.2, hk.2⟩⟩⟩⟩⟩⟩⟩⟩⟩⟩⟩)⟩, ⟨by (with_reducible repeat (first | apply Kd.R_alloc | apply Kd.R_drewN | apply Kd.R_drew)); exact Kd.R_mono HO_588000.out (fun _ hk => ⟨hk.1.1.1.1.1.1.1, ⟨hk.1.1.1.1.1.1.2.1, ⟨hk.1.1.1.1.1.1.2.2.1, ⟨hk.2, ⟨hk.1.1.1.1.1.1.2.2.2.1, ⟨hk.1.1.1.1.1.1.2.2.2.2.1, ⟨hk.1.1.1.1.1.1.2.2.2.2.2.1, ⟨hk.1.1.1.1.1.1.2.2.2.2.2.2.1, ⟨hk.1.1.1.1.1.1.2.2.2.2.2.2.2, ⟨hk.1.1.1.2, ⟨hk.1.1.2, hk.1.2⟩⟩⟩⟩⟩⟩⟩⟩⟩⟩⟩)⟩, ⟨by (with_reducible repeat (first | apply Kd.R_alloc | apply Kd.R_drewN | apply Kd.R_drew)); exact Kd.R_mono HO_588001.out (fun _ hk => ⟨hk.1.1.1.1.1.1.1, ⟨hk.1.1.1.1.1.1.2.1, ⟨hk.1.1.1.1.1.1.2.2.1, ⟨hk.2, ⟨hk.1.1.1.1.1.1.2.2.2.1, ⟨hk.1.1.1.1.1.1.2.2.2.2.1, ⟨hk.1.1.1.1.1.1.2.2.2.2.2.1, ⟨hk.1.1.1.1.1.1.2.2.2.2.2.2.1, ⟨hk.1.1.1.1.1.1.2.2.2.2.2.2.2, ⟨hk.1.1.1.2, ⟨hk.1.1.2, hk.1.2⟩⟩⟩⟩⟩⟩⟩⟩⟩⟩⟩)⟩, ⟨by (with_reducible repeat (first | apply Kd.R_alloc | apply Kd.R_drewN | apply Kd.R_drew)); exact Kd.R_mono HO_588002.out (fun _ hk => ⟨hk.1.1.1.1.1.1.1, ⟨hk.1.1.1.1.1.1.2.1, ⟨hk.1.1.1.1.1.1.2.2.1, ⟨hk.2, ⟨hk.1.1.1.1.1.1.2.2.2.1, ⟨hk.1.1.1.1.1.1.2.2.2.2.1, ⟨hk.1.1.1.1.1.1.2.2.2.2.2.1, ⟨hk.1.1.1.1.1.1.2.2.2.2.2.2.1, ⟨hk.1.1.1.1.1.1.2.2.2.2.2.2.2, ⟨hk.1.1.1.2, ⟨hk.1.1.2, hk.1.2⟩⟩⟩⟩⟩⟩⟩⟩⟩⟩⟩)⟩, ⟨by (with_reducible repeat (first | apply Kd.R_alloc | apply Kd.R_drewN | apply Kd.R_drew)); exact Kd.R_mono HO_599000.out (fun _ hk => ⟨hk.1.1.1.1.1.1.1, ⟨hk.1.1.1.1.1.1.2.1, ⟨hk.1.1.1.1.1.1.2.2.1, ⟨hk.2, ⟨hk.1.1.1.1.1.1.2.2.2.1, ⟨hk.1.1.1.1.1.1.2.2.2.2.1, ⟨hk.1.1.1.1.1.1.2.2.2.2.2.1, ⟨hk.1.1.1.1.1.1.2.2.2.2.2.2.1, ⟨hk.1.1.1.1.1.1.2.2.2.2.2.2.2, ⟨hk.1.1.1.2, ⟨hk.1.1.2, hk.1.2⟩⟩⟩⟩⟩⟩⟩⟩⟩⟩⟩)⟩, ⟨by (with_reducible repeat (first | apply Kd.R_alloc | apply Kd.R_drewN | apply Kd.R_drew)); exact Kd.R_mono HO_599001.out (fun _ hk => ⟨hk.1.1.1.1.1.1.1, ⟨hk.1.1.1.1.1.1.2.1, ⟨hk.1.1.1.1.1.1.2.2.1, ⟨hk.2, ⟨hk.1.1.1.1.1.1.2.2.2.1, ⟨hk.1.1.1.1.1.1.2.2.2.2.1, ⟨hk.1.1.1.1.1.1.2.2.2.2.2.1, ⟨hk.1.1.1.1.1.1.2.2.2.2.2.2.1, ⟨hk.1.1.1.1.1.1.2.2.2.2.2.2.2, ⟨hk.1.1.1.2, ⟨hk.1.1.2, hk.1.2⟩⟩⟩⟩⟩⟩⟩⟩⟩⟩⟩)⟩, ⟨by (with_reducible repeat (first | apply Kd.R_alloc | apply Kd.R_drewN | apply Kd.R_drew)); exact Kd.R_mono HO_599002.out (fun _ hk => ⟨hk.1.1.1.1.1.1.1, ⟨hk.1.1.1.1.1.1.2.1, ⟨hk.1.1.1.1.1.1.2.2.1, ⟨hk.2, ⟨hk.1.1.1.1.1.1.2.2.2.1, ⟨hk.1.1.1.1.1.1.2.2.2.2.1, ⟨hk.1.1.1.1.1.1.2.2.2.2.2.1, ⟨hk.1.1.1.1.1.1.2.2.2.2.2.2.1, ⟨hk.1.1.1.1.1.1.2.2.2.2.2.2.2, ⟨hk.1.1.1.2, ⟨hk.1.1.2, hk.1.2⟩⟩⟩⟩⟩⟩⟩⟩⟩⟩⟩)⟩, ⟨by (with_reducible repeat (first | apply Kd.R_alloc | apply Kd.R_drewN | apply Kd.R_drew)); exact Kd.R_mono HO608.out (fun _ hk => ⟨hk.1.1.1.1.1.1.1.1.1.1.1.2, ⟨hk.1.1.1.1.1.1.1.1.1.1.2, ⟨hk.1.1.1.1.1.1.1.1.1.2, ⟨hk.2, ⟨hk.1.1.1.1.1.1.1.1.2, ⟨hk.1.1.1.1.1.1.1.2, ⟨hk.1.1.1.1.1.1.2, ⟨hk.1.1.1.1.1.2, ⟨hk.1.1.1.1.2, ⟨hk.1.1.1.2, ⟨hk.1.1.1.1.1.1.1.1.1.1.1.1.1, hk.1.1.1.1.1.1.1.1.1.1.1.1.2⟩⟩⟩⟩⟩⟩⟩⟩⟩⟩⟩)⟩, ⟨by (with_reducible repeat (first | apply Kd.R_alloc | apply Kd.R_drewN | apply Kd.R_drew)); exact Kd.R_mono HO611.out (fun _ hk => ⟨hk.1.1.1.1.1.1.1.1.1.1.1.2, ⟨hk.1.1.1.1.1.1.1.1.1.1.2, ⟨hk.1.1.1.1.1.1.1.1.1.2, ⟨hk.2, ⟨hk.1.1.1.1.1.1.1.1.2, ⟨hk.1.1.1.1.1.1.1.2, ⟨hk.1.1.1.1.1.1.2, ⟨hk.1.1.1.1.1.2, ⟨hk.1.1.1.1.2, ⟨hk.1.1.1.2, ⟨hk.1.1.1.1.1.1.1.1.1.1.1.1.1, hk.1.1.1.1.1.1.1.1.1.1.1.1.2⟩⟩⟩⟩⟩⟩⟩⟩⟩⟩⟩)⟩, ⟨by (with_reducible repeat (first | apply Kd.R_alloc | apply Kd.R_drewN | apply Kd.R_drew)); exact Kd.R_mono HO614.out (fun _ hk => ⟨hk.1.1.1.1.1.1.1.1.1.1.1.2, ⟨hk.1.1.1.1.1.1.1.1.1.1.2, ⟨hk.1.1.1.1.1.1.1.1.1.2, ⟨hk.2, ⟨hk.1.1.1.1.1.1.1.1.2, ⟨hk.1.1.1.1.1.1.1.2, ⟨hk.1.1.1.1.1.1.2, ⟨hk.1.1.1.1.1.2, ⟨hk.1.1.1.1.2, ⟨hk.1.1.1.2, ⟨hk.1.1.1.1.1.1.1.1.1.1.1.1.1, hk.1.1.1.1.1.1.1.1.1.1.1.1.2⟩⟩⟩⟩⟩⟩⟩⟩⟩⟩⟩)⟩, ⟨zB BK587.out⟩, ⟨zB BK598.out⟩, ⟨zB BK616.out⟩, ⟨zH⟩⟩
     case rest =>
      clear HC30
      skip
      obtain ⟨kq, x76_29, rfl, HA, HJ29, HO_4, HO_5, HO_6, HO_12, HO_588000, HO_588001, HO_588002, HO_599000, HO_599001, HO_599002, HO_617000, HO_617001, HO_617002, BK587, BK598, BK616, HB⟩ := hcut
      cases kq with
      | zero => exact absurd HA.out (by simp [laws_FnCertTrue.j1])
      | succ kj29 =>
       have H := HA.out
       clear HA
       simp only [laws_FnCertTrue.j1] at H
       by_cases c62 : x76_29 = true
       ·subst c62
        rw [if_pos rfl] at H
        exact absurd ((Option.some.inj H).trans HT_.out) (by decide)
       ·replace c62 := Bool.eq_false_iff.mpr c62
        subst c62
        rw [if_neg (show ¬ (false = true) by decide)] at H
        replace H := Option.bind_eq_some_iff.mp H
        obtain ⟨t632, A630, H⟩ := H
        (try dsimp -zeta -simprocs only at H)
        have A63 := Aside0.mk A630
        clear A630
        replace H := Option.bind_eq_some_iff.mp H
        obtain ⟨t635, A640, H⟩ := H
        (try dsimp -zeta -simprocs only at H)
        have A64 := Aside0.mk A640
        clear A640
        replace H := Option.bind_eq_some_iff.mp H
        obtain ⟨t638, A650, H⟩ := H
        (try dsimp -zeta -simprocs only at H)
        have A65 := Aside0.mk A650
        clear A650
        replace H := Option.bind_eq_some_iff.mp H
        obtain ⟨t641, A660, H⟩ := H
        (try dsimp -zeta -simprocs only at H)
        have A66 := Aside0.mk A660
        clear A660
        replace H := Option.bind_eq_some_iff.mp H
        obtain ⟨t642, A670, H⟩ := H
        (try dsimp -zeta -simprocs only at H)
        have A67 := Aside0.mk A670
        clear A670
        obtain rfl := Option.some.inj H
        try go_wp2
        replace HO_4 := zA (Kd.R_drew HO_4.out)
        replace HO_5 := zA (Kd.R_drew HO_5.out)
        replace HO_6 := zA (Kd.R_drew HO_6.out)
        replace HO_12 := zA (Kd.R_drew HO_12.out)
        replace HO_588000 := zA (Kd.R_drew HO_588000.out)
        replace HO_588001 := zA (Kd.R_drew HO_588001.out)
        replace HO_588002 := zA (Kd.R_drew HO_588002.out)
        replace HO_599000 := zA (Kd.R_drew HO_599000.out)
        replace HO_599001 := zA (Kd.R_drew HO_599001.out)
        replace HO_599002 := zA (Kd.R_drew HO_599002.out)
        replace HO_617000 := zA (Kd.R_drew HO_617000.out)
        replace HO_617001 := zA (Kd.R_drew HO_617001.out)
        replace HO_617002 := zA (Kd.R_drew HO_617002.out)
        replace BK587 := zA (blk_drew BK587.out)
        replace BK598 := zA (blk_drew BK598.out)
        replace BK616 := zA (blk_drew BK616.out)
        replace HB := zA (below_drew1 HB.out)
        refine start_ (n := 14) (S := fun w' => w'.cell? ⟨gb616, 0, none⟩ = some (.slice Ao37 t606.length co37) ∧ w'.cell? ⟨gb616, 1, none⟩ = some (.slice Ao41 t609.length co41) ∧ w'.cell? ⟨gb616, 2, none⟩ = some (.slice Ao42 t612.length co42)) (ds := []) #[false, false, false, false, false, false, false, false, false, false, false, false, false, false] (by kernel_rfl) rfl rfl ⟨zk BK616.out 0, zk BK616.out 1, zk BK616.out 2⟩ (fun hHeld => ?_); refine with_tabW laws_FnCertTrue.tab11 laws_FnCertTrue.bits11 (fun HT_ HW_ => ?_)
        generalize wc.drew = w68 at HO_4 HO_5 HO_6 HO_12 HO_588000 HO_588001 HO_588002 HO_599000 HO_599001 HO_599002 HO_617000 HO_617001 HO_617002 BK587 BK598 BK616 HB hHeld ⊢
        refine pA HT_ 0 (some 77) ?_
        refine pA HT_ 1 (some 78) ?_
        refine pA HT_ 3 (some 80) ?_
        refine pA HT_ 5 (some 82) ?_
        refine pA HT_ 9 (some 86) ?_
        refine pA HT_ 10 (some 87) ?_
        refine tA3 HT_ HW_ 7 (some 84) hHeld ?_
        refine oA HT_ 2 (some 79) (fun K hK => ?_)
        refine gA Try.func37 #[.slice Ao13 t569.length co13] ?_
        with_reducible refine (laws_cp.calls kj29 _ _ t569 t632 _ ?side1 ?side2 A63.out).mono ?_
        (case side1 => exact zC ((Kd.R_reads' HO_4.out).2.2))
        (case side2 => exact (Kd.R_reads' HO_4.out).2.1)
        rintro e w69 ⟨v633, rfl, ho0, hb⟩
        refine ⟨_, rfl, ?_⟩
        have HO634 := zA (Kd.R_lower (zn (Kd.R_new' (zn (Kd.R_new' (zn (Kd.R_new' (zn (Kd.R_new' (zn (Kd.R_new' (zn (Kd.R_new' (zn ho0 HO_4.out) (Kd.R_lt (zR HO_5.out))) HO_6.out) (Kd.R_lt (zR HO_12.out))) HO_588000.out) (Kd.R_lt (zR HO_588001.out))) HO_588002.out) (Kd.R_lt (zR HO_599000.out))) HO_599001.out) (Kd.R_lt (zR HO_599002.out))) HO_617000.out) (Kd.R_lt (zR HO_617001.out))) HO_617002.out) (below_size zH))
        replace HO_4 := z2 HO_4.out ho0 hb
        replace HO_5 := z2 HO_5.out ho0 hb
        replace HO_6 := z2 HO_6.out ho0 hb
        replace HO_12 := z2 HO_12.out ho0 hb
        replace HO_588000 := z2 HO_588000.out ho0 hb
        replace HO_588001 := z2 HO_588001.out ho0 hb
        replace HO_588002 := z2 HO_588002.out ho0 hb
        replace HO_599000 := z2 HO_599000.out ho0 hb
        replace HO_599001 := z2 HO_599001.out ho0 hb
        replace HO_599002 := z2 HO_599002.out ho0 hb
        replace HO_617000 := z2 HO_617000.out ho0 hb
        replace HO_617001 := z2 HO_617001.out ho0 hb
        replace HO_617002 := z2 HO_617002.out ho0 hb
        replace BK587 := zb BK587.out hb
        replace BK598 := zb BK598.out hb
        replace BK616 := zb BK616.out hb
        replace HB := zA (below_step zH hb)
        (try clear hb ho0)
        refine hK.out _ _ ⟨zk BK616.out 0, zk BK616.out 1, zk BK616.out 2⟩ (fun hHeld => ?_)
        clear hK K
        refine nA ?_
        refine oA HT_ 4 (some 81) (fun K hK => ?_)
        refine gA Try.func37 #[.slice Ao14 t572.length co14] ?_
        with_reducible refine (laws_cp.calls kj29 _ _ t572 t635 _ ?side1 ?side2 A64.out).mono ?_
        (case side1 => exact zC ((Kd.R_reads' HO_5.out).2.2))
        (case side2 => exact (Kd.R_reads' HO_5.out).2.1)
        rintro e w70 ⟨v636, rfl, ho0, hb⟩
        refine ⟨_, rfl, ?_⟩
        have HO637 := zA (Kd.R_lower (zn (Kd.R_new' (zn (Kd.R_new' (zn (Kd.R_new' (zn (Kd.R_new' (zn (Kd.R_new' (zn (Kd.R_new' (zn (Kd.R_new' ho0 (Kd.R_lt (zR HO_4.out))) HO_5.out) (Kd.R_lt (zR HO_6.out))) HO_12.out) (Kd.R_lt (zR HO_588000.out))) HO_588001.out) (Kd.R_lt (zR HO_588002.out))) HO_599000.out) (Kd.R_lt (zR HO_599001.out))) HO_599002.out) (Kd.R_lt (zR HO_617000.out))) HO_617001.out) (Kd.R_lt (zR HO_617002.out))) HO634.out) (below_size zH))
        replace HO_4 := z2 HO_4.out ho0 hb
        replace HO_5 := z2 HO_5.out ho0 hb
        replace HO_6 := z2 HO_6.out ho0 hb
        replace HO_12 := z2 HO_12.out ho0 hb
        replace HO_588000 := z2 HO_588000.out ho0 hb
        replace HO_588001 := z2 HO_588001.out ho0 hb
        replace HO_588002 := z2 HO_588002.out ho0 hb
        replace HO_599000 := z2 HO_599000.out ho0 hb
        replace HO_599001 := z2 HO_599001.out ho0 hb
        replace HO_599002 := z2 HO_599002.out ho0 hb
        replace HO_617000 := z2 HO_617000.out ho0 hb
        replace HO_617001 := z2 HO_617001.out ho0 hb
        replace HO_617002 := z2 HO_617002.out ho0 hb
        replace HO634 := z2 HO634.out ho0 hb
        replace BK587 := zb BK587.out hb
        replace BK598 := zb BK598.out hb
        replace BK616 := zb BK616.out hb
        replace HB := zA (below_step zH hb)
        (try clear hb ho0)
        obtain ⟨Ao71, co71, eo71⟩ := Kd.R_slice HO_6.out
        (first | subst eo71 | (injection eo71 with f1_ f2_ f3_; have f4_ := f1_.symm; have f5_ := f3_.symm; clear f1_ f2_ f3_; subst f4_; subst f5_))
        refine hK.out _ _ ⟨zk BK616.out 0, zk BK616.out 1, zk BK616.out 2⟩ (fun hHeld => ?_)
        clear hK K
        refine nA ?_
        refine oA HT_ 6 (some 83) (fun K hK => ?_)
        refine gA Try.func37 #[.slice Ao71 t575.length co71] ?_
        with_reducible refine (laws_cp.calls kj29 _ _ t575 t638 _ ?side1 ?side2 A65.out).mono ?_
        (case side1 => exact zC ((Kd.R_reads' HO_6.out).2.2))
        (case side2 => exact (Kd.R_reads' HO_6.out).2.1)
        rintro e w72 ⟨v639, rfl, ho0, hb⟩
        refine ⟨_, rfl, ?_⟩
        have HO640 := zA (Kd.R_lower (zn (Kd.R_new' (zn (Kd.R_new' (zn (Kd.R_new' (zn (Kd.R_new' (zn (Kd.R_new' (zn (Kd.R_new' (zn (Kd.R_new' (zn ho0 HO_4.out) (Kd.R_lt (zR HO_5.out))) HO_6.out) (Kd.R_lt (zR HO_12.out))) HO_588000.out) (Kd.R_lt (zR HO_588001.out))) HO_588002.out) (Kd.R_lt (zR HO_599000.out))) HO_599001.out) (Kd.R_lt (zR HO_599002.out))) HO_617000.out) (Kd.R_lt (zR HO_617001.out))) HO_617002.out) (Kd.R_lt (zR HO634.out))) HO637.out) (below_size zH))
        replace HO_4 := z2 HO_4.out ho0 hb
        replace HO_5 := z2 HO_5.out ho0 hb
        replace HO_6 := z2 HO_6.out ho0 hb
        replace HO_12 := z2 HO_12.out ho0 hb
        replace HO_588000 := z2 HO_588000.out ho0 hb
        replace HO_588001 := z2 HO_588001.out ho0 hb
        replace HO_588002 := z2 HO_588002.out ho0 hb
        replace HO_599000 := z2 HO_599000.out ho0 hb
        replace HO_599001 := z2 HO_599001.out ho0 hb
        replace HO_599002 := z2 HO_599002.out ho0 hb
        replace HO_617000 := z2 HO_617000.out ho0 hb
        replace HO_617001 := z2 HO_617001.out ho0 hb
        replace HO_617002 := z2 HO_617002.out ho0 hb
        replace HO634 := z2 HO634.out ho0 hb
        replace HO637 := z2 HO637.out ho0 hb
        replace BK587 := zb BK587.out hb
        replace BK598 := zb BK598.out hb
        replace BK616 := zb BK616.out hb
        replace HB := zA (below_step zH hb)
        (try clear hb ho0)
        obtain ⟨Ao73, co73, eo73⟩ := Kd.R_slice HO634.out
        (first | subst eo73 | (injection eo73 with f1_ f2_ f3_; have f4_ := f1_.symm; have f5_ := f3_.symm; clear f1_ f2_ f3_; subst f4_; subst f5_))
        obtain ⟨Ao74, co74, eo74⟩ := Kd.R_slice HO637.out
        (first | subst eo74 | (injection eo74 with f1_ f2_ f3_; have f4_ := f1_.symm; have f5_ := f3_.symm; clear f1_ f2_ f3_; subst f4_; subst f5_))
        obtain ⟨Ao75, co75, eo75⟩ := Kd.R_slice HO640.out
        (first | subst eo75 | (injection eo75 with f1_ f2_ f3_; have f4_ := f1_.symm; have f5_ := f3_.symm; clear f1_ f2_ f3_; subst f4_; subst f5_))
        refine hK.out _ _ ⟨zk BK616.out 0, zk BK616.out 1, zk BK616.out 2⟩ (fun hHeld => ?_)
        clear hK K
        refine nA ?_
        refine oA HT_ 8 (some 85) (fun K hK => ?_)
        refine gA Try.func26 #[.int .i64 t568, .slice Ao73 t632.length co73, .slice Ao74 t635.length co74, .slice Ao75 t638.length co75, .agg #[.slice Ao37 t606.length co37, .slice Ao41 t609.length co41, .slice Ao42 t612.length co42]] ?_
        with_reducible refine (impl_CheckCert.calls kj29 t568 (fun k_ => some k_ = (.slice Ao73 t632.length co73 : Value).ownBlock) _ _ t632 (fun k_ => some k_ = (.slice Ao74 t635.length co74 : Value).ownBlock) _ _ t635 (fun k_ => some k_ = (.slice Ao75 t638.length co75 : Value).ownBlock) _ _ t638 _ _ t606 _ _ t609 _ _ t612 t641 _ ?side1 ?side2 ?side3 ?side4 ?side5 ?side6 ?side7 ?side8 ?side9 A66.out).mono ?_
        (case side1 => exact Kd.R_V (Kd.R_tight rfl (Kd.R_types (Kd.R_types (Kd.R_types (HO634.out) BK587.out (by decide)) BK598.out (by decide)) BK616.out (by decide))))
        (case side2 => exact Kd.R_V (Kd.R_tight rfl (Kd.R_types (Kd.R_types (Kd.R_types (HO637.out) BK587.out (by decide)) BK598.out (by decide)) BK616.out (by decide))))
        (case side3 => exact Kd.R_V (Kd.R_tight rfl (Kd.R_types (Kd.R_types (Kd.R_types (HO640.out) BK587.out (by decide)) BK598.out (by decide)) BK616.out (by decide))))
        (case side4 => exact zC ((Kd.R_reads' HO_617000.out).2.2))
        (case side5 => exact (Kd.R_reads' HO_617000.out).2.1)
        (case side6 => exact zC ((Kd.R_reads' HO_617001.out).2.2))
        (case side7 => exact (Kd.R_reads' HO_617001.out).2.1)
        (case side8 => exact zC ((Kd.R_reads' HO_617002.out).2.2))
        (case side9 => exact (Kd.R_reads' HO_617002.out).2.1)
        rintro e w76 ⟨rfl, hb⟩
        refine ⟨_, rfl, ?_⟩
        replace HO_4 := zA (Kd.R_below (zR HO_4.out) hb)
        replace HO_5 := zA (Kd.R_below (zR HO_5.out) hb)
        replace HO_6 := zA (Kd.R_below (zR HO_6.out) hb)
        replace HO_12 := zA (Kd.R_below (zR HO_12.out) hb)
        replace HO_588000 := zA (Kd.R_below (zR HO_588000.out) hb)
        replace HO_588001 := zA (Kd.R_below (zR HO_588001.out) hb)
        replace HO_588002 := zA (Kd.R_below (zR HO_588002.out) hb)
        replace HO_599000 := zA (Kd.R_below (zR HO_599000.out) hb)
        replace HO_599001 := zA (Kd.R_below (zR HO_599001.out) hb)
        replace HO_599002 := zA (Kd.R_below (zR HO_599002.out) hb)
        replace HO_617000 := zA (Kd.R_below (zR HO_617000.out) hb)
        replace HO_617001 := zA (Kd.R_below (zR HO_617001.out) hb)
        replace HO_617002 := zA (Kd.R_below (zR HO_617002.out) hb)
        replace HO634 := zA (Kd.R_below (zR HO634.out) hb)
        replace HO637 := zA (Kd.R_below (zR HO637.out) hb)
        replace HO640 := zA (Kd.R_below (zR HO640.out) hb)
        replace BK587 := zb BK587.out hb
        replace BK598 := zb BK598.out hb
        replace BK616 := zb BK616.out hb
        replace HB := zA (below_step zH hb)
        (try clear hb)
        obtain ⟨Ao77, co77, eo77⟩ := Kd.R_slice HO_12.out
        (first | subst eo77 | (injection eo77 with f1_ f2_ f3_; have f4_ := f1_.symm; have f5_ := f3_.symm; clear f1_ f2_ f3_; subst f4_; subst f5_))
        refine hK.out _ _ ⟨zk BK616.out 0, zk BK616.out 1, zk BK616.out 2⟩ (fun hHeld => ?_)
        clear hK K
        refine nA ?_
        refine oA HT_ 11 (some 88) (fun K hK => ?_)
        refine gA Try.func39 #[.slice Ao71 t575.length co71, .slice Ao77 t617.length co77] ?_
        with_reducible refine (laws_same.calls kj29 _ _ t575 _ _ t617 t642 _ ?side1 ?side2 ?side3 ?side4 A67.out).mono ?_
        (case side1 => exact zC ((Kd.R_reads' HO_6.out).2.2))
        (case side2 => exact (Kd.R_reads' HO_6.out).2.1)
        (case side3 => exact zC ((Kd.R_reads' HO_12.out).2.2))
        (case side4 => exact (Kd.R_reads' HO_12.out).2.1)
        rintro e w' ⟨rfl, ⟨nd, rfl⟩⟩
        refine ⟨_, rfl, ?_⟩
        refine hK.out _ _ ⟨zk BK616.out 0, zk BK616.out 1, zk BK616.out 2⟩ (fun hHeld => ?_)
        clear hK K
        refine nA ?_
        refine pA HT_ 12 (some 89) ?_
        refine pA HT_ 13 (some 2) ?_
        refine done_ (done_of HT_.out (by kernel_rfl)) ?_
        try go_wp2
        go_ret
        exact ⟨zE, zH⟩

/-- THE ONE PURE STATEMENT of laws_FnCertTrue: yours. -/
def laws_FnCertTrue.Pure : Prop := ∀ (l0 : List Int), l0.length ≤ maxLen → l0.length * 1 ≤ 140737488351232 → (∀ x ∈ l0, (Lit.int .u8 x).wf = true) → ∃ k, laws_FnCertTrue.f k l0 = some true
theorem laws_FnCertTrue.walk (P : laws_FnCertTrue.Pure) (a0 : Option Addr) (len0 cap0 : Nat) (z0 : List Int) (w : World) (w0 : (a0 = none ∧ len0 = 0 ∧ cap0 = 0 ∧ z0 = []) ∨ ∃ x, a0 = some x ∧ len0 ≤ cap0 ∧ cap0 ≤ maxLen ∧ z0.length = cap0 ∧ (∀ i, i < z0.length → w.cell? (x.add i) = some (.int .u8 (z0.getD i 0))) ∧ ∀ n ∈ z0, (Lit.int .u8 n).wf = true) (y0 : len0 * 1 ≤ 140737488351232) :
  Calls Try.prog 8 #[.slice a0 len0 cap0] w fun e w' => e = .returned (.bool true) ∧ Below w.heap.size w w' := by
 obtain ⟨l0, rfl, hr0, hm0, hw0, hc0⟩ := ReadsInt.ofRowC w0
 obtain ⟨k, h⟩ := P l0 hm0 y0 hw0
 refine (laws_FnCertTrue.calls k _ _ l0 true w (Kd.C_of_reads (d := (0 : Int)) (h1 := fun _ => rfl) hr0) hc0 ⟨rfl⟩ h).mono ?_
 rintro e w' ⟨rfl, hd⟩
 exact ⟨rfl, hd⟩

end Go.Proofs.Ytabicblkdgpogaa.QFnCertTrue
