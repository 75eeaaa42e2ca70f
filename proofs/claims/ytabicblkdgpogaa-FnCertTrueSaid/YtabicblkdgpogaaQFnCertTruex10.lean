-- Made by this session's program (wip/tools/myprint.py) out of the translation; Lean checks it.
import Derived.Test.YtabicblkdgpogaaQFnCertTruex0
import Derived.Test.YtabicblkdgpogaaQFnCertTruex5
import Derived.Test.YtabicblkdgpogaaQFnCertTruex8
import Derived.Test.YtabicblkdgpogaaQFnCertTruex9
namespace Go.Proofs.Ytabicblkdgpogaa.QFnCertTrue
open Go.RowKit Go.Proofs.YtabicblkdgpogaaW.PrintWords Go.Proofs.YtabicblkdgpogaaW.PrintLast Go.Proofs.YtabicblkdgpogaaW.PrintMore
attribute [local go_sem] max2_int min2_int max_two min_two max_three min_three max_four min_four   -- for this text's walks alone
set_option linter.unusedVariables false
set_option linter.unusedSimpArgs false

/-! ### impl_CheckCert: function 26 -/
mutual
def impl_CheckCert.j0 : Nat → List Int → List Int → List Int → Bool → List Int → List Int → List Int → Int → Int → Int → Option (Bool)
 | 0, _, _, _, _, _, _, _, _, _, _ => none
 | k + 1, x1, x2, x3, x37, x277000, x277001, x277002, x285000, x285001, x285002 => if x37 = true then (some false) else (if (x1.length : Int) > 0 then (impl_CheckCert.j1 k x1 x2 x3 (x3.length : Int) (decide ((x2.length : Int) > 0)) x277000 x277001 x277002 x285000 x285001 x285002) else (impl_CheckCert.j1 k x1 x2 x3 (x3.length : Int) false x277000 x277001 x277002 x285000 x285001 x285002))
def impl_CheckCert.j1 : Nat → List Int → List Int → List Int → Int → Bool → List Int → List Int → List Int → Int → Int → Int → Option (Bool)
 | 0, _, _, _, _, _, _, _, _, _, _, _ => none
 | k + 1, x1, x2, x3, x15, x47, x277000, x277001, x277002, x285000, x285001, x285002 => if x47 = true then (impl_CheckCert.j2 k x1 x2 x3 (mx x15 (wrap64 ((wrap64 ((x1.length : Int) + (x2.length : Int))) - 1))) x277000 x277001 x277002 x285000 x285001 x285002) else (impl_CheckCert.j2 k x1 x2 x3 x15 x277000 x277001 x277002 x285000 x285001 x285002)
def impl_CheckCert.j2 : Nat → List Int → List Int → List Int → Int → List Int → List Int → List Int → Int → Int → Int → Option (Bool)
 | 0, _, _, _, _, _, _, _, _, _, _ => none
 | k + 1, x1, x2, x3, x15, x277000, x277001, x277002, x285000, x285001, x285002 => if (x277000.length : Int) < x15 then (impl_CheckCert.j3 k x3 true x277000 x277001 x277002 x285000 x285001 x285002) else ((impl_field_evalMany.f k x285000 x285001 x285002 x1 x277000).bind fun t290 => ((slices_Equal_int_int.f k x277001 t290).bind fun t293 => (if t293 = true then ((impl_field_evalMany.f k x285000 x285001 x285002 x2 x277000).bind fun t294 => ((slices_Equal_int_int.f k x277002 t294).bind fun t297 => (impl_CheckCert.j3 k x3 (!t297) x277000 x277001 x277002 x285000 x285001 x285002))) else (impl_CheckCert.j3 k x3 true x277000 x277001 x277002 x285000 x285001 x285002))))
def impl_CheckCert.j3 : Nat → List Int → Bool → List Int → List Int → List Int → Int → Int → Int → Option (Bool)
 | 0, _, _, _, _, _, _, _, _ => none
 | k + 1, x3, x82, x277000, x277001, x277002, x285000, x285001, x285002 => if x82 = true then (some false) else ((impl_field_pointwise.f k x285000 x285001 x285002 x277001 x277002).bind fun t298 => ((impl_field_evalMany.f k x285000 x285001 x285002 x3 x277000).bind fun t301 => ((slices_Equal_int_int.f k t298 t301).bind fun t304 => (some t304))))
end
def impl_CheckCert.f (k : Nat) (a0 : Int) (l1 : List Int) (l2 : List Int) (l3 : List Int) (l4_0 : List Int) (l4_1 : List Int) (l4_2 : List Int) : Option (Bool) := (impl_polyField.f k a0 (([l1, l2, l3] : List (List Int)))).bind fun bt280 => ((impl_pointField.f k a0 l4_0).bind fun bt285 => (if bt280.2.2.2 = true then (impl_CheckCert.j0 k l1 l2 l3 (!bt285.2.2.2) l4_0 l4_1 l4_2 bt280.1 bt280.2.1 bt280.2.2.1) else (impl_CheckCert.j0 k l1 l2 l3 true l4_0 l4_1 l4_2 bt280.1 bt280.2.1 bt280.2.2.1)))
theorem impl_CheckCert.mono_l : ∀ k, (∀ y0 y1 y2 y3 y4 y5 y6 y7 y8 y9, LeO (impl_CheckCert.j0 k y0 y1 y2 y3 y4 y5 y6 y7 y8 y9) (impl_CheckCert.j0 (k + 1) y0 y1 y2 y3 y4 y5 y6 y7 y8 y9)) ∧ (∀ y0 y1 y2 y3 y4 y5 y6 y7 y8 y9 y10, LeO (impl_CheckCert.j1 k y0 y1 y2 y3 y4 y5 y6 y7 y8 y9 y10) (impl_CheckCert.j1 (k + 1) y0 y1 y2 y3 y4 y5 y6 y7 y8 y9 y10)) ∧ (∀ y0 y1 y2 y3 y4 y5 y6 y7 y8 y9, LeO (impl_CheckCert.j2 k y0 y1 y2 y3 y4 y5 y6 y7 y8 y9) (impl_CheckCert.j2 (k + 1) y0 y1 y2 y3 y4 y5 y6 y7 y8 y9)) ∧ (∀ y0 y1 y2 y3 y4 y5 y6 y7, LeO (impl_CheckCert.j3 k y0 y1 y2 y3 y4 y5 y6 y7) (impl_CheckCert.j3 (k + 1) y0 y1 y2 y3 y4 y5 y6 y7))
 | 0 => ⟨fun _ _ _ _ _ _ _ _ _ _ r h => by simp [impl_CheckCert.j0] at h, fun _ _ _ _ _ _ _ _ _ _ _ r h => by simp [impl_CheckCert.j1] at h, fun _ _ _ _ _ _ _ _ _ _ r h => by simp [impl_CheckCert.j2] at h, fun _ _ _ _ _ _ _ _ r h => by simp [impl_CheckCert.j3] at h⟩
 | k + 1 => by
  obtain ⟨ih0, ih1, ih2, ih3⟩ := impl_CheckCert.mono_l k
  refine ⟨?_, ?_, ?_, ?_⟩
  ·intro y0 y1 y2 y3 y4 y5 y6 y7 y8 y9
   unfold impl_CheckCert.j0
   repeat' first
   | (with_reducible exact ih0 _ _ _ _ _ _ _ _ _ _)
   | (with_reducible exact ih1 _ _ _ _ _ _ _ _ _ _ _)
   | (with_reducible exact ih2 _ _ _ _ _ _ _ _ _ _)
   | (with_reducible exact ih3 _ _ _ _ _ _ _ _)
   | (with_reducible exact impl_field_evalMany.mono _ _ _ _ _ _)
   | (with_reducible exact impl_field_pointwise.mono _ _ _ _ _ _)
   | (with_reducible exact impl_pointField.mono _ _ _)
   | (with_reducible exact impl_polyField.mono _ _ _)
   | (with_reducible exact slices_Equal_int_int.mono _ _ _)
   | (with_reducible exact LeO.refl _)
   | (with_reducible exact LeO.none _)
   | (with_reducible refine LeO.ite ?_ ?_)
   | (with_reducible refine LeO.bind ?_ (fun _ => ?_))
   | exact ih0 _ _ _ _ _ _ _ _ _ _
   | exact ih1 _ _ _ _ _ _ _ _ _ _ _
   | exact ih2 _ _ _ _ _ _ _ _ _ _
   | exact ih3 _ _ _ _ _ _ _ _
   | exact impl_field_evalMany.mono _ _ _ _ _ _
   | exact impl_field_pointwise.mono _ _ _ _ _ _
   | exact impl_pointField.mono _ _ _
   | exact impl_polyField.mono _ _ _
   | exact slices_Equal_int_int.mono _ _ _
   | exact LeO.none _
   | refine LeO.ite ?_ ?_
   | refine LeO.bind ?_ (fun _ => ?_)
  ·intro y0 y1 y2 y3 y4 y5 y6 y7 y8 y9 y10
   unfold impl_CheckCert.j1
   repeat' first
   | (with_reducible exact ih0 _ _ _ _ _ _ _ _ _ _)
   | (with_reducible exact ih1 _ _ _ _ _ _ _ _ _ _ _)
   | (with_reducible exact ih2 _ _ _ _ _ _ _ _ _ _)
   | (with_reducible exact ih3 _ _ _ _ _ _ _ _)
   | (with_reducible exact impl_field_evalMany.mono _ _ _ _ _ _)
   | (with_reducible exact impl_field_pointwise.mono _ _ _ _ _ _)
   | (with_reducible exact impl_pointField.mono _ _ _)
   | (with_reducible exact impl_polyField.mono _ _ _)
   | (with_reducible exact slices_Equal_int_int.mono _ _ _)
   | (with_reducible exact LeO.refl _)
   | (with_reducible exact LeO.none _)
   | (with_reducible refine LeO.ite ?_ ?_)
   | (with_reducible refine LeO.bind ?_ (fun _ => ?_))
   | exact ih0 _ _ _ _ _ _ _ _ _ _
   | exact ih1 _ _ _ _ _ _ _ _ _ _ _
   | exact ih2 _ _ _ _ _ _ _ _ _ _
   | exact ih3 _ _ _ _ _ _ _ _
   | exact impl_field_evalMany.mono _ _ _ _ _ _
   | exact impl_field_pointwise.mono _ _ _ _ _ _
   | exact impl_pointField.mono _ _ _
   | exact impl_polyField.mono _ _ _
   | exact slices_Equal_int_int.mono _ _ _
   | exact LeO.none _
   | refine LeO.ite ?_ ?_
   | refine LeO.bind ?_ (fun _ => ?_)
  ·intro y0 y1 y2 y3 y4 y5 y6 y7 y8 y9
   unfold impl_CheckCert.j2
   repeat' first
   | (with_reducible exact ih0 _ _ _ _ _ _ _ _ _ _)
   | (with_reducible exact ih1 _ _ _ _ _ _ _ _ _ _ _)
   | (with_reducible exact ih2 _ _ _ _ _ _ _ _ _ _)
   | (with_reducible exact ih3 _ _ _ _ _ _ _ _)
   | (with_reducible exact impl_field_evalMany.mono _ _ _ _ _ _)
   | (with_reducible exact impl_field_pointwise.mono _ _ _ _ _ _)
   | (with_reducible exact impl_pointField.mono _ _ _)
   | (with_reducible exact impl_polyField.mono _ _ _)
   | (with_reducible exact slices_Equal_int_int.mono _ _ _)
   | (with_reducible exact LeO.refl _)
   | (with_reducible exact LeO.none _)
   | (with_reducible refine LeO.ite ?_ ?_)
   | (with_reducible refine LeO.bind ?_ (fun _ => ?_))
   | exact ih0 _ _ _ _ _ _ _ _ _ _
   | exact ih1 _ _ _ _ _ _ _ _ _ _ _
   | exact ih2 _ _ _ _ _ _ _ _ _ _
   | exact ih3 _ _ _ _ _ _ _ _
   | exact impl_field_evalMany.mono _ _ _ _ _ _
   | exact impl_field_pointwise.mono _ _ _ _ _ _
   | exact impl_pointField.mono _ _ _
   | exact impl_polyField.mono _ _ _
   | exact slices_Equal_int_int.mono _ _ _
   | exact LeO.none _
   | refine LeO.ite ?_ ?_
   | refine LeO.bind ?_ (fun _ => ?_)
  ·intro y0 y1 y2 y3 y4 y5 y6 y7
   unfold impl_CheckCert.j3
   repeat' first
   | (with_reducible exact ih0 _ _ _ _ _ _ _ _ _ _)
   | (with_reducible exact ih1 _ _ _ _ _ _ _ _ _ _ _)
   | (with_reducible exact ih2 _ _ _ _ _ _ _ _ _ _)
   | (with_reducible exact ih3 _ _ _ _ _ _ _ _)
   | (with_reducible exact impl_field_evalMany.mono _ _ _ _ _ _)
   | (with_reducible exact impl_field_pointwise.mono _ _ _ _ _ _)
   | (with_reducible exact impl_pointField.mono _ _ _)
   | (with_reducible exact impl_polyField.mono _ _ _)
   | (with_reducible exact slices_Equal_int_int.mono _ _ _)
   | (with_reducible exact LeO.refl _)
   | (with_reducible exact LeO.none _)
   | (with_reducible refine LeO.ite ?_ ?_)
   | (with_reducible refine LeO.bind ?_ (fun _ => ?_))
   | exact ih0 _ _ _ _ _ _ _ _ _ _
   | exact ih1 _ _ _ _ _ _ _ _ _ _ _
   | exact ih2 _ _ _ _ _ _ _ _ _ _
   | exact ih3 _ _ _ _ _ _ _ _
   | exact impl_field_evalMany.mono _ _ _ _ _ _
   | exact impl_field_pointwise.mono _ _ _ _ _ _
   | exact impl_pointField.mono _ _ _
   | exact impl_polyField.mono _ _ _
   | exact slices_Equal_int_int.mono _ _ _
   | exact LeO.none _
   | refine LeO.ite ?_ ?_
   | refine LeO.bind ?_ (fun _ => ?_)
theorem impl_CheckCert.mono : ∀ a0 a1 a2 a3 a4 a5 a6 k, LeO (impl_CheckCert.f k a0 a1 a2 a3 a4 a5 a6) (impl_CheckCert.f (k + 1) a0 a1 a2 a3 a4 a5 a6) := by
 intro a0 a1 a2 a3 a4 a5 a6 k
 obtain ⟨ih0, ih1, ih2, ih3⟩ := impl_CheckCert.mono_l k
 unfold impl_CheckCert.f
 repeat' first
   | (with_reducible exact ih0 _ _ _ _ _ _ _ _ _ _)
   | (with_reducible exact ih1 _ _ _ _ _ _ _ _ _ _ _)
   | (with_reducible exact ih2 _ _ _ _ _ _ _ _ _ _)
   | (with_reducible exact ih3 _ _ _ _ _ _ _ _)
   | (with_reducible exact impl_field_evalMany.mono _ _ _ _ _ _)
   | (with_reducible exact impl_field_pointwise.mono _ _ _ _ _ _)
   | (with_reducible exact impl_pointField.mono _ _ _)
   | (with_reducible exact impl_polyField.mono _ _ _)
   | (with_reducible exact slices_Equal_int_int.mono _ _ _)
   | (with_reducible exact LeO.refl _)
   | (with_reducible exact LeO.none _)
   | (with_reducible refine LeO.ite ?_ ?_)
   | (with_reducible refine LeO.bind ?_ (fun _ => ?_))
   | exact ih0 _ _ _ _ _ _ _ _ _ _
   | exact ih1 _ _ _ _ _ _ _ _ _ _ _
   | exact ih2 _ _ _ _ _ _ _ _ _ _
   | exact ih3 _ _ _ _ _ _ _ _
   | exact impl_field_evalMany.mono _ _ _ _ _ _
   | exact impl_field_pointwise.mono _ _ _ _ _ _
   | exact impl_pointField.mono _ _ _
   | exact impl_polyField.mono _ _ _
   | exact slices_Equal_int_int.mono _ _ _
   | exact LeO.none _
   | refine LeO.ite ?_ ?_
   | refine LeO.bind ?_ (fun _ => ?_)
def impl_CheckCert.T8 : Bool × List (List Nat × List Nat) := (true, [([], []), ([0], [0]), ([1], [1]), ([], []), ([2, 3], [2, 3]), ([4], [4]), ([5], [5]), ([6, 5], [5, 6]), ([5], [5]), ([5], [5]), ([5], [5]), ([10, 5], [5, 10]), ([8, 9, 11, 5, 5], [5, 8, 9, 11]), ([7, 12, 12, 5], [5, 7, 12]), ([13, 5], [5, 13]), ([5, 14], [5, 14]), ([15, 13], [15]), ([16], [16]), ([17, 16], [16, 17]), ([16], [16]), ([16], [16]), ([16], [16]), ([21, 16], [16, 21]), ([19, 20, 22, 16, 16], [16, 19, 20, 22]), ([18, 23, 23, 16], [16, 18, 23]), ([24, 16], [16, 24]), ([16, 25], [16, 25])])
def impl_CheckCert.B8 : List Nat := [0, 1, 3, 0, 15, 31, 63, 127, 63, 63, 63, 1087, 3903, 8191, 16383, 32767, 65535, 131071, 262143, 131071, 131071, 131071, 2228223, 7995391, 16777215, 33554431, 67108863]
theorem impl_CheckCert.tab8 : rtab .any (opsOf Try.f26 8) = impl_CheckCert.T8 := by kernel_rfl
theorem impl_CheckCert.bits8 : waitsOk impl_CheckCert.T8.2 impl_CheckCert.B8 = true := by kernel_rfl
def impl_CheckCert.T10 : Bool × List (List Nat × List Nat) := (true, [([], []), ([], []), ([1], [1]), ([], []), ([3], [3]), ([0, 2, 4], [0, 2, 4]), ([], []), ([], []), ([], []), ([8], [8]), ([6, 7, 9, 5], [6, 7, 9]), ([5, 10, 10], [5, 10]), ([11, 11, 0, 1, 2, 3, 4, 5, 6, 7, 8, 9, 10, 11], [11])])
def impl_CheckCert.B10 : List Nat := [0, 0, 2, 0, 8, 31, 0, 0, 0, 256, 1023, 2047, 4095]
theorem impl_CheckCert.tab10 : rtab .any (opsOf Try.f26 10) = impl_CheckCert.T10 := by kernel_rfl
theorem impl_CheckCert.bits10 : waitsOk impl_CheckCert.T10.2 impl_CheckCert.B10 = true := by kernel_rfl
set_option maxHeartbeats 8000000 in
set_option maxRecDepth 100000 in
theorem impl_CheckCert.calls (k : Nat) (a0 : Int) (P1_ : Nat → Prop) (A1 : Option Addr) (c1 : Nat) (l1 : List Int) (P2_ : Nat → Prop) (A2 : Option Addr) (c2 : Nat) (l2 : List Int) (P3_ : Nat → Prop) (A3 : Option Addr) (c3 : Nat) (l3 : List Int) (A4_0 : Option Addr) (c4_0 : Nat) (l4_0 : List Int) (A4_1 : Option Addr) (c4_1 : Nat) (l4_1 : List Int) (A4_2 : Option Addr) (c4_2 : Nat) (l4_2 : List Int) (r : Bool) (w : World) (hs1 : Kd.V (Kd.int .i64) 3 w w.heap.size (fun k_ => P1_ k_) (.slice A1 l1.length c1) l1) (hs2 : Kd.V (Kd.int .i64) 3 w w.heap.size (fun k_ => P2_ k_) (.slice A2 l2.length c2) l2) (hs3 : Kd.V (Kd.int .i64) 3 w w.heap.size (fun k_ => P3_ k_) (.slice A3 l3.length c3) l3) (hr4_0 : Kd.C (Kd.int .i64) w A4_0 l4_0.length l4_0) (hc4_0 : l4_0.length ≤ c4_0) (hr4_1 : Kd.C (Kd.int .i64) w A4_1 l4_1.length l4_1) (hc4_1 : l4_1.length ≤ c4_1) (hr4_2 : Kd.C (Kd.int .i64) w A4_2 l4_2.length l4_2) (hc4_2 : l4_2.length ≤ c4_2) (h : impl_CheckCert.f k a0 l1 l2 l3 l4_0 l4_1 l4_2 = some r) :
  Calls Try.prog 26 #[.int .i64 a0, .slice A1 l1.length c1, .slice A2 l2.length c2, .slice A3 l3.length c3, .agg #[.slice A4_0 l4_0.length c4_0, .slice A4_1 l4_1.length c4_1, .slice A4_2 l4_2.length c4_2]] w fun e w' => e = .returned (.bool r) ∧ Below w.heap.size w w' := by
 have hu27 := Try.underlying27
 have hu88 := Try.underlying88
 have HO1 := Aside0.mk (show Kd.V (Kd.int .i64) 3 w w.heap.size (fun k_ => ((P1_ k_ ∨ P2_ k_ ∨ P3_ k_) ∨ w.heap.size ≤ k_)) (.slice A1 l1.length c1) l1 from Kd.V_mono hs1 (fun k_ hk => .inl (.inl hk)))
 have HO2 := Aside0.mk (show Kd.V (Kd.int .i64) 3 w w.heap.size (fun k_ => ((P1_ k_ ∨ P2_ k_ ∨ P3_ k_) ∨ w.heap.size ≤ k_)) (.slice A2 l2.length c2) l2 from Kd.V_mono hs2 (fun k_ hk => .inl (.inr (.inl hk))))
 have HO3 := Aside0.mk (show Kd.V (Kd.int .i64) 3 w w.heap.size (fun k_ => ((P1_ k_ ∨ P2_ k_ ∨ P3_ k_) ∨ w.heap.size ≤ k_)) (.slice A3 l3.length c3) l3 from Kd.V_mono hs3 (fun k_ hk => .inl (.inr (.inr hk))))
 have HR4_0 := Aside0.mk hr4_0
 have HC4_0 := Aside0.mk hc4_0
 clear hr4_0 hc4_0
 have HR4_1 := Aside0.mk hr4_1
 have HC4_1 := Aside0.mk hc4_1
 clear hr4_1 hc4_1
 have HR4_2 := Aside0.mk hr4_2
 have HC4_2 := Aside0.mk hc4_2
 clear hr4_2 hc4_2
 have HB := Aside0.mk (Below.refl w.heap.size w)
 have H : ((impl_polyField.f k a0 (([l1, l2, l3] : List (List Int)))).bind fun bt280 => ((impl_pointField.f k a0 l4_0).bind fun bt285 => (if bt280.2.2.2 = true then (impl_CheckCert.j0 k l1 l2 l3 (!bt285.2.2.2) l4_0 l4_1 l4_2 bt280.1 bt280.2.1 bt280.2.2.1) else (impl_CheckCert.j0 k l1 l2 l3 true l4_0 l4_1 l4_2 bt280.1 bt280.2.1 bt280.2.2.1)))) = some r := h
 clear h
 obtain ⟨y277, hy277⟩ : ∃ y_ : List (List Int), y_ = (([l1, l2, l3] : List (List Int))) := ⟨_, rfl⟩
 replace H : ((impl_polyField.f k a0 y277).bind fun bt280 => ((impl_pointField.f k a0 l4_0).bind fun bt285 => (if bt280.2.2.2 = true then (impl_CheckCert.j0 k l1 l2 l3 (!bt285.2.2.2) l4_0 l4_1 l4_2 bt280.1 bt280.2.1 bt280.2.2.1) else (impl_CheckCert.j0 k l1 l2 l3 true l4_0 l4_1 l4_2 bt280.1 bt280.2.1 bt280.2.2.1)))) = some r := by first | (rw [hy277]; with_reducible exact H) | (have H2_ := (Option.bind_some _ _).symm.trans H; rw [hy277]; with_reducible exact H2_) | (have H2_ := (Option.bind_some _ _).symm.trans H; with_reducible exact H2_) | with_reducible exact H | (rw [hy277]; exact H) | exact H
 have Ny277 := Aside0.mk hy277
 clear hy277
 replace H := Option.bind_eq_some_iff.mp H
 obtain ⟨⟨t280, t281, t282, t283⟩, A60, H⟩ := H
 (try dsimp -zeta -simprocs only at H)
 have A6 := Aside0.mk A60
 clear A60
 replace H := Option.bind_eq_some_iff.mp H
 obtain ⟨⟨t285, t286, t287, t288⟩, A70, H⟩ := H
 (try dsimp -zeta -simprocs only at H)
 have A7 := Aside0.mk A70
 clear A70
 have HC8 := Aside0.mk H
 clear H
 go_enter Try.func26, Try.ntmps26
 go_upto_region 3 with (first | ((with_reducible refine gate_dst (N := 9) rfl ?_); (try (refine gate_guard (by rfl) ?_; dsimp only)); refine box_event ?hg (N := 9) ?hd (cs := #[.slice A4_0 l4_0.length c4_0, .slice A4_1 l4_1.length c4_1, .slice A4_2 l4_2.length c4_2]) (t := 27) ?hr ?_; (case hd => rfl); (case hg => rfl); (case hr => first | (go_simp; done) | (go_simp; rfl)); intro gb276 hg w9 hbox hb; replace HO1 := zA (Kd.V_below (Kd.V_elderB (by (with_reducible repeat (first | apply Kd.V_alloc | apply Kd.V_drewN | apply Kd.V_drew)); exact HO1.out) gb276 (Nat.le_of_eq hg.symm)) hb); replace HO2 := zA (Kd.V_below (Kd.V_elderB (by (with_reducible repeat (first | apply Kd.V_alloc | apply Kd.V_drewN | apply Kd.V_drew)); exact HO2.out) gb276 (Nat.le_of_eq hg.symm)) hb); replace HO3 := zA (Kd.V_below (Kd.V_elderB (by (with_reducible repeat (first | apply Kd.V_alloc | apply Kd.V_drewN | apply Kd.V_drew)); exact HO3.out) gb276 (Nat.le_of_eq hg.symm)) hb); have BK276 := zA (hbox); have GW276 := zA ((by rw [hg]; exact (below_size zH) : w.heap.size ≤ gb276)); have GE276 := zA ((by rw [hg]; exact (below_size zH) : w.heap.size ≤ gb276)); replace HB := zA (below_step zH hb); clear hb hbox hg) | ((with_reducible refine gate_dst (N := 21) rfl ?_); (try (refine gate_guard (by rfl) ?_; dsimp only)); refine Kd.N_lit (Kd.slice 3 (Kd.int .i64)) _ 22 ?hg (N' := 21) ?hd (xs := ([l1, l2, l3] : List (List Int))) (inner := [.slice A1 l1.length c1, .slice A2 l2.length c2, .slice A3 l3.length c3]) (ok := (fun k_ => ((P1_ k_ ∨ P2_ k_ ∨ P3_ k_) ∨ w.heap.size ≤ k_) ∧ k_ ≠ gb276)) (okp := (fun k_ => ((P1_ k_ ∨ P2_ k_ ∨ P3_ k_) ∨ w.heap.size ≤ k_) ∧ k_ ≠ gb276)) ?hr ?hp (fun _ hk => hk) ((show ∀ k_, w9.heap.size ≤ k_ → (fun k_ => ((P1_ k_ ∨ P2_ k_ ∨ P3_ k_) ∨ w.heap.size ≤ k_) ∧ k_ ≠ gb276) k_ from fun k_ hk => ⟨(.inr (Nat.le_trans (below_size zH) hk)), Kd.freshB (g := gb276) (o := .cells #[.slice A4_0 l4_0.length c4_0, .slice A4_1 l4_1.length c4_1, .slice A4_2 l4_2.length c4_2] 27 (0, 0)) (zB BK276.out) k_ hk⟩) _ (Nat.le_refl _)) (Below.refl _ _) (Nat.le_refl _) (by simp) ?_; (case hd => rfl); (case hg => rfl); (case hr => first | (go_simp; done) | (go_simp; rfl)); (case hp => exact (Reps.one (show Kd.FK (Kd.slice 3 (Kd.int .i64)) _ _ l1 [.slice A1 l1.length c1] from (Kd.FK_slice_mk (Kd.V_reads' (Kd.V_mono (ok' := (fun k_ => ((P1_ k_ ∨ P2_ k_ ∨ P3_ k_) ∨ w.heap.size ≤ k_) ∧ k_ ≠ gb276)) (HO1.out) (fun k_ hk => ⟨hk.1, hk.2⟩))).2.1 (Kd.V_F (Kd.V_mono (ok' := (fun k_ => ((P1_ k_ ∨ P2_ k_ ∨ P3_ k_) ∨ w.heap.size ≤ k_) ∧ k_ ≠ gb276)) (HO1.out) (fun k_ hk => ⟨hk.1, hk.2⟩))))) (Reps.one (show Kd.FK (Kd.slice 3 (Kd.int .i64)) _ _ l2 [.slice A2 l2.length c2] from (Kd.FK_slice_mk (Kd.V_reads' (Kd.V_mono (ok' := (fun k_ => ((P1_ k_ ∨ P2_ k_ ∨ P3_ k_) ∨ w.heap.size ≤ k_) ∧ k_ ≠ gb276)) (HO2.out) (fun k_ hk => ⟨hk.1, hk.2⟩))).2.1 (Kd.V_F (Kd.V_mono (ok' := (fun k_ => ((P1_ k_ ∨ P2_ k_ ∨ P3_ k_) ∨ w.heap.size ≤ k_) ∧ k_ ≠ gb276)) (HO2.out) (fun k_ hk => ⟨hk.1, hk.2⟩))))) (Reps.one (show Kd.FK (Kd.slice 3 (Kd.int .i64)) _ _ l3 [.slice A3 l3.length c3] from (Kd.FK_slice_mk (Kd.V_reads' (Kd.V_mono (ok' := (fun k_ => ((P1_ k_ ∨ P2_ k_ ∨ P3_ k_) ∨ w.heap.size ≤ k_) ∧ k_ ≠ gb276)) (HO3.out) (fun k_ hk => ⟨hk.1, hk.2⟩))).2.1 (Kd.V_F (Kd.V_mono (ok' := (fun k_ => ((P1_ k_ ∨ P2_ k_ ∨ P3_ k_) ∨ w.heap.size ≤ k_) ∧ k_ ≠ gb276)) (HO3.out) (fun k_ hk => ⟨hk.1, hk.2⟩))))) (Reps.none _ _))))); intro v278 w10 ho11 hb hg_ hnew_; clear hg_ hnew_; (first | rw [← Ny277.out] at ho11 | (simp only [Int.reduceToNat] at ho11; rw [← Ny277.out] at ho11)); replace HO1 := zA (Kd.V_elder' (by (with_reducible repeat (first | apply Kd.V_alloc | apply Kd.V_drewN | apply Kd.V_drew)); exact HO1.out) (Kd.N_base ho11) hb); replace HO2 := zA (Kd.V_elder' (by (with_reducible repeat (first | apply Kd.V_alloc | apply Kd.V_drewN | apply Kd.V_drew)); exact HO2.out) (Kd.N_base ho11) hb); replace HO3 := zA (Kd.V_elder' (by (with_reducible repeat (first | apply Kd.V_alloc | apply Kd.V_drewN | apply Kd.V_drew)); exact HO3.out) (Kd.N_base ho11) hb); have HO279 := zA (Kd.N_lower ho11 (below_size zH)); replace BK276 := zb BK276.out hb; replace HB := zA (below_step zH hb); clear hb ho11; obtain ⟨Ao12, co12, eo12⟩ := Kd.N_slice HO279.out; subst eo12) | ((with_reducible refine gate_callee (f := 71) rfl ?_); refine goesL_ (some 22) rfl rfl Try.func71 (by kernel_rfl) rfl #[.int .i64 a0, .slice Ao12 y277.length co12] rfl zM ?_; (with_reducible refine (impl_polyField.calls k a0 _ _ y277 t280 t281 t282 t283 _ ?side1 ?side2 A6.out).mono ?_); (case side1 => exact zC ((Kd.N_reads' HO279.out).2.2)); (case side2 => exact (Kd.N_reads' HO279.out).2.1); rintro e w13 ⟨rfl, hb⟩; refine ⟨_, rfl, ?_⟩; replace HO1 := zA (Kd.V_below (by (with_reducible repeat (first | apply Kd.V_alloc | apply Kd.V_drewN | apply Kd.V_drew)); exact HO1.out) hb); replace HO2 := zA (Kd.V_below (by (with_reducible repeat (first | apply Kd.V_alloc | apply Kd.V_drewN | apply Kd.V_drew)); exact HO2.out) hb); replace HO3 := zA (Kd.V_below (by (with_reducible repeat (first | apply Kd.V_alloc | apply Kd.V_drewN | apply Kd.V_drew)); exact HO3.out) hb); replace HO279 := zA (Kd.N_below (by (with_reducible repeat (first | apply Kd.N_alloc | apply Kd.N_drewN | apply Kd.N_drew)); exact HO279.out) hb); replace BK276 := zb BK276.out hb; replace HB := zA (below_step zH hb); (try clear hb)) | ((with_reducible refine gate_dst (N := 11) rfl ?_); (try (refine gate_guard (by rfl) ?_; dsimp only)); refine box_event ?hg (N := 11) ?hd (cs := #[.int .i64 0, .int .i64 0, .int .i64 0]) (t := 88) ?hr ?_; (case hd => rfl); (case hg => rfl); (case hr => first | (go_simp; done) | (go_simp; rfl)); intro gb284 hg w14 hbox hb; replace HO1 := zA (Kd.V_below (Kd.V_elderB (by (with_reducible repeat (first | apply Kd.V_alloc | apply Kd.V_drewN | apply Kd.V_drew)); exact HO1.out) gb284 (Nat.le_of_eq hg.symm)) hb); replace HO2 := zA (Kd.V_below (Kd.V_elderB (by (with_reducible repeat (first | apply Kd.V_alloc | apply Kd.V_drewN | apply Kd.V_drew)); exact HO2.out) gb284 (Nat.le_of_eq hg.symm)) hb); replace HO3 := zA (Kd.V_below (Kd.V_elderB (by (with_reducible repeat (first | apply Kd.V_alloc | apply Kd.V_drewN | apply Kd.V_drew)); exact HO3.out) gb284 (Nat.le_of_eq hg.symm)) hb); replace HO279 := zA (Kd.N_below (Kd.N_elderB (by (with_reducible repeat (first | apply Kd.N_alloc | apply Kd.N_drewN | apply Kd.N_drew)); exact HO279.out) gb284 (Nat.le_of_eq hg.symm)) hb); have BK284 := zA (hbox); have GW284 := zA ((by rw [hg]; exact (below_size zH) : w.heap.size ≤ gb284)); have GE284 := zA ((by rw [hg]; exact (below_size zH) : w.heap.size ≤ gb284)); replace HB := zA (below_step zH hb); have NB276_284 := Aside0.mk ((by rw [hg]; exact Nat.ne_of_lt (blk_lt (g := gb276) (o := .cells #[.slice A4_0 l4_0.length c4_0, .slice A4_1 l4_1.length c4_1, .slice A4_2 l4_2.length c4_2] 27 (0, 0)) (zB BK276.out)) : gb276 ≠ gb284)); have NB284_276 := Aside0.mk ((by rw [hg]; exact Nat.ne_of_gt (blk_lt (g := gb276) (o := .cells #[.slice A4_0 l4_0.length c4_0, .slice A4_1 l4_1.length c4_1, .slice A4_2 l4_2.length c4_2] 27 (0, 0)) (zB BK276.out)) : gb284 ≠ gb276)); replace BK276 := zb BK276.out hb; clear hb hbox hg; have hnb15 := NB284_276.out; have hnc15 := NB276_284.out; obtain ⟨hcz16_0, hcz16_1, hcz16_2⟩ := zc3 BK284.out; obtain ⟨hfz16_0, hfz16_1, hfz16_2, _, _⟩ := zf BK284.out; obtain ⟨hcz17_0, hcz17_1, hcz17_2⟩ := zc3 BK276.out; obtain ⟨hfz17_0, hfz17_1, hfz17_2, _, _⟩ := zf BK276.out) | ((with_reducible refine gate_callee (f := 70) rfl ?_); refine goesL_ (some 29) rfl rfl Try.func70 (by kernel_rfl) rfl #[.int .i64 a0, .slice A4_0 l4_0.length c4_0] rfl zM ?_; (with_reducible refine (impl_pointField.calls k a0 _ _ l4_0 t285 t286 t287 t288 _ ?side1 ?side2 A7.out).mono ?_); (case side1 => exact Kd.C_below HR4_0.out zH); (case side2 => exact HC4_0.out); rintro e w18 ⟨rfl, hb⟩; refine ⟨_, rfl, ?_⟩; replace HO1 := Aside0.mk (Kd.V_below (by (with_reducible repeat (first | apply Kd.V_alloc | apply Kd.V_drewN | apply Kd.V_drew)); exact (Kd.V_mono (Kd.V_far (p := ⟨gb284, 2, none⟩) (Kd.V_far (p := ⟨gb284, 1, none⟩) (Kd.V_far (p := ⟨gb284, 0, none⟩) (Kd.V_mono HO1.out (fun k_ hk => (⟨hk, hk.2⟩ : _ ∧ k_ ≠ gb284))) (fun _ hk => hk.2) (.int .i64 t280)) (fun _ hk => hk.2) (.int .i64 t281)) (fun _ hk => hk.2) (.int .i64 t282)) (fun _ h_ => h_.1))) hb); replace HO2 := Aside0.mk (Kd.V_below (by (with_reducible repeat (first | apply Kd.V_alloc | apply Kd.V_drewN | apply Kd.V_drew)); exact (Kd.V_mono (Kd.V_far (p := ⟨gb284, 2, none⟩) (Kd.V_far (p := ⟨gb284, 1, none⟩) (Kd.V_far (p := ⟨gb284, 0, none⟩) (Kd.V_mono HO2.out (fun k_ hk => (⟨hk, hk.2⟩ : _ ∧ k_ ≠ gb284))) (fun _ hk => hk.2) (.int .i64 t280)) (fun _ hk => hk.2) (.int .i64 t281)) (fun _ hk => hk.2) (.int .i64 t282)) (fun _ h_ => h_.1))) hb); replace HO3 := Aside0.mk (Kd.V_below (by (with_reducible repeat (first | apply Kd.V_alloc | apply Kd.V_drewN | apply Kd.V_drew)); exact (Kd.V_mono (Kd.V_far (p := ⟨gb284, 2, none⟩) (Kd.V_far (p := ⟨gb284, 1, none⟩) (Kd.V_far (p := ⟨gb284, 0, none⟩) (Kd.V_mono HO3.out (fun k_ hk => (⟨hk, hk.2⟩ : _ ∧ k_ ≠ gb284))) (fun _ hk => hk.2) (.int .i64 t280)) (fun _ hk => hk.2) (.int .i64 t281)) (fun _ hk => hk.2) (.int .i64 t282)) (fun _ h_ => h_.1))) hb); replace HO279 := Aside0.mk (Kd.N_below (by (with_reducible repeat (first | apply Kd.N_alloc | apply Kd.N_drewN | apply Kd.N_drew)); exact (Kd.N_mono (Kd.N_far (p := ⟨gb284, 2, none⟩) (Kd.N_far (p := ⟨gb284, 1, none⟩) (Kd.N_far (p := ⟨gb284, 0, none⟩) (Kd.N_mono HO279.out (fun k_ hk => (⟨hk, hk.2⟩ : _ ∧ k_ ≠ gb284))) (fun _ hk => hk.2) (.int .i64 t280)) (fun _ hk => hk.2) (.int .i64 t281)) (fun _ hk => hk.2) (.int .i64 t282)) (fun _ h_ => h_.1))) hb); replace BK276 := Aside0.mk (blk_below (g := gb276) (o := .cells #[.slice A4_0 l4_0.length c4_0, .slice A4_1 l4_1.length c4_1, .slice A4_2 l4_2.length c4_2] 27 (0, 0)) (by (repeat refine zL ?_); refine blk_far ?_ NB276_284.out _; (repeat refine zL ?_); refine blk_far ?_ NB276_284.out _; (repeat refine zL ?_); refine blk_far ?_ NB276_284.out _; (repeat refine zL ?_); exact BK276.out) hb); replace BK284 := Aside0.mk (blk_below (g := gb284) (o := .cells #[.int .i64 t280, .int .i64 t281, .int .i64 t282] 88 (0, 0)) (by (repeat refine zL ?_); refine blk_put (cs := #[.int .i64 t280, .int .i64 t281, .int .i64 0]) ?_ 2 _ rfl; (repeat refine zL ?_); refine blk_put (cs := #[.int .i64 t280, .int .i64 0, .int .i64 0]) ?_ 1 _ rfl; (repeat refine zL ?_); refine blk_put (cs := #[.int .i64 0, .int .i64 0, .int .i64 0]) ?_ 0 _ rfl; (repeat refine zL ?_); exact BK284.out) hb); replace HB := zA (below_step zH hb); (try clear hb)) | ((with_reducible refine gate_dst (N := 13) rfl ?_); (try (refine gate_guard (by rfl) ?_; dsimp only)); refine box_event ?hg (N := 13) ?hd (cs := #[.int .i64 0, .int .i64 0, .int .i64 0]) (t := 88) ?hr ?_; (case hd => rfl); (case hg => rfl); (case hr => first | (go_simp; done) | (go_simp; rfl)); intro gb289 hg w19 hbox hb; replace HO1 := zA (Kd.V_below (Kd.V_elderB (by (with_reducible repeat (first | apply Kd.V_alloc | apply Kd.V_drewN | apply Kd.V_drew)); exact HO1.out) gb289 (Nat.le_of_eq hg.symm)) hb); replace HO2 := zA (Kd.V_below (Kd.V_elderB (by (with_reducible repeat (first | apply Kd.V_alloc | apply Kd.V_drewN | apply Kd.V_drew)); exact HO2.out) gb289 (Nat.le_of_eq hg.symm)) hb); replace HO3 := zA (Kd.V_below (Kd.V_elderB (by (with_reducible repeat (first | apply Kd.V_alloc | apply Kd.V_drewN | apply Kd.V_drew)); exact HO3.out) gb289 (Nat.le_of_eq hg.symm)) hb); replace HO279 := zA (Kd.N_below (Kd.N_elderB (by (with_reducible repeat (first | apply Kd.N_alloc | apply Kd.N_drewN | apply Kd.N_drew)); exact HO279.out) gb289 (Nat.le_of_eq hg.symm)) hb); have BK289 := zA (hbox); have GW289 := zA ((by rw [hg]; exact (below_size zH) : w.heap.size ≤ gb289)); have GE289 := zA ((by rw [hg]; exact (below_size zH) : w.heap.size ≤ gb289)); replace HB := zA (below_step zH hb); have NB276_289 := Aside0.mk ((by rw [hg]; exact Nat.ne_of_lt (blk_lt (g := gb276) (o := .cells #[.slice A4_0 l4_0.length c4_0, .slice A4_1 l4_1.length c4_1, .slice A4_2 l4_2.length c4_2] 27 (0, 0)) (zB BK276.out)) : gb276 ≠ gb289)); have NB289_276 := Aside0.mk ((by rw [hg]; exact Nat.ne_of_gt (blk_lt (g := gb276) (o := .cells #[.slice A4_0 l4_0.length c4_0, .slice A4_1 l4_1.length c4_1, .slice A4_2 l4_2.length c4_2] 27 (0, 0)) (zB BK276.out)) : gb289 ≠ gb276)); replace BK276 := zb BK276.out hb; have NB284_289 := Aside0.mk ((by rw [hg]; exact Nat.ne_of_lt (blk_lt (g := gb284) (o := .cells #[.int .i64 t280, .int .i64 t281, .int .i64 t282] 88 (0, 0)) (zB BK284.out)) : gb284 ≠ gb289)); have NB289_284 := Aside0.mk ((by rw [hg]; exact Nat.ne_of_gt (blk_lt (g := gb284) (o := .cells #[.int .i64 t280, .int .i64 t281, .int .i64 t282] 88 (0, 0)) (zB BK284.out)) : gb289 ≠ gb284)); replace BK284 := zb BK284.out hb; clear hb hbox hg; have hnb20 := NB289_276.out; have hnc20 := NB276_289.out; have hnb21 := NB289_284.out; have hnc21 := NB284_289.out; obtain ⟨hcz22_0, hcz22_1, hcz22_2⟩ := zc3 BK289.out; obtain ⟨hfz22_0, hfz22_1, hfz22_2, _, _⟩ := zf BK289.out))
 (try simp only [Act.put, List.setIfInBounds_toArray, List.set_cons_zero, List.set_cons_succ])
 go_cut [37] (fun v37 wc => ∃ (kq : Nat) (x37_7 : Bool), v37 = .bool x37_7 ∧ Aside0 (impl_CheckCert.j0 kq l1 l2 l3 x37_7 l4_0 l4_1 l4_2 t280 t281 t282 = some r) ∧ Aside0 (kq ≤ k) ∧ Aside0 (Kd.V (Kd.int .i64) 3 wc w.heap.size (fun k_ => ((P1_ k_ ∨ P2_ k_ ∨ P3_ k_) ∨ w.heap.size ≤ k_) ∧ k_ ≠ gb276 ∧ k_ ≠ gb284 ∧ k_ ≠ gb289) (.slice A1 l1.length c1) l1) ∧ Aside0 (Kd.V (Kd.int .i64) 3 wc w.heap.size (fun k_ => ((P1_ k_ ∨ P2_ k_ ∨ P3_ k_) ∨ w.heap.size ≤ k_) ∧ k_ ≠ gb276 ∧ k_ ≠ gb284 ∧ k_ ≠ gb289) (.slice A2 l2.length c2) l2) ∧ Aside0 (Kd.V (Kd.int .i64) 3 wc w.heap.size (fun k_ => ((P1_ k_ ∨ P2_ k_ ∨ P3_ k_) ∨ w.heap.size ≤ k_) ∧ k_ ≠ gb276 ∧ k_ ≠ gb284 ∧ k_ ≠ gb289) (.slice A3 l3.length c3) l3) ∧ Aside0 (wc.heap[gb276]? = some (.cells #[(.slice A4_0 l4_0.length c4_0), (.slice A4_1 l4_1.length c4_1), (.slice A4_2 l4_2.length c4_2)] 27 (0, 0))) ∧ Aside0 (wc.heap[gb284]? = some (.cells #[.int .i64 t280, .int .i64 t281, .int .i64 t282] 88 (0, 0))) ∧ Aside0 (wc.heap[gb289]? = some (.cells #[.int .i64 t285, .int .i64 t286, .int .i64 t287] 88 (0, 0))) ∧ Aside0 (Below w.heap.size w wc))
 case first =>
  have H := HC8.out
  clear HC8
  by_cases c23 : t283 = true
  ·subst c23
   rw [if_pos rfl] at H
   have H' := Aside0.mk H
   clear H
   go_wp2
   go_meet
   case rel => exact ⟨_, (!t288), zF, H', ⟨by first | omega | exact Nat.le_refl _⟩, ⟨by (with_reducible repeat (first | apply Kd.V_alloc | apply Kd.V_drewN | apply Kd.V_drew)); exact Kd.V_mono (Kd.V_far (p := ⟨gb289, 2, none⟩) (Kd.V_far (p := ⟨gb289, 1, none⟩) (Kd.V_far (p := ⟨gb289, 0, none⟩) (Kd.V_mono HO1.out (fun k_ hk => (⟨hk, hk.2⟩ : _ ∧ k_ ≠ gb289))) (fun _ hk => hk.2) (.int .i64 t285)) (fun _ hk => hk.2) (.int .i64 t286)) (fun _ hk => hk.2) (.int .i64 t287)) (fun _ hk => ⟨hk.1.1.1.1.1, ⟨hk.1.1.1.1.2, ⟨hk.1.1.2, hk.1.2⟩⟩⟩)⟩, ⟨by (with_reducible repeat (first | apply Kd.V_alloc | apply Kd.V_drewN | apply Kd.V_drew)); exact Kd.V_mono (Kd.V_far (p := ⟨gb289, 2, none⟩) (Kd.V_far (p := ⟨gb289, 1, none⟩) (Kd.V_far (p := ⟨gb289, 0, none⟩) (Kd.V_mono HO2.out (fun k_ hk => (⟨hk, hk.2⟩ : _ ∧ k_ ≠ gb289))) (fun _ hk => hk.2) (.int .i64 t285)) (fun _ hk => hk.2) (.int .i64 t286)) (fun _ hk => hk.2) (.int .i64 t287)) (fun _ hk => ⟨hk.1.1.1.1.1, ⟨hk.1.1.1.1.2, ⟨hk.1.1.2, hk.1.2⟩⟩⟩)⟩, ⟨by (with_reducible repeat (first | apply Kd.V_alloc | apply Kd.V_drewN | apply Kd.V_drew)); exact Kd.V_mono (Kd.V_far (p := ⟨gb289, 2, none⟩) (Kd.V_far (p := ⟨gb289, 1, none⟩) (Kd.V_far (p := ⟨gb289, 0, none⟩) (Kd.V_mono HO3.out (fun k_ hk => (⟨hk, hk.2⟩ : _ ∧ k_ ≠ gb289))) (fun _ hk => hk.2) (.int .i64 t285)) (fun _ hk => hk.2) (.int .i64 t286)) (fun _ hk => hk.2) (.int .i64 t287)) (fun _ hk => ⟨hk.1.1.1.1.1, ⟨hk.1.1.1.1.2, ⟨hk.1.1.2, hk.1.2⟩⟩⟩)⟩, ⟨by (repeat refine zL ?_); refine blk_far ?_ NB276_289.out _; (repeat refine zL ?_); refine blk_far ?_ NB276_289.out _; (repeat refine zL ?_); refine blk_far ?_ NB276_289.out _; (repeat refine zL ?_); exact BK276.out⟩, ⟨by (repeat refine zL ?_); refine blk_far ?_ NB284_289.out _; (repeat refine zL ?_); refine blk_far ?_ NB284_289.out _; (repeat refine zL ?_); refine blk_far ?_ NB284_289.out _; (repeat refine zL ?_); exact BK284.out⟩, ⟨by (repeat refine zL ?_); refine blk_put (cs := #[.int .i64 t285, .int .i64 t286, .int .i64 0]) ?_ 2 _ rfl; (repeat refine zL ?_); refine blk_put (cs := #[.int .i64 t285, .int .i64 0, .int .i64 0]) ?_ 1 _ rfl; (repeat refine zL ?_); refine blk_put (cs := #[.int .i64 0, .int .i64 0, .int .i64 0]) ?_ 0 _ rfl; (repeat refine zL ?_); exact BK289.out⟩, ⟨zH⟩⟩
  ·replace c23 := Bool.eq_false_iff.mpr c23
   subst c23
   rw [if_neg (show ¬ (false = true) by decide)] at H
   have H' := Aside0.mk H
   clear H
   go_wp2
   go_meet
   case rel => exact ⟨_, (true), zF, H', ⟨by first | omega | exact Nat.le_refl _⟩, ⟨by (with_reducible repeat (first | apply Kd.V_alloc | apply Kd.V_drewN | apply Kd.V_drew)); exact Kd.V_mono (Kd.V_far (p := ⟨gb289, 2, none⟩) (Kd.V_far (p := ⟨gb289, 1, none⟩) (Kd.V_far (p := ⟨gb289, 0, none⟩) (Kd.V_mono HO1.out (fun k_ hk => (⟨hk, hk.2⟩ : _ ∧ k_ ≠ gb289))) (fun _ hk => hk.2) (.int .i64 t285)) (fun _ hk => hk.2) (.int .i64 t286)) (fun _ hk => hk.2) (.int .i64 t287)) (fun _ hk => ⟨hk.1.1.1.1.1, ⟨hk.1.1.1.1.2, ⟨hk.1.1.2, hk.1.2⟩⟩⟩)⟩, ⟨by (with_reducible repeat (first | apply Kd.V_alloc | apply Kd.V_drewN | apply Kd.V_drew)); exact Kd.V_mono (Kd.V_far (p := ⟨gb289, 2, none⟩) (Kd.V_far (p := ⟨gb289, 1, none⟩) (Kd.V_far (p := ⟨gb289, 0, none⟩) (Kd.V_mono HO2.out (fun k_ hk => (⟨hk, hk.2⟩ : _ ∧ k_ ≠ gb289))) (fun _ hk => hk.2) (.int .i64 t285)) (fun _ hk => hk.2) (.int .i64 t286)) (fun _ hk => hk.2) (.int .i64 t287)) (fun _ hk => ⟨hk.1.1.1.1.1, ⟨hk.1.1.1.1.2, ⟨hk.1.1.2, hk.1.2⟩⟩⟩)⟩, ⟨by (with_reducible repeat (first | apply Kd.V_alloc | apply Kd.V_drewN | apply Kd.V_drew)); exact Kd.V_mono (Kd.V_far (p := ⟨gb289, 2, none⟩) (Kd.V_far (p := ⟨gb289, 1, none⟩) (Kd.V_far (p := ⟨gb289, 0, none⟩) (Kd.V_mono HO3.out (fun k_ hk => (⟨hk, hk.2⟩ : _ ∧ k_ ≠ gb289))) (fun _ hk => hk.2) (.int .i64 t285)) (fun _ hk => hk.2) (.int .i64 t286)) (fun _ hk => hk.2) (.int .i64 t287)) (fun _ hk => ⟨hk.1.1.1.1.1, ⟨hk.1.1.1.1.2, ⟨hk.1.1.2, hk.1.2⟩⟩⟩)⟩, ⟨by (repeat refine zL ?_); refine blk_far ?_ NB276_289.out _; (repeat refine zL ?_); refine blk_far ?_ NB276_289.out _; (repeat refine zL ?_); refine blk_far ?_ NB276_289.out _; (repeat refine zL ?_); exact BK276.out⟩, ⟨by (repeat refine zL ?_); refine blk_far ?_ NB284_289.out _; (repeat refine zL ?_); refine blk_far ?_ NB284_289.out _; (repeat refine zL ?_); refine blk_far ?_ NB284_289.out _; (repeat refine zL ?_); exact BK284.out⟩, ⟨by (repeat refine zL ?_); refine blk_put (cs := #[.int .i64 t285, .int .i64 t286, .int .i64 0]) ?_ 2 _ rfl; (repeat refine zL ?_); refine blk_put (cs := #[.int .i64 t285, .int .i64 0, .int .i64 0]) ?_ 1 _ rfl; (repeat refine zL ?_); refine blk_put (cs := #[.int .i64 0, .int .i64 0, .int .i64 0]) ?_ 0 _ rfl; (repeat refine zL ?_); exact BK289.out⟩, ⟨zH⟩⟩
 case rest =>
  clear HC8
  skip
  obtain ⟨kq, x37_7, rfl, HA, HJ7, HO_1, HO_2, HO_3, BK276, BK284, BK289, HB⟩ := hcut
  cases kq with
  | zero => exact absurd HA.out (by simp [impl_CheckCert.j0])
  | succ kj7 =>
   have H := HA.out
   clear HA
   simp only [impl_CheckCert.j0] at H
   by_cases c24 : x37_7 = true
   ·subst c24
    rw [if_pos rfl] at H
    obtain rfl := Option.some.inj H
    go_wp2
    go_ret
    exact ⟨zE, zH⟩
   ·replace c24 := Bool.eq_false_iff.mpr c24
    subst c24
    rw [if_neg (show ¬ (false = true) by decide)] at H
    have HC25 := Aside0.mk H
    clear H
    go_upto_region 6 with (fail)
    go_cut [47] (fun v47 wc => ∃ (kq : Nat) (x47_24 : Bool), v47 = .bool x47_24 ∧ Aside0 (impl_CheckCert.j1 kq l1 l2 l3 (l3.length : Int) x47_24 l4_0 l4_1 l4_2 t280 t281 t282 = some r) ∧ Aside0 (kq ≤ kj7) ∧ Aside0 (Kd.V (Kd.int .i64) 3 wc w.heap.size (fun k_ => ((P1_ k_ ∨ P2_ k_ ∨ P3_ k_) ∨ w.heap.size ≤ k_) ∧ k_ ≠ gb276 ∧ k_ ≠ gb284 ∧ k_ ≠ gb289) (.slice A1 l1.length c1) l1) ∧ Aside0 (Kd.V (Kd.int .i64) 3 wc w.heap.size (fun k_ => ((P1_ k_ ∨ P2_ k_ ∨ P3_ k_) ∨ w.heap.size ≤ k_) ∧ k_ ≠ gb276 ∧ k_ ≠ gb284 ∧ k_ ≠ gb289) (.slice A2 l2.length c2) l2) ∧ Aside0 (Kd.V (Kd.int .i64) 3 wc w.heap.size (fun k_ => ((P1_ k_ ∨ P2_ k_ ∨ P3_ k_) ∨ w.heap.size ≤ k_) ∧ k_ ≠ gb276 ∧ k_ ≠ gb284 ∧ k_ ≠ gb289) (.slice A3 l3.length c3) l3) ∧ Aside0 (wc.heap[gb276]? = some (.cells #[(.slice A4_0 l4_0.length c4_0), (.slice A4_1 l4_1.length c4_1), (.slice A4_2 l4_2.length c4_2)] 27 (0, 0))) ∧ Aside0 (wc.heap[gb284]? = some (.cells #[.int .i64 t280, .int .i64 t281, .int .i64 t282] 88 (0, 0))) ∧ Aside0 (wc.heap[gb289]? = some (.cells #[.int .i64 t285, .int .i64 t286, .int .i64 t287] 88 (0, 0))) ∧ Aside0 (Below w.heap.size w wc))
    case first =>
     have H := HC25.out
     clear HC25
     by_cases c26 : (l1.length : Int) > 0
     ·rw [if_pos c26] at H
      have c26b0 : decide (0 < (l1.length : Int)) = true := decide_eq_true c26
      have c26b1 : decide (0 < l1.length) = true := decide_eq_true (by omega)
      clear c26
      (first | rw [c26b0] | (simp only [i64_w, i32_w]; rw [c26b0]) | skip)
      have H' := Aside0.mk H
      clear H
      go_wp2
      go_meet
      case rel => exact ⟨_, (decide ((l2.length : Int) > 0)), zF, H', ⟨by have := HJ7.out; first | omega | exact Nat.le_refl _⟩, ⟨by (with_reducible repeat (first | apply Kd.V_alloc | apply Kd.V_drewN | apply Kd.V_drew)); exact HO_1.out⟩, ⟨by (with_reducible repeat (first | apply Kd.V_alloc | apply Kd.V_drewN | apply Kd.V_drew)); exact HO_2.out⟩, ⟨by (with_reducible repeat (first | apply Kd.V_alloc | apply Kd.V_drewN | apply Kd.V_drew)); exact HO_3.out⟩, ⟨zB BK276.out⟩, ⟨zB BK284.out⟩, ⟨zB BK289.out⟩, ⟨zH⟩⟩
     ·rw [if_neg c26] at H
      have c26b0 : decide (0 < (l1.length : Int)) = false := decide_eq_false c26
      have c26b1 : decide (0 < l1.length) = false := decide_eq_false (by omega)
      clear c26
      (first | rw [c26b0] | (simp only [i64_w, i32_w]; rw [c26b0]) | skip)
      have H' := Aside0.mk H
      clear H
      go_wp2
      go_meet
      case rel => exact ⟨_, (false), zF, H', ⟨by have := HJ7.out; first | omega | exact Nat.le_refl _⟩, ⟨by (with_reducible repeat (first | apply Kd.V_alloc | apply Kd.V_drewN | apply Kd.V_drew)); exact HO_1.out⟩, ⟨by (with_reducible repeat (first | apply Kd.V_alloc | apply Kd.V_drewN | apply Kd.V_drew)); exact HO_2.out⟩, ⟨by (with_reducible repeat (first | apply Kd.V_alloc | apply Kd.V_drewN | apply Kd.V_drew)); exact HO_3.out⟩, ⟨zB BK276.out⟩, ⟨zB BK284.out⟩, ⟨zB BK289.out⟩, ⟨zH⟩⟩
    case rest =>
     clear HC25
     skip
     obtain ⟨kq, x47_24, rfl, HA, HJ24, HO_1, HO_2, HO_3, BK276, BK284, BK289, HB⟩ := hcut
     cases kq with
     | zero => exact absurd HA.out (by simp [impl_CheckCert.j1])
     | succ kj24 =>
      have H := HA.out
      clear HA
      simp only [impl_CheckCert.j1] at H
      have HC27 := Aside0.mk H
      clear H
      go_upto_if 47 with (fail)
      go_cut [15] (fun v15 wc => ∃ (kq : Nat) (x15_26 : Int), v15 = .int .i64 x15_26 ∧ Aside0 (impl_CheckCert.j2 kq l1 l2 l3 x15_26 l4_0 l4_1 l4_2 t280 t281 t282 = some r) ∧ Aside0 (kq ≤ kj24) ∧ Aside0 (Kd.V (Kd.int .i64) 3 wc w.heap.size (fun k_ => ((P1_ k_ ∨ P2_ k_ ∨ P3_ k_) ∨ w.heap.size ≤ k_) ∧ k_ ≠ gb276 ∧ k_ ≠ gb284 ∧ k_ ≠ gb289) (.slice A1 l1.length c1) l1) ∧ Aside0 (Kd.V (Kd.int .i64) 3 wc w.heap.size (fun k_ => ((P1_ k_ ∨ P2_ k_ ∨ P3_ k_) ∨ w.heap.size ≤ k_) ∧ k_ ≠ gb276 ∧ k_ ≠ gb284 ∧ k_ ≠ gb289) (.slice A2 l2.length c2) l2) ∧ Aside0 (Kd.V (Kd.int .i64) 3 wc w.heap.size (fun k_ => ((P1_ k_ ∨ P2_ k_ ∨ P3_ k_) ∨ w.heap.size ≤ k_) ∧ k_ ≠ gb276 ∧ k_ ≠ gb284 ∧ k_ ≠ gb289) (.slice A3 l3.length c3) l3) ∧ Aside0 (wc.heap[gb276]? = some (.cells #[(.slice A4_0 l4_0.length c4_0), (.slice A4_1 l4_1.length c4_1), (.slice A4_2 l4_2.length c4_2)] 27 (0, 0))) ∧ Aside0 (wc.heap[gb284]? = some (.cells #[.int .i64 t280, .int .i64 t281, .int .i64 t282] 88 (0, 0))) ∧ Aside0 (wc.heap[gb289]? = some (.cells #[.int .i64 t285, .int .i64 t286, .int .i64 t287] 88 (0, 0))) ∧ Aside0 (Below w.heap.size w wc))
      case first =>
       have H := HC27.out
       clear HC27
       by_cases c28 : x47_24 = true
       ·subst c28
        rw [if_pos rfl] at H
        obtain ⟨ji29, hji29⟩ : ∃ j_ : Int, (mx (l3.length : Int) (wrap64 ((wrap64 ((l1.length : Int) + (l2.length : Int))) - 1))) = j_ := ⟨_, rfl⟩
        replace H : (impl_CheckCert.j2 kj24 l1 l2 l3 ji29 l4_0 l4_1 l4_2 t280 t281 t282) = some r := by first | (rw [hji29] at H; exact H) | (simp only [hji29] at H ⊢; exact H)
        have hji29_ : (if (l3.length : Int) < (wrap64 ((wrap64 ((l1.length : Int) + (l2.length : Int))) - 1)) then (wrap64 ((wrap64 ((l1.length : Int) + (l2.length : Int))) - 1)) else (l3.length : Int)) = ji29 := hji29
        have H' := Aside0.mk H
        clear H
        go_wp2
        go_meet
        case rel => exact ⟨_, (ji29), (by first | rfl | (simp; done) | (simp only [← hji29] <;> (first | rfl | simp)) | (simp [*]; done)), H', ⟨by have := HJ7.out; have := HJ24.out; first | omega | exact Nat.le_refl _⟩, ⟨by (with_reducible repeat (first | apply Kd.V_alloc | apply Kd.V_drewN | apply Kd.V_drew)); exact HO_1.out⟩, ⟨by (with_reducible repeat (first | apply Kd.V_alloc | apply Kd.V_drewN | apply Kd.V_drew)); exact HO_2.out⟩, ⟨by (with_reducible repeat (first | apply Kd.V_alloc | apply Kd.V_drewN | apply Kd.V_drew)); exact HO_3.out⟩, ⟨zB BK276.out⟩, ⟨zB BK284.out⟩, ⟨zB BK289.out⟩, ⟨zH⟩⟩
       ·replace c28 := Bool.eq_false_iff.mpr c28
        subst c28
        rw [if_neg (show ¬ (false = true) by decide)] at H
        have H' := Aside0.mk H
        clear H
        go_wp2
        go_meet
        case rel => exact ⟨_, ((l3.length : Int)), zF, H', ⟨by have := HJ7.out; have := HJ24.out; first | omega | exact Nat.le_refl _⟩, ⟨by (with_reducible repeat (first | apply Kd.V_alloc | apply Kd.V_drewN | apply Kd.V_drew)); exact HO_1.out⟩, ⟨by (with_reducible repeat (first | apply Kd.V_alloc | apply Kd.V_drewN | apply Kd.V_drew)); exact HO_2.out⟩, ⟨by (with_reducible repeat (first | apply Kd.V_alloc | apply Kd.V_drewN | apply Kd.V_drew)); exact HO_3.out⟩, ⟨zB BK276.out⟩, ⟨zB BK284.out⟩, ⟨zB BK289.out⟩, ⟨zH⟩⟩
      case rest =>
       clear HC27
       skip
       obtain ⟨kq, x15_26, rfl, HA, HJ26, HO_1, HO_2, HO_3, BK276, BK284, BK289, HB⟩ := hcut
       cases kq with
       | zero => exact absurd HA.out (by simp [impl_CheckCert.j2])
       | succ kj26 =>
        have H := HA.out
        clear HA
        simp only [impl_CheckCert.j2] at H
        have HC30 := Aside0.mk H
        clear H
        go_upto_region 8 with (fail)
        go_cut [82] (fun v82 wc => ∃ (kq : Nat) (x82_29 : Bool), v82 = .bool x82_29 ∧ Aside0 (impl_CheckCert.j3 kq l3 x82_29 l4_0 l4_1 l4_2 t280 t281 t282 = some r) ∧ Aside0 (kq ≤ kj26) ∧ Aside0 (Kd.V (Kd.int .i64) 3 wc w.heap.size (fun k_ => ((P1_ k_ ∨ P2_ k_ ∨ P3_ k_) ∨ w.heap.size ≤ k_) ∧ k_ ≠ gb276 ∧ k_ ≠ gb284 ∧ k_ ≠ gb289) (.slice A3 l3.length c3) l3) ∧ Aside0 (wc.heap[gb276]? = some (.cells #[(.slice A4_0 l4_0.length c4_0), (.slice A4_1 l4_1.length c4_1), (.slice A4_2 l4_2.length c4_2)] 27 (0, 0))) ∧ Aside0 (wc.heap[gb284]? = some (.cells #[.int .i64 t280, .int .i64 t281, .int .i64 t282] 88 (0, 0))) ∧ Aside0 (wc.heap[gb289]? = some (.cells #[.int .i64 t285, .int .i64 t286, .int .i64 t287] 88 (0, 0))) ∧ Aside0 (Below w.heap.size w wc))
        case first =>
         have H := HC30.out
         clear HC30
         by_cases c31 : (l4_0.length : Int) < x15_26
         ·rw [if_pos c31] at H
          have c31b0 : decide ((l4_0.length : Int) < x15_26) = true := decide_eq_true c31
          clear c31
          (first | rw [c31b0] | (simp only [i64_w, i32_w]; rw [c31b0]) | skip)
          have H' := Aside0.mk H
          clear H
          try go_wp2
          replace HO_1 := zA (Kd.V_drew HO_1.out)
          replace HO_2 := zA (Kd.V_drew HO_2.out)
          replace HO_3 := zA (Kd.V_drew HO_3.out)
          replace BK276 := zA (blk_drew BK276.out)
          replace BK284 := zA (blk_drew BK284.out)
          replace BK289 := zA (blk_drew BK289.out)
          replace HB := zA (below_drew1 HB.out)
          refine start_ (n := 27) (S := fun w' => w'.cell? ⟨gb276, 0, none⟩ = some (.slice A4_0 l4_0.length c4_0) ∧ w'.cell? ⟨gb276, 1, none⟩ = some (.slice A4_1 l4_1.length c4_1) ∧ w'.cell? ⟨gb276, 2, none⟩ = some (.slice A4_2 l4_2.length c4_2)) (ds := []) #[false, false, false, false, false, false, false, false, false, false, false, false, false, false, false, false, false, false, false, false, false, false, false, false, false, false, false] (by kernel_rfl) rfl rfl ⟨zk BK276.out 0, zk BK276.out 1, zk BK276.out 2⟩ (fun hHeld => ?_); refine with_tabW impl_CheckCert.tab8 impl_CheckCert.bits8 (fun HT_ HW_ => ?_)
          generalize wc.drew = w32 at HO_1 HO_2 HO_3 BK276 BK284 BK289 HB hHeld ⊢
          refine pA HT_ 0 (some 56) ?_
          refine pA HT_ 3 (some 59) ?_
          refine tA3 HT_ HW_ 1 (some 57) hHeld ?_
          refine pA HT_ 2 (some 58) ?_
          refine pA HT_ 4 (some 60) ?_
          refine pA HT_ 5 (some 61) ?_
          refine pU HT_ 6 (some 62) ?_
          refine pU HT_ 7 (some 63) ?_
          refine pU HT_ 8 (some 64) ?_
          refine pU HT_ 9 (some 65) ?_
          refine pU HT_ 10 (some 66) ?_
          refine pU HT_ 11 (some 67) ?_
          refine pU HT_ 12 (some 68) ?_
          refine pU HT_ 13 (some 69) ?_
          refine pU HT_ 14 (some 70) ?_
          refine pA HT_ 15 (some 71) ?_
          refine pA HT_ 16 (some 72) ?_
          refine pU HT_ 17 (some 73) ?_
          refine pU HT_ 18 (some 74) ?_
          refine pU HT_ 19 (some 75) ?_
          refine pU HT_ 20 (some 76) ?_
          refine pU HT_ 21 (some 77) ?_
          refine pU HT_ 22 (some 78) ?_
          refine pU HT_ 23 (some 79) ?_
          refine pU HT_ 24 (some 80) ?_
          refine pU HT_ 25 (some 81) ?_
          refine pA HT_ 26 (some 82) ?_
          refine done_ (done_of HT_.out (by kernel_rfl)) ?_
          try go_wp2
          go_meet
          case rel => exact ⟨_, (true), zF, H', ⟨by have := HJ7.out; have := HJ24.out; have := HJ26.out; first | omega | exact Nat.le_refl _⟩, ⟨by (with_reducible repeat (first | apply Kd.V_alloc | apply Kd.V_drewN | apply Kd.V_drew)); exact HO_3.out⟩, ⟨zB BK276.out⟩, ⟨zB BK284.out⟩, ⟨zB BK289.out⟩, ⟨zH⟩⟩
         ·rw [if_neg c31] at H
          have c31b0 : decide ((l4_0.length : Int) < x15_26) = false := decide_eq_false c31
          clear c31
          (first | rw [c31b0] | (simp only [i64_w, i32_w]; rw [c31b0]) | skip)
          replace H := Option.bind_eq_some_iff.mp H
          obtain ⟨t290, A330, H⟩ := H
          (try dsimp -zeta -simprocs only at H)
          have A33 := Aside0.mk A330
          clear A330
          replace H := Option.bind_eq_some_iff.mp H
          obtain ⟨t293, A340, H⟩ := H
          (try dsimp -zeta -simprocs only at H)
          have A34 := Aside0.mk A340
          clear A340
          by_cases c35 : t293 = true
          ·subst c35
           rw [if_pos rfl] at H
           replace H := Option.bind_eq_some_iff.mp H
           obtain ⟨t294, A360, H⟩ := H
           (try dsimp -zeta -simprocs only at H)
           have A36 := Aside0.mk A360
           clear A360
           replace H := Option.bind_eq_some_iff.mp H
           obtain ⟨t297, A370, H⟩ := H
           (try dsimp -zeta -simprocs only at H)
           have A37 := Aside0.mk A370
           clear A370
           have H' := Aside0.mk H
           clear H
           try go_wp2
           replace HO_1 := zA (Kd.V_drew HO_1.out)
           replace HO_2 := zA (Kd.V_drew HO_2.out)
           replace HO_3 := zA (Kd.V_drew HO_3.out)
           replace BK276 := zA (blk_drew BK276.out)
           replace BK284 := zA (blk_drew BK284.out)
           replace BK289 := zA (blk_drew BK289.out)
           replace HB := zA (below_drew1 HB.out)
           refine start_ (n := 27) (S := fun w' => w'.cell? ⟨gb276, 0, none⟩ = some (.slice A4_0 l4_0.length c4_0) ∧ w'.cell? ⟨gb276, 1, none⟩ = some (.slice A4_1 l4_1.length c4_1) ∧ w'.cell? ⟨gb276, 2, none⟩ = some (.slice A4_2 l4_2.length c4_2) ∧ w'.cell? ⟨gb284, 0, none⟩ = some (.int .i64 t280) ∧ w'.cell? ⟨gb284, 1, none⟩ = some (.int .i64 t281) ∧ w'.cell? ⟨gb284, 2, none⟩ = some (.int .i64 t282)) (ds := []) #[false, false, false, false, false, false, false, false, false, false, false, false, false, false, false, false, false, false, false, false, false, false, false, false, false, false, false] (by kernel_rfl) rfl rfl ⟨zk BK276.out 0, zk BK276.out 1, zk BK276.out 2, zk BK284.out 0, zk BK284.out 1, zk BK284.out 2⟩ (fun hHeld => ?_); refine with_tabW impl_CheckCert.tab8 impl_CheckCert.bits8 (fun HT_ HW_ => ?_)
           generalize wc.drew = w38 at HO_1 HO_2 HO_3 BK276 BK284 BK289 HB hHeld ⊢
           refine pA HT_ 0 (some 56) ?_
           refine pA HT_ 3 (some 59) ?_
           refine tA6 HT_ HW_ 1 (some 57) hHeld ?_
           refine pA HT_ 2 (some 58) ?_
           refine pA HT_ 4 (some 60) ?_
           refine pA HT_ 5 (some 61) ?_
           refine pA HT_ 6 (some 62) ?_
           refine pA HT_ 9 (some 65) ?_
           refine pA HT_ 10 (some 66) ?_
           refine tA6 HT_ HW_ 7 (some 63) hHeld ?_
           refine tA6 HT_ HW_ 8 (some 64) hHeld ?_
           refine tA6 HT_ HW_ 11 (some 67) hHeld ?_
           refine oA HT_ 12 (some 68) (fun K hK => ?_)
           refine gA Try.func73 #[.agg #[.int .i64 t280, .int .i64 t281, .int .i64 t282], .slice A1 l1.length c1, .slice A4_0 l4_0.length c4_0] ?_
           with_reducible refine (impl_field_evalMany.calls kj26 t280 t281 t282 _ _ l1 _ _ l4_0 t290 _ ?side1 ?side2 ?side3 ?side4 A33.out).mono ?_
           (case side1 => exact zC ((Kd.V_reads' HO_1.out).2.2))
           (case side2 => exact (Kd.V_reads' HO_1.out).2.1)
           (case side3 => exact zC (Kd.C_below HR4_0.out HB.out))
           (case side4 => exact HC4_0.out)
           rintro e w39 ⟨v291, rfl, ho0, hb⟩
           refine ⟨_, rfl, ?_⟩
           replace HO_1 := zA (Kd.V_elder' (by (with_reducible repeat (first | apply Kd.V_alloc | apply Kd.V_drewN | apply Kd.V_drew)); exact HO_1.out) (Kd.R_base ho0) hb)
           replace HO_2 := zA (Kd.V_elder' (by (with_reducible repeat (first | apply Kd.V_alloc | apply Kd.V_drewN | apply Kd.V_drew)); exact HO_2.out) (Kd.R_base ho0) hb)
           replace HO_3 := zA (Kd.V_elder' (by (with_reducible repeat (first | apply Kd.V_alloc | apply Kd.V_drewN | apply Kd.V_drew)); exact HO_3.out) (Kd.R_base ho0) hb)
           have HO292 := Aside0.mk (Kd.R_lower (Kd.R_newM (M := fun k_ => (w.heap.size ≤ k_)) ho0 (below_size zH) (fun k_ h_ => h_)) (below_size zH))
           replace BK276 := zb BK276.out hb
           replace BK284 := zb BK284.out hb
           replace BK289 := zb BK289.out hb
           replace HB := zA (below_step zH hb)
           (try clear hb ho0)
           obtain ⟨Ao40, co40, eo40⟩ := Kd.R_slice HO292.out
           (first | subst eo40 | (injection eo40 with f1_ f2_ f3_; have f4_ := f1_.symm; have f5_ := f3_.symm; clear f1_ f2_ f3_; subst f4_; subst f5_))
           refine hK.out _ _ ⟨zk BK276.out 0, zk BK276.out 1, zk BK276.out 2, zk BK284.out 0, zk BK284.out 1, zk BK284.out 2⟩ (fun hHeld => ?_)
           clear hK K
           refine nA ?_
           refine oA HT_ 13 (some 69) (fun K hK => ?_)
           refine gA Try.func72 #[.slice A4_1 l4_1.length c4_1, .slice Ao40 t290.length co40] ?_
           with_reducible refine (slices_Equal_int_int.calls kj26 _ _ l4_1 _ _ t290 true _ ?side1 ?side2 ?side3 ?side4 A34.out).mono ?_
           (case side1 => exact zC (Kd.C_below HR4_1.out HB.out))
           (case side2 => exact HC4_1.out)
           (case side3 => exact zC ((Kd.R_reads' HO292.out).2.2))
           (case side4 => exact (Kd.R_reads' HO292.out).2.1)
           rintro e w' ⟨rfl, ⟨nd, rfl⟩⟩
           refine ⟨_, rfl, ?_⟩
           refine hK.out _ _ ⟨zk BK276.out 0, zk BK276.out 1, zk BK276.out 2, zk BK284.out 0, zk BK284.out 1, zk BK284.out 2⟩ (fun hHeld => ?_)
           clear hK K
           refine nA ?_
           refine pA HT_ 14 (some 70) ?_
           refine pA HT_ 15 (some 71) ?_
           refine pA HT_ 16 (some 72) ?_
           refine pA HT_ 17 (some 73) ?_
           refine pA HT_ 20 (some 76) ?_
           refine pA HT_ 21 (some 77) ?_
           refine tA6 HT_ HW_ 18 (some 74) hHeld ?_
           refine tA6 HT_ HW_ 19 (some 75) hHeld ?_
           refine tA6 HT_ HW_ 22 (some 78) hHeld ?_
           refine oA HT_ 23 (some 79) (fun K hK => ?_)
           refine gA Try.func73 #[.agg #[.int .i64 t280, .int .i64 t281, .int .i64 t282], .slice A2 l2.length c2, .slice A4_0 l4_0.length c4_0] ?_
           with_reducible refine (impl_field_evalMany.calls kj26 t280 t281 t282 _ _ l2 _ _ l4_0 t294 _ ?side1 ?side2 ?side3 ?side4 A36.out).mono ?_
           (case side1 => exact zC ((Kd.V_reads' HO_2.out).2.2))
           (case side2 => exact (Kd.V_reads' HO_2.out).2.1)
           (case side3 => exact zC (Kd.C_below HR4_0.out zH))
           (case side4 => exact HC4_0.out)
           rintro e w41 ⟨v295, rfl, ho0, hb⟩
           refine ⟨_, rfl, ?_⟩
           replace HO_1 := zA (Kd.V_elder' (by (with_reducible repeat (first | apply Kd.V_alloc | apply Kd.V_drewN | apply Kd.V_drew)); exact HO_1.out) (Kd.R_base ho0) hb)
           replace HO_2 := zA (Kd.V_elder' (by (with_reducible repeat (first | apply Kd.V_alloc | apply Kd.V_drewN | apply Kd.V_drew)); exact HO_2.out) (Kd.R_base ho0) hb)
           replace HO_3 := zA (Kd.V_elder' (by (with_reducible repeat (first | apply Kd.V_alloc | apply Kd.V_drewN | apply Kd.V_drew)); exact HO_3.out) (Kd.R_base ho0) hb)
           have HO296 := Aside0.mk (Kd.R_lower (zn (Kd.R_newM (M := fun k_ => (w.heap.size ≤ k_)) ho0 (below_size zH) (fun k_ h_ => h_)) HO292.out) (below_size zH))
           replace HO292 := z2 HO292.out ho0 hb
           replace BK276 := zb BK276.out hb
           replace BK284 := zb BK284.out hb
           replace BK289 := zb BK289.out hb
           replace HB := zA (below_step zH hb)
           (try clear hb ho0)
           obtain ⟨Ao42, co42, eo42⟩ := Kd.R_slice HO296.out
           (first | subst eo42 | (injection eo42 with f1_ f2_ f3_; have f4_ := f1_.symm; have f5_ := f3_.symm; clear f1_ f2_ f3_; subst f4_; subst f5_))
           refine hK.out _ _ ⟨zk BK276.out 0, zk BK276.out 1, zk BK276.out 2, zk BK284.out 0, zk BK284.out 1, zk BK284.out 2⟩ (fun hHeld => ?_)
           clear hK K
           refine nA ?_
           refine oA HT_ 24 (some 80) (fun K hK => ?_)
           refine gA Try.func72 #[.slice A4_2 l4_2.length c4_2, .slice Ao42 t294.length co42] ?_
           with_reducible refine (slices_Equal_int_int.calls kj26 _ _ l4_2 _ _ t294 t297 _ ?side1 ?side2 ?side3 ?side4 A37.out).mono ?_
           (case side1 => exact zC (Kd.C_below HR4_2.out HB.out))
           (case side2 => exact HC4_2.out)
           (case side3 => exact zC ((Kd.R_reads' HO296.out).2.2))
           (case side4 => exact (Kd.R_reads' HO296.out).2.1)
           rintro e w' ⟨rfl, ⟨nd, rfl⟩⟩
           refine ⟨_, rfl, ?_⟩
           refine hK.out _ _ ⟨zk BK276.out 0, zk BK276.out 1, zk BK276.out 2, zk BK284.out 0, zk BK284.out 1, zk BK284.out 2⟩ (fun hHeld => ?_)
           clear hK K
           refine nA ?_
           refine pA HT_ 25 (some 81) ?_
           refine pA HT_ 26 (some 82) ?_
           refine done_ (done_of HT_.out (by kernel_rfl)) ?_
           try go_wp2
           go_meet
           case rel => exact ⟨_, (!t297), zF, H', ⟨by have := HJ7.out; have := HJ24.out; have := HJ26.out; first | omega | exact Nat.le_refl _⟩, ⟨by (with_reducible repeat (first | apply Kd.V_alloc | apply Kd.V_drewN | apply Kd.V_drew)); exact Kd.V_mono HO_3.out (fun _ hk => ⟨hk.1.1.1, ⟨hk.1.1.2.1, ⟨hk.1.1.2.2.1, hk.1.1.2.2.2⟩⟩⟩)⟩, ⟨zB BK276.out⟩, ⟨zB BK284.out⟩, ⟨zB BK289.out⟩, ⟨zH⟩⟩
          ·replace c35 := Bool.eq_false_iff.mpr c35
           subst c35
           rw [if_neg (show ¬ (false = true) by decide)] at H
           have H' := Aside0.mk H
           clear H
           try go_wp2
           replace HO_1 := zA (Kd.V_drew HO_1.out)
           replace HO_2 := zA (Kd.V_drew HO_2.out)
           replace HO_3 := zA (Kd.V_drew HO_3.out)
           replace BK276 := zA (blk_drew BK276.out)
           replace BK284 := zA (blk_drew BK284.out)
           replace BK289 := zA (blk_drew BK289.out)
           replace HB := zA (below_drew1 HB.out)
           refine start_ (n := 27) (S := fun w' => w'.cell? ⟨gb276, 0, none⟩ = some (.slice A4_0 l4_0.length c4_0) ∧ w'.cell? ⟨gb276, 1, none⟩ = some (.slice A4_1 l4_1.length c4_1) ∧ w'.cell? ⟨gb276, 2, none⟩ = some (.slice A4_2 l4_2.length c4_2) ∧ w'.cell? ⟨gb284, 0, none⟩ = some (.int .i64 t280) ∧ w'.cell? ⟨gb284, 1, none⟩ = some (.int .i64 t281) ∧ w'.cell? ⟨gb284, 2, none⟩ = some (.int .i64 t282)) (ds := []) #[false, false, false, false, false, false, false, false, false, false, false, false, false, false, false, false, false, false, false, false, false, false, false, false, false, false, false] (by kernel_rfl) rfl rfl ⟨zk BK276.out 0, zk BK276.out 1, zk BK276.out 2, zk BK284.out 0, zk BK284.out 1, zk BK284.out 2⟩ (fun hHeld => ?_); refine with_tabW impl_CheckCert.tab8 impl_CheckCert.bits8 (fun HT_ HW_ => ?_)
           generalize wc.drew = w43 at HO_1 HO_2 HO_3 BK276 BK284 BK289 HB hHeld ⊢
           refine pA HT_ 0 (some 56) ?_
           refine pA HT_ 3 (some 59) ?_
           refine tA6 HT_ HW_ 1 (some 57) hHeld ?_
           refine pA HT_ 2 (some 58) ?_
           refine pA HT_ 4 (some 60) ?_
           refine pA HT_ 5 (some 61) ?_
           refine pA HT_ 6 (some 62) ?_
           refine pA HT_ 9 (some 65) ?_
           refine pA HT_ 10 (some 66) ?_
           refine tA6 HT_ HW_ 7 (some 63) hHeld ?_
           refine tA6 HT_ HW_ 8 (some 64) hHeld ?_
           refine tA6 HT_ HW_ 11 (some 67) hHeld ?_
           refine oA HT_ 12 (some 68) (fun K hK => ?_)
           refine gA Try.func73 #[.agg #[.int .i64 t280, .int .i64 t281, .int .i64 t282], .slice A1 l1.length c1, .slice A4_0 l4_0.length c4_0] ?_
           with_reducible refine (impl_field_evalMany.calls kj26 t280 t281 t282 _ _ l1 _ _ l4_0 t290 _ ?side1 ?side2 ?side3 ?side4 A33.out).mono ?_
           (case side1 => exact zC ((Kd.V_reads' HO_1.out).2.2))
           (case side2 => exact (Kd.V_reads' HO_1.out).2.1)
           (case side3 => exact zC (Kd.C_below HR4_0.out HB.out))
           (case side4 => exact HC4_0.out)
           rintro e w44 ⟨v291, rfl, ho0, hb⟩
           refine ⟨_, rfl, ?_⟩
           replace HO_1 := zA (Kd.V_elder' (by (with_reducible repeat (first | apply Kd.V_alloc | apply Kd.V_drewN | apply Kd.V_drew)); exact HO_1.out) (Kd.R_base ho0) hb)
           replace HO_2 := zA (Kd.V_elder' (by (with_reducible repeat (first | apply Kd.V_alloc | apply Kd.V_drewN | apply Kd.V_drew)); exact HO_2.out) (Kd.R_base ho0) hb)
           replace HO_3 := zA (Kd.V_elder' (by (with_reducible repeat (first | apply Kd.V_alloc | apply Kd.V_drewN | apply Kd.V_drew)); exact HO_3.out) (Kd.R_base ho0) hb)
           have HO292 := Aside0.mk (Kd.R_lower (Kd.R_newM (M := fun k_ => (w.heap.size ≤ k_)) ho0 (below_size zH) (fun k_ h_ => h_)) (below_size zH))
           replace BK276 := zb BK276.out hb
           replace BK284 := zb BK284.out hb
           replace BK289 := zb BK289.out hb
           replace HB := zA (below_step zH hb)
           (try clear hb ho0)
           obtain ⟨Ao45, co45, eo45⟩ := Kd.R_slice HO292.out
           (first | subst eo45 | (injection eo45 with f1_ f2_ f3_; have f4_ := f1_.symm; have f5_ := f3_.symm; clear f1_ f2_ f3_; subst f4_; subst f5_))
           refine hK.out _ _ ⟨zk BK276.out 0, zk BK276.out 1, zk BK276.out 2, zk BK284.out 0, zk BK284.out 1, zk BK284.out 2⟩ (fun hHeld => ?_)
           clear hK K
           refine nA ?_
           refine oA HT_ 13 (some 69) (fun K hK => ?_)
           refine gA Try.func72 #[.slice A4_1 l4_1.length c4_1, .slice Ao45 t290.length co45] ?_
           with_reducible refine (slices_Equal_int_int.calls kj26 _ _ l4_1 _ _ t290 false _ ?side1 ?side2 ?side3 ?side4 A34.out).mono ?_
           (case side1 => exact zC (Kd.C_below HR4_1.out HB.out))
           (case side2 => exact HC4_1.out)
           (case side3 => exact zC ((Kd.R_reads' HO292.out).2.2))
           (case side4 => exact (Kd.R_reads' HO292.out).2.1)
           rintro e w' ⟨rfl, ⟨nd, rfl⟩⟩
           refine ⟨_, rfl, ?_⟩
           refine hK.out _ _ ⟨zk BK276.out 0, zk BK276.out 1, zk BK276.out 2, zk BK284.out 0, zk BK284.out 1, zk BK284.out 2⟩ (fun hHeld => ?_)
           clear hK K
           refine nA ?_
           refine pA HT_ 14 (some 70) ?_
           refine pA HT_ 15 (some 71) ?_
           refine pA HT_ 16 (some 72) ?_
           refine pU HT_ 17 (some 73) ?_
           refine pU HT_ 18 (some 74) ?_
           refine pU HT_ 19 (some 75) ?_
           refine pU HT_ 20 (some 76) ?_
           refine pU HT_ 21 (some 77) ?_
           refine pU HT_ 22 (some 78) ?_
           refine pU HT_ 23 (some 79) ?_
           refine pU HT_ 24 (some 80) ?_
           refine pU HT_ 25 (some 81) ?_
           refine pA HT_ 26 (some 82) ?_
           refine done_ (done_of HT_.out (by kernel_rfl)) ?_
           try go_wp2
           go_meet
           case rel => exact ⟨_, (true), zF, H', ⟨by have := HJ7.out; have := HJ24.out; have := HJ26.out; first | omega | exact Nat.le_refl _⟩, ⟨by (with_reducible repeat (first | apply Kd.V_alloc | apply Kd.V_drewN | apply Kd.V_drew)); exact Kd.V_mono HO_3.out (fun _ hk => ⟨hk.1.1, ⟨hk.1.2.1, ⟨hk.1.2.2.1, hk.1.2.2.2⟩⟩⟩)⟩, ⟨zB BK276.out⟩, ⟨zB BK284.out⟩, ⟨zB BK289.out⟩, ⟨zH⟩⟩
        case rest =>
         clear HC30
         skip
         obtain ⟨kq, x82_29, rfl, HA, HJ29, HO_3, BK276, BK284, BK289, HB⟩ := hcut
         cases kq with
         | zero => exact absurd HA.out (by simp [impl_CheckCert.j3])
         | succ kj29 =>
          have H := HA.out
          clear HA
          simp only [impl_CheckCert.j3] at H
          by_cases c46 : x82_29 = true
          ·subst c46
           rw [if_pos rfl] at H
           obtain rfl := Option.some.inj H
           go_wp2
           go_ret
           exact ⟨zE, zH⟩
          ·replace c46 := Bool.eq_false_iff.mpr c46
           subst c46
           rw [if_neg (show ¬ (false = true) by decide)] at H
           replace H := Option.bind_eq_some_iff.mp H
           obtain ⟨t298, A470, H⟩ := H
           (try dsimp -zeta -simprocs only at H)
           have A47 := Aside0.mk A470
           clear A470
           replace H := Option.bind_eq_some_iff.mp H
           obtain ⟨t301, A480, H⟩ := H
           (try dsimp -zeta -simprocs only at H)
           have A48 := Aside0.mk A480
           clear A480
           replace H := Option.bind_eq_some_iff.mp H
           obtain ⟨t304, A490, H⟩ := H
           (try dsimp -zeta -simprocs only at H)
           have A49 := Aside0.mk A490
           clear A490
           obtain rfl := Option.some.inj H
           try go_wp2
           replace HO_3 := zA (Kd.V_drew HO_3.out)
           replace BK276 := zA (blk_drew BK276.out)
           replace BK284 := zA (blk_drew BK284.out)
           replace BK289 := zA (blk_drew BK289.out)
           replace HB := zA (below_drew1 HB.out)
           refine start_ (n := 13) (S := fun w' => w'.cell? ⟨gb284, 0, none⟩ = some (.int .i64 t280) ∧ w'.cell? ⟨gb284, 1, none⟩ = some (.int .i64 t281) ∧ w'.cell? ⟨gb284, 2, none⟩ = some (.int .i64 t282) ∧ w'.cell? ⟨gb276, 0, none⟩ = some (.slice A4_0 l4_0.length c4_0) ∧ w'.cell? ⟨gb276, 1, none⟩ = some (.slice A4_1 l4_1.length c4_1) ∧ w'.cell? ⟨gb276, 2, none⟩ = some (.slice A4_2 l4_2.length c4_2)) (ds := []) #[false, false, false, false, false, false, false, false, false, false, false, false, false] (by kernel_rfl) rfl rfl ⟨zk BK284.out 0, zk BK284.out 1, zk BK284.out 2, zk BK276.out 0, zk BK276.out 1, zk BK276.out 2⟩ (fun hHeld => ?_); refine with_tabW impl_CheckCert.tab10 impl_CheckCert.bits10 (fun HT_ HW_ => ?_)
           generalize wc.drew = w50 at HO_3 BK276 BK284 BK289 HB hHeld ⊢
           refine pA HT_ 1 (some 84) ?_
           refine pA HT_ 3 (some 86) ?_
           refine pA HT_ 7 (some 90) ?_
           refine pA HT_ 8 (some 91) ?_
           refine tA6 HT_ HW_ 0 (some 83) hHeld ?_
           refine tA6 HT_ HW_ 2 (some 85) hHeld ?_
           refine tA6 HT_ HW_ 4 (some 87) hHeld ?_
           refine tA6 HT_ HW_ 6 (some 89) hHeld ?_
           refine tA6 HT_ HW_ 9 (some 92) hHeld ?_
           refine oA HT_ 5 (some 88) (fun K hK => ?_)
           refine gA Try.func82 #[.agg #[.int .i64 t280, .int .i64 t281, .int .i64 t282], .slice A4_1 l4_1.length c4_1, .slice A4_2 l4_2.length c4_2] ?_
           with_reducible refine (impl_field_pointwise.calls kj29 t280 t281 t282 _ _ l4_1 _ _ l4_2 t298 _ ?side1 ?side2 ?side3 ?side4 A47.out).mono ?_
           (case side1 => exact zC (Kd.C_below HR4_1.out HB.out))
           (case side2 => exact HC4_1.out)
           (case side3 => exact zC (Kd.C_below HR4_2.out HB.out))
           (case side4 => exact HC4_2.out)
           rintro e w51 ⟨v299, rfl, ho0, hb⟩
           refine ⟨_, rfl, ?_⟩
           replace HO_3 := zA (Kd.V_elder' (by (with_reducible repeat (first | apply Kd.V_alloc | apply Kd.V_drewN | apply Kd.V_drew)); exact HO_3.out) (Kd.R_base ho0) hb)
           have HO300 := Aside0.mk (Kd.R_lower (Kd.R_newM (M := fun k_ => (w.heap.size ≤ k_)) ho0 (below_size zH) (fun k_ h_ => h_)) (below_size zH))
           replace BK276 := zb BK276.out hb
           replace BK284 := zb BK284.out hb
           replace BK289 := zb BK289.out hb
           replace HB := zA (below_step zH hb)
           (try clear hb ho0)
           refine hK.out _ _ ⟨zk BK284.out 0, zk BK284.out 1, zk BK284.out 2, zk BK276.out 0, zk BK276.out 1, zk BK276.out 2⟩ (fun hHeld => ?_)
           clear hK K
           refine nA ?_
           refine oA HT_ 10 (some 93) (fun K hK => ?_)
           refine gA Try.func73 #[.agg #[.int .i64 t280, .int .i64 t281, .int .i64 t282], .slice A3 l3.length c3, .slice A4_0 l4_0.length c4_0] ?_
           with_reducible refine (impl_field_evalMany.calls kj29 t280 t281 t282 _ _ l3 _ _ l4_0 t301 _ ?side1 ?side2 ?side3 ?side4 A48.out).mono ?_
           (case side1 => exact zC ((Kd.V_reads' HO_3.out).2.2))
           (case side2 => exact (Kd.V_reads' HO_3.out).2.1)
           (case side3 => exact zC (Kd.C_below HR4_0.out HB.out))
           (case side4 => exact HC4_0.out)
           rintro e w52 ⟨v302, rfl, ho0, hb⟩
           refine ⟨_, rfl, ?_⟩
           replace HO_3 := zA (Kd.V_elder' (by (with_reducible repeat (first | apply Kd.V_alloc | apply Kd.V_drewN | apply Kd.V_drew)); exact HO_3.out) (Kd.R_base ho0) hb)
           have HO303 := Aside0.mk (Kd.R_lower (zn (Kd.R_newM (M := fun k_ => (w.heap.size ≤ k_)) ho0 (below_size zH) (fun k_ h_ => h_)) HO300.out) (below_size zH))
           replace HO300 := z2 HO300.out ho0 hb
           replace BK276 := zb BK276.out hb
           replace BK284 := zb BK284.out hb
           replace BK289 := zb BK289.out hb
           replace HB := zA (below_step zH hb)
           (try clear hb ho0)
           obtain ⟨Ao53, co53, eo53⟩ := Kd.R_slice HO300.out
           (first | subst eo53 | (injection eo53 with f1_ f2_ f3_; have f4_ := f1_.symm; have f5_ := f3_.symm; clear f1_ f2_ f3_; subst f4_; subst f5_))
           obtain ⟨Ao54, co54, eo54⟩ := Kd.R_slice HO303.out
           (first | subst eo54 | (injection eo54 with f1_ f2_ f3_; have f4_ := f1_.symm; have f5_ := f3_.symm; clear f1_ f2_ f3_; subst f4_; subst f5_))
           refine hK.out _ _ ⟨zk BK284.out 0, zk BK284.out 1, zk BK284.out 2, zk BK276.out 0, zk BK276.out 1, zk BK276.out 2⟩ (fun hHeld => ?_)
           clear hK K
           refine nA ?_
           refine oA HT_ 11 (some 94) (fun K hK => ?_)
           refine gA Try.func72 #[.slice Ao53 t298.length co53, .slice Ao54 t301.length co54] ?_
           with_reducible refine (slices_Equal_int_int.calls kj29 _ _ t298 _ _ t301 t304 _ ?side1 ?side2 ?side3 ?side4 A49.out).mono ?_
           (case side1 => exact zC ((Kd.R_reads' HO300.out).2.2))
           (case side2 => exact (Kd.R_reads' HO300.out).2.1)
           (case side3 => exact zC ((Kd.R_reads' HO303.out).2.2))
           (case side4 => exact (Kd.R_reads' HO303.out).2.1)
           rintro e w' ⟨rfl, ⟨nd, rfl⟩⟩
           refine ⟨_, rfl, ?_⟩
           refine hK.out _ _ ⟨zk BK284.out 0, zk BK284.out 1, zk BK284.out 2, zk BK276.out 0, zk BK276.out 1, zk BK276.out 2⟩ (fun hHeld => ?_)
           clear hK K
           refine nA ?_
           refine pA HT_ 12 (some 10) ?_
           refine done_ (done_of HT_.out (by kernel_rfl)) ?_
           try go_wp2
           go_ret
           exact ⟨zE, zH⟩

end Go.Proofs.Ytabicblkdgpogaa.QFnCertTrue
