-- Made by this session's program (wip/tools/myprint.py) out of the translation; Lean checks it.
import Derived.Test.YtabicblkdgpogaaQFnCertTruex0
import Derived.Test.YtabicblkdgpogaaQFnCertTruex5
import Derived.Test.YtabicblkdgpogaaQFnCertTruex6
namespace Go.Proofs.Ytabicblkdgpogaa.QFnCertTrue
open Go.RowKit Go.Proofs.YtabicblkdgpogaaW.PrintWords Go.Proofs.YtabicblkdgpogaaW.PrintLast Go.Proofs.YtabicblkdgpogaaW.PrintMore
attribute [local go_sem] max2_int min2_int max_two min_two max_three min_three max_four min_four   -- for this text's walks alone
set_option linter.unusedVariables false
set_option linter.unusedSimpArgs false

/-! ### impl_MakeCert: function 18 -/
mutual
def impl_MakeCert.j0 : Nat → List Int → List Int → Int → Bool → Int → Int → Int → Option (List Int × List Int × List Int × Bool)
 | 0, _, _, _, _, _, _, _ => none
 | k + 1, x1, x2, x10, x37, x238000, x238001, x238002 => if x37 = true then (some (([] : List Int), ([] : List Int), ([] : List Int), false)) else (impl_MakeCert.l0 k x1 x2 (([] : List Int)) x10 0 x238000 x238001 x238002)
def impl_MakeCert.l0 : Nat → List Int → List Int → List Int → Int → Int → Int → Int → Int → Option (List Int × List Int × List Int × Bool)
 | 0, _, _, _, _, _, _, _, _ => none
 | k + 1, x1, x2, x11, x40, x41, x238000, x238001, x238002 => if x41 < x40 then (if x11.length < 17592186044416 then (impl_MakeCert.l0 k x1 x2 (x11 ++ [x41]) x40 (wrap64 (x41 + 1)) x238000 x238001 x238002) else (none)) else ((impl_field_evalMany.f k x238000 x238001 x238002 x1 x11).bind fun t247 => ((impl_field_evalMany.f k x238000 x238001 x238002 x2 x11).bind fun t250 => (some (x11, t247, t250, true))))
end
def impl_MakeCert.f (k : Nat) (a0 : Int) (l1 : List Int) (l2 : List Int) : Option (List Int × List Int × List Int × Bool) := (impl_polyField.f k a0 (([l1, l2] : List (List Int)))).bind fun bt233 => (if bt233.2.2.2 = true then ((impl_field_mulPoly.f k bt233.1 bt233.2.1 bt233.2.2.1 l1 l2).bind fun t238 => (if (mx (t238.length : Int) 1) > 40 then (impl_MakeCert.j0 k l1 l2 (mx (t238.length : Int) 1) true bt233.1 bt233.2.1 bt233.2.2.1) else (impl_MakeCert.j0 k l1 l2 (mx (t238.length : Int) 1) (decide ((mx (t238.length : Int) 1) > bt233.1)) bt233.1 bt233.2.1 bt233.2.2.1))) else (some (([] : List Int), ([] : List Int), ([] : List Int), false)))
theorem impl_MakeCert.mono_l : ∀ k, (∀ y0 y1 y2 y3 y4 y5 y6, LeO (impl_MakeCert.j0 k y0 y1 y2 y3 y4 y5 y6) (impl_MakeCert.j0 (k + 1) y0 y1 y2 y3 y4 y5 y6)) ∧ (∀ y0 y1 y2 y3 y4 y5 y6 y7, LeO (impl_MakeCert.l0 k y0 y1 y2 y3 y4 y5 y6 y7) (impl_MakeCert.l0 (k + 1) y0 y1 y2 y3 y4 y5 y6 y7))
 | 0 => ⟨fun _ _ _ _ _ _ _ r h => by simp [impl_MakeCert.j0] at h, fun _ _ _ _ _ _ _ _ r h => by simp [impl_MakeCert.l0] at h⟩
 | k + 1 => by
  obtain ⟨ih0, ih1⟩ := impl_MakeCert.mono_l k
  refine ⟨?_, ?_⟩
  ·intro y0 y1 y2 y3 y4 y5 y6
   unfold impl_MakeCert.j0
   repeat' first
   | (with_reducible exact ih0 _ _ _ _ _ _ _)
   | (with_reducible exact ih1 _ _ _ _ _ _ _ _)
   | (with_reducible exact impl_field_evalMany.mono _ _ _ _ _ _)
   | (with_reducible exact impl_field_mulPoly.mono _ _ _ _ _ _)
   | (with_reducible exact impl_polyField.mono _ _ _)
   | (with_reducible exact LeO.refl _)
   | (with_reducible exact LeO.none _)
   | (with_reducible refine LeO.ite ?_ ?_)
   | (with_reducible refine LeO.bind ?_ (fun _ => ?_))
   | exact ih0 _ _ _ _ _ _ _
   | exact ih1 _ _ _ _ _ _ _ _
   | exact impl_field_evalMany.mono _ _ _ _ _ _
   | exact impl_field_mulPoly.mono _ _ _ _ _ _
   | exact impl_polyField.mono _ _ _
   | exact LeO.none _
   | refine LeO.ite ?_ ?_
   | refine LeO.bind ?_ (fun _ => ?_)
  ·intro y0 y1 y2 y3 y4 y5 y6 y7
   unfold impl_MakeCert.l0
   repeat' first
   | (with_reducible exact ih0 _ _ _ _ _ _ _)
   | (with_reducible exact ih1 _ _ _ _ _ _ _ _)
   | (with_reducible exact impl_field_evalMany.mono _ _ _ _ _ _)
   | (with_reducible exact impl_field_mulPoly.mono _ _ _ _ _ _)
   | (with_reducible exact impl_polyField.mono _ _ _)
   | (with_reducible exact LeO.refl _)
   | (with_reducible exact LeO.none _)
   | (with_reducible refine LeO.ite ?_ ?_)
   | (with_reducible refine LeO.bind ?_ (fun _ => ?_))
   | exact ih0 _ _ _ _ _ _ _
   | exact ih1 _ _ _ _ _ _ _ _
   | exact impl_field_evalMany.mono _ _ _ _ _ _
   | exact impl_field_mulPoly.mono _ _ _ _ _ _
   | exact impl_polyField.mono _ _ _
   | exact LeO.none _
   | refine LeO.ite ?_ ?_
   | refine LeO.bind ?_ (fun _ => ?_)
theorem impl_MakeCert.mono : ∀ a0 a1 a2 k, LeO (impl_MakeCert.f k a0 a1 a2) (impl_MakeCert.f (k + 1) a0 a1 a2) := by
 intro a0 a1 a2 k
 obtain ⟨ih0, ih1⟩ := impl_MakeCert.mono_l k
 unfold impl_MakeCert.f
 repeat' first
   | (with_reducible exact ih0 _ _ _ _ _ _ _)
   | (with_reducible exact ih1 _ _ _ _ _ _ _ _)
   | (with_reducible exact impl_field_evalMany.mono _ _ _ _ _ _)
   | (with_reducible exact impl_field_mulPoly.mono _ _ _ _ _ _)
   | (with_reducible exact impl_polyField.mono _ _ _)
   | (with_reducible exact LeO.refl _)
   | (with_reducible exact LeO.none _)
   | (with_reducible refine LeO.ite ?_ ?_)
   | (with_reducible refine LeO.bind ?_ (fun _ => ?_))
   | exact ih0 _ _ _ _ _ _ _
   | exact ih1 _ _ _ _ _ _ _ _
   | exact impl_field_evalMany.mono _ _ _ _ _ _
   | exact impl_field_mulPoly.mono _ _ _ _ _ _
   | exact impl_polyField.mono _ _ _
   | exact LeO.none _
   | refine LeO.ite ?_ ?_
   | refine LeO.bind ?_ (fun _ => ?_)
def impl_MakeCert.T13 : Bool × List (List Nat × List Nat) := (true, [([], []), ([], []), ([], []), ([], []), ([1, 2, 3], [1, 2, 3]), ([], []), ([], []), ([], []), ([5, 6, 7, 4], [5, 6, 7]), ([0, 4, 8], [0, 4, 8]), ([9, 8, 0, 1, 2, 3, 4, 5, 6, 7, 8, 9], [9]), ([10, 0, 1, 2, 3, 4, 5, 6, 7, 8, 9, 10], [])])
def impl_MakeCert.B13 : List Nat := [0, 0, 0, 0, 14, 0, 0, 0, 254, 511, 1023, 2047]
theorem impl_MakeCert.tab13 : rtab .any (opsOf Try.f18 13) = impl_MakeCert.T13 := by kernel_rfl
theorem impl_MakeCert.bits13 : waitsOk impl_MakeCert.T13.2 impl_MakeCert.B13 = true := by kernel_rfl
set_option maxHeartbeats 8000000 in
set_option maxRecDepth 100000 in
theorem impl_MakeCert.calls (k : Nat) (a0 : Int) (P1_ : Nat → Prop) (A1 : Option Addr) (c1 : Nat) (l1 : List Int) (P2_ : Nat → Prop) (A2 : Option Addr) (c2 : Nat) (l2 : List Int) (r1 : List Int) (r2 : List Int) (r3 : List Int) (r4 : Bool) (w : World) (hs1 : Kd.V (Kd.int .i64) 3 w w.heap.size (fun k_ => P1_ k_) (.slice A1 l1.length c1) l1) (hs2 : Kd.V (Kd.int .i64) 3 w w.heap.size (fun k_ => P2_ k_) (.slice A2 l2.length c2) l2) (h : impl_MakeCert.f k a0 l1 l2 = some (r1, r2, r3, r4)) :
  Calls Try.prog 18 #[.int .i64 a0, .slice A1 l1.length c1, .slice A2 l2.length c2] w fun e w' => ∃ v0_ v1_ v2_ : Value, e = .returned (.tuple #[.agg #[v0_, v1_, v2_], .bool r4]) ∧ Kd.R (Kd.int .i64) 3 w' w.heap.size (fun k_ => (w.heap.size ≤ k_) ∧ some k_ ≠ (v1_ : Value).ownBlock ∧ some k_ ≠ (v2_ : Value).ownBlock) v0_ r1 ∧ Kd.R (Kd.int .i64) 3 w' w.heap.size (fun k_ => (w.heap.size ≤ k_) ∧ some k_ ≠ (v0_ : Value).ownBlock ∧ some k_ ≠ (v2_ : Value).ownBlock) v1_ r2 ∧ Kd.R (Kd.int .i64) 3 w' w.heap.size (fun k_ => (w.heap.size ≤ k_) ∧ some k_ ≠ (v0_ : Value).ownBlock ∧ some k_ ≠ (v1_ : Value).ownBlock) v2_ r3 ∧ Below w.heap.size w w' := by
 have hu27 := Try.underlying27
 have hu88 := Try.underlying88
 have HO1 := Aside0.mk (show Kd.V (Kd.int .i64) 3 w w.heap.size (fun k_ => ((P1_ k_ ∨ P2_ k_) ∨ w.heap.size ≤ k_)) (.slice A1 l1.length c1) l1 from Kd.V_mono hs1 (fun k_ hk => .inl (.inl hk)))
 have HO2 := Aside0.mk (show Kd.V (Kd.int .i64) 3 w w.heap.size (fun k_ => ((P1_ k_ ∨ P2_ k_) ∨ w.heap.size ≤ k_)) (.slice A2 l2.length c2) l2 from Kd.V_mono hs2 (fun k_ hk => .inl (.inr hk)))
 have HB := Aside0.mk (Below.refl w.heap.size w)
 have H : ((impl_polyField.f k a0 (([l1, l2] : List (List Int)))).bind fun bt233 => (if bt233.2.2.2 = true then ((impl_field_mulPoly.f k bt233.1 bt233.2.1 bt233.2.2.1 l1 l2).bind fun t238 => (if (mx (t238.length : Int) 1) > 40 then (impl_MakeCert.j0 k l1 l2 (mx (t238.length : Int) 1) true bt233.1 bt233.2.1 bt233.2.2.1) else (impl_MakeCert.j0 k l1 l2 (mx (t238.length : Int) 1) (decide ((mx (t238.length : Int) 1) > bt233.1)) bt233.1 bt233.2.1 bt233.2.2.1))) else (some (([] : List Int), ([] : List Int), ([] : List Int), false)))) = some (r1, r2, r3, r4) := h
 clear h
 obtain ⟨y230, hy230⟩ : ∃ y_ : List (List Int), y_ = (([l1, l2] : List (List Int))) := ⟨_, rfl⟩
 replace H : ((impl_polyField.f k a0 y230).bind fun bt233 => (if bt233.2.2.2 = true then ((impl_field_mulPoly.f k bt233.1 bt233.2.1 bt233.2.2.1 l1 l2).bind fun t238 => (if (mx (t238.length : Int) 1) > 40 then (impl_MakeCert.j0 k l1 l2 (mx (t238.length : Int) 1) true bt233.1 bt233.2.1 bt233.2.2.1) else (impl_MakeCert.j0 k l1 l2 (mx (t238.length : Int) 1) (decide ((mx (t238.length : Int) 1) > bt233.1)) bt233.1 bt233.2.1 bt233.2.2.1))) else (some (([] : List Int), ([] : List Int), ([] : List Int), false)))) = some (r1, r2, r3, r4) := by first | (rw [hy230]; with_reducible exact H) | (have H2_ := (Option.bind_some _ _).symm.trans H; rw [hy230]; with_reducible exact H2_) | (have H2_ := (Option.bind_some _ _).symm.trans H; with_reducible exact H2_) | with_reducible exact H | (rw [hy230]; exact H) | exact H
 have Ny230 := Aside0.mk hy230
 clear hy230
 replace H := Option.bind_eq_some_iff.mp H
 obtain ⟨⟨t233, t234, t235, t236⟩, A40, H⟩ := H
 (try dsimp -zeta -simprocs only at H)
 have A4 := Aside0.mk A40
 clear A40
 by_cases c5 : t236 = true
 ·subst c5
  rw [if_pos rfl] at H
  replace H := Option.bind_eq_some_iff.mp H
  obtain ⟨t238, A60, H⟩ := H
  (try dsimp -zeta -simprocs only at H)
  have A6 := Aside0.mk A60
  clear A60
  obtain ⟨ji7, hji7⟩ : ∃ j_ : Int, (mx (t238.length : Int) 1) = j_ := ⟨_, rfl⟩
  replace H : (if (ji7) > 40 then (impl_MakeCert.j0 k l1 l2 ji7 true t233 t234 t235) else (impl_MakeCert.j0 k l1 l2 ji7 (decide ((ji7) > t233)) t233 t234 t235)) = some (r1, r2, r3, r4) := by first | (rw [hji7] at H; exact H) | (simp only [hji7] at H ⊢; exact H)
  (try rw [hji7] at A4)
  (try rw [hji7] at A6)
  (try (have hji7l : 1 ≤ ji7 := by (rw [← hji7]; unfold mx; (repeat' split) <;> omega)))
  (try (have hji7m : 0 ≤ ji7 := by omega))
  have hji7_ : (if (t238.length : Int) < 1 then 1 else (t238.length : Int)) = ji7 := hji7
  have HC8 := Aside0.mk H
  clear H
  go_enter Try.func18, Try.ntmps18
  go_upto_region 5 with (first | ((with_reducible refine gate_dst (N := 6) rfl ?_); refine box_event ?hg (N := 6) ?hd (cs := #[.slice none 0 0, .slice none 0 0, .slice none 0 0]) (t := 27) ?hr ?_; (case hd => rfl); (case hg => rfl); (case hr => first | (go_simp; done) | (go_simp; rfl)); intro gb229 hg w9 hbox hb; replace HO1 := zA (Kd.V_below (Kd.V_elderB (by (with_reducible repeat (first | apply Kd.V_alloc | apply Kd.V_drewN | apply Kd.V_drew)); exact HO1.out) gb229 (Nat.le_of_eq hg.symm)) hb); replace HO2 := zA (Kd.V_below (Kd.V_elderB (by (with_reducible repeat (first | apply Kd.V_alloc | apply Kd.V_drewN | apply Kd.V_drew)); exact HO2.out) gb229 (Nat.le_of_eq hg.symm)) hb); have BK229 := zA (hbox); have GW229 := zA ((by rw [hg]; exact (below_size zH) : w.heap.size ≤ gb229)); have GE229 := zA ((by rw [hg]; exact (below_size zH) : w.heap.size ≤ gb229)); replace HB := zA (below_step zH hb); clear hb hbox hg) | ((with_reducible refine gate_dst (N := 17) rfl ?_); refine Kd.N_lit (Kd.slice 3 (Kd.int .i64)) _ 22 ?hg (N' := 17) ?hd (xs := ([l1, l2] : List (List Int))) (inner := [.slice A1 l1.length c1, .slice A2 l2.length c2]) (ok := (fun k_ => ((P1_ k_ ∨ P2_ k_) ∨ w.heap.size ≤ k_) ∧ k_ ≠ gb229)) (okp := (fun k_ => ((P1_ k_ ∨ P2_ k_) ∨ w.heap.size ≤ k_) ∧ k_ ≠ gb229)) ?hr ?hp (fun _ hk => hk) ((show ∀ k_, w9.heap.size ≤ k_ → (fun k_ => ((P1_ k_ ∨ P2_ k_) ∨ w.heap.size ≤ k_) ∧ k_ ≠ gb229) k_ from fun k_ hk => ⟨(.inr (Nat.le_trans (below_size zH) hk)), Kd.freshB (g := gb229) (o := .cells #[.slice none 0 0, .slice none 0 0, .slice none 0 0] 27 (0, 0)) (zB BK229.out) k_ hk⟩) _ (Nat.le_refl _)) (Below.refl _ _) (Nat.le_refl _) (by simp) ?_; (case hd => rfl); (case hg => rfl); (case hr => first | (go_simp; done) | (go_simp; rfl)); (case hp => exact (Reps.one (show Kd.FK (Kd.slice 3 (Kd.int .i64)) _ _ l1 [.slice A1 l1.length c1] from (Kd.FK_slice_mk (Kd.V_reads' (Kd.V_mono (ok' := (fun k_ => ((P1_ k_ ∨ P2_ k_) ∨ w.heap.size ≤ k_) ∧ k_ ≠ gb229)) (HO1.out) (fun k_ hk => ⟨hk.1, hk.2⟩))).2.1 (Kd.V_F (Kd.V_mono (ok' := (fun k_ => ((P1_ k_ ∨ P2_ k_) ∨ w.heap.size ≤ k_) ∧ k_ ≠ gb229)) (HO1.out) (fun k_ hk => ⟨hk.1, hk.2⟩))))) (Reps.one (show Kd.FK (Kd.slice 3 (Kd.int .i64)) _ _ l2 [.slice A2 l2.length c2] from (Kd.FK_slice_mk (Kd.V_reads' (Kd.V_mono (ok' := (fun k_ => ((P1_ k_ ∨ P2_ k_) ∨ w.heap.size ≤ k_) ∧ k_ ≠ gb229)) (HO2.out) (fun k_ hk => ⟨hk.1, hk.2⟩))).2.1 (Kd.V_F (Kd.V_mono (ok' := (fun k_ => ((P1_ k_ ∨ P2_ k_) ∨ w.heap.size ≤ k_) ∧ k_ ≠ gb229)) (HO2.out) (fun k_ hk => ⟨hk.1, hk.2⟩))))) (Reps.none _ _)))); intro v231 w10 ho11 hb hg_ hnew_; clear hg_ hnew_; (first | rw [← Ny230.out] at ho11 | (simp only [Int.reduceToNat] at ho11; rw [← Ny230.out] at ho11)); replace HO1 := zA (Kd.V_elder' (by (with_reducible repeat (first | apply Kd.V_alloc | apply Kd.V_drewN | apply Kd.V_drew)); exact HO1.out) (Kd.N_base ho11) hb); replace HO2 := zA (Kd.V_elder' (by (with_reducible repeat (first | apply Kd.V_alloc | apply Kd.V_drewN | apply Kd.V_drew)); exact HO2.out) (Kd.N_base ho11) hb); have HO232 := zA (Kd.N_lower ho11 (below_size zH)); replace BK229 := zb BK229.out hb; replace HB := zA (below_step zH hb); clear hb ho11; obtain ⟨Ao12, co12, eo12⟩ := Kd.N_slice HO232.out; subst eo12) | ((with_reducible refine gate_callee (f := 71) rfl ?_); refine goesL_ (some 18) rfl rfl Try.func71 (by kernel_rfl) rfl #[.int .i64 a0, .slice Ao12 y230.length co12] rfl zM ?_; (with_reducible refine (impl_polyField.calls k a0 _ _ y230 t233 t234 t235 true _ ?side1 ?side2 A4.out).mono ?_); (case side1 => exact zC ((Kd.N_reads' HO232.out).2.2)); (case side2 => exact (Kd.N_reads' HO232.out).2.1); rintro e w13 ⟨rfl, hb⟩; refine ⟨_, rfl, ?_⟩; replace HO1 := zA (Kd.V_below (by (with_reducible repeat (first | apply Kd.V_alloc | apply Kd.V_drewN | apply Kd.V_drew)); exact HO1.out) hb); replace HO2 := zA (Kd.V_below (by (with_reducible repeat (first | apply Kd.V_alloc | apply Kd.V_drewN | apply Kd.V_drew)); exact HO2.out) hb); replace HO232 := zA (Kd.N_below (by (with_reducible repeat (first | apply Kd.N_alloc | apply Kd.N_drewN | apply Kd.N_drew)); exact HO232.out) hb); replace BK229 := zb BK229.out hb; replace HB := zA (below_step zH hb); (try clear hb)) | ((with_reducible refine gate_dst (N := 8) rfl ?_); refine box_event ?hg (N := 8) ?hd (cs := #[.int .i64 0, .int .i64 0, .int .i64 0]) (t := 88) ?hr ?_; (case hd => rfl); (case hg => rfl); (case hr => first | (go_simp; done) | (go_simp; rfl)); intro gb237 hg w14 hbox hb; replace HO1 := zA (Kd.V_below (Kd.V_elderB (by (with_reducible repeat (first | apply Kd.V_alloc | apply Kd.V_drewN | apply Kd.V_drew)); exact HO1.out) gb237 (Nat.le_of_eq hg.symm)) hb); replace HO2 := zA (Kd.V_below (Kd.V_elderB (by (with_reducible repeat (first | apply Kd.V_alloc | apply Kd.V_drewN | apply Kd.V_drew)); exact HO2.out) gb237 (Nat.le_of_eq hg.symm)) hb); replace HO232 := zA (Kd.N_below (Kd.N_elderB (by (with_reducible repeat (first | apply Kd.N_alloc | apply Kd.N_drewN | apply Kd.N_drew)); exact HO232.out) gb237 (Nat.le_of_eq hg.symm)) hb); have BK237 := zA (hbox); have GW237 := zA ((by rw [hg]; exact (below_size zH) : w.heap.size ≤ gb237)); have GE237 := zA ((by rw [hg]; exact (below_size zH) : w.heap.size ≤ gb237)); replace HB := zA (below_step zH hb); have NB229_237 := Aside0.mk ((by rw [hg]; exact Nat.ne_of_lt (blk_lt (g := gb229) (o := .cells #[.slice none 0 0, .slice none 0 0, .slice none 0 0] 27 (0, 0)) (zB BK229.out)) : gb229 ≠ gb237)); have NB237_229 := Aside0.mk ((by rw [hg]; exact Nat.ne_of_gt (blk_lt (g := gb229) (o := .cells #[.slice none 0 0, .slice none 0 0, .slice none 0 0] 27 (0, 0)) (zB BK229.out)) : gb237 ≠ gb229)); replace BK229 := zb BK229.out hb; clear hb hbox hg; have hnb15 := NB237_229.out; have hnc15 := NB229_237.out; obtain ⟨hcz16_0, hcz16_1, hcz16_2⟩ := zc3 BK237.out; obtain ⟨hfz16_0, hfz16_1, hfz16_2, _, _⟩ := zf BK237.out) | ((with_reducible refine gate_callee (f := 77) rfl ?_); refine goesL_ (some 27) rfl rfl Try.func77 (by kernel_rfl) rfl #[.agg #[.int .i64 t233, .int .i64 t234, .int .i64 t235], .slice A1 l1.length c1, .slice A2 l2.length c2] rfl zM ?_; (with_reducible refine (impl_field_mulPoly.calls k t233 t234 t235 _ _ l1 _ _ l2 t238 _ ?side1 ?side2 ?side3 ?side4 A6.out).mono ?_); (case side1 => refine (Kd.V_reads' (e := 3) (base := w.heap.size) (ok := fun k_ => (((((P1_ k_ ∨ P2_ k_) ∨ w.heap.size ≤ k_) ∧ k_ ≠ gb229) ∧ some k_ ≠ (.slice Ao12 y230.length co12 : Value).ownBlock) ∧ k_ ≠ gb237)) (n := l1.length) (c := c1) ?_).2.2; exact (by (with_reducible repeat (first | apply Kd.V_alloc | apply Kd.V_drewN | apply Kd.V_drew)); exact (Kd.V_mono (Kd.V_far (p := ⟨gb237, 2, none⟩) (Kd.V_far (p := ⟨gb237, 1, none⟩) (Kd.V_far (p := ⟨gb237, 0, none⟩) (Kd.V_mono HO1.out (fun k_ hk => (⟨hk, hk.2⟩ : _ ∧ k_ ≠ gb237))) (fun _ hk => hk.2) (.int .i64 t233)) (fun _ hk => hk.2) (.int .i64 t234)) (fun _ hk => hk.2) (.int .i64 t235)) (fun _ h_ => h_.1)))); (case side2 => exact (Kd.V_reads' HO1.out).2.1); (case side3 => refine (Kd.V_reads' (e := 3) (base := w.heap.size) (ok := fun k_ => (((((P1_ k_ ∨ P2_ k_) ∨ w.heap.size ≤ k_) ∧ k_ ≠ gb229) ∧ some k_ ≠ (.slice Ao12 y230.length co12 : Value).ownBlock) ∧ k_ ≠ gb237)) (n := l2.length) (c := c2) ?_).2.2; exact (by (with_reducible repeat (first | apply Kd.V_alloc | apply Kd.V_drewN | apply Kd.V_drew)); exact (Kd.V_mono (Kd.V_far (p := ⟨gb237, 2, none⟩) (Kd.V_far (p := ⟨gb237, 1, none⟩) (Kd.V_far (p := ⟨gb237, 0, none⟩) (Kd.V_mono HO2.out (fun k_ hk => (⟨hk, hk.2⟩ : _ ∧ k_ ≠ gb237))) (fun _ hk => hk.2) (.int .i64 t233)) (fun _ hk => hk.2) (.int .i64 t234)) (fun _ hk => hk.2) (.int .i64 t235)) (fun _ h_ => h_.1)))); (case side4 => exact (Kd.V_reads' HO2.out).2.1); rintro e w17 ⟨v239, rfl, ho0, hb⟩; refine ⟨_, rfl, ?_⟩; replace HO1 := Aside0.mk (Kd.V_below (by (with_reducible repeat (first | apply Kd.V_alloc | apply Kd.V_drewN | apply Kd.V_drew)); exact (Kd.V_mono (Kd.V_far (p := ⟨gb237, 2, none⟩) (Kd.V_far (p := ⟨gb237, 1, none⟩) (Kd.V_far (p := ⟨gb237, 0, none⟩) (Kd.V_mono HO1.out (fun k_ hk => (⟨hk, hk.2⟩ : _ ∧ k_ ≠ gb237))) (fun _ hk => hk.2) (.int .i64 t233)) (fun _ hk => hk.2) (.int .i64 t234)) (fun _ hk => hk.2) (.int .i64 t235)) (fun _ h_ => h_.1))) hb); replace HO2 := Aside0.mk (Kd.V_below (by (with_reducible repeat (first | apply Kd.V_alloc | apply Kd.V_drewN | apply Kd.V_drew)); exact (Kd.V_mono (Kd.V_far (p := ⟨gb237, 2, none⟩) (Kd.V_far (p := ⟨gb237, 1, none⟩) (Kd.V_far (p := ⟨gb237, 0, none⟩) (Kd.V_mono HO2.out (fun k_ hk => (⟨hk, hk.2⟩ : _ ∧ k_ ≠ gb237))) (fun _ hk => hk.2) (.int .i64 t233)) (fun _ hk => hk.2) (.int .i64 t234)) (fun _ hk => hk.2) (.int .i64 t235)) (fun _ h_ => h_.1))) hb); have HO240 := Aside0.mk (Kd.V_lower (Kd.V_mono (ok' := fun k_ => ((P1_ k_ ∨ P2_ k_) ∨ w.heap.size ≤ k_) ∧ some k_ ≠ (.slice Ao12 y230.length co12 : Value).ownBlock ∧ k_ ≠ gb229 ∧ k_ ≠ gb237) ho0 (fun k_ hk_ => ⟨(.inr (Nat.le_trans (below_size zH) hk_)), (Kd.fresh' (Kd.N_lt (by (with_reducible repeat (first | apply Kd.N_alloc | apply Kd.N_drewN | apply Kd.N_drew)); exact (Kd.N_mono (Kd.N_far (p := ⟨gb237, 2, none⟩) (Kd.N_far (p := ⟨gb237, 1, none⟩) (Kd.N_far (p := ⟨gb237, 0, none⟩) (Kd.N_mono HO232.out (fun k_ hk => (⟨hk, hk.2⟩ : _ ∧ k_ ≠ gb237))) (fun _ hk => hk.2) (.int .i64 t233)) (fun _ hk => hk.2) (.int .i64 t234)) (fun _ hk => hk.2) (.int .i64 t235)) (fun _ h_ => h_.1)))) k_ hk_), (Kd.freshB (g := gb229) (o := .cells #[.slice none 0 0, .slice none 0 0, .slice none 0 0] 27 (0, 0)) (by (repeat refine zL ?_); refine blk_far ?_ NB229_237.out _; (repeat refine zL ?_); refine blk_far ?_ NB229_237.out _; (repeat refine zL ?_); refine blk_far ?_ NB229_237.out _; (repeat refine zL ?_); exact BK229.out) k_ hk_), (Kd.freshB (g := gb237) (o := .cells #[.int .i64 t233, .int .i64 t234, .int .i64 t235] 88 (0, 0)) (by (repeat refine zL ?_); refine blk_put (cs := #[.int .i64 t233, .int .i64 t234, .int .i64 0]) ?_ 2 _ rfl; (repeat refine zL ?_); refine blk_put (cs := #[.int .i64 t233, .int .i64 0, .int .i64 0]) ?_ 1 _ rfl; (repeat refine zL ?_); refine blk_put (cs := #[.int .i64 0, .int .i64 0, .int .i64 0]) ?_ 0 _ rfl; (repeat refine zL ?_); exact BK237.out) k_ hk_)⟩)) (below_size zH)); replace HO232 := Aside0.mk (Kd.N_below (by (with_reducible repeat (first | apply Kd.N_alloc | apply Kd.N_drewN | apply Kd.N_drew)); exact (Kd.N_mono (Kd.N_far (p := ⟨gb237, 2, none⟩) (Kd.N_far (p := ⟨gb237, 1, none⟩) (Kd.N_far (p := ⟨gb237, 0, none⟩) (Kd.N_mono HO232.out (fun k_ hk => (⟨hk, hk.2⟩ : _ ∧ k_ ≠ gb237))) (fun _ hk => hk.2) (.int .i64 t233)) (fun _ hk => hk.2) (.int .i64 t234)) (fun _ hk => hk.2) (.int .i64 t235)) (fun _ h_ => h_.1))) hb); replace BK229 := Aside0.mk (blk_below (g := gb229) (o := .cells #[.slice none 0 0, .slice none 0 0, .slice none 0 0] 27 (0, 0)) (by (repeat refine zL ?_); refine blk_far ?_ NB229_237.out _; (repeat refine zL ?_); refine blk_far ?_ NB229_237.out _; (repeat refine zL ?_); refine blk_far ?_ NB229_237.out _; (repeat refine zL ?_); exact BK229.out) hb); replace BK237 := Aside0.mk (blk_below (g := gb237) (o := .cells #[.int .i64 t233, .int .i64 t234, .int .i64 t235] 88 (0, 0)) (by (repeat refine zL ?_); refine blk_put (cs := #[.int .i64 t233, .int .i64 t234, .int .i64 0]) ?_ 2 _ rfl; (repeat refine zL ?_); refine blk_put (cs := #[.int .i64 t233, .int .i64 0, .int .i64 0]) ?_ 1 _ rfl; (repeat refine zL ?_); refine blk_put (cs := #[.int .i64 0, .int .i64 0, .int .i64 0]) ?_ 0 _ rfl; (repeat refine zL ?_); exact BK237.out) hb); replace HB := zA (below_step zH hb); (try clear hb ho0); obtain ⟨Ao18, co18, eo18⟩ := Kd.V_slice HO240.out; subst eo18))
  (try simp only [Act.put, List.setIfInBounds_toArray, List.set_cons_zero, List.set_cons_succ])
  go_cut [37] (fun v37 wc => ∃ (kq : Nat) (x37_7 : Bool), v37 = .bool x37_7 ∧ Aside0 (impl_MakeCert.j0 kq l1 l2 ji7 x37_7 t233 t234 t235 = some (r1, r2, r3, r4)) ∧ Aside0 (kq ≤ k) ∧ Aside0 (Kd.V (Kd.int .i64) 3 wc w.heap.size (fun k_ => ((P1_ k_ ∨ P2_ k_) ∨ w.heap.size ≤ k_) ∧ k_ ≠ gb229 ∧ k_ ≠ gb237) (.slice A1 l1.length c1) l1) ∧ Aside0 (Kd.V (Kd.int .i64) 3 wc w.heap.size (fun k_ => ((P1_ k_ ∨ P2_ k_) ∨ w.heap.size ≤ k_) ∧ k_ ≠ gb229 ∧ k_ ≠ gb237) (.slice A2 l2.length c2) l2) ∧ Aside0 (wc.heap[gb229]? = some (.cells #[(.slice none 0 0), (.slice none 0 0), (.slice none 0 0)] 27 (0, 0))) ∧ Aside0 (wc.heap[gb237]? = some (.cells #[.int .i64 t233, .int .i64 t234, .int .i64 t235] 88 (0, 0))) ∧ Aside0 (Below w.heap.size w wc))
  case first =>
   have H := HC8.out
   clear HC8
   by_cases c19 : (ji7) > 40
   ·rw [if_pos c19] at H
    have c19b0 : decide (40 < (ji7)) = true := decide_eq_true c19
    clear c19
    (first | rw [c19b0] | (simp only [i64_w, i32_w]; rw [c19b0]) | skip)
    have H' := Aside0.mk H
    clear H
    go_wp2
    go_meet
    case rel => exact ⟨_, (true), zF, H', ⟨by first | omega | exact Nat.le_refl _⟩, ⟨by (with_reducible repeat (first | apply Kd.V_alloc | apply Kd.V_drewN | apply Kd.V_drew)); exact Kd.V_mono HO1.out (fun _ hk => ⟨hk.1.1.1, ⟨hk.1.1.2, hk.2⟩⟩)⟩, ⟨by (with_reducible repeat (first | apply Kd.V_alloc | apply Kd.V_drewN | apply Kd.V_drew)); exact Kd.V_mono HO2.out (fun _ hk => ⟨hk.1.1.1, ⟨hk.1.1.2, hk.2⟩⟩)⟩, ⟨zB BK229.out⟩, ⟨zB BK237.out⟩, ⟨zH⟩⟩
   ·rw [if_neg c19] at H
    have c19b0 : decide (40 < (ji7)) = false := decide_eq_false c19
    clear c19
    (first | rw [c19b0] | (simp only [i64_w, i32_w]; rw [c19b0]) | skip)
    have H' := Aside0.mk H
    clear H
    have hnb20 := NB237_229.out
    have hnc20 := NB229_237.out
    obtain ⟨hcz21_0, hcz21_1, hcz21_2⟩ := zc3 BK237.out
    obtain ⟨hfz21_0, hfz21_1, hfz21_2, _, _⟩ := zf BK237.out
    go_wp2
    go_meet
    case rel => exact ⟨_, (decide ((ji7) > t233)), (by first | rfl | (simp; done) | (simp only [← hji7] <;> (first | rfl | simp)) | (simp [*]; done)), H', ⟨by first | omega | exact Nat.le_refl _⟩, ⟨by (with_reducible repeat (first | apply Kd.V_alloc | apply Kd.V_drewN | apply Kd.V_drew)); exact Kd.V_mono HO1.out (fun _ hk => ⟨hk.1.1.1, ⟨hk.1.1.2, hk.2⟩⟩)⟩, ⟨by (with_reducible repeat (first | apply Kd.V_alloc | apply Kd.V_drewN | apply Kd.V_drew)); exact Kd.V_mono HO2.out (fun _ hk => ⟨hk.1.1.1, ⟨hk.1.1.2, hk.2⟩⟩)⟩, ⟨zB BK229.out⟩, ⟨zB BK237.out⟩, ⟨zH⟩⟩
  case rest =>
   clear HC8
   skip
   obtain ⟨kq, x37_7, rfl, HA, HJ7, HO_1, HO_2, BK229, BK237, HB⟩ := hcut
   cases kq with
   | zero => exact absurd HA.out (by simp [impl_MakeCert.j0])
   | succ kj7 =>
    have H := HA.out
    clear HA
    simp only [impl_MakeCert.j0] at H
    by_cases c22 : x37_7 = true
    ·subst c22
     rw [if_pos rfl] at H
     simp only [Option.some.injEq, Prod.mk.injEq] at H
     obtain ⟨rfl, rfl, rfl, rfl⟩ := H
     have hnb23 := NB229_237.out
     have hnc23 := NB237_229.out
     obtain ⟨hcz24_0, hcz24_1, hcz24_2⟩ := zc3 BK229.out
     obtain ⟨hfz24_0, hfz24_1, hfz24_2, _, _⟩ := zf BK229.out
     go_wp2
     refine bodyPost_ret (results_ct rfl _ _ gb229 27 #[.slice none 0 0, .slice none 0 0, .slice none 0 0] (0, 0) _ rfl (by (repeat refine zL ?_); refine blk_put (cs := #[.slice none 0 0, .slice none 0 0, .slice none 0 0]) ?_ 2 _ rfl; (repeat refine zL ?_); refine blk_put (cs := #[.slice none 0 0, .slice none 0 0, .slice none 0 0]) ?_ 1 _ rfl; (repeat refine zL ?_); refine blk_put (cs := #[.slice none 0 0, .slice none 0 0, .slice none 0 0]) ?_ 0 _ rfl; (repeat refine zL ?_); exact BK229.out) Try.underlying27 rfl (by kernel_rfl)) rfl ?_
     exact ⟨_, _, _, by first | rfl | (simp [errW_none, errW_some] <;> rfl) | (simp only [← hji7]; first | rfl | (simp [errW_none, errW_some] <;> rfl)) | (simp [*, errW_none, errW_some] <;> rfl), zN, zN, zN, zH⟩
    ·replace c22 := Bool.eq_false_iff.mpr c22
     subst c22
     rw [if_neg (show ¬ (false = true) by decide)] at H
     obtain ⟨y241, hy241⟩ : ∃ y_ : List Int, y_ = (([] : List Int)) := ⟨_, rfl⟩
     replace H : (impl_MakeCert.l0 kj7 l1 l2 y241 ji7 0 t233 t234 t235) = some (r1, r2, r3, r4) := by first | (rw [hy241]; with_reducible exact H) | (have H2_ := (Option.bind_some _ _).symm.trans H; rw [hy241]; with_reducible exact H2_) | (have H2_ := (Option.bind_some _ _).symm.trans H; with_reducible exact H2_) | with_reducible exact H | (rw [hy241]; exact H) | exact H
     have Ny241 := Aside0.mk hy241
     clear hy241
     have H' := Aside0.mk H
     clear H
     go_wp2_with (first | ((with_reducible refine gate_dst (N := 39) rfl ?_); refine Kd.R_lit (Kd.int .i64) _ 3 ?hg (N := 39) ?hd (xs := ([] : List Int)) (inner := []) (ok := fun _ => True) (okp := fun _ => True) ?hr ?hp (fun _ hk => hk) trivial (Below.refl _ _) (Nat.le_refl _) (by simp) ?_; (case hd => rfl); (case hg => rfl); (case hr => first | (go_simp; done) | (go_simp; rfl)); (case hp => exact (Reps.none _ _)); intro v242 w25 ho26 hb hg_ hnew_; clear hg_ hnew_; (first | rw [← Ny241.out] at ho26 | (simp only [Int.reduceToNat] at ho26; rw [← Ny241.out] at ho26)); replace HO_1 := zA (Kd.V_elder' (by (with_reducible repeat (first | apply Kd.V_alloc | apply Kd.V_drewN | apply Kd.V_drew)); exact HO_1.out) (Kd.R_base ho26) hb); replace HO_2 := zA (Kd.V_elder' (by (with_reducible repeat (first | apply Kd.V_alloc | apply Kd.V_drewN | apply Kd.V_drew)); exact HO_2.out) (Kd.R_base ho26) hb); have HO243 := Aside0.mk (Kd.R_lower (Kd.R_newM (M := fun k_ => (w.heap.size ≤ k_)) ho26 (below_size zH) (fun k_ h_ => h_)) (below_size zH)); replace BK229 := zb BK229.out hb; replace BK237 := zb BK237.out hb; replace HB := zA (below_step zH hb); clear hb ho26))
     go_loopg [11, 41] kj7 (fun kq v11 v41 w' => ∃ (x11_2 : List Int) (x41_2 : Int), v41 = .int .i64 x41_2 ∧ Aside0 (impl_MakeCert.l0 kq l1 l2 x11_2 ji7 x41_2 t233 t234 t235 = some (r1, r2, r3, r4)) ∧ Aside0 (kq ≤ kj7) ∧ Aside0 (Kd.V (Kd.int .i64) 3 w' w.heap.size (fun k_ => ((P1_ k_ ∨ P2_ k_) ∨ w.heap.size ≤ k_) ∧ some k_ ≠ (v11 : Value).ownBlock ∧ k_ ≠ gb229 ∧ k_ ≠ gb237) (.slice A1 l1.length c1) l1) ∧ Aside0 (Kd.V (Kd.int .i64) 3 w' w.heap.size (fun k_ => ((P1_ k_ ∨ P2_ k_) ∨ w.heap.size ≤ k_) ∧ some k_ ≠ (v11 : Value).ownBlock ∧ k_ ≠ gb229 ∧ k_ ≠ gb237) (.slice A2 l2.length c2) l2) ∧ Aside0 (Kd.R (Kd.int .i64) 3 w' w.heap.size (fun k_ => (w.heap.size ≤ k_)) v11 x11_2) ∧ Aside0 (w'.heap[gb229]? = some (.cells #[(.slice none 0 0), (.slice none 0 0), (.slice none 0 0)] 27 (0, 0))) ∧ Aside0 (w'.heap[gb237]? = some (.cells #[.int .i64 t233, .int .i64 t234, .int .i64 t235] 88 (0, 0))) ∧ Aside0 (Below w.heap.size w w'))
     case atStart => exact ⟨(y241), (0), zF, H', ⟨Nat.le_refl _⟩, ⟨by (with_reducible repeat (first | apply Kd.V_alloc | apply Kd.V_drewN | apply Kd.V_drew)); exact Kd.V_mono HO_1.out (fun _ hk => ⟨hk.1.1, ⟨hk.2, ⟨hk.1.2.1, hk.1.2.2⟩⟩⟩)⟩, ⟨by (with_reducible repeat (first | apply Kd.V_alloc | apply Kd.V_drewN | apply Kd.V_drew)); exact Kd.V_mono HO_2.out (fun _ hk => ⟨hk.1.1, ⟨hk.2, ⟨hk.1.2.1, hk.1.2.2⟩⟩⟩)⟩, ⟨by (with_reducible repeat (first | apply Kd.R_alloc | apply Kd.R_drewN | apply Kd.R_drew)); exact Kd.R_mono HO243.out (fun _ hk => hk.1)⟩, ⟨zB BK229.out⟩, ⟨zB BK237.out⟩, ⟨zH⟩⟩
     case round =>
      clear H'
      skip
      obtain ⟨x11_2, x41_2, rfl, HA, HK2, HO_1, HO_2, HO_11, BK229, BK237, HB⟩ := hrel
      cases gk with
      | zero => exact absurd HA.out (by simp [impl_MakeCert.l0])
      | succ k2 =>
       have H := HA.out
       clear HA
       simp only [impl_MakeCert.l0] at H
       by_cases c27 : x41_2 < ji7
       ·rw [if_pos c27] at H
        have c27b0 : decide (x41_2 < ji7) = true := decide_eq_true c27
        clear c27
        by_cases c28 : x11_2.length < 17592186044416
        ·rw [if_pos c28] at H
         have LMc28 := Aside0.mk c28
         clear c28
         obtain ⟨y244, hy244⟩ : ∃ y_ : List Int, y_ = (x11_2 ++ [x41_2]) := ⟨_, rfl⟩
         replace H : (impl_MakeCert.l0 k2 l1 l2 y244 ji7 (wrap64 (x41_2 + 1)) t233 t234 t235) = some (r1, r2, r3, r4) := by first | (rw [hy244]; with_reducible exact H) | (have H2_ := (Option.bind_some _ _).symm.trans H; rw [hy244]; with_reducible exact H2_) | (have H2_ := (Option.bind_some _ _).symm.trans H; with_reducible exact H2_) | with_reducible exact H | (rw [hy244]; exact H) | exact H
         have Ny244 := Aside0.mk hy244
         clear hy244
         have H' := Aside0.mk H
         clear H
         go_wp2_with (first | ((with_reducible refine gate_builtin (b := .append) (xs := #[.tmp 44, .tmp 46]) rfl ?_); at_builtin; refine Kd.R_append (Kd.int .i64) (w0 := w) w.heap.size rfl (.tmp 44) (.tmp 46) 22 3 (.int .i64 0) 8 rfl Try.underlying22 info3 rfl (by decide) (by omega) u11 x11_2 x41_2 [.int .i64 x41_2] (fun k_ => (w.heap.size ≤ k_)) (fun _ => False) rfl rfl ?aP (fun _ hk => hk.elim) ?aF ?aO ?aB ?aS ?aL ?_; (case aP => exact rfl); (case aB => exact zH); (case aF => exact (fun k_ hk => (Nat.le_trans (below_size zH) hk))); (case aO => exact (zR HO_11.out)); (case aS => exact (below_size zH)); (case aL => have := LMc28.out; omega); intro v245 w29 ho hb hg hat; rw [← Ny244.out] at ho; have n0_ := Aside0.mk (Kd.V_afterv (ok := (fun k_ => ((P1_ k_ ∨ P2_ k_) ∨ w.heap.size ≤ k_) ∧ k_ ≠ gb229 ∧ k_ ≠ gb237)) (by (with_reducible repeat (first | apply Kd.V_alloc | apply Kd.V_drewN | apply Kd.V_drew)); exact Kd.V_mono HO_1.out (fun _ hk => ⟨⟨hk.1, ⟨hk.2.2.1, hk.2.2.2⟩⟩, hk.2.1⟩)) hg hat); have n1_ := Aside0.mk (Kd.V_afterv (ok := (fun k_ => ((P1_ k_ ∨ P2_ k_) ∨ w.heap.size ≤ k_) ∧ k_ ≠ gb229 ∧ k_ ≠ gb237)) (by (with_reducible repeat (first | apply Kd.V_alloc | apply Kd.V_drewN | apply Kd.V_drew)); exact Kd.V_mono HO_2.out (fun _ hk => ⟨⟨hk.1, ⟨hk.2.2.1, hk.2.2.2⟩⟩, hk.2.1⟩)) hg hat); have n2_ := Aside0.mk (blk_grown (g := gb229) (o := .cells #[.slice none 0 0, .slice none 0 0, .slice none 0 0] 27 (0, 0)) (zB BK229.out) hg (Kd.R_ne HO_11.out BK229.out (by decide))); have n3_ := Aside0.mk (blk_grown (g := gb237) (o := .cells #[.int .i64 t233, .int .i64 t234, .int .i64 t235] 88 (0, 0)) (zB BK237.out) hg (Kd.R_ne HO_11.out BK237.out (by decide))); have n4_ := Aside0.mk (hb); have n5_ := Aside0.mk (ho); clear HO_1; clear HO_2; clear BK229; clear BK237; clear HB; clear HO_11; have HO_1 := n0_; have HO_2 := n1_; have BK229 := n2_; have BK237 := n3_; have HB := n4_; have HO246 := n5_; clear n0_ n1_ n2_ n3_ n4_ n5_; clear ho hb hg hat))
         go_roundg k2
         case measure => have := HJ7.out; have := HK2.out; omega
         case rel => exact ⟨(y244), (wrap64 (x41_2 + 1)), zF, H', ⟨by have := HJ7.out; have := HK2.out; omega⟩, ⟨by (with_reducible repeat (first | apply Kd.V_alloc | apply Kd.V_drewN | apply Kd.V_drew)); exact Kd.V_mono HO_1.out (fun _ hk => ⟨hk.1.1, ⟨hk.2, ⟨hk.1.2.1, hk.1.2.2⟩⟩⟩)⟩, ⟨by (with_reducible repeat (first | apply Kd.V_alloc | apply Kd.V_drewN | apply Kd.V_drew)); exact Kd.V_mono HO_2.out (fun _ hk => ⟨hk.1.1, ⟨hk.2, ⟨hk.1.2.1, hk.1.2.2⟩⟩⟩)⟩, ⟨zR HO246.out⟩, ⟨zB BK229.out⟩, ⟨zB BK237.out⟩, ⟨zH⟩⟩
        ·rw [if_neg c28] at H
         exact absurd H (by simp)
       ·rw [if_neg c27] at H
        have c27b0 : decide (x41_2 < ji7) = false := decide_eq_false c27
        clear c27
        replace H := Option.bind_eq_some_iff.mp H
        obtain ⟨t247, A300, H⟩ := H
        (try dsimp -zeta -simprocs only at H)
        have A30 := Aside0.mk A300
        clear A300
        replace H := Option.bind_eq_some_iff.mp H
        obtain ⟨t250, A310, H⟩ := H
        (try dsimp -zeta -simprocs only at H)
        have A31 := Aside0.mk A310
        clear A310
        simp only [Option.some.injEq, Prod.mk.injEq] at H
        obtain ⟨rfl, rfl, rfl, rfl⟩ := H
        try go_wp2
        replace HO_1 := zA (Kd.V_drew HO_1.out)
        replace HO_2 := zA (Kd.V_drew HO_2.out)
        replace HO_11 := zA (Kd.R_drew HO_11.out)
        replace BK229 := zA (blk_drew BK229.out)
        replace BK237 := zA (blk_drew BK237.out)
        replace HB := zA (below_drew1 HB.out)
        obtain ⟨Ao33, co33, eo33⟩ := Kd.R_slice HO_11.out
        (first | subst eo33 | (injection eo33 with f1_ f2_ f3_; have f4_ := f1_.symm; have f5_ := f3_.symm; clear f1_ f2_ f3_; subst f4_; subst f5_))
        refine start_ (n := 12) (S := fun w' => w'.cell? ⟨gb237, 0, none⟩ = some (.int .i64 t233) ∧ w'.cell? ⟨gb237, 1, none⟩ = some (.int .i64 t234) ∧ w'.cell? ⟨gb237, 2, none⟩ = some (.int .i64 t235)) (ds := []) #[false, false, false, false, false, false, false, false, false, false, false, false] (by kernel_rfl) rfl rfl ⟨zk BK237.out 0, zk BK237.out 1, zk BK237.out 2⟩ (fun hHeld => ?_); refine with_tabW impl_MakeCert.tab13 impl_MakeCert.bits13 (fun HT_ HW_ => ?_)
        generalize wr.drew = w32 at HO_1 HO_2 HO_11 BK229 BK237 HB hHeld ⊢
        refine pA HT_ 0 (some 49) ?_
        refine pA HT_ 2 (some 51) ?_
        refine pA HT_ 3 (some 52) ?_
        refine pA HT_ 6 (some 55) ?_
        refine pA HT_ 7 (some 56) ?_
        refine tA3 HT_ HW_ 1 (some 50) hHeld ?_
        refine tA3 HT_ HW_ 5 (some 54) hHeld ?_
        refine oA HT_ 4 (some 53) (fun K hK => ?_)
        refine gA Try.func73 #[.agg #[.int .i64 t233, .int .i64 t234, .int .i64 t235], .slice A1 l1.length c1, .slice Ao33 x11_2.length co33] ?_
        with_reducible refine (impl_field_evalMany.calls k2 t233 t234 t235 _ _ l1 _ _ x11_2 t247 _ ?side1 ?side2 ?side3 ?side4 A30.out).mono ?_
        (case side1 => exact zC ((Kd.V_reads' HO_1.out).2.2))
        (case side2 => exact (Kd.V_reads' HO_1.out).2.1)
        (case side3 => exact zC ((Kd.R_reads' HO_11.out).2.2))
        (case side4 => exact (Kd.R_reads' HO_11.out).2.1)
        rintro e w34 ⟨v248, rfl, ho0, hb⟩
        refine ⟨_, rfl, ?_⟩
        replace HO_1 := zA (Kd.V_elder' (by (with_reducible repeat (first | apply Kd.V_alloc | apply Kd.V_drewN | apply Kd.V_drew)); exact HO_1.out) (Kd.R_base ho0) hb)
        replace HO_2 := zA (Kd.V_elder' (by (with_reducible repeat (first | apply Kd.V_alloc | apply Kd.V_drewN | apply Kd.V_drew)); exact HO_2.out) (Kd.R_base ho0) hb)
        have HO249 := Aside0.mk (Kd.R_lower (zn (Kd.R_newM (M := fun k_ => (w.heap.size ≤ k_)) ho0 (below_size zH) (fun k_ h_ => h_)) HO_11.out) (below_size zH))
        replace HO_11 := z2 HO_11.out ho0 hb
        replace BK229 := zb BK229.out hb
        replace BK237 := zb BK237.out hb
        replace HB := zA (below_step zH hb)
        (try clear hb ho0)
        refine hK.out _ _ ⟨zk BK237.out 0, zk BK237.out 1, zk BK237.out 2⟩ (fun hHeld => ?_)
        clear hK K
        refine nA ?_
        refine oA HT_ 8 (some 57) (fun K hK => ?_)
        refine gA Try.func73 #[.agg #[.int .i64 t233, .int .i64 t234, .int .i64 t235], .slice A2 l2.length c2, .slice Ao33 x11_2.length co33] ?_
        with_reducible refine (impl_field_evalMany.calls k2 t233 t234 t235 _ _ l2 _ _ x11_2 t250 _ ?side1 ?side2 ?side3 ?side4 A31.out).mono ?_
        (case side1 => exact zC ((Kd.V_reads' HO_2.out).2.2))
        (case side2 => exact (Kd.V_reads' HO_2.out).2.1)
        (case side3 => exact zC ((Kd.R_reads' HO_11.out).2.2))
        (case side4 => exact (Kd.R_reads' HO_11.out).2.1)
        rintro e w35 ⟨v251, rfl, ho0, hb⟩
        refine ⟨_, rfl, ?_⟩
        replace HO_1 := zA (Kd.V_elder' (by (with_reducible repeat (first | apply Kd.V_alloc | apply Kd.V_drewN | apply Kd.V_drew)); exact HO_1.out) (Kd.R_base ho0) hb)
        replace HO_2 := zA (Kd.V_elder' (by (with_reducible repeat (first | apply Kd.V_alloc | apply Kd.V_drewN | apply Kd.V_drew)); exact HO_2.out) (Kd.R_base ho0) hb)
        have HO252 := Aside0.mk (Kd.R_lower (zn (Kd.R_new' (Kd.R_newM (M := fun k_ => (w.heap.size ≤ k_)) ho0 (below_size zH) (fun k_ h_ => h_)) (Kd.R_lt (zR HO_11.out))) HO249.out) (below_size zH))
        replace HO_11 := z2 HO_11.out ho0 hb
        replace HO249 := z2 HO249.out ho0 hb
        replace BK229 := zb BK229.out hb
        replace BK237 := zb BK237.out hb
        replace HB := zA (below_step zH hb)
        (try clear hb ho0)
        obtain ⟨Ao36, co36, eo36⟩ := Kd.R_slice HO252.out
        (first | subst eo36 | (injection eo36 with f1_ f2_ f3_; have f4_ := f1_.symm; have f5_ := f3_.symm; clear f1_ f2_ f3_; subst f4_; subst f5_))
        obtain ⟨Ao37, co37, eo37⟩ := Kd.R_slice HO249.out
        (first | subst eo37 | (injection eo37 with f1_ f2_ f3_; have f4_ := f1_.symm; have f5_ := f3_.symm; clear f1_ f2_ f3_; subst f4_; subst f5_))
        refine hK.out _ _ ⟨zk BK237.out 0, zk BK237.out 1, zk BK237.out 2⟩ (fun hHeld => ?_)
        clear hK K
        refine nA ?_
        refine pA HT_ 9 (some 58) ?_
        refine oA HT_ 10 none (fun K hK => ?_)
        have hs38 : w35.cell? ⟨gb229, 0, none⟩ = some (.slice none 0 0) := zk BK229.out 0
        have hfs38 := blk_frozen BK229.out 0
        have hns38_1 := NB237_229.out
        have hms38_1 := NB229_237.out
        have hs39 : w35.cell? ⟨gb229, 1, none⟩ = some (.slice none 0 0) := zk BK229.out 1
        have hfs39 := blk_frozen BK229.out 1
        have hns39_1 := NB237_229.out
        have hms39_1 := NB229_237.out
        have hs40 : w35.cell? ⟨gb229, 2, none⟩ = some (.slice none 0 0) := zk BK229.out 2
        have hfs40 := blk_frozen BK229.out 2
        have hns40_1 := NB237_229.out
        have hms40_1 := NB229_237.out
        refine skip_ (w1 := ?_) (by rfl) rfl ?_ ?_
        rotate_left
        ·go_simp
         rfl
        refine hK.out _ _ ⟨((cell_far (p := ⟨gb229, _, none⟩) NB237_229.out _).trans (((cell_far (p := ⟨gb229, _, none⟩) NB237_229.out _).trans (((cell_far (p := ⟨gb229, _, none⟩) NB237_229.out _).trans (hHeld.1)))))), ((cell_far (p := ⟨gb229, _, none⟩) NB237_229.out _).trans (((cell_far (p := ⟨gb229, _, none⟩) NB237_229.out _).trans (((cell_far (p := ⟨gb229, _, none⟩) NB237_229.out _).trans (hHeld.2.1)))))), ((cell_far (p := ⟨gb229, _, none⟩) NB237_229.out _).trans (((cell_far (p := ⟨gb229, _, none⟩) NB237_229.out _).trans (((cell_far (p := ⟨gb229, _, none⟩) NB237_229.out _).trans (hHeld.2.2))))))⟩ (fun hHeld => ?_)
        clear hK K
        refine pA HT_ 11 (some 7) ?_
        refine done_ (done_of HT_.out (by kernel_rfl)) ?_
        try go_wp2
        refine bodyPost_ret (results_ct rfl _ _ gb229 27 #[.slice Ao33 x11_2.length co33, .slice Ao37 t247.length co37, .slice Ao36 t250.length co36] (0, 0) _ rfl (by (repeat refine zL ?_); refine blk_put (cs := #[.slice Ao33 x11_2.length co33, .slice Ao37 t247.length co37, .slice none 0 0]) ?_ 2 _ rfl; (repeat refine zL ?_); refine blk_put (cs := #[.slice Ao33 x11_2.length co33, .slice none 0 0, .slice none 0 0]) ?_ 1 _ rfl; (repeat refine zL ?_); refine blk_put (cs := #[.slice none 0 0, .slice none 0 0, .slice none 0 0]) ?_ 0 _ rfl; (repeat refine zL ?_); exact BK229.out) Try.underlying27 rfl (by kernel_rfl)) rfl ?_
        exact ⟨_, _, _, by first | rfl | (simp [errW_none, errW_some] <;> rfl) | (simp only [← hji7]; first | rfl | (simp [errW_none, errW_some] <;> rfl)) | (simp [*, errW_none, errW_some] <;> rfl), by (with_reducible repeat (first | apply Kd.R_alloc | apply Kd.R_drewN | apply Kd.R_drew)); exact Kd.R_mono (zV gb229 2 (zV gb229 1 (zV gb229 0 (Kd.R_types HO_11.out BK229.out (by decide)) (.slice Ao33 x11_2.length co33)) (.slice Ao37 t247.length co37)) (.slice Ao36 t250.length co36)) (fun _ hk => ⟨hk.1.1.1, ⟨hk.1.1.2, hk.1.2⟩⟩), by (with_reducible repeat (first | apply Kd.R_alloc | apply Kd.R_drewN | apply Kd.R_drew)); exact Kd.R_mono (zV gb229 2 (zV gb229 1 (zV gb229 0 (Kd.R_types HO249.out BK229.out (by decide)) (.slice Ao33 x11_2.length co33)) (.slice Ao37 t247.length co37)) (.slice Ao36 t250.length co36)) (fun _ hk => ⟨hk.1.1.1.1, ⟨hk.1.1.2, hk.1.2⟩⟩), by (with_reducible repeat (first | apply Kd.R_alloc | apply Kd.R_drewN | apply Kd.R_drew)); exact Kd.R_mono (zV gb229 2 (zV gb229 1 (zV gb229 0 (Kd.R_types HO252.out BK229.out (by decide)) (.slice Ao33 x11_2.length co33)) (.slice Ao37 t247.length co37)) (.slice Ao36 t250.length co36)) (fun _ hk => ⟨hk.1.1.1.1, ⟨hk.1.1.2, hk.1.2⟩⟩), zH⟩
 ·replace c5 := Bool.eq_false_iff.mpr c5
  subst c5
  rw [if_neg (show ¬ (false = true) by decide)] at H
  simp only [Option.some.injEq, Prod.mk.injEq] at H
  obtain ⟨rfl, rfl, rfl, rfl⟩ := H
  go_enter Try.func18, Try.ntmps18
  go_wp2_with (first | ((with_reducible refine gate_dst (N := 6) rfl ?_); refine box_event ?hg (N := 6) ?hd (cs := #[.slice none 0 0, .slice none 0 0, .slice none 0 0]) (t := 27) ?hr ?_; (case hd => rfl); (case hg => rfl); (case hr => first | (go_simp; done) | (go_simp; rfl)); intro gb229 hg w41 hbox hb; replace HO1 := zA (Kd.V_below (Kd.V_elderB (by (with_reducible repeat (first | apply Kd.V_alloc | apply Kd.V_drewN | apply Kd.V_drew)); exact HO1.out) gb229 (Nat.le_of_eq hg.symm)) hb); replace HO2 := zA (Kd.V_below (Kd.V_elderB (by (with_reducible repeat (first | apply Kd.V_alloc | apply Kd.V_drewN | apply Kd.V_drew)); exact HO2.out) gb229 (Nat.le_of_eq hg.symm)) hb); have BK229 := zA (hbox); have GW229 := zA ((by rw [hg]; exact (below_size zH) : w.heap.size ≤ gb229)); have GE229 := zA ((by rw [hg]; exact (below_size zH) : w.heap.size ≤ gb229)); replace HB := zA (below_step zH hb); clear hb hbox hg) | ((with_reducible refine gate_dst (N := 17) rfl ?_); refine Kd.N_lit (Kd.slice 3 (Kd.int .i64)) _ 22 ?hg (N' := 17) ?hd (xs := ([l1, l2] : List (List Int))) (inner := [.slice A1 l1.length c1, .slice A2 l2.length c2]) (ok := (fun k_ => ((P1_ k_ ∨ P2_ k_) ∨ w.heap.size ≤ k_) ∧ k_ ≠ gb229)) (okp := (fun k_ => ((P1_ k_ ∨ P2_ k_) ∨ w.heap.size ≤ k_) ∧ k_ ≠ gb229)) ?hr ?hp (fun _ hk => hk) ((show ∀ k_, w41.heap.size ≤ k_ → (fun k_ => ((P1_ k_ ∨ P2_ k_) ∨ w.heap.size ≤ k_) ∧ k_ ≠ gb229) k_ from fun k_ hk => ⟨(.inr (Nat.le_trans (below_size zH) hk)), Kd.freshB (g := gb229) (o := .cells #[.slice none 0 0, .slice none 0 0, .slice none 0 0] 27 (0, 0)) (zB BK229.out) k_ hk⟩) _ (Nat.le_refl _)) (Below.refl _ _) (Nat.le_refl _) (by simp) ?_; (case hd => rfl); (case hg => rfl); (case hr => first | (go_simp; done) | (go_simp; rfl)); (case hp => exact (Reps.one (show Kd.FK (Kd.slice 3 (Kd.int .i64)) _ _ l1 [.slice A1 l1.length c1] from (Kd.FK_slice_mk (Kd.V_reads' (Kd.V_mono (ok' := (fun k_ => ((P1_ k_ ∨ P2_ k_) ∨ w.heap.size ≤ k_) ∧ k_ ≠ gb229)) (HO1.out) (fun k_ hk => ⟨hk.1, hk.2⟩))).2.1 (Kd.V_F (Kd.V_mono (ok' := (fun k_ => ((P1_ k_ ∨ P2_ k_) ∨ w.heap.size ≤ k_) ∧ k_ ≠ gb229)) (HO1.out) (fun k_ hk => ⟨hk.1, hk.2⟩))))) (Reps.one (show Kd.FK (Kd.slice 3 (Kd.int .i64)) _ _ l2 [.slice A2 l2.length c2] from (Kd.FK_slice_mk (Kd.V_reads' (Kd.V_mono (ok' := (fun k_ => ((P1_ k_ ∨ P2_ k_) ∨ w.heap.size ≤ k_) ∧ k_ ≠ gb229)) (HO2.out) (fun k_ hk => ⟨hk.1, hk.2⟩))).2.1 (Kd.V_F (Kd.V_mono (ok' := (fun k_ => ((P1_ k_ ∨ P2_ k_) ∨ w.heap.size ≤ k_) ∧ k_ ≠ gb229)) (HO2.out) (fun k_ hk => ⟨hk.1, hk.2⟩))))) (Reps.none _ _)))); intro v231 w42 ho43 hb hg_ hnew_; clear hg_ hnew_; (first | rw [← Ny230.out] at ho43 | (simp only [Int.reduceToNat] at ho43; rw [← Ny230.out] at ho43)); replace HO1 := zA (Kd.V_elder' (by (with_reducible repeat (first | apply Kd.V_alloc | apply Kd.V_drewN | apply Kd.V_drew)); exact HO1.out) (Kd.N_base ho43) hb); replace HO2 := zA (Kd.V_elder' (by (with_reducible repeat (first | apply Kd.V_alloc | apply Kd.V_drewN | apply Kd.V_drew)); exact HO2.out) (Kd.N_base ho43) hb); have HO232 := zA (Kd.N_lower ho43 (below_size zH)); replace BK229 := zb BK229.out hb; replace HB := zA (below_step zH hb); clear hb ho43; obtain ⟨Ao44, co44, eo44⟩ := Kd.N_slice HO232.out; subst eo44) | ((with_reducible refine gate_callee (f := 71) rfl ?_); refine goesL_ (some 18) rfl rfl Try.func71 (by kernel_rfl) rfl #[.int .i64 a0, .slice Ao44 y230.length co44] rfl zM ?_; (with_reducible refine (impl_polyField.calls k a0 _ _ y230 t233 t234 t235 false _ ?side1 ?side2 A4.out).mono ?_); (case side1 => exact zC ((Kd.N_reads' HO232.out).2.2)); (case side2 => exact (Kd.N_reads' HO232.out).2.1); rintro e w45 ⟨rfl, hb⟩; refine ⟨_, rfl, ?_⟩; replace HO1 := zA (Kd.V_below (by (with_reducible repeat (first | apply Kd.V_alloc | apply Kd.V_drewN | apply Kd.V_drew)); exact HO1.out) hb); replace HO2 := zA (Kd.V_below (by (with_reducible repeat (first | apply Kd.V_alloc | apply Kd.V_drewN | apply Kd.V_drew)); exact HO2.out) hb); replace HO232 := zA (Kd.N_below (by (with_reducible repeat (first | apply Kd.N_alloc | apply Kd.N_drewN | apply Kd.N_drew)); exact HO232.out) hb); replace BK229 := zb BK229.out hb; replace HB := zA (below_step zH hb); (try clear hb)) | ((with_reducible refine gate_dst (N := 8) rfl ?_); refine box_event ?hg (N := 8) ?hd (cs := #[.int .i64 0, .int .i64 0, .int .i64 0]) (t := 88) ?hr ?_; (case hd => rfl); (case hg => rfl); (case hr => first | (go_simp; done) | (go_simp; rfl)); intro gb237 hg w46 hbox hb; replace HO1 := zA (Kd.V_below (Kd.V_elderB (by (with_reducible repeat (first | apply Kd.V_alloc | apply Kd.V_drewN | apply Kd.V_drew)); exact HO1.out) gb237 (Nat.le_of_eq hg.symm)) hb); replace HO2 := zA (Kd.V_below (Kd.V_elderB (by (with_reducible repeat (first | apply Kd.V_alloc | apply Kd.V_drewN | apply Kd.V_drew)); exact HO2.out) gb237 (Nat.le_of_eq hg.symm)) hb); replace HO232 := zA (Kd.N_below (Kd.N_elderB (by (with_reducible repeat (first | apply Kd.N_alloc | apply Kd.N_drewN | apply Kd.N_drew)); exact HO232.out) gb237 (Nat.le_of_eq hg.symm)) hb); have BK237 := zA (hbox); have GW237 := zA ((by rw [hg]; exact (below_size zH) : w.heap.size ≤ gb237)); have GE237 := zA ((by rw [hg]; exact (below_size zH) : w.heap.size ≤ gb237)); replace HB := zA (below_step zH hb); have NB229_237 := Aside0.mk ((by rw [hg]; exact Nat.ne_of_lt (blk_lt (g := gb229) (o := .cells #[.slice none 0 0, .slice none 0 0, .slice none 0 0] 27 (0, 0)) (zB BK229.out)) : gb229 ≠ gb237)); have NB237_229 := Aside0.mk ((by rw [hg]; exact Nat.ne_of_gt (blk_lt (g := gb229) (o := .cells #[.slice none 0 0, .slice none 0 0, .slice none 0 0] 27 (0, 0)) (zB BK229.out)) : gb237 ≠ gb229)); replace BK229 := zb BK229.out hb; clear hb hbox hg; have hnb47 := NB237_229.out; have hnc47 := NB229_237.out; obtain ⟨hcz48_0, hcz48_1, hcz48_2⟩ := zc3 BK237.out; obtain ⟨hfz48_0, hfz48_1, hfz48_2, _, _⟩ := zf BK237.out; obtain ⟨hcz49_0, hcz49_1, hcz49_2⟩ := zc3 BK229.out; obtain ⟨hfz49_0, hfz49_1, hfz49_2, _, _⟩ := zf BK229.out))
  refine bodyPost_ret (results_ct rfl _ _ gb229 27 #[.slice none 0 0, .slice none 0 0, .slice none 0 0] (0, 0) _ rfl (by (repeat refine zL ?_); refine blk_put (cs := #[.slice none 0 0, .slice none 0 0, .slice none 0 0]) ?_ 2 _ rfl; (repeat refine zL ?_); refine blk_put (cs := #[.slice none 0 0, .slice none 0 0, .slice none 0 0]) ?_ 1 _ rfl; (repeat refine zL ?_); refine blk_put (cs := #[.slice none 0 0, .slice none 0 0, .slice none 0 0]) ?_ 0 _ rfl; (repeat refine zL ?_); refine blk_far ?_ NB229_237.out _; (repeat refine zL ?_); refine blk_far ?_ NB229_237.out _; (repeat refine zL ?_); refine blk_far ?_ NB229_237.out _; (repeat refine zL ?_); exact BK229.out) Try.underlying27 rfl (by kernel_rfl)) rfl ?_
  exact ⟨_, _, _, zE, zN, zN, zN, zH⟩

end Go.Proofs.Ytabicblkdgpogaa.QFnCertTrue
