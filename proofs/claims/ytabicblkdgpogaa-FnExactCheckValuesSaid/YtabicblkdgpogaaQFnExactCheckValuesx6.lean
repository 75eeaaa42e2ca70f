-- Made by this session's program (wip/tools/myprint.py) out of the translation; Lean checks it.
import Derived.Test.YtabicblkdgpogaaQFnExactCheckValuesx0
import Derived.Test.YtabicblkdgpogaaQFnExactCheckValuesx5
namespace Go.Proofs.Ytabicblkdgpogaa.QFnExactCheckValues
open Go.RowKit Go.Proofs.YtabicblkdgpogaaW.PrintWords Go.Proofs.YtabicblkdgpogaaW.PrintLast Go.Proofs.YtabicblkdgpogaaW.PrintMore
attribute [local go_sem] max2_int min2_int max_two min_two max_three min_three max_four min_four   -- for this text's walks alone
set_option linter.unusedVariables false
set_option linter.unusedSimpArgs false

/-! ### impl_pointField: function 70 -/
mutual
def impl_pointField.j0 : Nat → List Int → Bool → Int → Int → Int → Option (Int × Int × Int × Bool)
 | 0, _, _, _, _, _ => none
 | k + 1, x1, x34, x249000, x249001, x249002 => if x34 = true then (some (0, 0, 0, false)) else (impl_pointField.l0 k x1 x1 (x1.length : Int) 0 x249000 x249001 x249002)
def impl_pointField.l0 : Nat → List Int → List Int → Int → Int → Int → Int → Int → Option (Int × Int × Int × Bool)
 | 0, _, _, _, _, _, _, _ => none
 | k + 1, x1, x36, x37, x38, x249000, x249001, x249002 => if x38 < x37 then (if 0 ≤ x38 then (if x38 < (x36.length : Int) then (if x38 ≤ (x1.length : Int) then (impl_pointField.l1 k x1 (rd x36 x38) x36 x37 x38 (x1.take (x38 : Int).toNat) ((x1.take (x38 : Int).toNat).length : Int) 0 x249000 x249001 x249002) else (none)) else (none)) else (none)) else (some (x249000, x249001, x249002, true))
def impl_pointField.l1 : Nat → List Int → Int → List Int → Int → Int → List Int → Int → Int → Int → Int → Int → Option (Int × Int × Int × Bool)
 | 0, _, _, _, _, _, _, _, _, _, _, _ => none
 | k + 1, x1, x9, x36, x37, x38, x45, x46, x47, x249000, x249001, x249002 => if x47 < x46 then (if 0 ≤ x47 then (if x47 < (x45.length : Int) then (if x9 = (rd x45 x47) then (some (0, 0, 0, false)) else (impl_pointField.l1 k x1 x9 x36 x37 x38 x45 x46 (wrap64 (x47 + 1)) x249000 x249001 x249002)) else (none)) else (none)) else (impl_pointField.l0 k x1 x36 x37 (wrap64 (x38 + 1)) x249000 x249001 x249002)
end
def impl_pointField.f (k : Nat) (a0 : Int) (l1 : List Int) : Option (Int × Int × Int × Bool) := (impl_fieldOf.f a0).bind fun bt244 => (if bt244.2.2.2 = true then (if (l1.length : Int) < 1 then (impl_pointField.j0 k l1 true bt244.1 bt244.2.1 bt244.2.2.1) else (if (l1.length : Int) > 40 then (impl_pointField.j0 k l1 true bt244.1 bt244.2.1 bt244.2.2.1) else ((impl_field_areElements.f k bt244.1 bt244.2.1 bt244.2.2.1 l1).bind fun t249 => (impl_pointField.j0 k l1 (!t249) bt244.1 bt244.2.1 bt244.2.2.1)))) else (impl_pointField.j0 k l1 true bt244.1 bt244.2.1 bt244.2.2.1))
theorem impl_pointField.mono_l : ∀ k, (∀ y0 y1 y2 y3 y4, LeO (impl_pointField.j0 k y0 y1 y2 y3 y4) (impl_pointField.j0 (k + 1) y0 y1 y2 y3 y4)) ∧ (∀ y0 y1 y2 y3 y4 y5 y6, LeO (impl_pointField.l0 k y0 y1 y2 y3 y4 y5 y6) (impl_pointField.l0 (k + 1) y0 y1 y2 y3 y4 y5 y6)) ∧ (∀ y0 y1 y2 y3 y4 y5 y6 y7 y8 y9 y10, LeO (impl_pointField.l1 k y0 y1 y2 y3 y4 y5 y6 y7 y8 y9 y10) (impl_pointField.l1 (k + 1) y0 y1 y2 y3 y4 y5 y6 y7 y8 y9 y10))
 | 0 => ⟨fun _ _ _ _ _ r h => by simp [impl_pointField.j0] at h, fun _ _ _ _ _ _ _ r h => by simp [impl_pointField.l0] at h, fun _ _ _ _ _ _ _ _ _ _ _ r h => by simp [impl_pointField.l1] at h⟩
 | k + 1 => by
  obtain ⟨ih0, ih1, ih2⟩ := impl_pointField.mono_l k
  refine ⟨?_, ?_, ?_⟩
  ·intro y0 y1 y2 y3 y4
   unfold impl_pointField.j0
   repeat' first
   | (with_reducible exact ih0 _ _ _ _ _)
   | (with_reducible exact ih1 _ _ _ _ _ _ _)
   | (with_reducible exact ih2 _ _ _ _ _ _ _ _ _ _ _)
   | (with_reducible exact impl_field_areElements.mono _ _ _ _ _)
   | (with_reducible exact LeO.refl _)
   | (with_reducible exact LeO.none _)
   | (with_reducible refine LeO.ite ?_ ?_)
   | (with_reducible refine LeO.bind ?_ (fun _ => ?_))
   | exact ih0 _ _ _ _ _
   | exact ih1 _ _ _ _ _ _ _
   | exact ih2 _ _ _ _ _ _ _ _ _ _ _
   | exact impl_field_areElements.mono _ _ _ _ _
   | exact LeO.none _
   | refine LeO.ite ?_ ?_
   | refine LeO.bind ?_ (fun _ => ?_)
  ·intro y0 y1 y2 y3 y4 y5 y6
   unfold impl_pointField.l0
   repeat' first
   | (with_reducible exact ih0 _ _ _ _ _)
   | (with_reducible exact ih1 _ _ _ _ _ _ _)
   | (with_reducible exact ih2 _ _ _ _ _ _ _ _ _ _ _)
   | (with_reducible exact impl_field_areElements.mono _ _ _ _ _)
   | (with_reducible exact LeO.refl _)
   | (with_reducible exact LeO.none _)
   | (with_reducible refine LeO.ite ?_ ?_)
   | (with_reducible refine LeO.bind ?_ (fun _ => ?_))
   | exact ih0 _ _ _ _ _
   | exact ih1 _ _ _ _ _ _ _
   | exact ih2 _ _ _ _ _ _ _ _ _ _ _
   | exact impl_field_areElements.mono _ _ _ _ _
   | exact LeO.none _
   | refine LeO.ite ?_ ?_
   | refine LeO.bind ?_ (fun _ => ?_)
  ·intro y0 y1 y2 y3 y4 y5 y6 y7 y8 y9 y10
   unfold impl_pointField.l1
   repeat' first
   | (with_reducible exact ih0 _ _ _ _ _)
   | (with_reducible exact ih1 _ _ _ _ _ _ _)
   | (with_reducible exact ih2 _ _ _ _ _ _ _ _ _ _ _)
   | (with_reducible exact impl_field_areElements.mono _ _ _ _ _)
   | (with_reducible exact LeO.refl _)
   | (with_reducible exact LeO.none _)
   | (with_reducible refine LeO.ite ?_ ?_)
   | (with_reducible refine LeO.bind ?_ (fun _ => ?_))
   | exact ih0 _ _ _ _ _
   | exact ih1 _ _ _ _ _ _ _
   | exact ih2 _ _ _ _ _ _ _ _ _ _ _
   | exact impl_field_areElements.mono _ _ _ _ _
   | exact LeO.none _
   | refine LeO.ite ?_ ?_
   | refine LeO.bind ?_ (fun _ => ?_)
theorem impl_pointField.mono : ∀ a0 a1 k, LeO (impl_pointField.f k a0 a1) (impl_pointField.f (k + 1) a0 a1) := by
 intro a0 a1 k
 obtain ⟨ih0, ih1, ih2⟩ := impl_pointField.mono_l k
 unfold impl_pointField.f
 repeat' first
   | (with_reducible exact ih0 _ _ _ _ _)
   | (with_reducible exact ih1 _ _ _ _ _ _ _)
   | (with_reducible exact ih2 _ _ _ _ _ _ _ _ _ _ _)
   | (with_reducible exact impl_field_areElements.mono _ _ _ _ _)
   | (with_reducible exact LeO.refl _)
   | (with_reducible exact LeO.none _)
   | (with_reducible refine LeO.ite ?_ ?_)
   | (with_reducible refine LeO.bind ?_ (fun _ => ?_))
   | exact ih0 _ _ _ _ _
   | exact ih1 _ _ _ _ _ _ _
   | exact ih2 _ _ _ _ _ _ _ _ _ _ _
   | exact impl_field_areElements.mono _ _ _ _ _
   | exact LeO.none _
   | refine LeO.ite ?_ ?_
   | refine LeO.bind ?_ (fun _ => ?_)
set_option maxHeartbeats 8000000 in
set_option maxRecDepth 100000 in
theorem impl_pointField.calls (k : Nat) (a0 : Int) (A1 : Option Addr) (c1 : Nat) (l1 : List Int) (r1 : Int) (r2 : Int) (r3 : Int) (r4 : Bool) (w : World) (hr1 : Kd.C (Kd.int .i64) w A1 l1.length l1) (hc1 : l1.length ≤ c1) (h : impl_pointField.f k a0 l1 = some (r1, r2, r3, r4)) :
  Calls Try.prog 70 #[.int .i64 a0, .slice A1 l1.length c1] w fun e w' => e = .returned (.tuple #[.agg #[.int .i64 r1, .int .i64 r2, .int .i64 r3], .bool r4]) ∧ Below w.heap.size w w' := by
 have hu88 := Try.underlying88
 have HR1 := Aside0.mk hr1
 have HC1 := Aside0.mk hc1
 clear hr1 hc1
 have HB := Aside0.mk (Below.refl w.heap.size w)
 have H : ((impl_fieldOf.f a0).bind fun bt244 => (if bt244.2.2.2 = true then (if (l1.length : Int) < 1 then (impl_pointField.j0 k l1 true bt244.1 bt244.2.1 bt244.2.2.1) else (if (l1.length : Int) > 40 then (impl_pointField.j0 k l1 true bt244.1 bt244.2.1 bt244.2.2.1) else ((impl_field_areElements.f k bt244.1 bt244.2.1 bt244.2.2.1 l1).bind fun t249 => (impl_pointField.j0 k l1 (!t249) bt244.1 bt244.2.1 bt244.2.2.1)))) else (impl_pointField.j0 k l1 true bt244.1 bt244.2.1 bt244.2.2.1))) = some (r1, r2, r3, r4) := h
 clear h
 replace H := Option.bind_eq_some_iff.mp H
 obtain ⟨⟨t244, t245, t246, t247⟩, A30, H⟩ := H
 replace H : (if t247 = true then (if (l1.length : Int) < 1 then (impl_pointField.j0 k l1 true t244 t245 t246) else (if (l1.length : Int) > 40 then (impl_pointField.j0 k l1 true t244 t245 t246) else ((impl_field_areElements.f k t244 t245 t246 l1).bind fun t249 => (impl_pointField.j0 k l1 (!t249) t244 t245 t246)))) else (impl_pointField.j0 k l1 true t244 t245 t246)) = some (r1, r2, r3, r4) := H
 have A3 := Aside0.mk A30
 clear A30
 have HC4 := Aside0.mk H
 clear H
 go_enter Try.func70, Try.ntmps70
 go_upto_region 2 with (first | ((with_reducible refine gate_dst (N := 4) rfl ?_); (try (refine gate_guard (by rfl) ?_; dsimp only)); refine box_event ?hg (N := 4) ?hd (cs := #[.int .i64 0, .int .i64 0, .int .i64 0]) (t := 88) ?hr ?_; (case hd => rfl); (case hg => rfl); (case hr => first | (go_simp; done) | (go_simp; rfl)); intro gb243 hg w5 hbox hb; have n0_ := Aside0.mk (below_step zH hb); have n1_ := Aside0.mk (hbox); have n2_ := Aside0.mk ((by rw [hg]; exact (below_size zH) : w.heap.size ≤ gb243)); have n3_ := Aside0.mk ((by rw [hg]; exact (below_size zH) : w.heap.size ≤ gb243)); clear HB; have HB := n0_; have BK243 := n1_; have GW243 := n2_; have GE243 := n3_; clear n0_ n1_ n2_ n3_; clear hb hbox hg) | ((with_reducible refine gate_callee (f := 122) rfl ?_); refine goesL_ (some 14) rfl rfl Try.func122 (by kernel_rfl) rfl #[.int .i64 a0] rfl zM ?_; (with_reducible refine (impl_fieldOf.calls a0 t244 t245 t246 t247 _ A3.out).mono ?_); rintro e w6 ⟨rfl, hb⟩; refine ⟨_, rfl, ?_⟩; have n0_ := Aside0.mk (blk_below (g := gb243) (o := .cells #[.int .i64 0, .int .i64 0, .int .i64 0] 88 (0, 0)) (zB BK243.out) hb); have n1_ := Aside0.mk (below_step zH hb); clear BK243; clear HB; have BK243 := n0_; have HB := n1_; clear n0_ n1_; (try clear hb); (try clear hb2); (try clear hk); (try clear hi)) | ((with_reducible refine gate_dst (N := 6) rfl ?_); (try (refine gate_guard (by rfl) ?_; dsimp only)); refine box_event ?hg (N := 6) ?hd (cs := #[.int .i64 0, .int .i64 0, .int .i64 0]) (t := 88) ?hr ?_; (case hd => rfl); (case hg => rfl); (case hr => first | (go_simp; done) | (go_simp; rfl)); intro gb248 hg w7 hbox hb; have n0_ := Aside0.mk (blk_below (g := gb243) (o := .cells #[.int .i64 0, .int .i64 0, .int .i64 0] 88 (0, 0)) (zB BK243.out) hb); have n1_ := Aside0.mk (below_step zH hb); have n2_ := Aside0.mk (hbox); have n3_ := Aside0.mk ((by rw [hg]; exact (below_size zH) : w.heap.size ≤ gb248)); have n4_ := Aside0.mk ((by rw [hg]; exact (below_size zH) : w.heap.size ≤ gb248)); have n5_ := Aside0.mk ((by rw [hg]; exact Nat.ne_of_lt (blk_lt (g := gb243) (o := .cells #[.int .i64 0, .int .i64 0, .int .i64 0] 88 (0, 0)) (zB BK243.out)) : gb243 ≠ gb248)); have n6_ := Aside0.mk ((by rw [hg]; exact Nat.ne_of_gt (blk_lt (g := gb243) (o := .cells #[.int .i64 0, .int .i64 0, .int .i64 0] 88 (0, 0)) (zB BK243.out)) : gb248 ≠ gb243)); clear BK243; clear HB; have BK243 := n0_; have HB := n1_; have BK248 := n2_; have GW248 := n3_; have GE248 := n4_; have NB243_248 := n5_; have NB248_243 := n6_; clear n0_ n1_ n2_ n3_ n4_ n5_ n6_; clear hb hbox hg; have hnb8 := NB248_243.out; have hnc8 := NB243_248.out; obtain ⟨hcz9_0, hcz9_1, hcz9_2⟩ := zc3 BK248.out; obtain ⟨hfz9_0, hfz9_1, hfz9_2, _, _⟩ := zf BK248.out))
 (try simp only [Act.put, List.setIfInBounds_toArray, List.set_cons_zero, List.set_cons_succ])
 go_cut [34] (fun v34 wc => ∃ (kq : Nat) (x34_3 : Bool), v34 = .bool x34_3 ∧ Aside0 (impl_pointField.j0 kq l1 x34_3 t244 t245 t246 = some (r1, r2, r3, r4)) ∧ Aside0 (kq ≤ k) ∧ Aside0 (wc.heap[gb243]? = some (.cells #[.int .i64 0, .int .i64 0, .int .i64 0] 88 (0, 0))) ∧ Aside0 (wc.heap[gb248]? = some (.cells #[.int .i64 t244, .int .i64 t245, .int .i64 t246] 88 (0, 0))) ∧ Aside0 (Below w.heap.size w wc))
 case first =>
  have H := HC4.out
  clear HC4
  by_cases c10 : t247 = true
  ·subst c10
   replace H : (if (l1.length : Int) < 1 then (impl_pointField.j0 k l1 true t244 t245 t246) else (if (l1.length : Int) > 40 then (impl_pointField.j0 k l1 true t244 t245 t246) else ((impl_field_areElements.f k t244 t245 t246 l1).bind fun t249 => (impl_pointField.j0 k l1 (!t249) t244 t245 t246)))) = some (r1, r2, r3, r4) := by rw [if_pos rfl] at H; exact H
   by_cases c11 : (l1.length : Int) < 1
   ·rw [if_pos c11] at H
    have c11b0 : decide ((l1.length : Int) < 1) = true := decide_eq_true c11
    have c11b1 : decide (l1.length < 1) = true := decide_eq_true (by omega)
    clear c11
    (first | rw [c11b0] | (simp only [i64_w, i32_w]; rw [c11b0]) | skip)
    have H' := Aside0.mk H
    clear H
    go_wp2
    go_meet
    case rel => exact ⟨_, (true), zF, H', ⟨by first | omega | exact Nat.le_refl _⟩, ⟨by (repeat refine zL ?_); refine blk_far ?_ NB243_248.out _; (repeat refine zL ?_); refine blk_far ?_ NB243_248.out _; (repeat refine zL ?_); refine blk_far ?_ NB243_248.out _; (repeat refine zL ?_); exact BK243.out⟩, ⟨by (repeat refine zL ?_); refine blk_put (cs := #[.int .i64 t244, .int .i64 t245, .int .i64 0]) ?_ 2 _ rfl; (repeat refine zL ?_); refine blk_put (cs := #[.int .i64 t244, .int .i64 0, .int .i64 0]) ?_ 1 _ rfl; (repeat refine zL ?_); refine blk_put (cs := #[.int .i64 0, .int .i64 0, .int .i64 0]) ?_ 0 _ rfl; (repeat refine zL ?_); exact BK248.out⟩, ⟨zH⟩⟩
   ·rw [if_neg c11] at H
    have c11b0 : decide ((l1.length : Int) < 1) = false := decide_eq_false c11
    have c11b1 : decide (l1.length < 1) = false := decide_eq_false (by omega)
    clear c11
    (first | rw [c11b0] | (simp only [i64_w, i32_w]; rw [c11b0]) | skip)
    by_cases c12 : (l1.length : Int) > 40
    ·rw [if_pos c12] at H
     have c12b0 : decide (40 < (l1.length : Int)) = true := decide_eq_true c12
     have c12b1 : decide (40 < l1.length) = true := decide_eq_true (by omega)
     clear c12
     have H' := Aside0.mk H
     clear H
     go_wp2
     go_meet
     case rel => exact ⟨_, (true), zF, H', ⟨by first | omega | exact Nat.le_refl _⟩, ⟨by (repeat refine zL ?_); refine blk_far ?_ NB243_248.out _; (repeat refine zL ?_); refine blk_far ?_ NB243_248.out _; (repeat refine zL ?_); refine blk_far ?_ NB243_248.out _; (repeat refine zL ?_); exact BK243.out⟩, ⟨by (repeat refine zL ?_); refine blk_put (cs := #[.int .i64 t244, .int .i64 t245, .int .i64 0]) ?_ 2 _ rfl; (repeat refine zL ?_); refine blk_put (cs := #[.int .i64 t244, .int .i64 0, .int .i64 0]) ?_ 1 _ rfl; (repeat refine zL ?_); refine blk_put (cs := #[.int .i64 0, .int .i64 0, .int .i64 0]) ?_ 0 _ rfl; (repeat refine zL ?_); exact BK248.out⟩, ⟨zH⟩⟩
    ·rw [if_neg c12] at H
     have c12b0 : decide (40 < (l1.length : Int)) = false := decide_eq_false c12
     have c12b1 : decide (40 < l1.length) = false := decide_eq_false (by omega)
     clear c12
     replace H := Option.bind_eq_some_iff.mp H
     obtain ⟨t249, A130, H⟩ := H
     replace H : (impl_pointField.j0 k l1 (!t249) t244 t245 t246) = some (r1, r2, r3, r4) := H
     have A13 := Aside0.mk A130
     clear A130
     have H' := Aside0.mk H
     clear H
     have hnb14 := NB248_243.out
     have hnc14 := NB243_248.out
     obtain ⟨hcz15_0, hcz15_1, hcz15_2⟩ := zc3 BK248.out
     obtain ⟨hfz15_0, hfz15_1, hfz15_2, _, _⟩ := zf BK248.out
     go_wp2_with (first | (go_at_call 123; (with_reducible refine (impl_field_areElements.calls k t244 t245 t246 _ _ l1 t249 _ ?side1 ?side2 A13.out).mono ?_); (case side1 => exact Kd.C_below HR1.out zH); (case side2 => exact HC1.out); rintro e w16 ⟨rfl, hb⟩; have n0_ := Aside0.mk (blk_below (g := gb243) (o := .cells #[.int .i64 0, .int .i64 0, .int .i64 0] 88 (0, 0)) (by (repeat refine zL ?_); refine blk_far ?_ NB243_248.out _; (repeat refine zL ?_); refine blk_far ?_ NB243_248.out _; (repeat refine zL ?_); refine blk_far ?_ NB243_248.out _; (repeat refine zL ?_); exact BK243.out) hb); have n1_ := Aside0.mk (blk_below (g := gb248) (o := .cells #[.int .i64 t244, .int .i64 t245, .int .i64 t246] 88 (0, 0)) (by (repeat refine zL ?_); refine blk_put (cs := #[.int .i64 t244, .int .i64 t245, .int .i64 0]) ?_ 2 _ rfl; (repeat refine zL ?_); refine blk_put (cs := #[.int .i64 t244, .int .i64 0, .int .i64 0]) ?_ 1 _ rfl; (repeat refine zL ?_); refine blk_put (cs := #[.int .i64 0, .int .i64 0, .int .i64 0]) ?_ 0 _ rfl; (repeat refine zL ?_); exact BK248.out) hb); have n2_ := Aside0.mk (below_step zH hb); clear BK243; clear BK248; clear HB; have BK243 := n0_; have BK248 := n1_; have HB := n2_; clear n0_ n1_ n2_; (try clear hb); (try clear hb2); (try clear hk); (try clear hi)))
     go_meet
     case rel => exact ⟨_, (!t249), zF, H', ⟨by first | omega | exact Nat.le_refl _⟩, ⟨zB BK243.out⟩, ⟨zB BK248.out⟩, ⟨zH⟩⟩
  ·replace c10 := Bool.eq_false_iff.mpr c10
   subst c10
   replace H : (impl_pointField.j0 k l1 true t244 t245 t246) = some (r1, r2, r3, r4) := by rw [if_neg (show ¬ (false = true) by decide)] at H; exact H
   have H' := Aside0.mk H
   clear H
   go_wp2
   go_meet
   case rel => exact ⟨_, (true), zF, H', ⟨by first | omega | exact Nat.le_refl _⟩, ⟨by (repeat refine zL ?_); refine blk_far ?_ NB243_248.out _; (repeat refine zL ?_); refine blk_far ?_ NB243_248.out _; (repeat refine zL ?_); refine blk_far ?_ NB243_248.out _; (repeat refine zL ?_); exact BK243.out⟩, ⟨by (repeat refine zL ?_); refine blk_put (cs := #[.int .i64 t244, .int .i64 t245, .int .i64 0]) ?_ 2 _ rfl; (repeat refine zL ?_); refine blk_put (cs := #[.int .i64 t244, .int .i64 0, .int .i64 0]) ?_ 1 _ rfl; (repeat refine zL ?_); refine blk_put (cs := #[.int .i64 0, .int .i64 0, .int .i64 0]) ?_ 0 _ rfl; (repeat refine zL ?_); exact BK248.out⟩, ⟨zH⟩⟩
 case rest =>
  clear HC4
  (try clear c1);(try clear p2);(try clear c7);(try clear c8);(try clear c10);(try clear c11);(try clear c11b0);(try clear c11b1);(try clear c12);(try clear c12b0);(try clear c12b1);(try clear c14);(try clear hcz15_0);(try clear hcz15_1);(try clear hcz15_2);(try clear hcz9_0);(try clear hcz9_1);(try clear hcz9_2);(try clear hfz15_0);(try clear hfz15_1);(try clear hfz15_2);(try clear hfz9_0);(try clear hfz9_1);(try clear hfz9_2)
  obtain ⟨kq, x34_3, rfl, HA, HJ3, BK243, BK248, HB⟩ := hcut
  cases kq with
  | zero => exact absurd HA.out (by simp [impl_pointField.j0])
  | succ kj3 =>
   have H := HA.out
   clear HA
   simp only [impl_pointField.j0] at H
   by_cases c17 : x34_3 = true
   ·subst c17
    replace H : (some (0, 0, 0, false)) = some (r1, r2, r3, r4) := by rw [if_pos rfl] at H; exact H
    simp only [Option.some.injEq, Prod.mk.injEq] at H
    obtain ⟨rfl, rfl, rfl, rfl⟩ := H
    have hnb18 := NB243_248.out
    have hnc18 := NB248_243.out
    obtain ⟨hcz19_0, hcz19_1, hcz19_2⟩ := zc3 BK243.out
    obtain ⟨hfz19_0, hfz19_1, hfz19_2, _, _⟩ := zf BK243.out
    go_wp2
    refine bodyPost_ret (results_ct rfl _ _ gb243 88 #[.int .i64 0, .int .i64 0, .int .i64 0] (0, 0) _ rfl (by (repeat refine zL ?_); refine blk_put (cs := #[.int .i64 0, .int .i64 0, .int .i64 0]) ?_ 2 _ rfl; (repeat refine zL ?_); refine blk_put (cs := #[.int .i64 0, .int .i64 0, .int .i64 0]) ?_ 1 _ rfl; (repeat refine zL ?_); refine blk_put (cs := #[.int .i64 0, .int .i64 0, .int .i64 0]) ?_ 0 _ rfl; (repeat refine zL ?_); exact BK243.out) Try.underlying88 rfl (by kernel_rfl)) rfl ?_
    exact ⟨zE, zH⟩
   ·replace c17 := Bool.eq_false_iff.mpr c17
    subst c17
    replace H : (impl_pointField.l0 kj3 l1 l1 (l1.length : Int) 0 t244 t245 t246) = some (r1, r2, r3, r4) := by rw [if_neg (show ¬ (false = true) by decide)] at H; exact H
    have H' := Aside0.mk H
    clear H
    go_wp2
    go_loopg [38] kj3 (fun kq v38 w' => ∃ (x38_2 : Int) (x244000_2 : Int) (x244001_2 : Int) (x244002_2 : Int), v38 = .int .i64 x38_2 ∧ Aside0 (impl_pointField.l0 kq l1 l1 (l1.length : Int) x38_2 t244 t245 t246 = some (r1, r2, r3, r4)) ∧ Aside0 (kq ≤ kj3) ∧ Aside0 (w'.heap[gb243]? = some (.cells #[.int .i64 x244000_2, .int .i64 x244001_2, .int .i64 x244002_2] 88 (0, 0))) ∧ Aside0 (w'.heap[gb248]? = some (.cells #[.int .i64 t244, .int .i64 t245, .int .i64 t246] 88 (0, 0))) ∧ Aside0 (Below w.heap.size w w'))
    case atStart => exact ⟨(0), (0), (0), (0), zF, H', ⟨Nat.le_refl _⟩, ⟨zB BK243.out⟩, ⟨zB BK248.out⟩, ⟨zH⟩⟩
    case round =>
     clear H'
     (try clear c1);(try clear p2);(try clear c7);(try clear c8);(try clear c10);(try clear c11);(try clear c11b0);(try clear c11b1);(try clear c12);(try clear c12b0);(try clear c12b1);(try clear c14);(try clear c17);(try clear c18);(try clear hcz15_0);(try clear hcz15_1);(try clear hcz15_2);(try clear hcz19_0);(try clear hcz19_1);(try clear hcz19_2);(try clear hcz9_0);(try clear hcz9_1);(try clear hcz9_2);(try clear hfz15_0);(try clear hfz15_1);(try clear hfz15_2)
     (try clear hfz19_0);(try clear hfz19_1);(try clear hfz19_2);(try clear hfz9_0);(try clear hfz9_1);(try clear hfz9_2);(try clear p2)
     obtain ⟨x38_2, x244000_2, x244001_2, x244002_2, rfl, HA, HK2, BK243, BK248, HB⟩ := hrel
     cases gk with
     | zero => exact absurd HA.out (by simp [impl_pointField.l0])
     | succ k2 =>
      have H := HA.out
      clear HA
      simp only [impl_pointField.l0] at H
      by_cases c20 : x38_2 < (l1.length : Int)
      ·rw [if_pos c20] at H
       have c20b0 : decide (x38_2 < (l1.length : Int)) = true := decide_eq_true c20
       clear c20
       by_cases c21 : 0 ≤ x38_2
       ·rw [if_pos c21] at H
        have c21b0 : decide (0 ≤ x38_2) = true := decide_eq_true c21
        clear c21
        by_cases c22 : x38_2 < (l1.length : Int)
        ·rw [if_pos c22] at H
         have c22b0 : decide (x38_2 < (l1.length : Int)) = true := decide_eq_true c22
         clear c22
         have c23b0 := eq_true (zD : 0 ≤ x38_2)
         by_cases c24 : x38_2 ≤ (l1.length : Int)
         ·rw [if_pos c24] at H
          have c24b0 := eq_true c24
          have c24b1 : decide (x38_2 ≤ (l1.length : Int)) = true := decide_eq_true c24
          clear c24
          have H' := Aside0.mk H
          clear H
          have p250 : 0 ≤ (x38_2 : Int) := zD
          have q250 : x38_2 < (l1.length : Int) := zD
          obtain ⟨ad250, e250, hx250_0⟩ := Kd.at_int HR1.out x38_2 p250 q250
          cases e250
          replace hx250_0 := (HB.out.cell (World.block_lt_of_cell? w _ hx250_0)).trans hx250_0
          replace p250 := eq_true p250
          replace q250 := eq_true q250
          obtain ⟨i025, hi025, _, hsz25, _⟩ := info_parts info3
          obtain ⟨hcut25, hA25, hC25⟩ := print_take_of (P := Try.prog) (Value.int .i64) 0 22 3 .i64 Try.underlying22 hi025 hsz25 (some ad250) c1 l1 x38_2 zD zD HC1.out
          have h1_ : x38_2 ≤ (l1.length : Int) := zD
          have htl25 := Aside0.mk (show (x38_2 : Int).toNat = (l1.take (x38_2 : Int).toNat).length from by rw [List.length_take]; omega)
          have hmx25 := Aside0.mk (show ((l1.take (x38_2 : Int).toNat).length : Int) = max x38_2 0 from by rw [List.length_take]; omega)
          clear h1_
          have HR251 := Aside0.mk (Kd.C_of_reads (h1 := fun _ => rfl) (hA25 _ (Kd.reads_of_C HR1.out)))
          have HC251 := Aside0.mk hC25
          clear hA25 hC25 hi025 hsz25
          go_wp2
          go_loopg [47] k2 (fun kq v47 w' => ∃ (x47_3 : Int) (x244000_3 : Int) (x244001_3 : Int) (x244002_3 : Int), v47 = .int .i64 x47_3 ∧ Aside0 (impl_pointField.l1 kq l1 (rd l1 x38_2) l1 (l1.length : Int) x38_2 (l1.take (x38_2 : Int).toNat) ((l1.take (x38_2 : Int).toNat).length : Int) x47_3 t244 t245 t246 = some (r1, r2, r3, r4)) ∧ Aside0 (kq ≤ k2) ∧ Aside0 (w'.heap[gb243]? = some (.cells #[.int .i64 x244000_3, .int .i64 x244001_3, .int .i64 x244002_3] 88 (0, 0))) ∧ Aside0 (w'.heap[gb248]? = some (.cells #[.int .i64 t244, .int .i64 t245, .int .i64 t246] 88 (0, 0))) ∧ Aside0 (Below w.heap.size w w'))
          case atStart => exact ⟨(0), (x244000_2), (x244001_2), (x244002_2), zF, H', ⟨Nat.le_refl _⟩, ⟨zB BK243.out⟩, ⟨zB BK248.out⟩, ⟨zH⟩⟩
          case round =>
           clear H'
           (try clear c1);(try clear c2);(try clear p2);(try clear q2);(try clear hx2);(try clear c7);(try clear c8);(try clear c10);(try clear c11);(try clear c11b0);(try clear c11b1);(try clear c12);(try clear c12b0);(try clear c12b1);(try clear c14);(try clear c17);(try clear c18);(try clear c20);(try clear c20b0);(try clear c21);(try clear c21b0);(try clear c22);(try clear c22b0);(try clear c23);(try clear c23b0);(try clear c24);(try clear c24b0);(try clear c24b1)
           (try clear p25);(try clear q25);(try clear hx25);(try clear hcz15_0);(try clear hcz15_1);(try clear hcz15_2);(try clear hcz19_0);(try clear hcz19_1);(try clear hcz19_2);(try clear hcz9_0);(try clear hcz9_1);(try clear hcz9_2);(try clear hfz15_0);(try clear hfz15_1);(try clear hfz15_2);(try clear hfz19_0);(try clear hfz19_1);(try clear hfz19_2);(try clear hfz9_0);(try clear hfz9_1);(try clear hfz9_2);(try clear hx250_0);(try clear p2);(try clear p250)
           (try clear q250)
           obtain ⟨x47_3, x244000_3, x244001_3, x244002_3, rfl, HA, HK3, BK243, BK248, HB⟩ := hrel
           cases gk with
           | zero => exact absurd HA.out (by simp [impl_pointField.l1])
           | succ k3 =>
            have H := HA.out
            clear HA
            simp only [impl_pointField.l1] at H
            by_cases c26 : x47_3 < ((l1.take (x38_2 : Int).toNat).length : Int)
            ·rw [if_pos c26] at H
             have c26b0 : decide (x47_3 < ((l1.take (x38_2 : Int).toNat).length : Int)) = true := decide_eq_true c26
             have c26b0m : decide (x47_3 < max x38_2 0) = true := by rw [← hmx25.out]; exact c26b0
             clear c26
             by_cases c27 : 0 ≤ x47_3
             ·rw [if_pos c27] at H
              have c27b0 : decide (0 ≤ x47_3) = true := decide_eq_true c27
              clear c27
              by_cases c28 : x47_3 < ((l1.take (x38_2 : Int).toNat).length : Int)
              ·rw [if_pos c28] at H
               have c28b0 : decide (x47_3 < ((l1.take (x38_2 : Int).toNat).length : Int)) = true := decide_eq_true c28
               have c28b0m : decide (x47_3 < max x38_2 0) = true := by rw [← hmx25.out]; exact c28b0
               clear c28
               by_cases c29 : (rd l1 x38_2) = (rd (l1.take (x38_2 : Int).toNat) x47_3)
               ·rw [if_pos c29] at H
                have c29b0 : ((rd l1 x38_2) == (rd (l1.take (x38_2 : Int).toNat) x47_3)) = true := beq_iff_eq.mpr c29
                have c29b1 : ((rd l1 x38_2) != (rd (l1.take (x38_2 : Int).toNat) x47_3)) = false := bne_eq_false_iff_eq.mpr c29
                clear c29
                simp only [Option.some.injEq, Prod.mk.injEq] at H
                obtain ⟨rfl, rfl, rfl, rfl⟩ := H
                have p252 : 0 ≤ (x47_3 : Int) := zD
                have q252 : x47_3 < ((l1.take (x38_2 : Int).toNat).length : Int) := zD
                have q252m : (x47_3 < max x38_2 0) = True := eq_true (by rw [← hmx25.out]; exact q252)
                obtain ⟨ad252, e252, hx252_0⟩ := Kd.at_int HR251.out x47_3 p252 q252
                obtain rfl : ad250 = ad252 := (by injection e252)
                replace hx252_0 := (HB.out.cell (World.block_lt_of_cell? w _ hx252_0)).trans hx252_0
                replace p252 := eq_true p252
                replace q252 := eq_true q252
                have hnb30 := NB243_248.out
                have hnc30 := NB248_243.out
                obtain ⟨hcz31_0, hcz31_1, hcz31_2⟩ := zc3 BK243.out
                obtain ⟨hfz31_0, hfz31_1, hfz31_2, _, _⟩ := zf BK243.out
                go_wp2
                refine bodyPost_ret (results_ct rfl _ _ gb243 88 #[.int .i64 0, .int .i64 0, .int .i64 0] (0, 0) _ rfl (by (repeat refine zL ?_); refine blk_put (cs := #[.int .i64 0, .int .i64 0, .int .i64 x244002_3]) ?_ 2 _ rfl; (repeat refine zL ?_); refine blk_put (cs := #[.int .i64 0, .int .i64 x244001_3, .int .i64 x244002_3]) ?_ 1 _ rfl; (repeat refine zL ?_); refine blk_put (cs := #[.int .i64 x244000_3, .int .i64 x244001_3, .int .i64 x244002_3]) ?_ 0 _ rfl; (repeat refine zL ?_); exact BK243.out) Try.underlying88 rfl (by kernel_rfl)) rfl ?_
                exact ⟨zE, zH⟩
               ·rw [if_neg c29] at H
                have c29b0 : ((rd l1 x38_2) == (rd (l1.take (x38_2 : Int).toNat) x47_3)) = false := beq_eq_false_iff_ne.mpr c29
                have c29b1 : ((rd l1 x38_2) != (rd (l1.take (x38_2 : Int).toNat) x47_3)) = true := bne_iff_ne.mpr c29
                have H' := Aside0.mk H
                clear H
                have p252 : 0 ≤ (x47_3 : Int) := zD
                have q252 : x47_3 < ((l1.take (x38_2 : Int).toNat).length : Int) := zD
                have q252m : (x47_3 < max x38_2 0) = True := eq_true (by rw [← hmx25.out]; exact q252)
                obtain ⟨ad252, e252, hx252_0⟩ := Kd.at_int HR251.out x47_3 p252 q252
                obtain rfl : ad250 = ad252 := (by injection e252)
                replace hx252_0 := (HB.out.cell (World.block_lt_of_cell? w _ hx252_0)).trans hx252_0
                replace p252 := eq_true p252
                replace q252 := eq_true q252
                go_wp2
                go_roundg k3
                case measure => have := HJ3.out; have := HK2.out; have := HK3.out; omega
                case rel => exact ⟨(wrap64 (x47_3 + 1)), (x244000_3), (x244001_3), (x244002_3), zF, H', ⟨by have := HJ3.out; have := HK2.out; have := HK3.out; omega⟩, ⟨zB BK243.out⟩, ⟨zB BK248.out⟩, ⟨zH⟩⟩
              ·rw [if_neg c28] at H
               exact absurd H (by simp)
             ·rw [if_neg c27] at H
              exact absurd H (by simp)
            ·rw [if_neg c26] at H
             have c26b0 : decide (x47_3 < ((l1.take (x38_2 : Int).toNat).length : Int)) = false := decide_eq_false c26
             have c26b0m : decide (x47_3 < max x38_2 0) = false := by rw [← hmx25.out]; exact c26b0
             clear c26
             have H' := Aside0.mk H
             clear H
             go_wp2
             go_roundg k3
             case measure => have := HJ3.out; have := HK2.out; have := HK3.out; omega
             case rel => exact ⟨(wrap64 (x38_2 + 1)), (x244000_3), (x244001_3), (x244002_3), zF, H', ⟨by have := HJ3.out; have := HK2.out; have := HK3.out; omega⟩, ⟨zB BK243.out⟩, ⟨zB BK248.out⟩, ⟨zH⟩⟩
         ·rw [if_neg c24] at H
          exact absurd H (by simp)
        ·rw [if_neg c22] at H
         exact absurd H (by simp)
       ·rw [if_neg c21] at H
        exact absurd H (by simp)
      ·rw [if_neg c20] at H
       have c20b0 : decide (x38_2 < (l1.length : Int)) = false := decide_eq_false c20
       clear c20
       simp only [Option.some.injEq, Prod.mk.injEq] at H
       obtain ⟨rfl, rfl, rfl, rfl⟩ := H
       have hnb32 := NB248_243.out
       have hnc32 := NB243_248.out
       obtain ⟨hcz33_0, hcz33_1, hcz33_2⟩ := zc3 BK248.out
       obtain ⟨hfz33_0, hfz33_1, hfz33_2, _, _⟩ := zf BK248.out
       obtain ⟨hcz34_0, hcz34_1, hcz34_2⟩ := zc3 BK243.out
       obtain ⟨hfz34_0, hfz34_1, hfz34_2, _, _⟩ := zf BK243.out
       go_wp2
       refine bodyPost_ret (results_ct rfl _ _ gb243 88 #[.int .i64 t244, .int .i64 t245, .int .i64 t246] (0, 0) _ rfl (by (repeat refine zL ?_); refine blk_put (cs := #[.int .i64 t244, .int .i64 t245, .int .i64 x244002_2]) ?_ 2 _ rfl; (repeat refine zL ?_); refine blk_put (cs := #[.int .i64 t244, .int .i64 x244001_2, .int .i64 x244002_2]) ?_ 1 _ rfl; (repeat refine zL ?_); refine blk_put (cs := #[.int .i64 x244000_2, .int .i64 x244001_2, .int .i64 x244002_2]) ?_ 0 _ rfl; (repeat refine zL ?_); exact BK243.out) Try.underlying88 rfl (by kernel_rfl)) rfl ?_
       exact ⟨zE, zH⟩

/-! ### impl_polyField: function 71 -/
def impl_polyField.l0 : Nat → List (List Int) → Int → Int → Int → Int → Int → Option (Int × Int × Int × Bool)
 | 0, _, _, _, _, _, _ => none
 | k + 1, x18, x19, x20, x259000, x259001, x259002 => if x20 < x19 then (if 0 ≤ x20 then (if x20 < (x18.length : Int) then (if ((rd_L2 x18 x20).length : Int) > 400 then (some (0, 0, 0, false)) else ((impl_field_areElements.f k x259000 x259001 x259002 (rd_L2 x18 x20)).bind fun t260 => (if t260 = true then (if ((rd_L2 x18 x20).length : Int) > 0 then (if 0 ≤ (wrap64 (((rd_L2 x18 x20).length : Int) - 1)) then (if (wrap64 (((rd_L2 x18 x20).length : Int) - 1)) < ((rd_L2 x18 x20).length : Int) then (if (rd (rd_L2 x18 x20) (wrap64 (((rd_L2 x18 x20).length : Int) - 1))) = 0 then (some (0, 0, 0, false)) else (impl_polyField.l0 k x18 x19 (wrap64 (x20 + 1)) x259000 x259001 x259002)) else (none)) else (none)) else (impl_polyField.l0 k x18 x19 (wrap64 (x20 + 1)) x259000 x259001 x259002)) else (some (0, 0, 0, false))))) else (none)) else (none)) else (some (x259000, x259001, x259002, true))
def impl_polyField.f (k : Nat) (a0 : Int) (l1 : List (List Int)) : Option (Int × Int × Int × Bool) := (impl_fieldOf.f a0).bind fun bt254 => (if bt254.2.2.2 = true then (impl_polyField.l0 k l1 (l1.length : Int) 0 bt254.1 bt254.2.1 bt254.2.2.1) else (some (0, 0, 0, false)))
theorem impl_polyField.mono_l : ∀ k, (∀ y0 y1 y2 y3 y4 y5, LeO (impl_polyField.l0 k y0 y1 y2 y3 y4 y5) (impl_polyField.l0 (k + 1) y0 y1 y2 y3 y4 y5))
 | 0 => fun _ _ _ _ _ _ r h => by simp [impl_polyField.l0] at h
 | k + 1 => by
  have ih0 := impl_polyField.mono_l k
  ·intro y0 y1 y2 y3 y4 y5
   unfold impl_polyField.l0
   repeat' first
   | (with_reducible exact ih0 _ _ _ _ _ _)
   | (with_reducible exact impl_field_areElements.mono _ _ _ _ _)
   | (with_reducible exact LeO.refl _)
   | (with_reducible exact LeO.none _)
   | (with_reducible refine LeO.ite ?_ ?_)
   | (with_reducible refine LeO.bind ?_ (fun _ => ?_))
   | exact ih0 _ _ _ _ _ _
   | exact impl_field_areElements.mono _ _ _ _ _
   | exact LeO.none _
   | refine LeO.ite ?_ ?_
   | refine LeO.bind ?_ (fun _ => ?_)
theorem impl_polyField.mono : ∀ a0 a1 k, LeO (impl_polyField.f k a0 a1) (impl_polyField.f (k + 1) a0 a1) := by
 intro a0 a1 k
 have ih0 := impl_polyField.mono_l k
 unfold impl_polyField.f
 repeat' first
   | (with_reducible exact ih0 _ _ _ _ _ _)
   | (with_reducible exact impl_field_areElements.mono _ _ _ _ _)
   | (with_reducible exact LeO.refl _)
   | (with_reducible exact LeO.none _)
   | (with_reducible refine LeO.ite ?_ ?_)
   | (with_reducible refine LeO.bind ?_ (fun _ => ?_))
   | exact ih0 _ _ _ _ _ _
   | exact impl_field_areElements.mono _ _ _ _ _
   | exact LeO.none _
   | refine LeO.ite ?_ ?_
   | refine LeO.bind ?_ (fun _ => ?_)
set_option maxHeartbeats 8000000 in
set_option maxRecDepth 100000 in
theorem impl_polyField.calls (k : Nat) (a0 : Int) (A1 : Option Addr) (c1 : Nat) (l1 : List (List Int)) (r1 : Int) (r2 : Int) (r3 : Int) (r4 : Bool) (w : World) (hr1 : Kd.C (Kd.slice 3 (Kd.int .i64)) w A1 l1.length l1) (hc1 : l1.length ≤ c1) (h : impl_polyField.f k a0 l1 = some (r1, r2, r3, r4)) :
  Calls Try.prog 71 #[.int .i64 a0, .slice A1 l1.length c1] w fun e w' => e = .returned (.tuple #[.agg #[.int .i64 r1, .int .i64 r2, .int .i64 r3], .bool r4]) ∧ Below w.heap.size w w' := by
 have hu88 := Try.underlying88
 have HR1 := Aside0.mk hr1
 have HC1 := Aside0.mk hc1
 clear hr1 hc1
 have HB := Aside0.mk (Below.refl w.heap.size w)
 have H : ((impl_fieldOf.f a0).bind fun bt254 => (if bt254.2.2.2 = true then (impl_polyField.l0 k l1 (l1.length : Int) 0 bt254.1 bt254.2.1 bt254.2.2.1) else (some (0, 0, 0, false)))) = some (r1, r2, r3, r4) := h
 clear h
 replace H := Option.bind_eq_some_iff.mp H
 obtain ⟨⟨t254, t255, t256, t257⟩, A30, H⟩ := H
 replace H : (if t257 = true then (impl_polyField.l0 k l1 (l1.length : Int) 0 t254 t255 t256) else (some (0, 0, 0, false))) = some (r1, r2, r3, r4) := H
 have A3 := Aside0.mk A30
 clear A30
 by_cases c4 : t257 = true
 ·subst c4
  replace H : (impl_polyField.l0 k l1 (l1.length : Int) 0 t254 t255 t256) = some (r1, r2, r3, r4) := by rw [if_pos rfl] at H; exact H
  have H' := Aside0.mk H
  clear H
  go_enter Try.func71, Try.ntmps71
  go_wp2_with (first | ((with_reducible refine gate_dst (N := 4) rfl ?_); (try (refine gate_guard (by rfl) ?_; dsimp only)); refine box_event ?hg (N := 4) ?hd (cs := #[.int .i64 0, .int .i64 0, .int .i64 0]) (t := 88) ?hr ?_; (case hd => rfl); (case hg => rfl); (case hr => first | (go_simp; done) | (go_simp; rfl)); intro gb253 hg w5 hbox hb; have n0_ := Aside0.mk (below_step zH hb); have n1_ := Aside0.mk (hbox); have n2_ := Aside0.mk ((by rw [hg]; exact (below_size zH) : w.heap.size ≤ gb253)); have n3_ := Aside0.mk ((by rw [hg]; exact (below_size zH) : w.heap.size ≤ gb253)); clear HB; have HB := n0_; have BK253 := n1_; have GW253 := n2_; have GE253 := n3_; clear n0_ n1_ n2_ n3_; clear hb hbox hg) | ((with_reducible refine gate_callee (f := 122) rfl ?_); refine goesL_ (some 12) rfl rfl Try.func122 (by kernel_rfl) rfl #[.int .i64 a0] rfl zM ?_; (with_reducible refine (impl_fieldOf.calls a0 t254 t255 t256 true _ A3.out).mono ?_); rintro e w6 ⟨rfl, hb⟩; refine ⟨_, rfl, ?_⟩; have n0_ := Aside0.mk (blk_below (g := gb253) (o := .cells #[.int .i64 0, .int .i64 0, .int .i64 0] 88 (0, 0)) (zB BK253.out) hb); have n1_ := Aside0.mk (below_step zH hb); clear BK253; clear HB; have BK253 := n0_; have HB := n1_; clear n0_ n1_; (try clear hb); (try clear hb2); (try clear hk); (try clear hi)) | ((with_reducible refine gate_dst (N := 6) rfl ?_); (try (refine gate_guard (by rfl) ?_; dsimp only)); refine box_event ?hg (N := 6) ?hd (cs := #[.int .i64 0, .int .i64 0, .int .i64 0]) (t := 88) ?hr ?_; (case hd => rfl); (case hg => rfl); (case hr => first | (go_simp; done) | (go_simp; rfl)); intro gb258 hg w7 hbox hb; have n0_ := Aside0.mk (blk_below (g := gb253) (o := .cells #[.int .i64 0, .int .i64 0, .int .i64 0] 88 (0, 0)) (zB BK253.out) hb); have n1_ := Aside0.mk (below_step zH hb); have n2_ := Aside0.mk (hbox); have n3_ := Aside0.mk ((by rw [hg]; exact (below_size zH) : w.heap.size ≤ gb258)); have n4_ := Aside0.mk ((by rw [hg]; exact (below_size zH) : w.heap.size ≤ gb258)); have n5_ := Aside0.mk ((by rw [hg]; exact Nat.ne_of_lt (blk_lt (g := gb253) (o := .cells #[.int .i64 0, .int .i64 0, .int .i64 0] 88 (0, 0)) (zB BK253.out)) : gb253 ≠ gb258)); have n6_ := Aside0.mk ((by rw [hg]; exact Nat.ne_of_gt (blk_lt (g := gb253) (o := .cells #[.int .i64 0, .int .i64 0, .int .i64 0] 88 (0, 0)) (zB BK253.out)) : gb258 ≠ gb253)); clear BK253; clear HB; have BK253 := n0_; have HB := n1_; have BK258 := n2_; have GW258 := n3_; have GE258 := n4_; have NB253_258 := n5_; have NB258_253 := n6_; clear n0_ n1_ n2_ n3_ n4_ n5_ n6_; clear hb hbox hg; have hnb8 := NB258_253.out; have hnc8 := NB253_258.out; obtain ⟨hcz9_0, hcz9_1, hcz9_2⟩ := zc3 BK258.out; obtain ⟨hfz9_0, hfz9_1, hfz9_2, _, _⟩ := zf BK258.out))
  go_loopg [20] k (fun kq v20 w' => ∃ (x20_1 : Int) (x254000_1 : Int) (x254001_1 : Int) (x254002_1 : Int), v20 = .int .i64 x20_1 ∧ Aside0 (impl_polyField.l0 kq l1 (l1.length : Int) x20_1 t254 t255 t256 = some (r1, r2, r3, r4)) ∧ Aside0 (kq ≤ k) ∧ Aside0 (w'.heap[gb253]? = some (.cells #[.int .i64 x254000_1, .int .i64 x254001_1, .int .i64 x254002_1] 88 (0, 0))) ∧ Aside0 (w'.heap[gb258]? = some (.cells #[.int .i64 t254, .int .i64 t255, .int .i64 t256] 88 (0, 0))) ∧ Aside0 (Below w.heap.size w w'))
  case atStart => exact ⟨(0), (0), (0), (0), zF, H', ⟨Nat.le_refl _⟩, ⟨by (repeat refine zL ?_); refine blk_far ?_ NB253_258.out _; (repeat refine zL ?_); refine blk_far ?_ NB253_258.out _; (repeat refine zL ?_); refine blk_far ?_ NB253_258.out _; (repeat refine zL ?_); exact BK253.out⟩, ⟨by (repeat refine zL ?_); refine blk_put (cs := #[.int .i64 t254, .int .i64 t255, .int .i64 0]) ?_ 2 _ rfl; (repeat refine zL ?_); refine blk_put (cs := #[.int .i64 t254, .int .i64 0, .int .i64 0]) ?_ 1 _ rfl; (repeat refine zL ?_); refine blk_put (cs := #[.int .i64 0, .int .i64 0, .int .i64 0]) ?_ 0 _ rfl; (repeat refine zL ?_); exact BK258.out⟩, ⟨zH⟩⟩
  case round =>
   clear H'
   (try clear c1);(try clear p2);(try clear c4);(try clear c7);(try clear c8);(try clear hcz9_0);(try clear hcz9_1);(try clear hcz9_2);(try clear hfz9_0);(try clear hfz9_1);(try clear hfz9_2)
   obtain ⟨x20_1, x254000_1, x254001_1, x254002_1, rfl, HA, HK1, BK253, BK258, HB⟩ := hrel
   cases gk with
   | zero => exact absurd HA.out (by simp [impl_polyField.l0])
   | succ k1 =>
    have H := HA.out
    clear HA
    simp only [impl_polyField.l0] at H
    by_cases c10 : x20_1 < (l1.length : Int)
    ·rw [if_pos c10] at H
     have c10b0 : decide (x20_1 < (l1.length : Int)) = true := decide_eq_true c10
     clear c10
     by_cases c11 : 0 ≤ x20_1
     ·rw [if_pos c11] at H
      have c11b0 : decide (0 ≤ x20_1) = true := decide_eq_true c11
      clear c11
      by_cases c12 : x20_1 < (l1.length : Int)
      ·rw [if_pos c12] at H
       have c12b0 : decide (x20_1 < (l1.length : Int)) = true := decide_eq_true c12
       clear c12
       by_cases c13 : ((rd_L2 l1 x20_1).length : Int) > 400
       ·rw [if_pos c13] at H
        have c13b0 : decide (400 < ((rd_L2 l1 x20_1).length : Int)) = true := decide_eq_true c13
        have c13b1 : decide (400 < (rd_L2 l1 x20_1).length) = true := decide_eq_true (by omega)
        clear c13
        simp only [Option.some.injEq, Prod.mk.injEq] at H
        obtain ⟨rfl, rfl, rfl, rfl⟩ := H
        have p259 : 0 ≤ (x20_1 : Int) := zD
        have q259 : x20_1 < (l1.length : Int) := zD
        obtain ⟨ad259, A259_0, c259_0, e259, hx259_0, hl259_0, hi259_0⟩ := at_L2 HR1.out x20_1 p259 q259
        cases e259
        replace hx259_0 := (HB.out.cell (World.block_lt_of_cell? w _ hx259_0)).trans hx259_0
        have HR259_0 := Aside0.mk hi259_0
        have HC259_0 := Aside0.mk hl259_0
        clear hi259_0 hl259_0
        replace p259 := eq_true p259
        replace q259 := eq_true q259
        have hnb14 := NB253_258.out
        have hnc14 := NB258_253.out
        obtain ⟨hcz15_0, hcz15_1, hcz15_2⟩ := zc3 BK253.out
        obtain ⟨hfz15_0, hfz15_1, hfz15_2, _, _⟩ := zf BK253.out
        go_wp2
        refine bodyPost_ret (results_ct rfl _ _ gb253 88 #[.int .i64 0, .int .i64 0, .int .i64 0] (0, 0) _ rfl (by (repeat refine zL ?_); refine blk_put (cs := #[.int .i64 0, .int .i64 0, .int .i64 x254002_1]) ?_ 2 _ rfl; (repeat refine zL ?_); refine blk_put (cs := #[.int .i64 0, .int .i64 x254001_1, .int .i64 x254002_1]) ?_ 1 _ rfl; (repeat refine zL ?_); refine blk_put (cs := #[.int .i64 x254000_1, .int .i64 x254001_1, .int .i64 x254002_1]) ?_ 0 _ rfl; (repeat refine zL ?_); exact BK253.out) Try.underlying88 rfl (by kernel_rfl)) rfl ?_
        exact ⟨zE, zH⟩
       ·rw [if_neg c13] at H
        have c13b0 : decide (400 < ((rd_L2 l1 x20_1).length : Int)) = false := decide_eq_false c13
        have c13b1 : decide (400 < (rd_L2 l1 x20_1).length) = false := decide_eq_false (by omega)
        clear c13
        replace H := Option.bind_eq_some_iff.mp H
        obtain ⟨t260, A160, H⟩ := H
        replace H : (if t260 = true then (if ((rd_L2 l1 x20_1).length : Int) > 0 then (if 0 ≤ (wrap64 (((rd_L2 l1 x20_1).length : Int) - 1)) then (if (wrap64 (((rd_L2 l1 x20_1).length : Int) - 1)) < ((rd_L2 l1 x20_1).length : Int) then (if (rd (rd_L2 l1 x20_1) (wrap64 (((rd_L2 l1 x20_1).length : Int) - 1))) = 0 then (some (0, 0, 0, false)) else (impl_polyField.l0 k1 l1 (l1.length : Int) (wrap64 (x20_1 + 1)) t254 t255 t256)) else (none)) else (none)) else (impl_polyField.l0 k1 l1 (l1.length : Int) (wrap64 (x20_1 + 1)) t254 t255 t256)) else (some (0, 0, 0, false))) = some (r1, r2, r3, r4) := H
        have A16 := Aside0.mk A160
        clear A160
        by_cases c17 : t260 = true
        ·subst c17
         replace H : (if ((rd_L2 l1 x20_1).length : Int) > 0 then (if 0 ≤ (wrap64 (((rd_L2 l1 x20_1).length : Int) - 1)) then (if (wrap64 (((rd_L2 l1 x20_1).length : Int) - 1)) < ((rd_L2 l1 x20_1).length : Int) then (if (rd (rd_L2 l1 x20_1) (wrap64 (((rd_L2 l1 x20_1).length : Int) - 1))) = 0 then (some (0, 0, 0, false)) else (impl_polyField.l0 k1 l1 (l1.length : Int) (wrap64 (x20_1 + 1)) t254 t255 t256)) else (none)) else (none)) else (impl_polyField.l0 k1 l1 (l1.length : Int) (wrap64 (x20_1 + 1)) t254 t255 t256)) = some (r1, r2, r3, r4) := by rw [if_pos rfl] at H; exact H
         by_cases c18 : ((rd_L2 l1 x20_1).length : Int) > 0
         ·rw [if_pos c18] at H
          have c18b0 : decide (0 < ((rd_L2 l1 x20_1).length : Int)) = true := decide_eq_true c18
          have c18b1 : decide (0 < (rd_L2 l1 x20_1).length) = true := decide_eq_true (by omega)
          clear c18
          obtain ⟨ji19, hji19⟩ : ∃ j_ : Int, (wrap64 (((rd_L2 l1 x20_1).length : Int) - 1)) = j_ := ⟨_, rfl⟩
          replace H : (if 0 ≤ (ji19) then (if (ji19) < ((rd_L2 l1 x20_1).length : Int) then (if (rd (rd_L2 l1 x20_1) (ji19)) = 0 then (some (0, 0, 0, false)) else (impl_polyField.l0 k1 l1 (l1.length : Int) (wrap64 (x20_1 + 1)) t254 t255 t256)) else (none)) else (none)) = some (r1, r2, r3, r4) := by first | (rw [hji19] at H; exact H) | (simp only [hji19] at H ⊢; exact H)
          (try rw [hji19] at A16)
          have hji19w : (IntKind.i64.wrap (((rd_L2 l1 x20_1).length : Int) - 1)) = ji19 := (i64_w _).trans hji19
          by_cases c20 : 0 ≤ (ji19)
          ·rw [if_pos c20] at H
           have c20b0 : decide (0 ≤ (ji19)) = true := decide_eq_true c20
           clear c20
           by_cases c21 : (ji19) < ((rd_L2 l1 x20_1).length : Int)
           ·rw [if_pos c21] at H
            have c21b0 : decide ((ji19) < ((rd_L2 l1 x20_1).length : Int)) = true := decide_eq_true c21
            clear c21
            by_cases c22 : (rd (rd_L2 l1 x20_1) (ji19)) = 0
            ·rw [if_pos c22] at H
             have c22b0 : ((rd (rd_L2 l1 x20_1) (ji19)) == 0) = true := beq_iff_eq.mpr c22
             have c22b1 : ((rd (rd_L2 l1 x20_1) (ji19)) != 0) = false := bne_eq_false_iff_eq.mpr c22
             clear c22
             simp only [Option.some.injEq, Prod.mk.injEq] at H
             obtain ⟨rfl, rfl, rfl, rfl⟩ := H
             have p259 : 0 ≤ (x20_1 : Int) := zD
             have q259 : x20_1 < (l1.length : Int) := zD
             obtain ⟨ad259, A259_0, c259_0, e259, hx259_0, hl259_0, hi259_0⟩ := at_L2 HR1.out x20_1 p259 q259
             cases e259
             replace hx259_0 := (HB.out.cell (World.block_lt_of_cell? w _ hx259_0)).trans hx259_0
             have HR259_0 := Aside0.mk hi259_0
             have HC259_0 := Aside0.mk hl259_0
             clear hi259_0 hl259_0
             replace p259 := eq_true p259
             replace q259 := eq_true q259
             have hnb23 := NB258_253.out
             have hnc23 := NB253_258.out
             obtain ⟨hcz24_0, hcz24_1, hcz24_2⟩ := zc3 BK258.out
             obtain ⟨hfz24_0, hfz24_1, hfz24_2, _, _⟩ := zf BK258.out
             go_wp2_with (first | (go_at_call 123; (with_reducible refine (impl_field_areElements.calls k1 t254 t255 t256 _ _ (rd_L2 l1 x20_1) true _ ?side1 ?side2 A16.out).mono ?_); (case side1 => exact zC (Kd.C_below HR259_0.out HB.out)); (case side2 => exact HC259_0.out); rintro e w25 ⟨rfl, hb⟩; have n0_ := Aside0.mk (blk_below (g := gb253) (o := .cells #[.int .i64 x254000_1, .int .i64 x254001_1, .int .i64 x254002_1] 88 (0, 0)) (zB BK253.out) hb); have n1_ := Aside0.mk (blk_below (g := gb258) (o := .cells #[.int .i64 t254, .int .i64 t255, .int .i64 t256] 88 (0, 0)) (zB BK258.out) hb); have n2_ := Aside0.mk (below_step zH hb); clear BK253; clear BK258; clear HB; have BK253 := n0_; have BK258 := n1_; have HB := n2_; clear n0_ n1_ n2_; (try clear hb); (try clear hb2); (try clear hk); (try clear hi); have p261 : 0 ≤ ((ji19) : Int) := zD; have q261 : (ji19) < ((rd_L2 l1 x20_1).length : Int) := zD; obtain ⟨ad261, e261, hx261_0⟩ := Kd.at_int HR259_0.out (ji19) p261 q261; cases e261; replace hx261_0 := (HB.out.cell (World.block_lt_of_cell? w _ hx261_0)).trans hx261_0; replace p261 := eq_true p261; replace q261 := eq_true q261; obtain ⟨hcz26_0, hcz26_1, hcz26_2⟩ := zc3 BK253.out; obtain ⟨hfz26_0, hfz26_1, hfz26_2, _, _⟩ := zf BK253.out))
             refine bodyPost_ret (results_ct rfl _ _ gb253 88 #[.int .i64 0, .int .i64 0, .int .i64 0] (0, 0) _ rfl (by (repeat refine zL ?_); refine blk_put (cs := #[.int .i64 0, .int .i64 0, .int .i64 x254002_1]) ?_ 2 _ rfl; (repeat refine zL ?_); refine blk_put (cs := #[.int .i64 0, .int .i64 x254001_1, .int .i64 x254002_1]) ?_ 1 _ rfl; (repeat refine zL ?_); refine blk_put (cs := #[.int .i64 x254000_1, .int .i64 x254001_1, .int .i64 x254002_1]) ?_ 0 _ rfl; (repeat refine zL ?_); exact BK253.out) Try.underlying88 rfl (by kernel_rfl)) rfl ?_
             exact ⟨by first | rfl | (simp [errW_none, errW_some] <;> rfl) | (simp only [← hji19]; first | rfl | (simp [errW_none, errW_some] <;> rfl)) | (simp [*, errW_none, errW_some] <;> rfl), zH⟩
            ·rw [if_neg c22] at H
             have c22b0 : ((rd (rd_L2 l1 x20_1) (ji19)) == 0) = false := beq_eq_false_iff_ne.mpr c22
             have c22b1 : ((rd (rd_L2 l1 x20_1) (ji19)) != 0) = true := bne_iff_ne.mpr c22
             have H' := Aside0.mk H
             clear H
             have p259 : 0 ≤ (x20_1 : Int) := zD
             have q259 : x20_1 < (l1.length : Int) := zD
             obtain ⟨ad259, A259_0, c259_0, e259, hx259_0, hl259_0, hi259_0⟩ := at_L2 HR1.out x20_1 p259 q259
             cases e259
             replace hx259_0 := (HB.out.cell (World.block_lt_of_cell? w _ hx259_0)).trans hx259_0
             have HR259_0 := Aside0.mk hi259_0
             have HC259_0 := Aside0.mk hl259_0
             clear hi259_0 hl259_0
             replace p259 := eq_true p259
             replace q259 := eq_true q259
             have hnb27 := NB258_253.out
             have hnc27 := NB253_258.out
             obtain ⟨hcz28_0, hcz28_1, hcz28_2⟩ := zc3 BK258.out
             obtain ⟨hfz28_0, hfz28_1, hfz28_2, _, _⟩ := zf BK258.out
             go_wp2_with (first | (go_at_call 123; (with_reducible refine (impl_field_areElements.calls k1 t254 t255 t256 _ _ (rd_L2 l1 x20_1) true _ ?side1 ?side2 A16.out).mono ?_); (case side1 => exact zC (Kd.C_below HR259_0.out HB.out)); (case side2 => exact HC259_0.out); rintro e w29 ⟨rfl, hb⟩; have n0_ := Aside0.mk (blk_below (g := gb253) (o := .cells #[.int .i64 x254000_1, .int .i64 x254001_1, .int .i64 x254002_1] 88 (0, 0)) (zB BK253.out) hb); have n1_ := Aside0.mk (blk_below (g := gb258) (o := .cells #[.int .i64 t254, .int .i64 t255, .int .i64 t256] 88 (0, 0)) (zB BK258.out) hb); have n2_ := Aside0.mk (below_step zH hb); clear BK253; clear BK258; clear HB; have BK253 := n0_; have BK258 := n1_; have HB := n2_; clear n0_ n1_ n2_; (try clear hb); (try clear hb2); (try clear hk); (try clear hi); have p261 : 0 ≤ ((ji19) : Int) := zD; have q261 : (ji19) < ((rd_L2 l1 x20_1).length : Int) := zD; obtain ⟨ad261, e261, hx261_0⟩ := Kd.at_int HR259_0.out (ji19) p261 q261; cases e261; replace hx261_0 := (HB.out.cell (World.block_lt_of_cell? w _ hx261_0)).trans hx261_0; replace p261 := eq_true p261; replace q261 := eq_true q261))
             go_roundg k1
             case measure => have := HK1.out; omega
             case rel => exact ⟨(wrap64 (x20_1 + 1)), (x254000_1), (x254001_1), (x254002_1), zF, H', ⟨by have := HK1.out; omega⟩, ⟨zB BK253.out⟩, ⟨zB BK258.out⟩, ⟨zH⟩⟩
           ·rw [if_neg c21] at H
            exact absurd H (by simp)
          ·rw [if_neg c20] at H
           exact absurd H (by simp)
         ·rw [if_neg c18] at H
          have c18b0 : decide (0 < ((rd_L2 l1 x20_1).length : Int)) = false := decide_eq_false c18
          have c18b1 : decide (0 < (rd_L2 l1 x20_1).length) = false := decide_eq_false (by omega)
          clear c18
          have H' := Aside0.mk H
          clear H
          have p259 : 0 ≤ (x20_1 : Int) := zD
          have q259 : x20_1 < (l1.length : Int) := zD
          obtain ⟨ad259, A259_0, c259_0, e259, hx259_0, hl259_0, hi259_0⟩ := at_L2 HR1.out x20_1 p259 q259
          cases e259
          replace hx259_0 := (HB.out.cell (World.block_lt_of_cell? w _ hx259_0)).trans hx259_0
          have HR259_0 := Aside0.mk hi259_0
          have HC259_0 := Aside0.mk hl259_0
          clear hi259_0 hl259_0
          replace p259 := eq_true p259
          replace q259 := eq_true q259
          have hnb30 := NB258_253.out
          have hnc30 := NB253_258.out
          obtain ⟨hcz31_0, hcz31_1, hcz31_2⟩ := zc3 BK258.out
          obtain ⟨hfz31_0, hfz31_1, hfz31_2, _, _⟩ := zf BK258.out
          go_wp2_with (first | (go_at_call 123; (with_reducible refine (impl_field_areElements.calls k1 t254 t255 t256 _ _ (rd_L2 l1 x20_1) true _ ?side1 ?side2 A16.out).mono ?_); (case side1 => exact zC (Kd.C_below HR259_0.out HB.out)); (case side2 => exact HC259_0.out); rintro e w32 ⟨rfl, hb⟩; have n0_ := Aside0.mk (blk_below (g := gb253) (o := .cells #[.int .i64 x254000_1, .int .i64 x254001_1, .int .i64 x254002_1] 88 (0, 0)) (zB BK253.out) hb); have n1_ := Aside0.mk (blk_below (g := gb258) (o := .cells #[.int .i64 t254, .int .i64 t255, .int .i64 t256] 88 (0, 0)) (zB BK258.out) hb); have n2_ := Aside0.mk (below_step zH hb); clear BK253; clear BK258; clear HB; have BK253 := n0_; have BK258 := n1_; have HB := n2_; clear n0_ n1_ n2_; (try clear hb); (try clear hb2); (try clear hk); (try clear hi)))
          go_roundg k1
          case measure => have := HK1.out; omega
          case rel => exact ⟨(wrap64 (x20_1 + 1)), (x254000_1), (x254001_1), (x254002_1), zF, H', ⟨by have := HK1.out; omega⟩, ⟨zB BK253.out⟩, ⟨zB BK258.out⟩, ⟨zH⟩⟩
        ·replace c17 := Bool.eq_false_iff.mpr c17
         subst c17
         replace H : (some (0, 0, 0, false)) = some (r1, r2, r3, r4) := by rw [if_neg (show ¬ (false = true) by decide)] at H; exact H
         simp only [Option.some.injEq, Prod.mk.injEq] at H
         obtain ⟨rfl, rfl, rfl, rfl⟩ := H
         have p259 : 0 ≤ (x20_1 : Int) := zD
         have q259 : x20_1 < (l1.length : Int) := zD
         obtain ⟨ad259, A259_0, c259_0, e259, hx259_0, hl259_0, hi259_0⟩ := at_L2 HR1.out x20_1 p259 q259
         cases e259
         replace hx259_0 := (HB.out.cell (World.block_lt_of_cell? w _ hx259_0)).trans hx259_0
         have HR259_0 := Aside0.mk hi259_0
         have HC259_0 := Aside0.mk hl259_0
         clear hi259_0 hl259_0
         replace p259 := eq_true p259
         replace q259 := eq_true q259
         have hnb33 := NB258_253.out
         have hnc33 := NB253_258.out
         obtain ⟨hcz34_0, hcz34_1, hcz34_2⟩ := zc3 BK258.out
         obtain ⟨hfz34_0, hfz34_1, hfz34_2, _, _⟩ := zf BK258.out
         go_wp2_with (first | (go_at_call 123; (with_reducible refine (impl_field_areElements.calls k1 t254 t255 t256 _ _ (rd_L2 l1 x20_1) false _ ?side1 ?side2 A16.out).mono ?_); (case side1 => exact zC (Kd.C_below HR259_0.out HB.out)); (case side2 => exact HC259_0.out); rintro e w35 ⟨rfl, hb⟩; have n0_ := Aside0.mk (blk_below (g := gb253) (o := .cells #[.int .i64 x254000_1, .int .i64 x254001_1, .int .i64 x254002_1] 88 (0, 0)) (zB BK253.out) hb); have n1_ := Aside0.mk (blk_below (g := gb258) (o := .cells #[.int .i64 t254, .int .i64 t255, .int .i64 t256] 88 (0, 0)) (zB BK258.out) hb); have n2_ := Aside0.mk (below_step zH hb); clear BK253; clear BK258; clear HB; have BK253 := n0_; have BK258 := n1_; have HB := n2_; clear n0_ n1_ n2_; (try clear hb); (try clear hb2); (try clear hk); (try clear hi); obtain ⟨hcz36_0, hcz36_1, hcz36_2⟩ := zc3 BK253.out; obtain ⟨hfz36_0, hfz36_1, hfz36_2, _, _⟩ := zf BK253.out))
         refine bodyPost_ret (results_ct rfl _ _ gb253 88 #[.int .i64 0, .int .i64 0, .int .i64 0] (0, 0) _ rfl (by (repeat refine zL ?_); refine blk_put (cs := #[.int .i64 0, .int .i64 0, .int .i64 x254002_1]) ?_ 2 _ rfl; (repeat refine zL ?_); refine blk_put (cs := #[.int .i64 0, .int .i64 x254001_1, .int .i64 x254002_1]) ?_ 1 _ rfl; (repeat refine zL ?_); refine blk_put (cs := #[.int .i64 x254000_1, .int .i64 x254001_1, .int .i64 x254002_1]) ?_ 0 _ rfl; (repeat refine zL ?_); exact BK253.out) Try.underlying88 rfl (by kernel_rfl)) rfl ?_
         exact ⟨zE, zH⟩
      ·rw [if_neg c12] at H
       exact absurd H (by simp)
     ·rw [if_neg c11] at H
      exact absurd H (by simp)
    ·rw [if_neg c10] at H
     have c10b0 : decide (x20_1 < (l1.length : Int)) = false := decide_eq_false c10
     clear c10
     simp only [Option.some.injEq, Prod.mk.injEq] at H
     obtain ⟨rfl, rfl, rfl, rfl⟩ := H
     have hnb37 := NB258_253.out
     have hnc37 := NB253_258.out
     obtain ⟨hcz38_0, hcz38_1, hcz38_2⟩ := zc3 BK258.out
     obtain ⟨hfz38_0, hfz38_1, hfz38_2, _, _⟩ := zf BK258.out
     obtain ⟨hcz39_0, hcz39_1, hcz39_2⟩ := zc3 BK253.out
     obtain ⟨hfz39_0, hfz39_1, hfz39_2, _, _⟩ := zf BK253.out
     go_wp2
     refine bodyPost_ret (results_ct rfl _ _ gb253 88 #[.int .i64 t254, .int .i64 t255, .int .i64 t256] (0, 0) _ rfl (by (repeat refine zL ?_); refine blk_put (cs := #[.int .i64 t254, .int .i64 t255, .int .i64 x254002_1]) ?_ 2 _ rfl; (repeat refine zL ?_); refine blk_put (cs := #[.int .i64 t254, .int .i64 x254001_1, .int .i64 x254002_1]) ?_ 1 _ rfl; (repeat refine zL ?_); refine blk_put (cs := #[.int .i64 x254000_1, .int .i64 x254001_1, .int .i64 x254002_1]) ?_ 0 _ rfl; (repeat refine zL ?_); exact BK253.out) Try.underlying88 rfl (by kernel_rfl)) rfl ?_
     exact ⟨zE, zH⟩
 ·replace c4 := Bool.eq_false_iff.mpr c4
  subst c4
  replace H : (some (0, 0, 0, false)) = some (r1, r2, r3, r4) := by rw [if_neg (show ¬ (false = true) by decide)] at H; exact H
  simp only [Option.some.injEq, Prod.mk.injEq] at H
  obtain ⟨rfl, rfl, rfl, rfl⟩ := H
  go_enter Try.func71, Try.ntmps71
  go_wp2_with (first | ((with_reducible refine gate_dst (N := 4) rfl ?_); (try (refine gate_guard (by rfl) ?_; dsimp only)); refine box_event ?hg (N := 4) ?hd (cs := #[.int .i64 0, .int .i64 0, .int .i64 0]) (t := 88) ?hr ?_; (case hd => rfl); (case hg => rfl); (case hr => first | (go_simp; done) | (go_simp; rfl)); intro gb253 hg w40 hbox hb; have n0_ := Aside0.mk (below_step zH hb); have n1_ := Aside0.mk (hbox); have n2_ := Aside0.mk ((by rw [hg]; exact (below_size zH) : w.heap.size ≤ gb253)); have n3_ := Aside0.mk ((by rw [hg]; exact (below_size zH) : w.heap.size ≤ gb253)); clear HB; have HB := n0_; have BK253 := n1_; have GW253 := n2_; have GE253 := n3_; clear n0_ n1_ n2_ n3_; clear hb hbox hg) | ((with_reducible refine gate_callee (f := 122) rfl ?_); refine goesL_ (some 12) rfl rfl Try.func122 (by kernel_rfl) rfl #[.int .i64 a0] rfl zM ?_; (with_reducible refine (impl_fieldOf.calls a0 t254 t255 t256 false _ A3.out).mono ?_); rintro e w41 ⟨rfl, hb⟩; refine ⟨_, rfl, ?_⟩; have n0_ := Aside0.mk (blk_below (g := gb253) (o := .cells #[.int .i64 0, .int .i64 0, .int .i64 0] 88 (0, 0)) (zB BK253.out) hb); have n1_ := Aside0.mk (below_step zH hb); clear BK253; clear HB; have BK253 := n0_; have HB := n1_; clear n0_ n1_; (try clear hb); (try clear hb2); (try clear hk); (try clear hi)) | ((with_reducible refine gate_dst (N := 6) rfl ?_); (try (refine gate_guard (by rfl) ?_; dsimp only)); refine box_event ?hg (N := 6) ?hd (cs := #[.int .i64 0, .int .i64 0, .int .i64 0]) (t := 88) ?hr ?_; (case hd => rfl); (case hg => rfl); (case hr => first | (go_simp; done) | (go_simp; rfl)); intro gb258 hg w42 hbox hb; have n0_ := Aside0.mk (blk_below (g := gb253) (o := .cells #[.int .i64 0, .int .i64 0, .int .i64 0] 88 (0, 0)) (zB BK253.out) hb); have n1_ := Aside0.mk (below_step zH hb); have n2_ := Aside0.mk (hbox); have n3_ := Aside0.mk ((by rw [hg]; exact (below_size zH) : w.heap.size ≤ gb258)); have n4_ := Aside0.mk ((by rw [hg]; exact (below_size zH) : w.heap.size ≤ gb258)); have n5_ := Aside0.mk ((by rw [hg]; exact Nat.ne_of_lt (blk_lt (g := gb253) (o := .cells #[.int .i64 0, .int .i64 0, .int .i64 0] 88 (0, 0)) (zB BK253.out)) : gb253 ≠ gb258)); have n6_ := Aside0.mk ((by rw [hg]; exact Nat.ne_of_gt (blk_lt (g := gb253) (o := .cells #[.int .i64 0, .int .i64 0, .int .i64 0] 88 (0, 0)) (zB BK253.out)) : gb258 ≠ gb253)); clear BK253; clear HB; have BK253 := n0_; have HB := n1_; have BK258 := n2_; have GW258 := n3_; have GE258 := n4_; have NB253_258 := n5_; have NB258_253 := n6_; clear n0_ n1_ n2_ n3_ n4_ n5_ n6_; clear hb hbox hg; have hnb43 := NB258_253.out; have hnc43 := NB253_258.out; obtain ⟨hcz44_0, hcz44_1, hcz44_2⟩ := zc3 BK258.out; obtain ⟨hfz44_0, hfz44_1, hfz44_2, _, _⟩ := zf BK258.out; obtain ⟨hcz45_0, hcz45_1, hcz45_2⟩ := zc3 BK253.out; obtain ⟨hfz45_0, hfz45_1, hfz45_2, _, _⟩ := zf BK253.out))
  refine bodyPost_ret (results_ct rfl _ _ gb253 88 #[.int .i64 0, .int .i64 0, .int .i64 0] (0, 0) _ rfl (by (repeat refine zL ?_); refine blk_put (cs := #[.int .i64 0, .int .i64 0, .int .i64 0]) ?_ 2 _ rfl; (repeat refine zL ?_); refine blk_put (cs := #[.int .i64 0, .int .i64 0, .int .i64 0]) ?_ 1 _ rfl; (repeat refine zL ?_); refine blk_put (cs := #[.int .i64 0, .int .i64 0, .int .i64 0]) ?_ 0 _ rfl; (repeat refine zL ?_); refine blk_far ?_ NB253_258.out _; (repeat refine zL ?_); refine blk_far ?_ NB253_258.out _; (repeat refine zL ?_); refine blk_far ?_ NB253_258.out _; (repeat refine zL ?_); exact BK253.out) Try.underlying88 rfl (by kernel_rfl)) rfl ?_
  exact ⟨zE, zH⟩

end Go.Proofs.Ytabicblkdgpogaa.QFnExactCheckValues
