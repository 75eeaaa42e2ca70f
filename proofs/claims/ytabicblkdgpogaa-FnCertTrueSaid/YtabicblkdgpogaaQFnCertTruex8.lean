-- Made by this session's program (wip/tools/myprint.py) out of the translation; Lean checks it.
import Derived.Test.YtabicblkdgpogaaQFnCertTruex0
import Derived.Test.YtabicblkdgpogaaQFnCertTruex4
namespace Go.Proofs.Ytabicblkdgpogaa.QFnCertTrue
open Go.RowKit Go.Proofs.YtabicblkdgpogaaW.PrintWords Go.Proofs.YtabicblkdgpogaaW.PrintLast Go.Proofs.YtabicblkdgpogaaW.PrintMore
attribute [local go_sem] max2_int min2_int max_two min_two max_three min_three max_four min_four   -- for this text's walks alone
set_option linter.unusedVariables false
set_option linter.unusedSimpArgs false

/-! ### impl_pointField: function 70 -/
mutual
def impl_pointField.j0 : Nat → List Int → Bool → Int → Int → Int → Option (Int × Int × Int × Bool)
 | 0, _, _, _, _, _ => none
 | k + 1, x1, x34, x259000, x259001, x259002 => if x34 = true then (some (0, 0, 0, false)) else (impl_pointField.l0 k x1 x1 (x1.length : Int) 0 x259000 x259001 x259002)
def impl_pointField.l0 : Nat → List Int → List Int → Int → Int → Int → Int → Int → Option (Int × Int × Int × Bool)
 | 0, _, _, _, _, _, _, _ => none
 | k + 1, x1, x36, x37, x38, x259000, x259001, x259002 => if x38 < x37 then (if 0 ≤ x38 then (if x38 < (x36.length : Int) then (if x38 ≤ (x1.length : Int) then (impl_pointField.l1 k x1 (rd x36 x38) x36 x37 x38 (x1.take (x38 : Int).toNat) ((x1.take (x38 : Int).toNat).length : Int) 0 x259000 x259001 x259002) else (none)) else (none)) else (none)) else (some (x259000, x259001, x259002, true))
def impl_pointField.l1 : Nat → List Int → Int → List Int → Int → Int → List Int → Int → Int → Int → Int → Int → Option (Int × Int × Int × Bool)
 | 0, _, _, _, _, _, _, _, _, _, _, _ => none
 | k + 1, x1, x9, x36, x37, x38, x45, x46, x47, x259000, x259001, x259002 => if x47 < x46 then (if 0 ≤ x47 then (if x47 < (x45.length : Int) then (if x9 = (rd x45 x47) then (some (0, 0, 0, false)) else (impl_pointField.l1 k x1 x9 x36 x37 x38 x45 x46 (wrap64 (x47 + 1)) x259000 x259001 x259002)) else (none)) else (none)) else (impl_pointField.l0 k x1 x36 x37 (wrap64 (x38 + 1)) x259000 x259001 x259002)
end
def impl_pointField.f (k : Nat) (a0 : Int) (l1 : List Int) : Option (Int × Int × Int × Bool) := (impl_fieldOf.f a0).bind fun bt254 => (if bt254.2.2.2 = true then (if (l1.length : Int) < 1 then (impl_pointField.j0 k l1 true bt254.1 bt254.2.1 bt254.2.2.1) else (if (l1.length : Int) > 40 then (impl_pointField.j0 k l1 true bt254.1 bt254.2.1 bt254.2.2.1) else ((impl_field_areElements.f k bt254.1 bt254.2.1 bt254.2.2.1 l1).bind fun t259 => (impl_pointField.j0 k l1 (!t259) bt254.1 bt254.2.1 bt254.2.2.1)))) else (impl_pointField.j0 k l1 true bt254.1 bt254.2.1 bt254.2.2.1))
theorem impl_pointField.mono_l : ∀ k, (∀ y0 y1 y2 y3 y4, LeO (impl_pointField.j0 k y0 y1 y2 y3 y4) (impl_pointField.j0 (k + 1) y0 y1 y2 y3 y4)) ∧ (∀ y0 y1 y2 y3 y4 y5 y6, LeO (impl_pointField.l0 k y0 y1 y2 y3 y4 y5 y6) (impl_pointField.l0 (k + 1) y0 y1 y2 y3 y4 y5 y6)) ∧ (∀ y0 y1 y2 y3 y4 y5 y6 y7 y8 y9 y10, LeO (impl_pointField.l1 k y0 y1 y2 y3 y4 y5 y6 y7 y8 y9 y10) (impl_pointField.l1 (k + 1) y0 y1 y2 y3 y4 y5 y6 y7 y8 y9 y10))
 | 0 => ⟨fun _ _ _ _ _ r h => by simp [impl_pointField.j0] at h, fun _ _ _ _ _ _ _ r h => by simp [impl_pointField.l0] at h, fun _ _ _ _ _ _ _ _ _ _ _ r h => by simp [impl_pointField.l1] at h⟩
 | k + 1 => by
  obtain ⟨ih0, ih1, ih2⟩ := impl_pointField.mono_l k
  refine ⟨?_, ?_, ?_⟩
  ·intro y0 y1 y2 y3 y4
   unfold impl_pointField.j0
   repeat' first
   | (with_reducible exact ih0 _ _ _ _ _)
   | (with_reducible exact ih1 _ _ _ _ _ _ _)
   | (with_reducible exact ih2 _ _ _ _ _ _ _ _ _ _ _)
   | (with_reducible exact impl_field_areElements.mono _ _ _ _ _)
   | (with_reducible exact LeO.refl _)
   | (with_reducible exact LeO.none _)
   | (with_reducible refine LeO.ite ?_ ?_)
   | (with_reducible refine LeO.bind ?_ (fun _ => ?_))
   | exact ih0 _ _ _ _ _
   | exact ih1 _ _ _ _ _ _ _
   | exact ih2 _ _ _ _ _ _ _ _ _ _ _
   | exact impl_field_areElements.mono _ _ _ _ _
   | exact LeO.none _
   | refine LeO.ite ?_ ?_
   | refine LeO.bind ?_ (fun _ => ?_)
  ·intro y0 y1 y2 y3 y4 y5 y6
   unfold impl_pointField.l0
   repeat' first
   | (with_reducible exact ih0 _ _ _ _ _)
   | (with_reducible exact ih1 _ _ _ _ _ _ _)
   | (with_reducible exact ih2 _ _ _ _ _ _ _ _ _ _ _)
   | (with_reducible exact impl_field_areElements.mono _ _ _ _ _)
   | (with_reducible exact LeO.refl _)
   | (with_reducible exact LeO.none _)
   | (with_reducible refine LeO.ite ?_ ?_)
   | (with_reducible refine LeO.bind ?_ (fun _ => ?_))
   | exact ih0 _ _ _ _ _
   | exact ih1 _ _ _ _ _ _ _
   | exact ih2 _ _ _ _ _ _ _ _ _ _ _
   | exact impl_field_areElements.mono _ _ _ _ _
   | exact LeO.none _
   | refine LeO.ite ?_ ?_
   | refine LeO.bind ?_ (fun _ => ?_)
  ·intro y0 y1 y2 y3 y4 y5 y6 y7 y8 y9 y10
   unfold impl_pointField.l1
   repeat' first
   | (with_reducible exact ih0 _ _ _ _ _)
   | (with_reducible exact ih1 _ _ _ _ _ _ _)
   | (with_reducible exact ih2 _ _ _ _ _ _ _ _ _ _ _)
   | (with_reducible exact impl_field_areElements.mono _ _ _ _ _)
   | (with_reducible exact LeO.refl _)
   | (with_reducible exact LeO.none _)
   | (with_reducible refine LeO.ite ?_ ?_)
   | (with_reducible refine LeO.bind ?_ (fun _ => ?_))
   | exact ih0 _ _ _ _ _
   | exact ih1 _ _ _ _ _ _ _
   | exact ih2 _ _ _ _ _ _ _ _ _ _ _
   | exact impl_field_areElements.mono _ _ _ _ _
   | exact LeO.none _
   | refine LeO.ite ?_ ?_
   | refine LeO.bind ?_ (fun _ => ?_)
theorem impl_pointField.mono : ∀ a0 a1 k, LeO (impl_pointField.f k a0 a1) (impl_pointField.f (k + 1) a0 a1) := by
 intro a0 a1 k
 obtain ⟨ih0, ih1, ih2⟩ := impl_pointField.mono_l k
 unfold impl_pointField.f
 repeat' first
   | (with_reducible exact ih0 _ _ _ _ _)
   | (with_reducible exact ih1 _ _ _ _ _ _ _)
   | (with_reducible exact ih2 _ _ _ _ _ _ _ _ _ _ _)
   | (with_reducible exact impl_field_areElements.mono _ _ _ _ _)
   | (with_reducible exact LeO.refl _)
   | (with_reducible exact LeO.none _)
   | (with_reducible refine LeO.ite ?_ ?_)
   | (with_reducible refine LeO.bind ?_ (fun _ => ?_))
   | exact ih0 _ _ _ _ _
   | exact ih1 _ _ _ _ _ _ _
   | exact ih2 _ _ _ _ _ _ _ _ _ _ _
   | exact impl_field_areElements.mono _ _ _ _ _
   | exact LeO.none _
   | refine LeO.ite ?_ ?_
   | refine LeO.bind ?_ (fun _ => ?_)
set_option maxHeartbeats 8000000 in
set_option maxRecDepth 100000 in
theorem impl_pointField.calls (k : Nat) (a0 : Int) (A1 : Option Addr) (c1 : Nat) (l1 : List Int) (r1 : Int) (r2 : Int) (r3 : Int) (r4 : Bool) (w : World) (hr1 : Kd.C (Kd.int .i64) w A1 l1.length l1) (hc1 : l1.length ≤ c1) (h : impl_pointField.f k a0 l1 = some (r1, r2, r3, r4)) :
  Calls Try.prog 70 #[.int .i64 a0, .slice A1 l1.length c1] w fun e w' => e = .returned (.tuple #[.agg #[.int .i64 r1, .int .i64 r2, .int .i64 r3], .bool r4]) ∧ Below w.heap.size w w' := by
 have hu88 := Try.underlying88
 have HR1 := Aside0.mk hr1
 have HC1 := Aside0.mk hc1
 clear hr1 hc1
 have HB := Aside0.mk (Below.refl w.heap.size w)
 have H : ((impl_fieldOf.f a0).bind fun bt254 => (if bt254.2.2.2 = true then (if (l1.length : Int) < 1 then (impl_pointField.j0 k l1 true bt254.1 bt254.2.1 bt254.2.2.1) else (if (l1.length : Int) > 40 then (impl_pointField.j0 k l1 true bt254.1 bt254.2.1 bt254.2.2.1) else ((impl_field_areElements.f k bt254.1 bt254.2.1 bt254.2.2.1 l1).bind fun t259 => (impl_pointField.j0 k l1 (!t259) bt254.1 bt254.2.1 bt254.2.2.1)))) else (impl_pointField.j0 k l1 true bt254.1 bt254.2.1 bt254.2.2.1))) = some (r1, r2, r3, r4) := h
 clear h
 replace H := Option.bind_eq_some_iff.mp H
 obtain ⟨⟨t254, t255, t256, t257⟩, A30, H⟩ := H
 (try dsimp -zeta -simprocs only at H)
 have A3 := Aside0.mk A30
 clear A30
 have HC4 := Aside0.mk H
 clear H
 go_enter Try.func70, Try.ntmps70
 go_upto_region 2 with (first | ((with_reducible refine gate_dst (N := 4) rfl ?_); (try (refine gate_guard (by rfl) ?_; dsimp only)); refine box_event ?hg (N := 4) ?hd (cs := #[.int .i64 0, .int .i64 0, .int .i64 0]) (t := 88) ?hr ?_; (case hd => rfl); (case hg => rfl); (case hr => first | (go_simp; done) | (go_simp; rfl)); intro gb253 hg w5 hbox hb; have BK253 := zA (hbox); have GW253 := zA ((by rw [hg]; exact (below_size zH) : w.heap.size ≤ gb253)); have GE253 := zA ((by rw [hg]; exact (below_size zH) : w.heap.size ≤ gb253)); replace HB := zA (below_step zH hb); clear hb hbox hg) | ((with_reducible refine gate_callee (f := 122) rfl ?_); refine goesL_ (some 14) rfl rfl Try.func122 (by kernel_rfl) rfl #[.int .i64 a0] rfl zM ?_; (with_reducible refine (impl_fieldOf.calls a0 t254 t255 t256 t257 _ A3.out).mono ?_); rintro e w6 ⟨rfl, hb⟩; refine ⟨_, rfl, ?_⟩; replace BK253 := zb BK253.out hb; replace HB := zA (below_step zH hb); (try clear hb)) | ((with_reducible refine gate_dst (N := 6) rfl ?_); (try (refine gate_guard (by rfl) ?_; dsimp only)); refine box_event ?hg (N := 6) ?hd (cs := #[.int .i64 0, .int .i64 0, .int .i64 0]) (t := 88) ?hr ?_; (case hd => rfl); (case hg => rfl); (case hr => first | (go_simp; done) | (go_simp; rfl)); intro gb258 hg w7 hbox hb; have BK258 := zA (hbox); have GW258 := zA ((by rw [hg]; exact (below_size zH) : w.heap.size ≤ gb258)); have GE258 := zA ((by rw [hg]; exact (below_size zH) : w.heap.size ≤ gb258)); replace HB := zA (below_step zH hb); have NB253_258 := Aside0.mk ((by rw [hg]; exact Nat.ne_of_lt (blk_lt (g := gb253) (o := .cells #[.int .i64 0, .int .i64 0, .int .i64 0] 88 (0, 0)) (zB BK253.out)) : gb253 ≠ gb258)); have NB258_253 := Aside0.mk ((by rw [hg]; exact Nat.ne_of_gt (blk_lt (g := gb253) (o := .cells #[.int .i64 0, .int .i64 0, .int .i64 0] 88 (0, 0)) (zB BK253.out)) : gb258 ≠ gb253)); replace BK253 := zb BK253.out hb; clear hb hbox hg; have hnb8 := NB258_253.out; have hnc8 := NB253_258.out; obtain ⟨hcz9_0, hcz9_1, hcz9_2⟩ := zc3 BK258.out; obtain ⟨hfz9_0, hfz9_1, hfz9_2, _, _⟩ := zf BK258.out))
 (try simp only [Act.put, List.setIfInBounds_toArray, List.set_cons_zero, List.set_cons_succ])
 go_cut [34] (fun v34 wc => ∃ (kq : Nat) (x34_3 : Bool), v34 = .bool x34_3 ∧ Aside0 (impl_pointField.j0 kq l1 x34_3 t254 t255 t256 = some (r1, r2, r3, r4)) ∧ Aside0 (kq ≤ k) ∧ Aside0 (wc.heap[gb253]? = some (.cells #[.int .i64 0, .int .i64 0, .int .i64 0] 88 (0, 0))) ∧ Aside0 (wc.heap[gb258]? = some (.cells #[.int .i64 t254, .int .i64 t255, .int .i64 t256] 88 (0, 0))) ∧ Aside0 (Below w.heap.size w wc))
 case first =>
  have H := HC4.out
  clear HC4
  by_cases c10 : t257 = true
  ·subst c10
   rw [if_pos rfl] at H
   by_cases c11 : (l1.length : Int) < 1
   ·rw [if_pos c11] at H
    have c11b0 : decide ((l1.length : Int) < 1) = true := decide_eq_true c11
    have c11b1 : decide (l1.length < 1) = true := decide_eq_true (by omega)
    clear c11
    (first | rw [c11b0] | (simp only [i64_w, i32_w]; rw [c11b0]) | skip)
    have H' := Aside0.mk H
    clear H
    go_wp2
    go_meet
    case rel => exact ⟨_, (true), zF, H', ⟨by first | omega | exact Nat.le_refl _⟩, ⟨by (repeat refine zL ?_); refine blk_far ?_ NB253_258.out _; (repeat refine zL ?_); refine blk_far ?_ NB253_258.out _; (repeat refine zL ?_); refine blk_far ?_ NB253_258.out _; (repeat refine zL ?_); exact BK253.out⟩, ⟨by (repeat refine zL ?_); refine blk_put (cs := #[.int .i64 t254, .int .i64 t255, .int .i64 0]) ?_ 2 _ rfl; (repeat refine zL ?_); refine blk_put (cs := #[.int .i64 t254, .int .i64 0, .int .i64 0]) ?_ 1 _ rfl; (repeat refine zL ?_); refine blk_put (cs := #[.int .i64 0, .int .i64 0, .int .i64 0]) ?_ 0 _ rfl; (repeat refine zL ?_); exact BK258.out⟩, ⟨zH⟩⟩
   ·rw [if_neg c11] at H
    have c11b0 : decide ((l1.length : Int) < 1) = false := decide_eq_false c11
    have c11b1 : decide (l1.length < 1) = false := decide_eq_false (by omega)
    clear c11
    (first | rw [c11b0] | (simp only [i64_w, i32_w]; rw [c11b0]) | skip)
    by_cases c12 : (l1.length : Int) > 40
    ·rw [if_pos c12] at H
     have c12b0 : decide (40 < (l1.length : Int)) = true := decide_eq_true c12
     have c12b1 : decide (40 < l1.length) = true := decide_eq_true (by omega)
     clear c12
     have H' := Aside0.mk H
     clear H
     go_wp2
     go_meet
     case rel => exact ⟨_, (true), zF, H', ⟨by first | omega | exact Nat.le_refl _⟩, ⟨by (repeat refine zL ?_); refine blk_far ?_ NB253_258.out _; (repeat refine zL ?_); refine blk_far ?_ NB253_258.out _; (repeat refine zL ?_); refine blk_far ?_ NB253_258.out _; (repeat refine zL ?_); exact BK253.out⟩, ⟨by (repeat refine zL ?_); refine blk_put (cs := #[.int .i64 t254, .int .i64 t255, .int .i64 0]) ?_ 2 _ rfl; (repeat refine zL ?_); refine blk_put (cs := #[.int .i64 t254, .int .i64 0, .int .i64 0]) ?_ 1 _ rfl; (repeat refine zL ?_); refine blk_put (cs := #[.int .i64 0, .int .i64 0, .int .i64 0]) ?_ 0 _ rfl; (repeat refine zL ?_); exact BK258.out⟩, ⟨zH⟩⟩
    ·rw [if_neg c12] at H
     have c12b0 : decide (40 < (l1.length : Int)) = false := decide_eq_false c12
     have c12b1 : decide (40 < l1.length) = false := decide_eq_false (by omega)
     clear c12
     replace H := Option.bind_eq_some_iff.mp H
     obtain ⟨t259, A130, H⟩ := H
     (try dsimp -zeta -simprocs only at H)
     have A13 := Aside0.mk A130
     clear A130
     have H' := Aside0.mk H
     clear H
     have hnb14 := NB258_253.out
     have hnc14 := NB253_258.out
     obtain ⟨hcz15_0, hcz15_1, hcz15_2⟩ := zc3 BK258.out
     obtain ⟨hfz15_0, hfz15_1, hfz15_2, _, _⟩ := zf BK258.out
     go_wp2_with (first | (go_at_call 123; (with_reducible refine (impl_field_areElements.calls k t254 t255 t256 _ _ l1 t259 _ ?side1 ?side2 A13.out).mono ?_); (case side1 => exact Kd.C_below HR1.out zH); (case side2 => exact HC1.out); rintro e w16 ⟨rfl, hb⟩; replace BK253 := Aside0.mk (blk_below (g := gb253) (o := .cells #[.int .i64 0, .int .i64 0, .int .i64 0] 88 (0, 0)) (by (repeat refine zL ?_); refine blk_far ?_ NB253_258.out _; (repeat refine zL ?_); refine blk_far ?_ NB253_258.out _; (repeat refine zL ?_); refine blk_far ?_ NB253_258.out _; (repeat refine zL ?_); exact BK253.out) hb); replace BK258 := Aside0.mk (blk_below (g := gb258) (o := .cells #[.int .i64 t254, .int .i64 t255, .int .i64 t256] 88 (0, 0)) (by (repeat refine zL ?_); refine blk_put (cs := #[.int .i64 t254, .int .i64 t255, .int .i64 0]) ?_ 2 _ rfl; (repeat refine zL ?_); refine blk_put (cs := #[.int .i64 t254, .int .i64 0, .int .i64 0]) ?_ 1 _ rfl; (repeat refine zL ?_); refine blk_put (cs := #[.int .i64 0, .int .i64 0, .int .i64 0]) ?_ 0 _ rfl; (repeat refine zL ?_); exact BK258.out) hb); replace HB := zA (below_step zH hb); (try clear hb)))
     go_meet
     case rel => exact ⟨_, (!t259), zF, H', ⟨by first | omega | exact Nat.le_refl _⟩, ⟨zB BK253.out⟩, ⟨zB BK258.out⟩, ⟨zH⟩⟩
  ·replace c10 := Bool.eq_false_iff.mpr c10
   subst c10
   rw [if_neg (show ¬ (false = true) by decide)] at H
   have H' := Aside0.mk H
   clear H
   go_wp2
   go_meet
   case rel => exact ⟨_, (true), zF, H', ⟨by first | omega | exact Nat.le_refl _⟩, ⟨by (repeat refine zL ?_); refine blk_far ?_ NB253_258.out _; (repeat refine zL ?_); refine blk_far ?_ NB253_258.out _; (repeat refine zL ?_); refine blk_far ?_ NB253_258.out _; (repeat refine zL ?_); exact BK253.out⟩, ⟨by (repeat refine zL ?_); refine blk_put (cs := #[.int .i64 t254, .int .i64 t255, .int .i64 0]) ?_ 2 _ rfl; (repeat refine zL ?_); refine blk_put (cs := #[.int .i64 t254, .int .i64 0, .int .i64 0]) ?_ 1 _ rfl; (repeat refine zL ?_); refine blk_put (cs := #[.int .i64 0, .int .i64 0, .int .i64 0]) ?_ 0 _ rfl; (repeat refine zL ?_); exact BK258.out⟩, ⟨zH⟩⟩
 case rest =>
  clear HC4
  skip
  obtain ⟨kq, x34_3, rfl, HA, HJ3, BK253, BK258, HB⟩ := hcut
  cases kq with
  | zero => exact absurd HA.out (by simp [impl_pointField.j0])
  | succ kj3 =>
   have H := HA.out
   clear HA
   simp only [impl_pointField.j0] at H
   by_cases c17 : x34_3 = true
   ·subst c17
    rw [if_pos rfl] at H
    simp only [Option.some.injEq, Prod.mk.injEq] at H
    obtain ⟨rfl, rfl, rfl, rfl⟩ := H
    have hnb18 := NB253_258.out
    have hnc18 := NB258_253.out
    obtain ⟨hcz19_0, hcz19_1, hcz19_2⟩ := zc3 BK253.out
    obtain ⟨hfz19_0, hfz19_1, hfz19_2, _, _⟩ := zf BK253.out
    go_wp2
    refine bodyPost_ret (results_ct rfl _ _ gb253 88 #[.int .i64 0, .int .i64 0, .int .i64 0] (0, 0) _ rfl (by (repeat refine zL ?_); refine blk_put (cs := #[.int .i64 0, .int .i64 0, .int .i64 0]) ?_ 2 _ rfl; (repeat refine zL ?_); refine blk_put (cs := #[.int .i64 0, .int .i64 0, .int .i64 0]) ?_ 1 _ rfl; (repeat refine zL ?_); refine blk_put (cs := #[.int .i64 0, .int .i64 0, .int .i64 0]) ?_ 0 _ rfl; (repeat refine zL ?_); exact BK253.out) Try.underlying88 rfl (by kernel_rfl)) rfl ?_
    exact ⟨zE, zH⟩
   ·replace c17 := Bool.eq_false_iff.mpr c17
    subst c17
    rw [if_neg (show ¬ (false = true) by decide)] at H
    have H' := Aside0.mk H
    clear H
    go_wp2
    go_loopg [38] kj3 (fun kq v38 w' => ∃ (x38_2 : Int) (x254000_2 : Int) (x254001_2 : Int) (x254002_2 : Int), v38 = .int .i64 x38_2 ∧ Aside0 (impl_pointField.l0 kq l1 l1 (l1.length : Int) x38_2 t254 t255 t256 = some (r1, r2, r3, r4)) ∧ Aside0 (kq ≤ kj3) ∧ Aside0 (w'.heap[gb253]? = some (.cells #[.int .i64 x254000_2, .int .i64 x254001_2, .int .i64 x254002_2] 88 (0, 0))) ∧ Aside0 (w'.heap[gb258]? = some (.cells #[.int .i64 t254, .int .i64 t255, .int .i64 t256] 88 (0, 0))) ∧ Aside0 (Below w.heap.size w w'))
    case atStart => exact ⟨(0), (0), (0), (0), zF, H', ⟨Nat.le_refl _⟩, ⟨zB BK253.out⟩, ⟨zB BK258.out⟩, ⟨zH⟩⟩
    case round =>
     clear H'
     skip
     obtain ⟨x38_2, x254000_2, x254001_2, x254002_2, rfl, HA, HK2, BK253, BK258, HB⟩ := hrel
     cases gk with
     | zero => exact absurd HA.out (by simp [impl_pointField.l0])
     | succ k2 =>
      have H := HA.out
      clear HA
      simp only [impl_pointField.l0] at H
      by_cases c20 : x38_2 < (l1.length : Int)
      ·rw [if_pos c20] at H
       have c20b0 : decide (x38_2 < (l1.length : Int)) = true := decide_eq_true c20
       clear c20
       by_cases c21 : 0 ≤ x38_2
       ·rw [if_pos c21] at H
        have c21b0 : decide (0 ≤ x38_2) = true := decide_eq_true c21
        clear c21
        by_cases c22 : x38_2 < (l1.length : Int)
        ·rw [if_pos c22] at H
         have c22b0 : decide (x38_2 < (l1.length : Int)) = true := decide_eq_true c22
         clear c22
         have c23b0 := eq_true (zD : 0 ≤ x38_2)
         by_cases c24 : x38_2 ≤ (l1.length : Int)
         ·rw [if_pos c24] at H
          have c24b0 := eq_true c24
          have c24b1 : decide (x38_2 ≤ (l1.length : Int)) = true := decide_eq_true c24
          clear c24
          have H' := Aside0.mk H
          clear H
          have p260 : 0 ≤ (x38_2 : Int) := zD
          have q260 : x38_2 < (l1.length : Int) := zD
          obtain ⟨ad260, e260, hx260_0⟩ := Kd.at_int HR1.out x38_2 p260 q260
          cases e260
          replace hx260_0 := (HB.out.cell (World.block_lt_of_cell? w _ hx260_0)).trans hx260_0
          replace p260 := eq_true p260
          replace q260 := eq_true q260
          obtain ⟨i025, hi025, _, hsz25, _⟩ := info_parts info3
          obtain ⟨hcut25, hA25, hC25⟩ := print_take_of (P := Try.prog) (Value.int .i64) 0 22 3 .i64 Try.underlying22 hi025 hsz25 (some ad260) c1 l1 x38_2 zD zD HC1.out
          have h1_ : x38_2 ≤ (l1.length : Int) := zD
          have htl25 := Aside0.mk (show (x38_2 : Int).toNat = (l1.take (x38_2 : Int).toNat).length from by rw [List.length_take]; omega)
          have hmx25 := Aside0.mk (show ((l1.take (x38_2 : Int).toNat).length : Int) = max x38_2 0 from by rw [List.length_take]; omega)
          clear h1_
          have HR261 := Aside0.mk (Kd.C_of_reads (h1 := fun _ => rfl) (hA25 _ (Kd.reads_of_C HR1.out)))
          have HC261 := Aside0.mk hC25
          clear hA25 hC25 hi025 hsz25
          go_wp2
          go_loopg [47] k2 (fun kq v47 w' => ∃ (x47_3 : Int) (x254000_3 : Int) (x254001_3 : Int) (x254002_3 : Int), v47 = .int .i64 x47_3 ∧ Aside0 (impl_pointField.l1 kq l1 (rd l1 x38_2) l1 (l1.length : Int) x38_2 (l1.take (x38_2 : Int).toNat) ((l1.take (x38_2 : Int).toNat).length : Int) x47_3 t254 t255 t256 = some (r1, r2, r3, r4)) ∧ Aside0 (kq ≤ k2) ∧ Aside0 (w'.heap[gb253]? = some (.cells #[.int .i64 x254000_3, .int .i64 x254001_3, .int .i64 x254002_3] 88 (0, 0))) ∧ Aside0 (w'.heap[gb258]? = some (.cells #[.int .i64 t254, .int .i64 t255, .int .i64 t256] 88 (0, 0))) ∧ Aside0 (Below w.heap.size w w'))
          case atStart => exact ⟨(0), (x254000_2), (x254001_2), (x254002_2), zF, H', ⟨Nat.le_refl _⟩, ⟨zB BK253.out⟩, ⟨zB BK258.out⟩, ⟨zH⟩⟩
          case round =>
           clear H'
           skip
           obtain ⟨x47_3, x254000_3, x254001_3, x254002_3, rfl, HA, HK3, BK253, BK258, HB⟩ := hrel
           cases gk with
           | zero => exact absurd HA.out (by simp [impl_pointField.l1])
           | succ k3 =>
            have H := HA.out
            clear HA
            simp only [impl_pointField.l1] at H
            by_cases c26 : x47_3 < ((l1.take (x38_2 : Int).toNat).length : Int)
            ·rw [if_pos c26] at H
             have c26b0 : decide (x47_3 < ((l1.take (x38_2 : Int).toNat).length : Int)) = true := decide_eq_true c26
             have c26b0m : decide (x47_3 < max x38_2 0) = true := by rw [← hmx25.out]; exact c26b0
             clear c26
             by_cases c27 : 0 ≤ x47_3
             ·rw [if_pos c27] at H
              have c27b0 : decide (0 ≤ x47_3) = true := decide_eq_true c27
              clear c27
              by_cases c28 : x47_3 < ((l1.take (x38_2 : Int).toNat).length : Int)
              ·rw [if_pos c28] at H
               have c28b0 : decide (x47_3 < ((l1.take (x38_2 : Int).toNat).length : Int)) = true := decide_eq_true c28
               have c28b0m : decide (x47_3 < max x38_2 0) = true := by rw [← hmx25.out]; exact c28b0
               clear c28
               by_cases c29 : (rd l1 x38_2) = (rd (l1.take (x38_2 : Int).toNat) x47_3)
               ·rw [if_pos c29] at H
                have c29b0 : ((rd l1 x38_2) == (rd (l1.take (x38_2 : Int).toNat) x47_3)) = true := beq_iff_eq.mpr c29
                have c29b1 : ((rd l1 x38_2) != (rd (l1.take (x38_2 : Int).toNat) x47_3)) = false := bne_eq_false_iff_eq.mpr c29
                clear c29
                simp only [Option.some.injEq, Prod.mk.injEq] at H
                obtain ⟨rfl, rfl, rfl, rfl⟩ := H
                have p262 : 0 ≤ (x47_3 : Int) := zD
                have q262 : x47_3 < ((l1.take (x38_2 : Int).toNat).length : Int) := zD
                have q262m : (x47_3 < max x38_2 0) = True := eq_true (by rw [← hmx25.out]; exact q262)
                obtain ⟨ad262, e262, hx262_0⟩ := Kd.at_int HR261.out x47_3 p262 q262
                obtain rfl : ad260 = ad262 := (by injection e262)
                replace hx262_0 := (HB.out.cell (World.block_lt_of_cell? w _ hx262_0)).trans hx262_0
                replace p262 := eq_true p262
                replace q262 := eq_true q262
                have hnb30 := NB253_258.out
                have hnc30 := NB258_253.out
                obtain ⟨hcz31_0, hcz31_1, hcz31_2⟩ := zc3 BK253.out
                obtain ⟨hfz31_0, hfz31_1, hfz31_2, _, _⟩ := zf BK253.out
                go_wp2
                refine bodyPost_ret (results_ct rfl _ _ gb253 88 #[.int .i64 0, .int .i64 0, .int .i64 0] (0, 0) _ rfl (by (repeat refine zL ?_); refine blk_put (cs := #[.int .i64 0, .int .i64 0, .int .i64 x254002_3]) ?_ 2 _ rfl; (repeat refine zL ?_); refine blk_put (cs := #[.int .i64 0, .int .i64 x254001_3, .int .i64 x254002_3]) ?_ 1 _ rfl; (repeat refine zL ?_); refine blk_put (cs := #[.int .i64 x254000_3, .int .i64 x254001_3, .int .i64 x254002_3]) ?_ 0 _ rfl; (repeat refine zL ?_); exact BK253.out) Try.underlying88 rfl (by kernel_rfl)) rfl ?_
                exact ⟨zE, zH⟩
               ·rw [if_neg c29] at H
                have c29b0 : ((rd l1 x38_2) == (rd (l1.take (x38_2 : Int).toNat) x47_3)) = false := beq_eq_false_iff_ne.mpr c29
                have c29b1 : ((rd l1 x38_2) != (rd (l1.take (x38_2 : Int).toNat) x47_3)) = true := bne_iff_ne.mpr c29
                have H' := Aside0.mk H
                clear H
                have p262 : 0 ≤ (x47_3 : Int) := zD
                have q262 : x47_3 < ((l1.take (x38_2 : Int).toNat).length : Int) := zD
                have q262m : (x47_3 < max x38_2 0) = True := eq_true (by rw [← hmx25.out]; exact q262)
                obtain ⟨ad262, e262, hx262_0⟩ := Kd.at_int HR261.out x47_3 p262 q262
                obtain rfl : ad260 = ad262 := (by injection e262)
                replace hx262_0 := (HB.out.cell (World.block_lt_of_cell? w _ hx262_0)).trans hx262_0
                replace p262 := eq_true p262
                replace q262 := eq_true q262
                go_wp2
                go_roundg k3
                case measure => have := HJ3.out; have := HK2.out; have := HK3.out; omega
                case rel => exact ⟨(wrap64 (x47_3 + 1)), (x254000_3), (x254001_3), (x254002_3), zF, H', ⟨by have := HJ3.out; have := HK2.out; have := HK3.out; omega⟩, ⟨zB BK253.out⟩, ⟨zB BK258.out⟩, ⟨zH⟩⟩
              ·rw [if_neg c28] at H
               exact absurd H (by simp)
             ·rw [if_neg c27] at H
              exact absurd H (by simp)
            ·rw [if_neg c26] at H
             have c26b0 : decide (x47_3 < ((l1.take (x38_2 : Int).toNat).length : Int)) = false := decide_eq_false c26
             have c26b0m : decide (x47_3 < max x38_2 0) = false := by rw [← hmx25.out]; exact c26b0
             clear c26
             have H' := Aside0.mk H
             clear H
             go_wp2
             go_roundg k3
             case measure => have := HJ3.out; have := HK2.out; have := HK3.out; omega
             case rel => exact ⟨(wrap64 (x38_2 + 1)), (x254000_3), (x254001_3), (x254002_3), zF, H', ⟨by have := HJ3.out; have := HK2.out; have := HK3.out; omega⟩, ⟨zB BK253.out⟩, ⟨zB BK258.out⟩, ⟨zH⟩⟩
         ·rw [if_neg c24] at H
          exact absurd H (by simp)
        ·rw [if_neg c22] at H
         exact absurd H (by simp)
       ·rw [if_neg c21] at H
        exact absurd H (by simp)
      ·rw [if_neg c20] at H
       have c20b0 : decide (x38_2 < (l1.length : Int)) = false := decide_eq_false c20
       clear c20
       simp only [Option.some.injEq, Prod.mk.injEq] at H
       obtain ⟨rfl, rfl, rfl, rfl⟩ := H
       have hnb32 := NB258_253.out
       have hnc32 := NB253_258.out
       obtain ⟨hcz33_0, hcz33_1, hcz33_2⟩ := zc3 BK258.out
       obtain ⟨hfz33_0, hfz33_1, hfz33_2, _, _⟩ := zf BK258.out
       obtain ⟨hcz34_0, hcz34_1, hcz34_2⟩ := zc3 BK253.out
       obtain ⟨hfz34_0, hfz34_1, hfz34_2, _, _⟩ := zf BK253.out
       go_wp2
       refine bodyPost_ret (results_ct rfl _ _ gb253 88 #[.int .i64 t254, .int .i64 t255, .int .i64 t256] (0, 0) _ rfl (by (repeat refine zL ?_); refine blk_put (cs := #[.int .i64 t254, .int .i64 t255, .int .i64 x254002_2]) ?_ 2 _ rfl; (repeat refine zL ?_); refine blk_put (cs := #[.int .i64 t254, .int .i64 x254001_2, .int .i64 x254002_2]) ?_ 1 _ rfl; (repeat refine zL ?_); refine blk_put (cs := #[.int .i64 x254000_2, .int .i64 x254001_2, .int .i64 x254002_2]) ?_ 0 _ rfl; (repeat refine zL ?_); exact BK253.out) Try.underlying88 rfl (by kernel_rfl)) rfl ?_
       exact ⟨zE, zH⟩

/-! ### slices_Equal_int_int: function 72 -/
def slices_Equal_int_int.l0 : Nat → List Int → List Int → Int → Int → Option (Bool)
 | 0, _, _, _, _ => none
 | k + 1, x0, x1, x12, x13 => if x13 < x12 then (if 0 ≤ x13 then (if x13 < (x0.length : Int) then (if x13 < (x1.length : Int) then (if (rd x0 x13) = (rd x1 x13) then (slices_Equal_int_int.l0 k x0 x1 x12 (wrap64 (x13 + 1))) else (some false)) else (none)) else (none)) else (none)) else (some true)
def slices_Equal_int_int.f (k : Nat) (l0 : List Int) (l1 : List Int) : Option (Bool) := if (l0.length : Int) = (l1.length : Int) then (slices_Equal_int_int.l0 k l0 l1 (l0.length : Int) 0) else (some false)
theorem slices_Equal_int_int.mono_l : ∀ k, (∀ y0 y1 y2 y3, LeO (slices_Equal_int_int.l0 k y0 y1 y2 y3) (slices_Equal_int_int.l0 (k + 1) y0 y1 y2 y3))
 | 0 => fun _ _ _ _ r h => by simp [slices_Equal_int_int.l0] at h
 | k + 1 => by
  have ih0 := slices_Equal_int_int.mono_l k
  ·intro y0 y1 y2 y3
   unfold slices_Equal_int_int.l0
   repeat' first
   | (with_reducible exact ih0 _ _ _ _)
   | (with_reducible exact LeO.refl _)
   | (with_reducible exact LeO.none _)
   | (with_reducible refine LeO.ite ?_ ?_)
   | (with_reducible refine LeO.bind ?_ (fun _ => ?_))
   | exact ih0 _ _ _ _
   | exact LeO.none _
   | refine LeO.ite ?_ ?_
   | refine LeO.bind ?_ (fun _ => ?_)
theorem slices_Equal_int_int.mono : ∀ a0 a1 k, LeO (slices_Equal_int_int.f k a0 a1) (slices_Equal_int_int.f (k + 1) a0 a1) := by
 intro a0 a1 k
 have ih0 := slices_Equal_int_int.mono_l k
 unfold slices_Equal_int_int.f
 repeat' first
   | (with_reducible exact ih0 _ _ _ _)
   | (with_reducible exact LeO.refl _)
   | (with_reducible exact LeO.none _)
   | (with_reducible refine LeO.ite ?_ ?_)
   | (with_reducible refine LeO.bind ?_ (fun _ => ?_))
   | exact ih0 _ _ _ _
   | exact LeO.none _
   | refine LeO.ite ?_ ?_
   | refine LeO.bind ?_ (fun _ => ?_)
set_option maxHeartbeats 8000000 in
set_option maxRecDepth 100000 in
theorem slices_Equal_int_int.calls (k : Nat) (A0 : Option Addr) (c0 : Nat) (l0 : List Int) (A1 : Option Addr) (c1 : Nat) (l1 : List Int) (r : Bool) (w : World) (hr0 : Kd.C (Kd.int .i64) w A0 l0.length l0) (hc0 : l0.length ≤ c0) (hr1 : Kd.C (Kd.int .i64) w A1 l1.length l1) (hc1 : l1.length ≤ c1) (h : slices_Equal_int_int.f k l0 l1 = some r) :
  Calls Try.prog 72 #[.slice A0 l0.length c0, .slice A1 l1.length c1] w fun e w' => e = .returned (.bool r) ∧ Drawn0 w w' := by
 have HR0 := Aside0.mk hr0
 have HC0 := Aside0.mk hc0
 clear hr0 hc0
 have HR1 := Aside0.mk hr1
 have HC1 := Aside0.mk hc1
 clear hr1 hc1
 have H : (if (l0.length : Int) = (l1.length : Int) then (slices_Equal_int_int.l0 k l0 l1 (l0.length : Int) 0) else (some false)) = some r := h
 clear h
 by_cases c3 : (l0.length : Int) = (l1.length : Int)
 ·rw [if_pos c3] at H
  have c3b0 : ((l0.length : Int) == (l1.length : Int)) = true := beq_iff_eq.mpr c3
  have c3b1 : ((l0.length : Int) != (l1.length : Int)) = false := bne_eq_false_iff_eq.mpr c3
  have c3b2 : (l0.length == l1.length) = true := by first | simpa using c3 | (simp at c3 ⊢; omega)
  clear c3
  have H' := Aside0.mk H
  clear H
  go_enter Try.func72, Try.ntmps72
  go_wp2
  repeat (go_quiet (fail); try go_wp2)
  go_loopg [13] k (fun kq v13 w' => ∃ (x13_1 : Int), v13 = .int .i64 x13_1 ∧ Aside0 (slices_Equal_int_int.l0 kq l0 l1 (l0.length : Int) x13_1 = some r) ∧ Aside0 (kq ≤ k) ∧ Drawn0 w w')
  case atStart => exact ⟨(0), zF, H', ⟨Nat.le_refl _⟩, by repeat (first | exact Drawn0.refl _ | apply Drawn0.step)⟩
  case round =>
   clear H'
   skip
   obtain ⟨x13_1, rfl, HA, HK1, ⟨m1, rfl⟩⟩ := hrel
   cases gk with
   | zero => exact absurd HA.out (by simp [slices_Equal_int_int.l0])
   | succ k1 =>
    have H := HA.out
    clear HA
    simp only [slices_Equal_int_int.l0] at H
    by_cases c4 : x13_1 < (l0.length : Int)
    ·rw [if_pos c4] at H
     have c4b0 : decide (x13_1 < (l0.length : Int)) = true := decide_eq_true c4
     clear c4
     by_cases c5 : 0 ≤ x13_1
     ·rw [if_pos c5] at H
      have c5b0 : decide (0 ≤ x13_1) = true := decide_eq_true c5
      clear c5
      by_cases c6 : x13_1 < (l0.length : Int)
      ·rw [if_pos c6] at H
       have c6b0 : decide (x13_1 < (l0.length : Int)) = true := decide_eq_true c6
       clear c6
       by_cases c7 : x13_1 < (l1.length : Int)
       ·rw [if_pos c7] at H
        have c7b0 : decide (x13_1 < (l1.length : Int)) = true := decide_eq_true c7
        clear c7
        by_cases c8 : (rd l0 x13_1) = (rd l1 x13_1)
        ·rw [if_pos c8] at H
         have c8b0 : ((rd l0 x13_1) == (rd l1 x13_1)) = true := beq_iff_eq.mpr c8
         have c8b1 : ((rd l0 x13_1) != (rd l1 x13_1)) = false := bne_eq_false_iff_eq.mpr c8
         clear c8
         have H' := Aside0.mk H
         clear H
         have p263 : 0 ≤ (x13_1 : Int) := zD
         have q263 : x13_1 < (l0.length : Int) := zD
         obtain ⟨ad263, e263, hx263_0⟩ := Kd.at_int HR0.out x13_1 p263 q263
         cases e263
         replace p263 := eq_true p263
         replace q263 := eq_true q263
         have p264 : 0 ≤ (x13_1 : Int) := zD
         have q264 : x13_1 < (l1.length : Int) := zD
         obtain ⟨ad264, e264, hx264_0⟩ := Kd.at_int HR1.out x13_1 p264 q264
         cases e264
         replace p264 := eq_true p264
         replace q264 := eq_true q264
         go_wp2
         repeat (go_quiet (fail); try go_wp2)
         go_roundg k1
         case measure => have := HK1.out; omega
         case rel => exact ⟨(wrap64 (x13_1 + 1)), zF, H', ⟨by have := HK1.out; omega⟩, by repeat (first | exact Drawn0.refl _ | apply Drawn0.step)⟩
        ·rw [if_neg c8] at H
         have c8b0 : ((rd l0 x13_1) == (rd l1 x13_1)) = false := beq_eq_false_iff_ne.mpr c8
         have c8b1 : ((rd l0 x13_1) != (rd l1 x13_1)) = true := bne_iff_ne.mpr c8
         obtain rfl := Option.some.inj H
         have p263 : 0 ≤ (x13_1 : Int) := zD
         have q263 : x13_1 < (l0.length : Int) := zD
         obtain ⟨ad263, e263, hx263_0⟩ := Kd.at_int HR0.out x13_1 p263 q263
         cases e263
         replace p263 := eq_true p263
         replace q263 := eq_true q263
         have p264 : 0 ≤ (x13_1 : Int) := zD
         have q264 : x13_1 < (l1.length : Int) := zD
         obtain ⟨ad264, e264, hx264_0⟩ := Kd.at_int HR1.out x13_1 p264 q264
         cases e264
         replace p264 := eq_true p264
         replace q264 := eq_true q264
         go_wp2
         repeat (go_quiet (fail); try go_wp2)
         go_ret
         exact ⟨zF, by repeat (first | exact Drawn0.refl _ | apply Drawn0.step)⟩
       ·rw [if_neg c7] at H
        exact absurd H (by simp)
      ·rw [if_neg c6] at H
       exact absurd H (by simp)
     ·rw [if_neg c5] at H
      exact absurd H (by simp)
    ·rw [if_neg c4] at H
     have c4b0 : decide (x13_1 < (l0.length : Int)) = false := decide_eq_false c4
     clear c4
     obtain rfl := Option.some.inj H
     go_wp2
     repeat (go_quiet (fail); try go_wp2)
     go_ret
     exact ⟨zF, by repeat (first | exact Drawn0.refl _ | apply Drawn0.step)⟩
 ·rw [if_neg c3] at H
  have c3b0 : ((l0.length : Int) == (l1.length : Int)) = false := beq_eq_false_iff_ne.mpr c3
  have c3b1 : ((l0.length : Int) != (l1.length : Int)) = true := bne_iff_ne.mpr c3
  have c3b2 : (l0.length == l1.length) = false := by first | simpa using c3 | (simp at c3 ⊢; omega)
  obtain rfl := Option.some.inj H
  go_enter Try.func72, Try.ntmps72
  go_wp2
  repeat (go_quiet (fail); try go_wp2)
  go_ret
  exact ⟨zF, by repeat (first | exact Drawn0.refl _ | apply Drawn0.step)⟩

/-! ### impl_field_mul: function 129 -/
def impl_field_mul.f (a0_0 : Int) (a0_1 : Int) (a0_2 : Int) (a1 : Int) (a2 : Int) : Option (Int) := if a0_0 = 0 then (none) else (some (Int.tmod (wrap64 (a1 * a2)) a0_0))
set_option maxHeartbeats 8000000 in
set_option maxRecDepth 100000 in
theorem impl_field_mul.calls (a0_0 : Int) (a0_1 : Int) (a0_2 : Int) (a1 : Int) (a2 : Int) (r : Int) (w : World) (h : impl_field_mul.f a0_0 a0_1 a0_2 a1 a2 = some r) :
  Calls Try.prog 129 #[.agg #[.int .i64 a0_0, .int .i64 a0_1, .int .i64 a0_2], .int .i64 a1, .int .i64 a2] w fun e w' => e = .returned (.int .i64 r) ∧ Below w.heap.size w w' := by
 have hu88 := Try.underlying88
 have HB := Aside0.mk (Below.refl w.heap.size w)
 have H : (if a0_0 = 0 then (none) else (some (Int.tmod (wrap64 (a1 * a2)) a0_0))) = some r := h
 clear h
 by_cases c4 : a0_0 = 0
 ·rw [if_pos c4] at H
  exact absurd H (by simp)
 ·rw [if_neg c4] at H
  have c4b0 : (a0_0 == 0) = false := beq_eq_false_iff_ne.mpr c4
  have c4b1 : (a0_0 != 0) = true := bne_iff_ne.mpr c4
  obtain rfl := Option.some.inj H
  go_enter Try.func129, Try.ntmps129
  go_wp2_with (first | ((with_reducible refine gate_dst (N := 3) rfl ?_); refine box_event ?hg (N := 3) ?hd (cs := #[.int .i64 a0_0, .int .i64 a0_1, .int .i64 a0_2]) (t := 88) ?hr ?_; (case hd => rfl); (case hg => rfl); (case hr => first | (go_simp; done) | (go_simp; rfl)); intro gb265 hg w5 hbox hb; have BK265 := zA (hbox); have GW265 := zA ((by rw [hg]; exact (below_size zH) : w.heap.size ≤ gb265)); have GE265 := zA ((by rw [hg]; exact (below_size zH) : w.heap.size ≤ gb265)); replace HB := zA (below_step zH hb); clear hb hbox hg; obtain ⟨hcz6_0, hcz6_1, hcz6_2⟩ := zc3 BK265.out; obtain ⟨hfz6_0, hfz6_1, hfz6_2, _, _⟩ := zf BK265.out))
  go_ret
  exact ⟨zE, zH⟩

end Go.Proofs.Ytabicblkdgpogaa.QFnCertTrue
