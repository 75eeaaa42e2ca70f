-- Made by this session's program (wip/tools/myprint.py) out of the translation; Lean checks it.
import Derived.Test.YtabicblkdgpogaaQFnCertTruex0
import Derived.Test.YtabicblkdgpogaaQFnCertTruex5
namespace Go.Proofs.Ytabicblkdgpogaa.QFnCertTrue
open Go.RowKit Go.Proofs.YtabicblkdgpogaaW.PrintWords Go.Proofs.YtabicblkdgpogaaW.PrintLast Go.Proofs.YtabicblkdgpogaaW.PrintMore
attribute [local go_sem] max2_int min2_int max_two min_two max_three min_three max_four min_four   -- for this text's walks alone
set_option linter.unusedVariables false
set_option linter.unusedSimpArgs false

/-! ### impl_field_mulPoly: function 77 -/
mutual
def impl_field_mulPoly.j0 : Nat → List Int → List Int → Bool → Int → Int → Int → Option (List Int)
 | 0, _, _, _, _, _, _ => none
 | k + 1, x1, x2, x19, x219000, x219001, x219002 => if x19 = true then (some ([] : List Int)) else (if 0 ≤ (wrap64 ((wrap64 ((x1.length : Int) + (x2.length : Int))) - 1)) then (if (wrap64 ((wrap64 ((x1.length : Int) + (x2.length : Int))) - 1) : Int).toNat ≤ 35184372088832 then (impl_field_mulPoly.l0 k x2 (List.replicate (wrap64 ((wrap64 ((x1.length : Int) + (x2.length : Int))) - 1) : Int).toNat 0) x1 (x1.length : Int) 0 x219000 x219001 x219002) else (none)) else (none))
def impl_field_mulPoly.l0 : Nat → List Int → List Int → List Int → Int → Int → Int → Int → Int → Option (List Int)
 | 0, _, _, _, _, _, _, _, _ => none
 | k + 1, x2, x7, x27, x28, x29, x219000, x219001, x219002 => if x29 < x28 then (if 0 ≤ x29 then (if x29 < (x27.length : Int) then (impl_field_mulPoly.l1 k x2 x7 x29 (rd x27 x29) x27 x28 x29 x2 (x2.length : Int) 0 x219000 x219001 x219002) else (none)) else (none)) else ((impl_trimmed.f k x7).bind fun t222 => (some t222))
def impl_field_mulPoly.l1 : Nat → List Int → List Int → Int → Int → List Int → Int → Int → List Int → Int → Int → Int → Int → Int → Option (List Int)
 | 0, _, _, _, _, _, _, _, _, _, _, _, _, _ => none
 | k + 1, x2, x7, x8, x9, x27, x28, x29, x34, x35, x36, x219000, x219001, x219002 => if x36 < x35 then (if 0 ≤ x36 then (if x36 < (x34.length : Int) then (if 0 ≤ (wrap64 (x8 + x36)) then (if (wrap64 (x8 + x36)) < (x7.length : Int) then (if x219000 = 0 then (none) else (impl_field_mulPoly.l1 k x2 (x7.set ((wrap64 (x8 + x36)) : Int).toNat (Int.tmod (wrap64 ((rd x7 (wrap64 (x8 + x36))) + (wrap64 (x9 * (rd x34 x36))))) x219000)) x8 x9 x27 x28 x29 x34 x35 (wrap64 (x36 + 1)) x219000 x219001 x219002)) else (none)) else (none)) else (none)) else (none)) else (impl_field_mulPoly.l0 k x2 x7 x27 x28 (wrap64 (x29 + 1)) x219000 x219001 x219002)
end
def impl_field_mulPoly.f (k : Nat) (a0_0 : Int) (a0_1 : Int) (a0_2 : Int) (l1 : List Int) (l2 : List Int) : Option (List Int) := if (l1.length : Int) = 0 then (impl_field_mulPoly.j0 k l1 l2 true a0_0 a0_1 a0_2) else (impl_field_mulPoly.j0 k l1 l2 ((l2.length : Int) == 0) a0_0 a0_1 a0_2)
theorem impl_field_mulPoly.mono_l : ∀ k, (∀ y0 y1 y2 y3 y4 y5, LeO (impl_field_mulPoly.j0 k y0 y1 y2 y3 y4 y5) (impl_field_mulPoly.j0 (k + 1) y0 y1 y2 y3 y4 y5)) ∧ (∀ y0 y1 y2 y3 y4 y5 y6 y7, LeO (impl_field_mulPoly.l0 k y0 y1 y2 y3 y4 y5 y6 y7) (impl_field_mulPoly.l0 (k + 1) y0 y1 y2 y3 y4 y5 y6 y7)) ∧ (∀ y0 y1 y2 y3 y4 y5 y6 y7 y8 y9 y10 y11 y12, LeO (impl_field_mulPoly.l1 k y0 y1 y2 y3 y4 y5 y6 y7 y8 y9 y10 y11 y12) (impl_field_mulPoly.l1 (k + 1) y0 y1 y2 y3 y4 y5 y6 y7 y8 y9 y10 y11 y12))
 | 0 => ⟨fun _ _ _ _ _ _ r h => by simp [impl_field_mulPoly.j0] at h, fun _ _ _ _ _ _ _ _ r h => by simp [impl_field_mulPoly.l0] at h, fun _ _ _ _ _ _ _ _ _ _ _ _ _ r h => by simp [impl_field_mulPoly.l1] at h⟩
 | k + 1 => by
  obtain ⟨ih0, ih1, ih2⟩ := impl_field_mulPoly.mono_l k
  refine ⟨?_, ?_, ?_⟩
  ·intro y0 y1 y2 y3 y4 y5
   unfold impl_field_mulPoly.j0
   repeat' first
   | (with_reducible exact ih0 _ _ _ _ _ _)
   | (with_reducible exact ih1 _ _ _ _ _ _ _ _)
   | (with_reducible exact ih2 _ _ _ _ _ _ _ _ _ _ _ _ _)
   | (with_reducible exact impl_trimmed.mono _ _)
   | (with_reducible exact LeO.refl _)
   | (with_reducible exact LeO.none _)
   | (with_reducible refine LeO.ite ?_ ?_)
   | (with_reducible refine LeO.bind ?_ (fun _ => ?_))
   | exact ih0 _ _ _ _ _ _
   | exact ih1 _ _ _ _ _ _ _ _
   | exact ih2 _ _ _ _ _ _ _ _ _ _ _ _ _
   | exact impl_trimmed.mono _ _
   | exact LeO.none _
   | refine LeO.ite ?_ ?_
   | refine LeO.bind ?_ (fun _ => ?_)
  ·intro y0 y1 y2 y3 y4 y5 y6 y7
   unfold impl_field_mulPoly.l0
   repeat' first
   | (with_reducible exact ih0 _ _ _ _ _ _)
   | (with_reducible exact ih1 _ _ _ _ _ _ _ _)
   | (with_reducible exact ih2 _ _ _ _ _ _ _ _ _ _ _ _ _)
   | (with_reducible exact impl_trimmed.mono _ _)
   | (with_reducible exact LeO.refl _)
   | (with_reducible exact LeO.none _)
   | (with_reducible refine LeO.ite ?_ ?_)
   | (with_reducible refine LeO.bind ?_ (fun _ => ?_))
   | exact ih0 _ _ _ _ _ _
   | exact ih1 _ _ _ _ _ _ _ _
   | exact ih2 _ _ _ _ _ _ _ _ _ _ _ _ _
   | exact impl_trimmed.mono _ _
   | exact LeO.none _
   | refine LeO.ite ?_ ?_
   | refine LeO.bind ?_ (fun _ => ?_)
  ·intro y0 y1 y2 y3 y4 y5 y6 y7 y8 y9 y10 y11 y12
   unfold impl_field_mulPoly.l1
   repeat' first
   | (with_reducible exact ih0 _ _ _ _ _ _)
   | (with_reducible exact ih1 _ _ _ _ _ _ _ _)
   | (with_reducible exact ih2 _ _ _ _ _ _ _ _ _ _ _ _ _)
   | (with_reducible exact impl_trimmed.mono _ _)
   | (with_reducible exact LeO.refl _)
   | (with_reducible exact LeO.none _)
   | (with_reducible refine LeO.ite ?_ ?_)
   | (with_reducible refine LeO.bind ?_ (fun _ => ?_))
   | exact ih0 _ _ _ _ _ _
   | exact ih1 _ _ _ _ _ _ _ _
   | exact ih2 _ _ _ _ _ _ _ _ _ _ _ _ _
   | exact impl_trimmed.mono _ _
   | exact LeO.none _
   | refine LeO.ite ?_ ?_
   | refine LeO.bind ?_ (fun _ => ?_)
theorem impl_field_mulPoly.mono : ∀ a0 a1 a2 a3 a4 k, LeO (impl_field_mulPoly.f k a0 a1 a2 a3 a4) (impl_field_mulPoly.f (k + 1) a0 a1 a2 a3 a4) := by
 intro a0 a1 a2 a3 a4 k
 obtain ⟨ih0, ih1, ih2⟩ := impl_field_mulPoly.mono_l k
 unfold impl_field_mulPoly.f
 repeat' first
   | (with_reducible exact ih0 _ _ _ _ _ _)
   | (with_reducible exact ih1 _ _ _ _ _ _ _ _)
   | (with_reducible exact ih2 _ _ _ _ _ _ _ _ _ _ _ _ _)
   | (with_reducible exact impl_trimmed.mono _ _)
   | (with_reducible exact LeO.refl _)
   | (with_reducible exact LeO.none _)
   | (with_reducible refine LeO.ite ?_ ?_)
   | (with_reducible refine LeO.bind ?_ (fun _ => ?_))
   | exact ih0 _ _ _ _ _ _
   | exact ih1 _ _ _ _ _ _ _ _
   | exact ih2 _ _ _ _ _ _ _ _ _ _ _ _ _
   | exact impl_trimmed.mono _ _
   | exact LeO.none _
   | refine LeO.ite ?_ ?_
   | refine LeO.bind ?_ (fun _ => ?_)
def impl_field_mulPoly.T10 : Bool × List (List Nat × List Nat) := (true, [([], []), ([], []), ([], []), ([1, 2], [1, 2]), ([], []), ([], []), ([], []), ([5, 6], [5, 6]), ([4, 7], [4, 7]), ([8], [8]), ([], []), ([], []), ([10, 11], [10, 11]), ([9, 12], [9, 12]), ([], []), ([14], [14]), ([13, 15], [13, 15]), ([0, 3, 0, 1, 2, 3, 4, 5, 6, 7, 8, 9, 10, 11, 12, 13, 14, 15, 16], [0, 3]), ([17, 16, 0, 1, 2, 3, 4, 5, 6, 7, 8, 9, 10, 11, 12, 13, 14, 15, 16], [16, 17])])
def impl_field_mulPoly.B10 : List Nat := [0, 0, 0, 6, 0, 0, 0, 96, 240, 496, 0, 0, 3072, 8176, 0, 16384, 65520, 131071, 262143]
theorem impl_field_mulPoly.tab10 : rtab .any (opsOf Try.f77 10) = impl_field_mulPoly.T10 := by kernel_rfl
theorem impl_field_mulPoly.bits10 : waitsOk impl_field_mulPoly.T10.2 impl_field_mulPoly.B10 = true := by kernel_rfl
set_option maxHeartbeats 8000000 in
set_option maxRecDepth 100000 in
theorem impl_field_mulPoly.calls (k : Nat) (a0_0 : Int) (a0_1 : Int) (a0_2 : Int) (A1 : Option Addr) (c1 : Nat) (l1 : List Int) (A2 : Option Addr) (c2 : Nat) (l2 : List Int) (r : List Int) (w : World) (hr1 : Kd.C (Kd.int .i64) w A1 l1.length l1) (hc1 : l1.length ≤ c1) (hr2 : Kd.C (Kd.int .i64) w A2 l2.length l2) (hc2 : l2.length ≤ c2) (h : impl_field_mulPoly.f k a0_0 a0_1 a0_2 l1 l2 = some r) :
  Calls Try.prog 77 #[.agg #[.int .i64 a0_0, .int .i64 a0_1, .int .i64 a0_2], .slice A1 l1.length c1, .slice A2 l2.length c2] w fun e w' => ∃ v0_ : Value, e = .returned (v0_) ∧ Kd.V (Kd.int .i64) 3 w' w.heap.size (fun k_ => (w.heap.size ≤ k_)) v0_ r ∧ Below w.heap.size w w' := by
 have hu88 := Try.underlying88
 have HR1 := Aside0.mk hr1
 have HC1 := Aside0.mk hc1
 clear hr1 hc1
 have HR2 := Aside0.mk hr2
 have HC2 := Aside0.mk hc2
 clear hr2 hc2
 have HB := Aside0.mk (Below.refl w.heap.size w)
 have H : (if (l1.length : Int) = 0 then (impl_field_mulPoly.j0 k l1 l2 true a0_0 a0_1 a0_2) else (impl_field_mulPoly.j0 k l1 l2 ((l2.length : Int) == 0) a0_0 a0_1 a0_2)) = some r := h
 clear h
 have HC4 := Aside0.mk H
 clear H
 go_enter Try.func77, Try.ntmps77
 go_upto_region 1 with (first | ((with_reducible refine gate_dst (N := 3) rfl ?_); (try (refine gate_guard (by rfl) ?_; dsimp only)); refine box_event ?hg (N := 3) ?hd (cs := #[.int .i64 a0_0, .int .i64 a0_1, .int .i64 a0_2]) (t := 88) ?hr ?_; (case hd => rfl); (case hg => rfl); (case hr => first | (go_simp; done) | (go_simp; rfl)); intro gb218 hg w5 hbox hb; have BK218 := zA (hbox); have GW218 := zA ((by rw [hg]; exact (below_size zH) : w.heap.size ≤ gb218)); have GE218 := zA ((by rw [hg]; exact (below_size zH) : w.heap.size ≤ gb218)); replace HB := zA (below_step zH hb); clear hb hbox hg))
 (try simp only [Act.put, List.setIfInBounds_toArray, List.set_cons_zero, List.set_cons_succ])
 go_cut [19] (fun v19 wc => ∃ (kq : Nat) (x19_3 : Bool), v19 = .bool x19_3 ∧ Aside0 (impl_field_mulPoly.j0 kq l1 l2 x19_3 a0_0 a0_1 a0_2 = some r) ∧ Aside0 (kq ≤ k) ∧ Aside0 (wc.heap[gb218]? = some (.cells #[.int .i64 a0_0, .int .i64 a0_1, .int .i64 a0_2] 88 (0, 0))) ∧ Aside0 (Below w.heap.size w wc))
 case first =>
  have H := HC4.out
  clear HC4
  by_cases c6 : (l1.length : Int) = 0
  ·rw [if_pos c6] at H
   have c6b0 : ((l1.length : Int) == 0) = true := beq_iff_eq.mpr c6
   have c6b1 : ((l1.length : Int) != 0) = false := bne_eq_false_iff_eq.mpr c6
   clear c6
   (first | rw [c6b0] | (simp only [i64_w, i32_w]; rw [c6b0]) | skip)
   have H' := Aside0.mk H
   clear H
   go_wp2
   go_meet
   case rel => exact ⟨_, (true), zF, H', ⟨by first | omega | exact Nat.le_refl _⟩, ⟨zB BK218.out⟩, ⟨zH⟩⟩
  ·rw [if_neg c6] at H
   have c6b0 : ((l1.length : Int) == 0) = false := beq_eq_false_iff_ne.mpr c6
   have c6b1 : ((l1.length : Int) != 0) = true := bne_iff_ne.mpr c6
   have c6b2 : ¬ (l1 = []) := fun h_ => c6 (by rw [h_]; rfl)
   (first | rw [c6b0] | (simp only [i64_w, i32_w]; rw [c6b0]) | skip)
   have H' := Aside0.mk H
   clear H
   go_wp2
   go_meet
   case rel => exact ⟨_, (((l2.length : Int) == 0)), zF, H', ⟨by first | omega | exact Nat.le_refl _⟩, ⟨zB BK218.out⟩, ⟨zH⟩⟩
 case rest =>
  clear HC4
  (try clear c1);(try clear c2);(try clear p2);(try clear c6);(try clear c6b0);(try clear c6b1);(try clear c6b2)
  obtain ⟨kq, x19_3, rfl, HA, HJ3, BK218, HB⟩ := hcut
  cases kq with
  | zero => exact absurd HA.out (by simp [impl_field_mulPoly.j0])
  | succ kj3 =>
   have H := HA.out
   clear HA
   simp only [impl_field_mulPoly.j0] at H
   by_cases c7 : x19_3 = true
   ·subst c7
    rw [if_pos rfl] at H
    obtain rfl := Option.some.inj H
    go_wp2
    go_ret
    exact ⟨.slice none 0 0, zE, Kd.R_V (by first | exact Kd.R_nil _ _ _ _ _ | exact Kd.R_nil _ _ _ w.heap.size _ | exact Kd.N_nil _ _ _ _ _ | exact Kd.V_nil _ _ _ _ _ | exact Kd.Q_nil _ _ _ _ _ | exact Kd.S_nil _ _ _ _ _), zH⟩
   ·replace c7 := Bool.eq_false_iff.mpr c7
    subst c7
    rw [if_neg (show ¬ (false = true) by decide)] at H
    obtain ⟨ji8, hji8⟩ : ∃ j_ : Int, (wrap64 ((wrap64 ((l1.length : Int) + (l2.length : Int))) - 1)) = j_ := ⟨_, rfl⟩
    replace H : (if 0 ≤ (ji8) then (if (ji8 : Int).toNat ≤ 35184372088832 then (impl_field_mulPoly.l0 kj3 l2 (List.replicate (ji8 : Int).toNat 0) l1 (l1.length : Int) 0 a0_0 a0_1 a0_2) else (none)) else (none)) = some r := by first | (rw [hji8] at H; exact H) | (simp only [hji8] at H ⊢; exact H)
    have hji8w : (IntKind.i64.wrap ((wrap64 ((l1.length : Int) + (l2.length : Int))) - 1)) = ji8 := (i64_w _).trans hji8
    by_cases c9 : 0 ≤ (ji8)
    ·rw [if_pos c9] at H
     have c9b0 := eq_true c9
     have c9b1 : decide (0 ≤ (ji8)) = true := decide_eq_true c9
     clear c9
     by_cases c10 : (ji8 : Int).toNat ≤ 35184372088832
     ·rw [if_pos c10] at H
      have c10b0 := eq_true c10
      have c10b1 : decide ((ji8 : Int).toNat ≤ 35184372088832) = true := decide_eq_true c10
      clear c10
      obtain ⟨y219, hy219⟩ : ∃ y_ : List Int, y_ = (List.replicate (ji8 : Int).toNat 0) := ⟨_, rfl⟩
      replace H : (impl_field_mulPoly.l0 kj3 l2 y219 l1 (l1.length : Int) 0 a0_0 a0_1 a0_2) = some r := by first | (rw [hy219]; with_reducible exact H) | (have H2_ := (Option.bind_some _ _).symm.trans H; rw [hy219]; with_reducible exact H2_) | (have H2_ := (Option.bind_some _ _).symm.trans H; with_reducible exact H2_) | with_reducible exact H | (rw [hy219]; exact H) | exact H
      have Ny219 := Aside0.mk hy219
      clear hy219
      have H' := Aside0.mk H
      clear H
      go_wp2_with (first | ((with_reducible refine gate_dst (N := 26) rfl ?_); (try (refine gate_guard (by rfl) ?_; dsimp only)); refine Kd.R_make (Kd.int .i64) _ 3 rfl (N := 26) rfl 22 _ _ rfl ji8 rfl rfl Try.underlying22 (.int .i64 0) 8 info3 rfl (by decide) (by omega) 0 (ok := fun _ => True) (okp := fun _ => True) rfl (fun _ hk => hk) trivial zD (Nat.le_trans (Nat.mul_le_mul_right _ (zD : ji8.toNat ≤ 35184372088832)) (by omega)) (Below.refl _ _) (Nat.le_refl _) ?_; intro v220 w11 ho12 hb hg_ hnew_; clear hg_ hnew_; (first | rw [← Ny219.out] at ho12 | (simp only [Int.reduceToNat] at ho12; rw [← Ny219.out] at ho12)); have HO221 := Aside0.mk (Kd.R_lower (Kd.R_newM (M := fun k_ => (w.heap.size ≤ k_)) ho12 (below_size zH) (fun k_ h_ => h_)) (below_size zH)); replace BK218 := zb BK218.out hb; replace HB := zA (below_step zH hb); clear hb ho12))
      go_loopg [29] kj3 (fun kq v29 w' => ∃ (x7_2 : List Int) (x29_2 : Int), v29 = .int .i64 x29_2 ∧ Aside0 (impl_field_mulPoly.l0 kq l2 x7_2 l1 (l1.length : Int) x29_2 a0_0 a0_1 a0_2 = some r) ∧ Aside0 (kq ≤ kj3) ∧ Aside0 (Kd.R (Kd.int .i64) 3 w' w.heap.size (fun k_ => (w.heap.size ≤ k_)) v220 x7_2) ∧ Aside0 (w'.heap[gb218]? = some (.cells #[.int .i64 a0_0, .int .i64 a0_1, .int .i64 a0_2] 88 (0, 0))) ∧ Aside0 (Below w.heap.size w w'))
      case atStart => exact ⟨(y219), (0), zF, H', ⟨Nat.le_refl _⟩, ⟨by (with_reducible repeat (first | apply Kd.R_alloc | apply Kd.R_drewN | apply Kd.R_drew)); exact Kd.R_mono HO221.out (fun _ hk => hk.1)⟩, ⟨zB BK218.out⟩, ⟨zH⟩⟩
      case round =>
       clear H'
       (try clear c1);(try clear c2);(try clear p2);(try clear c6);(try clear c6b0);(try clear c6b1);(try clear c6b2);(try clear p6);(try clear c7);(try clear c9);(try clear c9b0);(try clear c9b1);(try clear c10);(try clear c10b0);(try clear c10b1);(try clear p2)
       obtain ⟨x7_2, x29_2, rfl, HA, HK2, HO_7, BK218, HB⟩ := hrel
       cases gk with
       | zero => exact absurd HA.out (by simp [impl_field_mulPoly.l0])
       | succ k2 =>
        have H := HA.out
        clear HA
        simp only [impl_field_mulPoly.l0] at H
        by_cases c13 : x29_2 < (l1.length : Int)
        ·rw [if_pos c13] at H
         have c13b0 : decide (x29_2 < (l1.length : Int)) = true := decide_eq_true c13
         clear c13
         by_cases c14 : 0 ≤ x29_2
         ·rw [if_pos c14] at H
          have c14b0 : decide (0 ≤ x29_2) = true := decide_eq_true c14
          clear c14
          by_cases c15 : x29_2 < (l1.length : Int)
          ·rw [if_pos c15] at H
           have c15b0 : decide (x29_2 < (l1.length : Int)) = true := decide_eq_true c15
           clear c15
           have H' := Aside0.mk H
           clear H
           have p225 : 0 ≤ (x29_2 : Int) := zD
           have q225 : x29_2 < (l1.length : Int) := zD
           obtain ⟨ad225, e225, hx225_0⟩ := Kd.at_int HR1.out x29_2 p225 q225
           cases e225
           replace hx225_0 := (HB.out.cell (World.block_lt_of_cell? w _ hx225_0)).trans hx225_0
           replace p225 := eq_true p225
           replace q225 := eq_true q225
           go_wp2
           go_loopg [36] k2 (fun kq v36 w' => ∃ (x7_3 : List Int) (x36_3 : Int), v36 = .int .i64 x36_3 ∧ Aside0 (impl_field_mulPoly.l1 kq l2 x7_3 x29_2 (rd l1 x29_2) l1 (l1.length : Int) x29_2 l2 (l2.length : Int) x36_3 a0_0 a0_1 a0_2 = some r) ∧ Aside0 (kq ≤ k2) ∧ Aside0 (Kd.R (Kd.int .i64) 3 w' w.heap.size (fun k_ => (w.heap.size ≤ k_)) v220 x7_3) ∧ Aside0 (w'.heap[gb218]? = some (.cells #[.int .i64 a0_0, .int .i64 a0_1, .int .i64 a0_2] 88 (0, 0))) ∧ Aside0 (Below w.heap.size w w'))
           case atStart => exact ⟨(x7_2), (0), zF, H', ⟨Nat.le_refl _⟩, ⟨zR HO_7.out⟩, ⟨zB BK218.out⟩, ⟨zH⟩⟩
           case round =>
            clear H'
            (try clear c1);(try clear c2);(try clear p2);(try clear q2);(try clear hx2);(try clear c6);(try clear c6b0);(try clear c6b1);(try clear c6b2);(try clear p6);(try clear c7);(try clear c9);(try clear c9b0);(try clear c9b1);(try clear c10);(try clear c10b0);(try clear c10b1);(try clear c13);(try clear c13b0);(try clear c14);(try clear c14b0);(try clear c15);(try clear c15b0);(try clear hx225_0);(try clear p2);(try clear p225);(try clear p6);(try clear q225)
            obtain ⟨x7_3, x36_3, rfl, HA, HK3, HO_7, BK218, HB⟩ := hrel
            cases gk with
            | zero => exact absurd HA.out (by simp [impl_field_mulPoly.l1])
            | succ k3 =>
             have H := HA.out
             clear HA
             simp only [impl_field_mulPoly.l1] at H
             by_cases c16 : x36_3 < (l2.length : Int)
             ·rw [if_pos c16] at H
              have c16b0 : decide (x36_3 < (l2.length : Int)) = true := decide_eq_true c16
              clear c16
              by_cases c17 : 0 ≤ x36_3
              ·rw [if_pos c17] at H
               have c17b0 : decide (0 ≤ x36_3) = true := decide_eq_true c17
               clear c17
               by_cases c18 : x36_3 < (l2.length : Int)
               ·rw [if_pos c18] at H
                have c18b0 : decide (x36_3 < (l2.length : Int)) = true := decide_eq_true c18
                clear c18
                obtain ⟨ji19, hji19⟩ : ∃ j_ : Int, (wrap64 (x29_2 + x36_3)) = j_ := ⟨_, rfl⟩
                replace H : (if 0 ≤ (ji19) then (if (ji19) < (x7_3.length : Int) then (if a0_0 = 0 then (none) else (impl_field_mulPoly.l1 k3 l2 (x7_3.set ((ji19) : Int).toNat (Int.tmod (wrap64 ((rd x7_3 (ji19)) + (wrap64 ((rd l1 x29_2) * (rd l2 x36_3))))) a0_0)) x29_2 (rd l1 x29_2) l1 (l1.length : Int) x29_2 l2 (l2.length : Int) (wrap64 (x36_3 + 1)) a0_0 a0_1 a0_2)) else (none)) else (none)) = some r := by first | (rw [hji19] at H; exact H) | (simp only [hji19] at H ⊢; exact H)
                have hji19w : (IntKind.i64.wrap (x29_2 + x36_3)) = ji19 := (i64_w _).trans hji19
                by_cases c20 : 0 ≤ (ji19)
                ·rw [if_pos c20] at H
                 have c20b0 : decide (0 ≤ (ji19)) = true := decide_eq_true c20
                 clear c20
                 by_cases c21 : (ji19) < (x7_3.length : Int)
                 ·rw [if_pos c21] at H
                  have c21b0 : decide ((ji19) < (x7_3.length : Int)) = true := decide_eq_true c21
                  clear c21
                  by_cases c22 : a0_0 = 0
                  ·rw [if_pos c22] at H
                   exact absurd H (by simp)
                  ·rw [if_neg c22] at H
                   have c22b0 : (a0_0 == 0) = false := beq_eq_false_iff_ne.mpr c22
                   have c22b1 : (a0_0 != 0) = true := bne_iff_ne.mpr c22
                   obtain ⟨y228, hy228⟩ : ∃ y_ : List Int, y_ = (x7_3.set ((ji19) : Int).toNat (Int.tmod (wrap64 ((rd x7_3 (ji19)) + (wrap64 ((rd l1 x29_2) * (rd l2 x36_3))))) a0_0)) := ⟨_, rfl⟩
                   replace H : (impl_field_mulPoly.l1 k3 l2 y228 x29_2 (rd l1 x29_2) l1 (l1.length : Int) x29_2 l2 (l2.length : Int) (wrap64 (x36_3 + 1)) a0_0 a0_1 a0_2) = some r := by first | (rw [hy228]; with_reducible exact H) | (have H2_ := (Option.bind_some _ _).symm.trans H; rw [hy228]; with_reducible exact H2_) | (have H2_ := (Option.bind_some _ _).symm.trans H; with_reducible exact H2_) | with_reducible exact H | (rw [hy228]; exact H) | exact H
                   have Ny228 := Aside0.mk hy228
                   clear hy228
                   have H' := Aside0.mk H
                   clear H
                   have p226 : 0 ≤ (x36_3 : Int) := zD
                   have q226 : x36_3 < (l2.length : Int) := zD
                   obtain ⟨ad226, e226, hx226_0⟩ := Kd.at_int HR2.out x36_3 p226 q226
                   cases e226
                   replace hx226_0 := (HB.out.cell (World.block_lt_of_cell? w _ hx226_0)).trans hx226_0
                   replace p226 := eq_true p226
                   replace q226 := eq_true q226
                   try go_wp2
                   replace HO_7 := zA (Kd.R_drew HO_7.out)
                   replace BK218 := zA (blk_drew BK218.out)
                   replace HB := zA (below_drew1 HB.out)
                   obtain ⟨Ao25, co25, eo25⟩ := Kd.R_slice HO_7.out
                   (first | subst eo25 | (injection eo25 with f1_ f2_ f3_; have f4_ := f1_.symm; have f5_ := f3_.symm; clear f1_ f2_ f3_; subst f4_; subst f5_))
                   have p227 : 0 ≤ ((ji19) : Int) := zD
                   have q227 : (ji19) < (x7_3.length : Int) := zD
                   obtain ⟨ad227, e227, hx227_0⟩ := Kd.at_int (Kd.R_reads' HO_7.out).2.2 (ji19) p227 q227
                   cases e227
                   replace p227 := eq_true p227
                   replace q227 := eq_true q227
                   have p23 : 0 ≤ ((ji19) : Int) := zD
                   have q23 : ((ji19) : Int) < ((x7_3.length : Int) : Int) := zD
                   obtain ⟨go23, co23, eo23, gb23, gl23, cl23, HG23⟩ := Kd.R_form HO_7.out (by omega)
                   (first | cases eo23 | (injection eo23 with ea_ en_ ec_; (first | subst ea_ | (injection ea_ with ea_; subst ea_)); subst ec_; clear en_))
                   have GB23 := Aside0.mk gb23
                   have GG23 := Aside0.mk HG23
                   clear gb23 gl23 HG23
                   (first | simp only [add_plain] at hx227_0 | skip)
                   obtain ⟨hx23_0, hf23_0⟩ := Kd.R_celln 0 HO_7.out ((ji19) : Int) p23 q23
                   replace p23 := eq_true p23
                   replace q23 := eq_true q23
                   have HP26 := Kd.R_putn HO_7.out ((ji19) : Int) (Int.tmod (wrap64 ((rd x7_3 (ji19)) + (wrap64 ((rd l1 x29_2) * (rd l2 x36_3))))) a0_0)
                   rw [← Ny228.out] at HP26
                   have HQ26 := Aside0.mk HP26
                   clear HP26
                   refine start_ (n := 19) (S := fun w' => w'.cell? ⟨gb218, 0, none⟩ = some (.int .i64 a0_0) ∧ w'.cell? ⟨gb218, 1, none⟩ = some (.int .i64 a0_1) ∧ w'.cell? ⟨gb218, 2, none⟩ = some (.int .i64 a0_2) ∧ w'.cell? ⟨go23, ((ji19)).toNat, none⟩ = some (.int .i64 (rd x7_3 (ji19)))) (ds := [18]) #[false, false, false, false, false, false, false, false, false, false, false, false, false, false, false, false, false, false, false] (by kernel_rfl) rfl rfl ⟨zk BK218.out 0, zk BK218.out 1, zk BK218.out 2, hx227_0⟩ (fun hHeld => ?_); refine with_tabW impl_field_mulPoly.tab10 impl_field_mulPoly.bits10 (fun HT_ HW_ => ?_)
                   generalize wr.drew = w24 at HO_7 BK218 HB GG23 HQ26 hf23_0 hx227_0 hx23_0 hHeld ⊢
                   refine pA HT_ 0 (some 41) ?_
                   refine pA HT_ 1 (some 42) ?_
                   refine pA HT_ 2 (some 43) ?_
                   refine pA HT_ 3 (some 44) ?_
                   refine pA HT_ 4 (some 45) ?_
                   refine pA HT_ 5 (some 46) ?_
                   refine pA HT_ 6 (some 47) ?_
                   refine pA HT_ 7 (some 48) ?_
                   refine pA HT_ 8 (some 49) ?_
                   refine pA HT_ 10 (some 51) ?_
                   refine pA HT_ 11 (some 52) ?_
                   refine pA HT_ 12 (some 53) ?_
                   refine pA HT_ 14 (some 55) ?_
                   refine tA4 HT_ HW_ 9 (some 50) hHeld ?_
                   refine pA HT_ 13 (some 54) ?_
                   refine tA4 HT_ HW_ 15 (some 56) hHeld ?_
                   refine pA HT_ 16 (some 57) ?_
                   refine pA HT_ 17 (some 58) ?_
                   refine last_ (i := 18) (N := none) #[true, true, true, true, true, true, true, true, true, true, true, true, true, true, true, true, true, true, true] rfl rfl (one_of HT_.out (by kernel_rfl)) (by decide) (fun K hK => ?_)
                   refine skip_ (w1 := ?_) (by rfl) rfl ?_ ?_
                   rotate_left
                   ·go_simp
                    rfl
                   refine hK.out _ _ ?_
                   clear hK K
                   refine done_ (done_of HT_.out (by kernel_rfl)) ?_
                   try go_wp2
                   go_roundg k3
                   case measure => have := HJ3.out; have := HK2.out; have := HK3.out; omega
                   case rel => exact ⟨(y228), (wrap64 (x36_3 + 1)), zF, H', ⟨by have := HJ3.out; have := HK2.out; have := HK3.out; omega⟩, ⟨zR HQ26.out⟩, ⟨by (repeat refine zL ?_); refine blk_far ?_ (by have h_ := Kd.R_ne HO_7.out BK218.out (by decide); intro e_; exact h_ (by rw [e_]; rfl)) _; (repeat refine zL ?_); exact BK218.out⟩, ⟨by repeat (first | (with_reducible first | exact HB.out | apply below_alloc | apply pw_below_drewN | apply below_drew1 | refine below_set ?_ GB23.out | refine below_set ?_ GE218.out) | exact HB.out)⟩⟩
                 ·rw [if_neg c21] at H
                  exact absurd H (by simp)
                ·rw [if_neg c20] at H
                 exact absurd H (by simp)
               ·rw [if_neg c18] at H
                exact absurd H (by simp)
              ·rw [if_neg c17] at H
               exact absurd H (by simp)
             ·rw [if_neg c16] at H
              have c16b0 : decide (x36_3 < (l2.length : Int)) = false := decide_eq_false c16
              clear c16
              have H' := Aside0.mk H
              clear H
              go_wp2
              go_roundg k3
              case measure => have := HJ3.out; have := HK2.out; have := HK3.out; omega
              case rel => exact ⟨(x7_3), (wrap64 (x29_2 + 1)), zF, H', ⟨by have := HJ3.out; have := HK2.out; have := HK3.out; omega⟩, ⟨zR HO_7.out⟩, ⟨zB BK218.out⟩, ⟨zH⟩⟩
          ·rw [if_neg c15] at H
           exact absurd H (by simp)
         ·rw [if_neg c14] at H
          exact absurd H (by simp)
        ·rw [if_neg c13] at H
         have c13b0 : decide (x29_2 < (l1.length : Int)) = false := decide_eq_false c13
         clear c13
         replace H := Option.bind_eq_some_iff.mp H
         obtain ⟨t222, A270, H⟩ := H
         (try dsimp -zeta -simprocs only at H)
         have A27 := Aside0.mk A270
         clear A270
         obtain rfl := Option.some.inj H
         obtain ⟨Ao28, co28, eo28⟩ := Kd.R_slice HO_7.out
         subst eo28
         go_wp2_with (first | ((with_reducible refine gate_callee (f := 126) rfl ?_); refine goesL_ (some 62) rfl rfl Try.func126 (by kernel_rfl) rfl #[.slice Ao28 x7_2.length co28] rfl zM ?_; (with_reducible refine (impl_trimmed.calls k2 (fun k_ => some k_ = (.slice Ao28 x7_2.length co28 : Value).ownBlock) _ _ x7_2 t222 _ ?side1 A27.out).mono ?_); (case side1 => exact Kd.R_V (Kd.R_tight rfl (Kd.R_types (HO_7.out) BK218.out (by decide)))); rintro e w29 ⟨v223, rfl, ho0, hb⟩; refine ⟨_, rfl, ?_⟩; have HO224 := Aside0.mk (Kd.V_lower (Kd.V_mono (ok' := fun k_ => (w.heap.size ≤ k_) ∧ k_ ≠ gb218) ho0 (fun k_ hk_ => ⟨Or.elim hk_ (fun hs_ => ((Kd.R_types (HO_7.out) BK218.out (by decide)).1 k_ hs_.symm).1) (fun hn_ => (Nat.le_trans (below_size zH) hn_)), Or.elim hk_ (fun hs_ => ((Kd.R_types (HO_7.out) BK218.out (by decide)).1 k_ hs_.symm).2) (fun hn_ => (Kd.freshB (g := gb218) (o := .cells #[.int .i64 a0_0, .int .i64 a0_1, .int .i64 a0_2] 88 (0, 0)) (zB BK218.out) k_ hn_))⟩)) (below_size zH)); replace HO_7 := zA (Kd.R_below (zR HO_7.out) hb); replace BK218 := zb BK218.out hb; replace HB := zA (below_step zH hb); (try clear hb ho0)))
         go_ret
         exact ⟨_, by first | rfl | (simp [errW_none, errW_some] <;> rfl) | (simp only [← hji8]; first | rfl | (simp [errW_none, errW_some] <;> rfl)) | (simp [*, errW_none, errW_some] <;> rfl), by (with_reducible repeat (first | apply Kd.V_alloc | apply Kd.V_drewN | apply Kd.V_drew)); exact Kd.V_mono HO224.out (fun _ hk => hk.1), zH⟩
     ·rw [if_neg c10] at H
      exact absurd H (by simp)
    ·rw [if_neg c9] at H
     exact absurd H (by simp)

end Go.Proofs.Ytabicblkdgpogaa.QFnCertTrue
