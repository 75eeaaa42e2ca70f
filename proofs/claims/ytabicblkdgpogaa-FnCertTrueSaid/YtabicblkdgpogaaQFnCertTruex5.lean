-- Made by this session's program (wip/tools/myprint.py) out of the translation; Lean checks it.
import Derived.Test.YtabicblkdgpogaaQFnCertTruex0
import Derived.Test.YtabicblkdgpogaaQFnCertTruex4
namespace Go.Proofs.Ytabicblkdgpogaa.QFnCertTrue
open Go.RowKit Go.Proofs.YtabicblkdgpogaaW.PrintWords Go.Proofs.YtabicblkdgpogaaW.PrintLast Go.Proofs.YtabicblkdgpogaaW.PrintMore
attribute [local go_sem] max2_int min2_int max_two min_two max_three min_three max_four min_four   -- for this text's walks alone
set_option linter.unusedVariables false
set_option linter.unusedSimpArgs false

/-! ### impl_polyField: function 71 -/
def impl_polyField.l0 : Nat → List (List Int) → Int → Int → Int → Int → Int → Option (Int × Int × Int × Bool)
 | 0, _, _, _, _, _, _ => none
 | k + 1, x18, x19, x20, x198000, x198001, x198002 => if x20 < x19 then (if 0 ≤ x20 then (if x20 < (x18.length : Int) then (if ((rd_L2 x18 x20).length : Int) > 400 then (some (0, 0, 0, false)) else ((impl_field_areElements.f k x198000 x198001 x198002 (rd_L2 x18 x20)).bind fun t199 => (if t199 = true then (if ((rd_L2 x18 x20).length : Int) > 0 then (if 0 ≤ (wrap64 (((rd_L2 x18 x20).length : Int) - 1)) then (if (wrap64 (((rd_L2 x18 x20).length : Int) - 1)) < ((rd_L2 x18 x20).length : Int) then (if (rd (rd_L2 x18 x20) (wrap64 (((rd_L2 x18 x20).length : Int) - 1))) = 0 then (some (0, 0, 0, false)) else (impl_polyField.l0 k x18 x19 (wrap64 (x20 + 1)) x198000 x198001 x198002)) else (none)) else (none)) else (impl_polyField.l0 k x18 x19 (wrap64 (x20 + 1)) x198000 x198001 x198002)) else (some (0, 0, 0, false))))) else (none)) else (none)) else (some (x198000, x198001, x198002, true))
def impl_polyField.f (k : Nat) (a0 : Int) (l1 : List (List Int)) : Option (Int × Int × Int × Bool) := (impl_fieldOf.f a0).bind fun bt193 => (if bt193.2.2.2 = true then (impl_polyField.l0 k l1 (l1.length : Int) 0 bt193.1 bt193.2.1 bt193.2.2.1) else (some (0, 0, 0, false)))
theorem impl_polyField.mono_l : ∀ k, (∀ y0 y1 y2 y3 y4 y5, LeO (impl_polyField.l0 k y0 y1 y2 y3 y4 y5) (impl_polyField.l0 (k + 1) y0 y1 y2 y3 y4 y5))
 | 0 => fun _ _ _ _ _ _ r h => by simp [impl_polyField.l0] at h
 | k + 1 => by
  have ih0 := impl_polyField.mono_l k
  ·intro y0 y1 y2 y3 y4 y5
   unfold impl_polyField.l0
   repeat' first
   | (with_reducible exact ih0 _ _ _ _ _ _)
   | (with_reducible exact impl_field_areElements.mono _ _ _ _ _)
   | (with_reducible exact LeO.refl _)
   | (with_reducible exact LeO.none _)
   | (with_reducible refine LeO.ite ?_ ?_)
   | (with_reducible refine LeO.bind ?_ (fun _ => ?_))
   | exact ih0 _ _ _ _ _ _
   | exact impl_field_areElements.mono _ _ _ _ _
   | exact LeO.none _
   | refine LeO.ite ?_ ?_
   | refine LeO.bind ?_ (fun _ => ?_)
theorem impl_polyField.mono : ∀ a0 a1 k, LeO (impl_polyField.f k a0 a1) (impl_polyField.f (k + 1) a0 a1) := by
 intro a0 a1 k
 have ih0 := impl_polyField.mono_l k
 unfold impl_polyField.f
 repeat' first
   | (with_reducible exact ih0 _ _ _ _ _ _)
   | (with_reducible exact impl_field_areElements.mono _ _ _ _ _)
   | (with_reducible exact LeO.refl _)
   | (with_reducible exact LeO.none _)
   | (with_reducible refine LeO.ite ?_ ?_)
   | (with_reducible refine LeO.bind ?_ (fun _ => ?_))
   | exact ih0 _ _ _ _ _ _
   | exact impl_field_areElements.mono _ _ _ _ _
   | exact LeO.none _
   | refine LeO.ite ?_ ?_
   | refine LeO.bind ?_ (fun _ => ?_)
set_option maxHeartbeats 8000000 in
set_option maxRecDepth 100000 in
theorem impl_polyField.calls (k : Nat) (a0 : Int) (A1 : Option Addr) (c1 : Nat) (l1 : List (List Int)) (r1 : Int) (r2 : Int) (r3 : Int) (r4 : Bool) (w : World) (hr1 : Kd.C (Kd.slice 3 (Kd.int .i64)) w A1 l1.length l1) (hc1 : l1.length ≤ c1) (h : impl_polyField.f k a0 l1 = some (r1, r2, r3, r4)) :
  Calls Try.prog 71 #[.int .i64 a0, .slice A1 l1.length c1] w fun e w' => e = .returned (.tuple #[.agg #[.int .i64 r1, .int .i64 r2, .int .i64 r3], .bool r4]) ∧ Below w.heap.size w w' := by
 have hu88 := Try.underlying88
 have HR1 := Aside0.mk hr1
 have HC1 := Aside0.mk hc1
 clear hr1 hc1
 have HB := Aside0.mk (Below.refl w.heap.size w)
 have H : ((impl_fieldOf.f a0).bind fun bt193 => (if bt193.2.2.2 = true then (impl_polyField.l0 k l1 (l1.length : Int) 0 bt193.1 bt193.2.1 bt193.2.2.1) else (some (0, 0, 0, false)))) = some (r1, r2, r3, r4) := h
 clear h
 replace H := Option.bind_eq_some_iff.mp H
 obtain ⟨⟨t193, t194, t195, t196⟩, A30, H⟩ := H
 (try dsimp -zeta -simprocs only at H)
 have A3 := Aside0.mk A30
 clear A30
 by_cases c4 : t196 = true
 ·subst c4
  rw [if_pos rfl] at H
  have H' := Aside0.mk H
  clear H
  go_enter Try.func71, Try.ntmps71
  go_wp2_with (first | ((with_reducible refine gate_dst (N := 4) rfl ?_); (try (refine gate_guard (by rfl) ?_; dsimp only)); refine box_event ?hg (N := 4) ?hd (cs := #[.int .i64 0, .int .i64 0, .int .i64 0]) (t := 88) ?hr ?_; (case hd => rfl); (case hg => rfl); (case hr => first | (go_simp; done) | (go_simp; rfl)); intro gb192 hg w5 hbox hb; have BK192 := zA (hbox); have GW192 := zA ((by rw [hg]; exact (below_size zH) : w.heap.size ≤ gb192)); have GE192 := zA ((by rw [hg]; exact (below_size zH) : w.heap.size ≤ gb192)); replace HB := zA (below_step zH hb); clear hb hbox hg) | ((with_reducible refine gate_callee (f := 122) rfl ?_); refine goesL_ (some 12) rfl rfl Try.func122 (by kernel_rfl) rfl #[.int .i64 a0] rfl zM ?_; (with_reducible refine (impl_fieldOf.calls a0 t193 t194 t195 true _ A3.out).mono ?_); rintro e w6 ⟨rfl, hb⟩; refine ⟨_, rfl, ?_⟩; replace BK192 := zb BK192.out hb; replace HB := zA (below_step zH hb); (try clear hb)) | ((with_reducible refine gate_dst (N := 6) rfl ?_); (try (refine gate_guard (by rfl) ?_; dsimp only)); refine box_event ?hg (N := 6) ?hd (cs := #[.int .i64 0, .int .i64 0, .int .i64 0]) (t := 88) ?hr ?_; (case hd => rfl); (case hg => rfl); (case hr => first | (go_simp; done) | (go_simp; rfl)); intro gb197 hg w7 hbox hb; have BK197 := zA (hbox); have GW197 := zA ((by rw [hg]; exact (below_size zH) : w.heap.size ≤ gb197)); have GE197 := zA ((by rw [hg]; exact (below_size zH) : w.heap.size ≤ gb197)); replace HB := zA (below_step zH hb); have NB192_197 := Aside0.mk ((by rw [hg]; exact Nat.ne_of_lt (blk_lt (g := gb192) (o := .cells #[.int .i64 0, .int .i64 0, .int .i64 0] 88 (0, 0)) (zB BK192.out)) : gb192 ≠ gb197)); have NB197_192 := Aside0.mk ((by rw [hg]; exact Nat.ne_of_gt (blk_lt (g := gb192) (o := .cells #[.int .i64 0, .int .i64 0, .int .i64 0] 88 (0, 0)) (zB BK192.out)) : gb197 ≠ gb192)); replace BK192 := zb BK192.out hb; clear hb hbox hg; have hnb8 := NB197_192.out; have hnc8 := NB192_197.out; obtain ⟨hcz9_0, hcz9_1, hcz9_2⟩ := zc3 BK197.out; obtain ⟨hfz9_0, hfz9_1, hfz9_2, _, _⟩ := zf BK197.out))
  go_loopg [20] k (fun kq v20 w' => ∃ (x20_1 : Int) (x193000_1 : Int) (x193001_1 : Int) (x193002_1 : Int), v20 = .int .i64 x20_1 ∧ Aside0 (impl_polyField.l0 kq l1 (l1.length : Int) x20_1 t193 t194 t195 = some (r1, r2, r3, r4)) ∧ Aside0 (kq ≤ k) ∧ Aside0 (w'.heap[gb192]? = some (.cells #[.int .i64 x193000_1, .int .i64 x193001_1, .int .i64 x193002_1] 88 (0, 0))) ∧ Aside0 (w'.heap[gb197]? = some (.cells #[.int .i64 t193, .int .i64 t194, .int .i64 t195] 88 (0, 0))) ∧ Aside0 (Below w.heap.size w w'))
  case atStart => exact ⟨(0), (0), (0), (0), zF, H', ⟨Nat.le_refl _⟩, ⟨by (repeat refine zL ?_); refine blk_far ?_ NB192_197.out _; (repeat refine zL ?_); refine blk_far ?_ NB192_197.out _; (repeat refine zL ?_); refine blk_far ?_ NB192_197.out _; (repeat refine zL ?_); exact BK192.out⟩, ⟨by (repeat refine zL ?_); refine blk_put (cs := #[.int .i64 t193, .int .i64 t194, .int .i64 0]) ?_ 2 _ rfl; (repeat refine zL ?_); refine blk_put (cs := #[.int .i64 t193, .int .i64 0, .int .i64 0]) ?_ 1 _ rfl; (repeat refine zL ?_); refine blk_put (cs := #[.int .i64 0, .int .i64 0, .int .i64 0]) ?_ 0 _ rfl; (repeat refine zL ?_); exact BK197.out⟩, ⟨zH⟩⟩
  case round =>
   clear H'
   skip
   obtain ⟨x20_1, x193000_1, x193001_1, x193002_1, rfl, HA, HK1, BK192, BK197, HB⟩ := hrel
   cases gk with
   | zero => exact absurd HA.out (by simp [impl_polyField.l0])
   | succ k1 =>
    have H := HA.out
    clear HA
    simp only [impl_polyField.l0] at H
    by_cases c10 : x20_1 < (l1.length : Int)
    ·rw [if_pos c10] at H
     have c10b0 : decide (x20_1 < (l1.length : Int)) = true := decide_eq_true c10
     clear c10
     by_cases c11 : 0 ≤ x20_1
     ·rw [if_pos c11] at H
      have c11b0 : decide (0 ≤ x20_1) = true := decide_eq_true c11
      clear c11
      by_cases c12 : x20_1 < (l1.length : Int)
      ·rw [if_pos c12] at H
       have c12b0 : decide (x20_1 < (l1.length : Int)) = true := decide_eq_true c12
       clear c12
       by_cases c13 : ((rd_L2 l1 x20_1).length : Int) > 400
       ·rw [if_pos c13] at H
        have c13b0 : decide (400 < ((rd_L2 l1 x20_1).length : Int)) = true := decide_eq_true c13
        have c13b1 : decide (400 < (rd_L2 l1 x20_1).length) = true := decide_eq_true (by omega)
        clear c13
        simp only [Option.some.injEq, Prod.mk.injEq] at H
        obtain ⟨rfl, rfl, rfl, rfl⟩ := H
        have p198 : 0 ≤ (x20_1 : Int) := zD
        have q198 : x20_1 < (l1.length : Int) := zD
        obtain ⟨ad198, A198_0, c198_0, e198, hx198_0, hl198_0, hi198_0⟩ := at_L2 HR1.out x20_1 p198 q198
        cases e198
        replace hx198_0 := (HB.out.cell (World.block_lt_of_cell? w _ hx198_0)).trans hx198_0
        have HR198_0 := Aside0.mk hi198_0
        have HC198_0 := Aside0.mk hl198_0
        clear hi198_0 hl198_0
        replace p198 := eq_true p198
        replace q198 := eq_true q198
        have hnb14 := NB192_197.out
        have hnc14 := NB197_192.out
        obtain ⟨hcz15_0, hcz15_1, hcz15_2⟩ := zc3 BK192.out
        obtain ⟨hfz15_0, hfz15_1, hfz15_2, _, _⟩ := zf BK192.out
        go_wp2
        refine bodyPost_ret (results_ct rfl _ _ gb192 88 #[.int .i64 0, .int .i64 0, .int .i64 0] (0, 0) _ rfl (by (repeat refine zL ?_); refine blk_put (cs := #[.int .i64 0, .int .i64 0, .int .i64 x193002_1]) ?_ 2 _ rfl; (repeat refine zL ?_); refine blk_put (cs := #[.int .i64 0, .int .i64 x193001_1, .int .i64 x193002_1]) ?_ 1 _ rfl; (repeat refine zL ?_); refine blk_put (cs := #[.int .i64 x193000_1, .int .i64 x193001_1, .int .i64 x193002_1]) ?_ 0 _ rfl; (repeat refine zL ?_); exact BK192.out) Try.underlying88 rfl (by kernel_rfl)) rfl ?_
        exact ⟨zE, zH⟩
       ·rw [if_neg c13] at H
        have c13b0 : decide (400 < ((rd_L2 l1 x20_1).length : Int)) = false := decide_eq_false c13
        have c13b1 : decide (400 < (rd_L2 l1 x20_1).length) = false := decide_eq_false (by omega)
        clear c13
        replace H := Option.bind_eq_some_iff.mp H
        obtain ⟨t199, A160, H⟩ := H
        (try dsimp -zeta -simprocs only at H)
        have A16 := Aside0.mk A160
        clear A160
        by_cases c17 : t199 = true
        ·subst c17
         rw [if_pos rfl] at H
         by_cases c18 : ((rd_L2 l1 x20_1).length : Int) > 0
         ·rw [if_pos c18] at H
          have c18b0 : decide (0 < ((rd_L2 l1 x20_1).length : Int)) = true := decide_eq_true c18
          have c18b1 : decide (0 < (rd_L2 l1 x20_1).length) = true := decide_eq_true (by omega)
          clear c18
          obtain ⟨ji19, hji19⟩ : ∃ j_ : Int, (wrap64 (((rd_L2 l1 x20_1).length : Int) - 1)) = j_ := ⟨_, rfl⟩
          replace H : (if 0 ≤ (ji19) then (if (ji19) < ((rd_L2 l1 x20_1).length : Int) then (if (rd (rd_L2 l1 x20_1) (ji19)) = 0 then (some (0, 0, 0, false)) else (impl_polyField.l0 k1 l1 (l1.length : Int) (wrap64 (x20_1 + 1)) t193 t194 t195)) else (none)) else (none)) = some (r1, r2, r3, r4) := by first | (rw [hji19] at H; exact H) | (simp only [hji19] at H ⊢; exact H)
          (try rw [hji19] at A16)
          have hji19w : (IntKind.i64.wrap (((rd_L2 l1 x20_1).length : Int) - 1)) = ji19 := (i64_w _).trans hji19
          by_cases c20 : 0 ≤ (ji19)
          ·rw [if_pos c20] at H
           have c20b0 : decide (0 ≤ (ji19)) = true := decide_eq_true c20
           clear c20
           by_cases c21 : (ji19) < ((rd_L2 l1 x20_1).length : Int)
           ·rw [if_pos c21] at H
            have c21b0 : decide ((ji19) < ((rd_L2 l1 x20_1).length : Int)) = true := decide_eq_true c21
            clear c21
            by_cases c22 : (rd (rd_L2 l1 x20_1) (ji19)) = 0
            ·rw [if_pos c22] at H
             have c22b0 : ((rd (rd_L2 l1 x20_1) (ji19)) == 0) = true := beq_iff_eq.mpr c22
             have c22b1 : ((rd (rd_L2 l1 x20_1) (ji19)) != 0) = false := bne_eq_false_iff_eq.mpr c22
             clear c22
             simp only [Option.some.injEq, Prod.mk.injEq] at H
             obtain ⟨rfl, rfl, rfl, rfl⟩ := H
             have p198 : 0 ≤ (x20_1 : Int) := zD
             have q198 : x20_1 < (l1.length : Int) := zD
             obtain ⟨ad198, A198_0, c198_0, e198, hx198_0, hl198_0, hi198_0⟩ := at_L2 HR1.out x20_1 p198 q198
             cases e198
             replace hx198_0 := (HB.out.cell (World.block_lt_of_cell? w _ hx198_0)).trans hx198_0
             have HR198_0 := Aside0.mk hi198_0
             have HC198_0 := Aside0.mk hl198_0
             clear hi198_0 hl198_0
             replace p198 := eq_true p198
             replace q198 := eq_true q198
             have hnb23 := NB197_192.out
             have hnc23 := NB192_197.out
             obtain ⟨hcz24_0, hcz24_1, hcz24_2⟩ := zc3 BK197.out
             obtain ⟨hfz24_0, hfz24_1, hfz24_2, _, _⟩ := zf BK197.out
             go_wp2_with (first | (go_at_call 123; (with_reducible refine (impl_field_areElements.calls k1 t193 t194 t195 _ _ (rd_L2 l1 x20_1) true _ ?side1 ?side2 A16.out).mono ?_); (case side1 => exact zC (Kd.C_below HR198_0.out HB.out)); (case side2 => exact HC198_0.out); rintro e w25 ⟨rfl, hb⟩; replace BK192 := zb BK192.out hb; replace BK197 := zb BK197.out hb; replace HB := zA (below_step zH hb); (try clear hb); have p200 : 0 ≤ ((ji19) : Int) := zD; have q200 : (ji19) < ((rd_L2 l1 x20_1).length : Int) := zD; obtain ⟨ad200, e200, hx200_0⟩ := Kd.at_int HR198_0.out (ji19) p200 q200; cases e200; replace hx200_0 := (HB.out.cell (World.block_lt_of_cell? w _ hx200_0)).trans hx200_0; replace p200 := eq_true p200; replace q200 := eq_true q200; obtain ⟨hcz26_0, hcz26_1, hcz26_2⟩ := zc3 BK192.out; obtain ⟨hfz26_0, hfz26_1, hfz26_2, _, _⟩ := zf BK192.out))
             refine bodyPost_ret (results_ct rfl _ _ gb192 88 #[.int .i64 0, .int .i64 0, .int .i64 0] (0, 0) _ rfl (by (repeat refine zL ?_); refine blk_put (cs := #[.int .i64 0, .int .i64 0, .int .i64 x193002_1]) ?_ 2 _ rfl; (repeat refine zL ?_); refine blk_put (cs := #[.int .i64 0, .int .i64 x193001_1, .int .i64 x193002_1]) ?_ 1 _ rfl; (repeat refine zL ?_); refine blk_put (cs := #[.int .i64 x193000_1, .int .i64 x193001_1, .int .i64 x193002_1]) ?_ 0 _ rfl; (repeat refine zL ?_); exact BK192.out) Try.underlying88 rfl (by kernel_rfl)) rfl ?_
             exact ⟨by first | rfl | (simp [errW_none, errW_some] <;> rfl) | (simp only [← hji19]; first | rfl | (simp [errW_none, errW_some] <;> rfl)) | (simp [*, errW_none, errW_some] <;> rfl), zH⟩
            ·rw [if_neg c22] at H
             have c22b0 : ((rd (rd_L2 l1 x20_1) (ji19)) == 0) = false := beq_eq_false_iff_ne.mpr c22
             have c22b1 : ((rd (rd_L2 l1 x20_1) (ji19)) != 0) = true := bne_iff_ne.mpr c22
             have H' := Aside0.mk H
             clear H
             have p198 : 0 ≤ (x20_1 : Int) := zD
             have q198 : x20_1 < (l1.length : Int) := zD
             obtain ⟨ad198, A198_0, c198_0, e198, hx198_0, hl198_0, hi198_0⟩ := at_L2 HR1.out x20_1 p198 q198
             cases e198
             replace hx198_0 := (HB.out.cell (World.block_lt_of_cell? w _ hx198_0)).trans hx198_0
             have HR198_0 := Aside0.mk hi198_0
             have HC198_0 := Aside0.mk hl198_0
             clear hi198_0 hl198_0
             replace p198 := eq_true p198
             replace q198 := eq_true q198
             have hnb27 := NB197_192.out
             have hnc27 := NB192_197.out
             obtain ⟨hcz28_0, hcz28_1, hcz28_2⟩ := zc3 BK197.out
             obtain ⟨hfz28_0, hfz28_1, hfz28_2, _, _⟩ := zf BK197.out
             go_wp2_with (first | (go_at_call 123; (with_reducible refine (impl_field_areElements.calls k1 t193 t194 t195 _ _ (rd_L2 l1 x20_1) true _ ?side1 ?side2 A16.out).mono ?_); (case side1 => exact zC (Kd.C_below HR198_0.out HB.out)); (case side2 => exact HC198_0.out); rintro e w29 ⟨rfl, hb⟩; replace BK192 := zb BK192.out hb; replace BK197 := zb BK197.out hb; replace HB := zA (below_step zH hb); (try clear hb); have p200 : 0 ≤ ((ji19) : Int) := zD; have q200 : (ji19) < ((rd_L2 l1 x20_1).length : Int) := zD; obtain ⟨ad200, e200, hx200_0⟩ := Kd.at_int HR198_0.out (ji19) p200 q200; cases e200; replace hx200_0 := (HB.out.cell (World.block_lt_of_cell? w _ hx200_0)).trans hx200_0; replace p200 := eq_true p200; replace q200 := eq_true q200))
             go_roundg k1
             case measure => have := HK1.out; omega
             case rel => exact ⟨(wrap64 (x20_1 + 1)), (x193000_1), (x193001_1), (x193002_1), zF, H', ⟨by have := HK1.out; omega⟩, ⟨zB BK192.out⟩, ⟨zB BK197.out⟩, ⟨zH⟩⟩
           ·rw [if_neg c21] at H
            exact absurd H (by simp)
          ·rw [if_neg c20] at H
           exact absurd H (by simp)
         ·rw [if_neg c18] at H
          have c18b0 : decide (0 < ((rd_L2 l1 x20_1).length : Int)) = false := decide_eq_false c18
          have c18b1 : decide (0 < (rd_L2 l1 x20_1).length) = false := decide_eq_false (by omega)
          clear c18
          have H' := Aside0.mk H
          clear H
          have p198 : 0 ≤ (x20_1 : Int) := zD
          have q198 : x20_1 < (l1.length : Int) := zD
          obtain ⟨ad198, A198_0, c198_0, e198, hx198_0, hl198_0, hi198_0⟩ := at_L2 HR1.out x20_1 p198 q198
          cases e198
          replace hx198_0 := (HB.out.cell (World.block_lt_of_cell? w _ hx198_0)).trans hx198_0
          have HR198_0 := Aside0.mk hi198_0
          have HC198_0 := Aside0.mk hl198_0
          clear hi198_0 hl198_0
          replace p198 := eq_true p198
          replace q198 := eq_true q198
          have hnb30 := NB197_192.out
          have hnc30 := NB192_197.out
          obtain ⟨hcz31_0, hcz31_1, hcz31_2⟩ := zc3 BK197.out
          obtain ⟨hfz31_0, hfz31_1, hfz31_2, _, _⟩ := zf BK197.out
          go_wp2_with (first | (go_at_call 123; (with_reducible refine (impl_field_areElements.calls k1 t193 t194 t195 _ _ (rd_L2 l1 x20_1) true _ ?side1 ?side2 A16.out).mono ?_); (case side1 => exact zC (Kd.C_below HR198_0.out HB.out)); (case side2 => exact HC198_0.out); rintro e w32 ⟨rfl, hb⟩; replace BK192 := zb BK192.out hb; replace BK197 := zb BK197.out hb; replace HB := zA (below_step zH hb); (try clear hb)))
          go_roundg k1
          case measure => have := HK1.out; omega
          case rel => exact ⟨(wrap64 (x20_1 + 1)), (x193000_1), (x193001_1), (x193002_1), zF, H', ⟨by have := HK1.out; omega⟩, ⟨zB BK192.out⟩, ⟨zB BK197.out⟩, ⟨zH⟩⟩
        ·replace c17 := Bool.eq_false_iff.mpr c17
         subst c17
         rw [if_neg (show ¬ (false = true) by decide)] at H
         simp only [Option.some.injEq, Prod.mk.injEq] at H
         obtain ⟨rfl, rfl, rfl, rfl⟩ := H
         have p198 : 0 ≤ (x20_1 : Int) := zD
         have q198 : x20_1 < (l1.length : Int) := zD
         obtain ⟨ad198, A198_0, c198_0, e198, hx198_0, hl198_0, hi198_0⟩ := at_L2 HR1.out x20_1 p198 q198
         cases e198
         replace hx198_0 := (HB.out.cell (World.block_lt_of_cell? w _ hx198_0)).trans hx198_0
         have HR198_0 := Aside0.mk hi198_0
         have HC198_0 := Aside0.mk hl198_0
         clear hi198_0 hl198_0
         replace p198 := eq_true p198
         replace q198 := eq_true q198
         have hnb33 := NB197_192.out
         have hnc33 := NB192_197.out
         obtain ⟨hcz34_0, hcz34_1, hcz34_2⟩ := zc3 BK197.out
         obtain ⟨hfz34_0, hfz34_1, hfz34_2, _, _⟩ := zf BK197.out
         go_wp2_with (first | (go_at_call 123; (with_reducible refine (impl_field_areElements.calls k1 t193 t194 t195 _ _ (rd_L2 l1 x20_1) false _ ?side1 ?side2 A16.out).mono ?_); (case side1 => exact zC (Kd.C_below HR198_0.out HB.out)); (case side2 => exact HC198_0.out); rintro e w35 ⟨rfl, hb⟩; replace BK192 := zb BK192.out hb; replace BK197 := zb BK197.out hb; replace HB := zA (below_step zH hb); (try clear hb); obtain ⟨hcz36_0, hcz36_1, hcz36_2⟩ := zc3 BK192.out; obtain ⟨hfz36_0, hfz36_1, hfz36_2, _, _⟩ := zf BK192.out))
         refine bodyPost_ret (results_ct rfl _ _ gb192 88 #[.int .i64 0, .int .i64 0, .int .i64 0] (0, 0) _ rfl (by (repeat refine zL ?_); refine blk_put (cs := #[.int .i64 0, .int .i64 0, .int .i64 x193002_1]) ?_ 2 _ rfl; (repeat refine zL ?_); refine blk_put (cs := #[.int .i64 0, .int .i64 x193001_1, .int .i64 x193002_1]) ?_ 1 _ rfl; (repeat refine zL ?_); refine blk_put (cs := #[.int .i64 x193000_1, .int .i64 x193001_1, .int .i64 x193002_1]) ?_ 0 _ rfl; (repeat refine zL ?_); exact BK192.out) Try.underlying88 rfl (by kernel_rfl)) rfl ?_
         exact ⟨zE, zH⟩
      ·rw [if_neg c12] at H
       exact absurd H (by simp)
     ·rw [if_neg c11] at H
      exact absurd H (by simp)
    ·rw [if_neg c10] at H
     have c10b0 : decide (x20_1 < (l1.length : Int)) = false := decide_eq_false c10
     clear c10
     simp only [Option.some.injEq, Prod.mk.injEq] at H
     obtain ⟨rfl, rfl, rfl, rfl⟩ := H
     have hnb37 := NB197_192.out
     have hnc37 := NB192_197.out
     obtain ⟨hcz38_0, hcz38_1, hcz38_2⟩ := zc3 BK197.out
     obtain ⟨hfz38_0, hfz38_1, hfz38_2, _, _⟩ := zf BK197.out
     obtain ⟨hcz39_0, hcz39_1, hcz39_2⟩ := zc3 BK192.out
     obtain ⟨hfz39_0, hfz39_1, hfz39_2, _, _⟩ := zf BK192.out
     go_wp2
     refine bodyPost_ret (results_ct rfl _ _ gb192 88 #[.int .i64 t193, .int .i64 t194, .int .i64 t195] (0, 0) _ rfl (by (repeat refine zL ?_); refine blk_put (cs := #[.int .i64 t193, .int .i64 t194, .int .i64 x193002_1]) ?_ 2 _ rfl; (repeat refine zL ?_); refine blk_put (cs := #[.int .i64 t193, .int .i64 x193001_1, .int .i64 x193002_1]) ?_ 1 _ rfl; (repeat refine zL ?_); refine blk_put (cs := #[.int .i64 x193000_1, .int .i64 x193001_1, .int .i64 x193002_1]) ?_ 0 _ rfl; (repeat refine zL ?_); exact BK192.out) Try.underlying88 rfl (by kernel_rfl)) rfl ?_
     exact ⟨zE, zH⟩
 ·replace c4 := Bool.eq_false_iff.mpr c4
  subst c4
  rw [if_neg (show ¬ (false = true) by decide)] at H
  simp only [Option.some.injEq, Prod.mk.injEq] at H
  obtain ⟨rfl, rfl, rfl, rfl⟩ := H
  go_enter Try.func71, Try.ntmps71
  go_wp2_with (first | ((with_reducible refine gate_dst (N := 4) rfl ?_); (try (refine gate_guard (by rfl) ?_; dsimp only)); refine box_event ?hg (N := 4) ?hd (cs := #[.int .i64 0, .int .i64 0, .int .i64 0]) (t := 88) ?hr ?_; (case hd => rfl); (case hg => rfl); (case hr => first | (go_simp; done) | (go_simp; rfl)); intro gb192 hg w40 hbox hb; have BK192 := zA (hbox); have GW192 := zA ((by rw [hg]; exact (below_size zH) : w.heap.size ≤ gb192)); have GE192 := zA ((by rw [hg]; exact (below_size zH) : w.heap.size ≤ gb192)); replace HB := zA (below_step zH hb); clear hb hbox hg) | ((with_reducible refine gate_callee (f := 122) rfl ?_); refine goesL_ (some 12) rfl rfl Try.func122 (by kernel_rfl) rfl #[.int .i64 a0] rfl zM ?_; (with_reducible refine (impl_fieldOf.calls a0 t193 t194 t195 false _ A3.out).mono ?_); rintro e w41 ⟨rfl, hb⟩; refine ⟨_, rfl, ?_⟩; replace BK192 := zb BK192.out hb; replace HB := zA (below_step zH hb); (try clear hb)) | ((with_reducible refine gate_dst (N := 6) rfl ?_); (try (refine gate_guard (by rfl) ?_; dsimp only)); refine box_event ?hg (N := 6) ?hd (cs := #[.int .i64 0, .int .i64 0, .int .i64 0]) (t := 88) ?hr ?_; (case hd => rfl); (case hg => rfl); (case hr => first | (go_simp; done) | (go_simp; rfl)); intro gb197 hg w42 hbox hb; have BK197 := zA (hbox); have GW197 := zA ((by rw [hg]; exact (below_size zH) : w.heap.size ≤ gb197)); have GE197 := zA ((by rw [hg]; exact (below_size zH) : w.heap.size ≤ gb197)); replace HB := zA (below_step zH hb); have NB192_197 := Aside0.mk ((by rw [hg]; exact Nat.ne_of_lt (blk_lt (g := gb192) (o := .cells #[.int .i64 0, .int .i64 0, .int .i64 0] 88 (0, 0)) (zB BK192.out)) : gb192 ≠ gb197)); have NB197_192 := Aside0.mk ((by rw [hg]; exact Nat.ne_of_gt (blk_lt (g := gb192) (o := .cells #[.int .i64 0, .int .i64 0, .int .i64 0] 88 (0, 0)) (zB BK192.out)) : gb197 ≠ gb192)); replace BK192 := zb BK192.out hb; clear hb hbox hg; have hnb43 := NB197_192.out; have hnc43 := NB192_197.out; obtain ⟨hcz44_0, hcz44_1, hcz44_2⟩ := zc3 BK197.out; obtain ⟨hfz44_0, hfz44_1, hfz44_2, _, _⟩ := zf BK197.out; obtain ⟨hcz45_0, hcz45_1, hcz45_2⟩ := zc3 BK192.out; obtain ⟨hfz45_0, hfz45_1, hfz45_2, _, _⟩ := zf BK192.out))
  refine bodyPost_ret (results_ct rfl _ _ gb192 88 #[.int .i64 0, .int .i64 0, .int .i64 0] (0, 0) _ rfl (by (repeat refine zL ?_); refine blk_put (cs := #[.int .i64 0, .int .i64 0, .int .i64 0]) ?_ 2 _ rfl; (repeat refine zL ?_); refine blk_put (cs := #[.int .i64 0, .int .i64 0, .int .i64 0]) ?_ 1 _ rfl; (repeat refine zL ?_); refine blk_put (cs := #[.int .i64 0, .int .i64 0, .int .i64 0]) ?_ 0 _ rfl; (repeat refine zL ?_); refine blk_far ?_ NB192_197.out _; (repeat refine zL ?_); refine blk_far ?_ NB192_197.out _; (repeat refine zL ?_); refine blk_far ?_ NB192_197.out _; (repeat refine zL ?_); exact BK192.out) Try.underlying88 rfl (by kernel_rfl)) rfl ?_
  exact ⟨zE, zH⟩

/-! ### impl_field_eval: function 124 -/
def impl_field_eval.l0 : Nat → List Int → Int → Int → Int → Int → Int → Int → Option (Int)
 | 0, _, _, _, _, _, _, _ => none
 | k + 1, x1, x2, x7, x8, x202000, x202001, x202002 => if x8 ≥ 0 then (if 0 ≤ x8 then (if x8 < (x1.length : Int) then (if x202000 = 0 then (none) else (impl_field_eval.l0 k x1 x2 (Int.tmod (wrap64 ((wrap64 (x7 * x2)) + (rd x1 x8))) x202000) (wrap64 (x8 - 1)) x202000 x202001 x202002)) else (none)) else (none)) else (some x7)
def impl_field_eval.f (k : Nat) (a0_0 : Int) (a0_1 : Int) (a0_2 : Int) (l1 : List Int) (a2 : Int) : Option (Int) := impl_field_eval.l0 k l1 a2 0 (wrap64 ((l1.length : Int) - 1)) a0_0 a0_1 a0_2
theorem impl_field_eval.mono_l : ∀ k, (∀ y0 y1 y2 y3 y4 y5 y6, LeO (impl_field_eval.l0 k y0 y1 y2 y3 y4 y5 y6) (impl_field_eval.l0 (k + 1) y0 y1 y2 y3 y4 y5 y6))
 | 0 => fun _ _ _ _ _ _ _ r h => by simp [impl_field_eval.l0] at h
 | k + 1 => by
  have ih0 := impl_field_eval.mono_l k
  ·intro y0 y1 y2 y3 y4 y5 y6
   unfold impl_field_eval.l0
   repeat' first
   | (with_reducible exact ih0 _ _ _ _ _ _ _)
   | (with_reducible exact LeO.refl _)
   | (with_reducible exact LeO.none _)
   | (with_reducible refine LeO.ite ?_ ?_)
   | (with_reducible refine LeO.bind ?_ (fun _ => ?_))
   | exact ih0 _ _ _ _ _ _ _
   | exact LeO.none _
   | refine LeO.ite ?_ ?_
   | refine LeO.bind ?_ (fun _ => ?_)
theorem impl_field_eval.mono : ∀ a0 a1 a2 a3 a4 k, LeO (impl_field_eval.f k a0 a1 a2 a3 a4) (impl_field_eval.f (k + 1) a0 a1 a2 a3 a4) := by
 intro a0 a1 a2 a3 a4 k
 have ih0 := impl_field_eval.mono_l k
 unfold impl_field_eval.f
 repeat' first
   | (with_reducible exact ih0 _ _ _ _ _ _ _)
   | (with_reducible exact LeO.refl _)
   | (with_reducible exact LeO.none _)
   | (with_reducible refine LeO.ite ?_ ?_)
   | (with_reducible refine LeO.bind ?_ (fun _ => ?_))
   | exact ih0 _ _ _ _ _ _ _
   | exact LeO.none _
   | refine LeO.ite ?_ ?_
   | refine LeO.bind ?_ (fun _ => ?_)
set_option maxHeartbeats 8000000 in
set_option maxRecDepth 100000 in
theorem impl_field_eval.calls (k : Nat) (a0_0 : Int) (a0_1 : Int) (a0_2 : Int) (A1 : Option Addr) (c1 : Nat) (l1 : List Int) (a2 : Int) (r : Int) (w : World) (hr1 : Kd.C (Kd.int .i64) w A1 l1.length l1) (hc1 : l1.length ≤ c1) (h : impl_field_eval.f k a0_0 a0_1 a0_2 l1 a2 = some r) :
  Calls Try.prog 124 #[.agg #[.int .i64 a0_0, .int .i64 a0_1, .int .i64 a0_2], .slice A1 l1.length c1, .int .i64 a2] w fun e w' => e = .returned (.int .i64 r) ∧ Below w.heap.size w w' := by
 have hu88 := Try.underlying88
 have HR1 := Aside0.mk hr1
 have HC1 := Aside0.mk hc1
 clear hr1 hc1
 have HB := Aside0.mk (Below.refl w.heap.size w)
 have H : (impl_field_eval.l0 k l1 a2 0 (wrap64 ((l1.length : Int) - 1)) a0_0 a0_1 a0_2) = some r := h
 clear h
 have H' := Aside0.mk H
 clear H
 go_enter Try.func124, Try.ntmps124
 go_wp2_with (first | ((with_reducible refine gate_dst (N := 3) rfl ?_); refine box_event ?hg (N := 3) ?hd (cs := #[.int .i64 a0_0, .int .i64 a0_1, .int .i64 a0_2]) (t := 88) ?hr ?_; (case hd => rfl); (case hg => rfl); (case hr => first | (go_simp; done) | (go_simp; rfl)); intro gb201 hg w4 hbox hb; have BK201 := zA (hbox); have GW201 := zA ((by rw [hg]; exact (below_size zH) : w.heap.size ≤ gb201)); have GE201 := zA ((by rw [hg]; exact (below_size zH) : w.heap.size ≤ gb201)); replace HB := zA (below_step zH hb); clear hb hbox hg))
 repeat (go_quiet (first | ((with_reducible refine gate_dst (N := 3) rfl ?_); refine box_event ?hg (N := 3) ?hd (cs := #[.int .i64 a0_0, .int .i64 a0_1, .int .i64 a0_2]) (t := 88) ?hr ?_; (case hd => rfl); (case hg => rfl); (case hr => first | (go_simp; done) | (go_simp; rfl)); intro gb201 hg w4 hbox hb; have BK201 := zA (hbox); have GW201 := zA ((by rw [hg]; exact (below_size zH) : w.heap.size ≤ gb201)); have GE201 := zA ((by rw [hg]; exact (below_size zH) : w.heap.size ≤ gb201)); replace HB := zA (below_step zH hb); clear hb hbox hg)); try go_wp2_with (first | ((with_reducible refine gate_dst (N := 3) rfl ?_); refine box_event ?hg (N := 3) ?hd (cs := #[.int .i64 a0_0, .int .i64 a0_1, .int .i64 a0_2]) (t := 88) ?hr ?_; (case hd => rfl); (case hg => rfl); (case hr => first | (go_simp; done) | (go_simp; rfl)); intro gb201 hg w4 hbox hb; have BK201 := zA (hbox); have GW201 := zA ((by rw [hg]; exact (below_size zH) : w.heap.size ≤ gb201)); have GE201 := zA ((by rw [hg]; exact (below_size zH) : w.heap.size ≤ gb201)); replace HB := zA (below_step zH hb); clear hb hbox hg)))
 go_loopg [7, 8] k (fun kq v7 v8 w' => ∃ (x7_1 : Int) (x8_1 : Int), v7 = .int .i64 x7_1 ∧ v8 = .int .i64 x8_1 ∧ Aside0 (impl_field_eval.l0 kq l1 a2 x7_1 x8_1 a0_0 a0_1 a0_2 = some r) ∧ Aside0 (kq ≤ k) ∧ Aside0 (w'.heap[gb201]? = some (.cells #[.int .i64 a0_0, .int .i64 a0_1, .int .i64 a0_2] 88 (0, 0))) ∧ Aside0 (Below w.heap.size w w'))
 case atStart => exact ⟨(0), (wrap64 ((l1.length : Int) - 1)), zF, zF, H', ⟨Nat.le_refl _⟩, ⟨zB BK201.out⟩, ⟨zH⟩⟩
 case round =>
  clear H'
  skip
  obtain ⟨x7_1, x8_1, rfl, rfl, HA, HK1, BK201, HB⟩ := hrel
  cases gk with
  | zero => exact absurd HA.out (by simp [impl_field_eval.l0])
  | succ k1 =>
   have H := HA.out
   clear HA
   simp only [impl_field_eval.l0] at H
   by_cases c5 : x8_1 ≥ 0
   ·rw [if_pos c5] at H
    have c5b0 : decide (0 ≤ x8_1) = true := decide_eq_true c5
    clear c5
    by_cases c6 : 0 ≤ x8_1
    ·rw [if_pos c6] at H
     have c6b0 : decide (0 ≤ x8_1) = true := decide_eq_true c6
     clear c6
     by_cases c7 : x8_1 < (l1.length : Int)
     ·rw [if_pos c7] at H
      have c7b0 : decide (x8_1 < (l1.length : Int)) = true := decide_eq_true c7
      clear c7
      by_cases c8 : a0_0 = 0
      ·rw [if_pos c8] at H
       exact absurd H (by simp)
      ·rw [if_neg c8] at H
       have c8b0 : (a0_0 == 0) = false := beq_eq_false_iff_ne.mpr c8
       have c8b1 : (a0_0 != 0) = true := bne_iff_ne.mpr c8
       have H' := Aside0.mk H
       clear H
       have p202 : 0 ≤ (x8_1 : Int) := zD
       have q202 : x8_1 < (l1.length : Int) := zD
       obtain ⟨ad202, e202, hx202_0⟩ := Kd.at_int HR1.out x8_1 p202 q202
       cases e202
       replace hx202_0 := (HB.out.cell (World.block_lt_of_cell? w _ hx202_0)).trans hx202_0
       replace p202 := eq_true p202
       replace q202 := eq_true q202
       obtain ⟨hcz9_0, hcz9_1, hcz9_2⟩ := zc3 BK201.out
       obtain ⟨hfz9_0, hfz9_1, hfz9_2, _, _⟩ := zf BK201.out
       go_wp2
       repeat (go_quiet (fail); try go_wp2)
       go_roundg k1
       case measure => have := HK1.out; omega
       case rel => exact ⟨(Int.tmod (wrap64 ((wrap64 (x7_1 * a2)) + (rd l1 x8_1))) a0_0), (wrap64 (x8_1 - 1)), zF, zF, H', ⟨by have := HK1.out; omega⟩, ⟨zB BK201.out⟩, ⟨zH⟩⟩
     ·rw [if_neg c7] at H
      exact absurd H (by simp)
    ·rw [if_neg c6] at H
     exact absurd H (by simp)
   ·rw [if_neg c5] at H
    have c5b0 : decide (0 ≤ x8_1) = false := decide_eq_false c5
    clear c5
    obtain rfl := Option.some.inj H
    go_wp2
    repeat (go_quiet (fail); try go_wp2)
    go_ret
    exact ⟨zE, zH⟩

/-! ### impl_field_evalMany: function 73 -/
def impl_field_evalMany.l0 : Nat → List Int → List Int → List Int → Int → Int → Int → Int → Int → Option (List Int)
 | 0, _, _, _, _, _, _, _, _ => none
 | k + 1, x1, x7, x11, x12, x13, x204000, x204001, x204002 => if x13 < x12 then (if 0 ≤ x13 then (if x13 < (x11.length : Int) then ((impl_field_eval.f k x204000 x204001 x204002 x1 (rd x11 x13)).bind fun t208 => (if x7.length < 17592186044416 then (impl_field_evalMany.l0 k x1 (x7 ++ [t208]) x11 x12 (wrap64 (x13 + 1)) x204000 x204001 x204002) else (none))) else (none)) else (none)) else (some x7)
def impl_field_evalMany.f (k : Nat) (a0_0 : Int) (a0_1 : Int) (a0_2 : Int) (l1 : List Int) (l2 : List Int) : Option (List Int) := impl_field_evalMany.l0 k l1 (([] : List Int)) l2 (l2.length : Int) 0 a0_0 a0_1 a0_2
theorem impl_field_evalMany.mono_l : ∀ k, (∀ y0 y1 y2 y3 y4 y5 y6 y7, LeO (impl_field_evalMany.l0 k y0 y1 y2 y3 y4 y5 y6 y7) (impl_field_evalMany.l0 (k + 1) y0 y1 y2 y3 y4 y5 y6 y7))
 | 0 => fun _ _ _ _ _ _ _ _ r h => by simp [impl_field_evalMany.l0] at h
 | k + 1 => by
  have ih0 := impl_field_evalMany.mono_l k
  ·intro y0 y1 y2 y3 y4 y5 y6 y7
   unfold impl_field_evalMany.l0
   repeat' first
   | (with_reducible exact ih0 _ _ _ _ _ _ _ _)
   | (with_reducible exact impl_field_eval.mono _ _ _ _ _ _)
   | (with_reducible exact LeO.refl _)
   | (with_reducible exact LeO.none _)
   | (with_reducible refine LeO.ite ?_ ?_)
   | (with_reducible refine LeO.bind ?_ (fun _ => ?_))
   | exact ih0 _ _ _ _ _ _ _ _
   | exact impl_field_eval.mono _ _ _ _ _ _
   | exact LeO.none _
   | refine LeO.ite ?_ ?_
   | refine LeO.bind ?_ (fun _ => ?_)
theorem impl_field_evalMany.mono : ∀ a0 a1 a2 a3 a4 k, LeO (impl_field_evalMany.f k a0 a1 a2 a3 a4) (impl_field_evalMany.f (k + 1) a0 a1 a2 a3 a4) := by
 intro a0 a1 a2 a3 a4 k
 have ih0 := impl_field_evalMany.mono_l k
 unfold impl_field_evalMany.f
 repeat' first
   | (with_reducible exact ih0 _ _ _ _ _ _ _ _)
   | (with_reducible exact impl_field_eval.mono _ _ _ _ _ _)
   | (with_reducible exact LeO.refl _)
   | (with_reducible exact LeO.none _)
   | (with_reducible refine LeO.ite ?_ ?_)
   | (with_reducible refine LeO.bind ?_ (fun _ => ?_))
   | exact ih0 _ _ _ _ _ _ _ _
   | exact impl_field_eval.mono _ _ _ _ _ _
   | exact LeO.none _
   | refine LeO.ite ?_ ?_
   | refine LeO.bind ?_ (fun _ => ?_)
set_option maxHeartbeats 8000000 in
set_option maxRecDepth 100000 in
theorem impl_field_evalMany.calls (k : Nat) (a0_0 : Int) (a0_1 : Int) (a0_2 : Int) (A1 : Option Addr) (c1 : Nat) (l1 : List Int) (A2 : Option Addr) (c2 : Nat) (l2 : List Int) (r : List Int) (w : World) (hr1 : Kd.C (Kd.int .i64) w A1 l1.length l1) (hc1 : l1.length ≤ c1) (hr2 : Kd.C (Kd.int .i64) w A2 l2.length l2) (hc2 : l2.length ≤ c2) (h : impl_field_evalMany.f k a0_0 a0_1 a0_2 l1 l2 = some r) :
  Calls Try.prog 73 #[.agg #[.int .i64 a0_0, .int .i64 a0_1, .int .i64 a0_2], .slice A1 l1.length c1, .slice A2 l2.length c2] w fun e w' => ∃ v0_ : Value, e = .returned (v0_) ∧ Kd.R (Kd.int .i64) 3 w' w.heap.size (fun _ => True) v0_ r ∧ Below w.heap.size w w' := by
 have hu88 := Try.underlying88
 have HR1 := Aside0.mk hr1
 have HC1 := Aside0.mk hc1
 clear hr1 hc1
 have HR2 := Aside0.mk hr2
 have HC2 := Aside0.mk hc2
 clear hr2 hc2
 have HB := Aside0.mk (Below.refl w.heap.size w)
 have H : (impl_field_evalMany.l0 k l1 (([] : List Int)) l2 (l2.length : Int) 0 a0_0 a0_1 a0_2) = some r := h
 clear h
 obtain ⟨y204, hy204⟩ : ∃ y_ : List Int, y_ = (([] : List Int)) := ⟨_, rfl⟩
 replace H : (impl_field_evalMany.l0 k l1 y204 l2 (l2.length : Int) 0 a0_0 a0_1 a0_2) = some r := by first | (rw [hy204]; with_reducible exact H) | (have H2_ := (Option.bind_some _ _).symm.trans H; rw [hy204]; with_reducible exact H2_) | (have H2_ := (Option.bind_some _ _).symm.trans H; with_reducible exact H2_) | with_reducible exact H | (rw [hy204]; exact H) | exact H
 have Ny204 := Aside0.mk hy204
 clear hy204
 have H' := Aside0.mk H
 clear H
 go_enter Try.func73, Try.ntmps73
 go_wp2_with (first | ((with_reducible refine gate_dst (N := 3) rfl ?_); refine box_event ?hg (N := 3) ?hd (cs := #[.int .i64 a0_0, .int .i64 a0_1, .int .i64 a0_2]) (t := 88) ?hr ?_; (case hd => rfl); (case hg => rfl); (case hr => first | (go_simp; done) | (go_simp; rfl)); intro gb203 hg w4 hbox hb; have BK203 := zA (hbox); have GW203 := zA ((by rw [hg]; exact (below_size zH) : w.heap.size ≤ gb203)); have GE203 := zA ((by rw [hg]; exact (below_size zH) : w.heap.size ≤ gb203)); replace HB := zA (below_step zH hb); clear hb hbox hg) | ((with_reducible refine gate_dst (N := 10) rfl ?_); refine Kd.R_lit (Kd.int .i64) _ 3 ?hg (N := 10) ?hd (xs := ([] : List Int)) (inner := []) (ok := fun _ => True) (okp := fun _ => True) ?hr ?hp (fun _ hk => hk) trivial (Below.refl _ _) (Nat.le_refl _) (by simp) ?_; (case hd => rfl); (case hg => rfl); (case hr => first | (go_simp; done) | (go_simp; rfl)); (case hp => exact (Reps.none _ _)); intro v205 w5 ho6 hb hg_ hnew_; clear hg_ hnew_; (first | rw [← Ny204.out] at ho6 | (simp only [Int.reduceToNat] at ho6; rw [← Ny204.out] at ho6)); have HO206 := zA (Kd.R_lower ho6 (below_size zH)); replace BK203 := zb BK203.out hb; replace HB := zA (below_step zH hb); clear hb ho6))
 go_loopg [7, 13] k (fun kq v7 v13 w' => ∃ (x7_1 : List Int) (x13_1 : Int), v13 = .int .i64 x13_1 ∧ Aside0 (impl_field_evalMany.l0 kq l1 x7_1 l2 (l2.length : Int) x13_1 a0_0 a0_1 a0_2 = some r) ∧ Aside0 (kq ≤ k) ∧ Aside0 (Kd.R (Kd.int .i64) 3 w' w.heap.size (fun _ => True) v7 x7_1) ∧ Aside0 (w'.heap[gb203]? = some (.cells #[.int .i64 a0_0, .int .i64 a0_1, .int .i64 a0_2] 88 (0, 0))) ∧ Aside0 (Below w.heap.size w w'))
 case atStart => exact ⟨(y204), (0), zF, H', ⟨Nat.le_refl _⟩, ⟨zR HO206.out⟩, ⟨zB BK203.out⟩, ⟨zH⟩⟩
 case round =>
  clear H'
  skip
  obtain ⟨x7_1, x13_1, rfl, HA, HK1, HO_7, BK203, HB⟩ := hrel
  cases gk with
  | zero => exact absurd HA.out (by simp [impl_field_evalMany.l0])
  | succ k1 =>
   have H := HA.out
   clear HA
   simp only [impl_field_evalMany.l0] at H
   by_cases c7 : x13_1 < (l2.length : Int)
   ·rw [if_pos c7] at H
    have c7b0 : decide (x13_1 < (l2.length : Int)) = true := decide_eq_true c7
    clear c7
    by_cases c8 : 0 ≤ x13_1
    ·rw [if_pos c8] at H
     have c8b0 : decide (0 ≤ x13_1) = true := decide_eq_true c8
     clear c8
     by_cases c9 : x13_1 < (l2.length : Int)
     ·rw [if_pos c9] at H
      have c9b0 : decide (x13_1 < (l2.length : Int)) = true := decide_eq_true c9
      clear c9
      replace H := Option.bind_eq_some_iff.mp H
      obtain ⟨t208, A100, H⟩ := H
      (try dsimp -zeta -simprocs only at H)
      have A10 := Aside0.mk A100
      clear A100
      by_cases c11 : x7_1.length < 17592186044416
      ·rw [if_pos c11] at H
       have LMc11 := Aside0.mk c11
       clear c11
       obtain ⟨y209, hy209⟩ : ∃ y_ : List Int, y_ = (x7_1 ++ [t208]) := ⟨_, rfl⟩
       replace H : (impl_field_evalMany.l0 k1 l1 y209 l2 (l2.length : Int) (wrap64 (x13_1 + 1)) a0_0 a0_1 a0_2) = some r := by first | (rw [hy209]; with_reducible exact H) | (have H2_ := (Option.bind_some _ _).symm.trans H; rw [hy209]; with_reducible exact H2_) | (have H2_ := (Option.bind_some _ _).symm.trans H; with_reducible exact H2_) | with_reducible exact H | (rw [hy209]; exact H) | exact H
       have Ny209 := Aside0.mk hy209
       clear hy209
       have H' := Aside0.mk H
       clear H
       have p207 : 0 ≤ (x13_1 : Int) := zD
       have q207 : x13_1 < (l2.length : Int) := zD
       obtain ⟨ad207, e207, hx207_0⟩ := Kd.at_int HR2.out x13_1 p207 q207
       cases e207
       replace hx207_0 := (HB.out.cell (World.block_lt_of_cell? w _ hx207_0)).trans hx207_0
       replace p207 := eq_true p207
       replace q207 := eq_true q207
       obtain ⟨hcz12_0, hcz12_1, hcz12_2⟩ := zc3 BK203.out
       obtain ⟨hfz12_0, hfz12_1, hfz12_2, _, _⟩ := zf BK203.out
       go_wp2_with (first | ((with_reducible refine gate_callee (f := 124) rfl ?_); refine goesL_ (some 21) rfl rfl Try.func124 (by kernel_rfl) rfl #[.agg #[.int .i64 a0_0, .int .i64 a0_1, .int .i64 a0_2], .slice A1 l1.length c1, .int .i64 (rd l2 x13_1)] rfl zM ?_; (with_reducible refine (impl_field_eval.calls k1 a0_0 a0_1 a0_2 _ _ l1 (rd l2 x13_1) t208 _ ?side1 ?side2 A10.out).mono ?_); (case side1 => exact zC (Kd.C_below HR1.out HB.out)); (case side2 => exact HC1.out); rintro e w13 ⟨rfl, hb⟩; refine ⟨_, rfl, ?_⟩; replace HO_7 := zA (Kd.R_below (zR HO_7.out) hb); replace BK203 := zb BK203.out hb; replace HB := zA (below_step zH hb); (try clear hb)) | ((with_reducible refine gate_builtin (b := .append) (xs := #[.tmp 17, .tmp 22]) rfl ?_); at_builtin; refine Kd.R_append (Kd.int .i64) (w0 := w) w.heap.size rfl (.tmp 17) (.tmp 22) 22 3 (.int .i64 0) 8 rfl Try.underlying22 info3 rfl (by decide) (by omega) u7 x7_1 t208 [.int .i64 t208] (fun _ => True) (fun _ => False) rfl rfl ?aP (fun _ hk => hk.elim) ?aF ?aO ?aB ?aS ?aL ?_; (case aP => exact rfl); (case aB => exact zH); (case aF => exact (fun _ _ => trivial)); (case aO => exact (zR HO_7.out)); (case aS => exact (below_size zH)); (case aL => have := LMc11.out; omega); intro v210 w14 ho hb hg hat; rw [← Ny209.out] at ho; have n0_ := Aside0.mk (blk_grown (g := gb203) (o := .cells #[.int .i64 a0_0, .int .i64 a0_1, .int .i64 a0_2] 88 (0, 0)) (zB BK203.out) hg (Kd.R_ne HO_7.out BK203.out (by decide))); have n1_ := Aside0.mk (hb); have n2_ := Aside0.mk (ho); clear BK203; clear HB; clear HO_7; have BK203 := n0_; have HB := n1_; have HO211 := n2_; clear n0_ n1_ n2_; clear ho hb hg hat))
       go_roundg k1
       case measure => have := HK1.out; omega
       case rel => exact ⟨(y209), (wrap64 (x13_1 + 1)), zF, H', ⟨by have := HK1.out; omega⟩, ⟨zR HO211.out⟩, ⟨zB BK203.out⟩, ⟨zH⟩⟩
      ·rw [if_neg c11] at H
       exact absurd H (by simp)
     ·rw [if_neg c9] at H
      exact absurd H (by simp)
    ·rw [if_neg c8] at H
     exact absurd H (by simp)
   ·rw [if_neg c7] at H
    have c7b0 : decide (x13_1 < (l2.length : Int)) = false := decide_eq_false c7
    clear c7
    obtain rfl := Option.some.inj H
    go_wp2
    go_ret
    exact ⟨_, zE, zR HO_7.out, zH⟩

/-! ### impl_trimmed: function 126 -/
def impl_trimmed.l0 : Nat → List Int → Option (List Int)
 | 0, _ => none
 | k + 1, x0 => if (x0.length : Int) > 0 then (if 0 ≤ (wrap64 ((x0.length : Int) - 1)) then (if (wrap64 ((x0.length : Int) - 1)) < (x0.length : Int) then (if (rd x0 (wrap64 ((x0.length : Int) - 1))) = 0 then (if (wrap64 ((x0.length : Int) - 1)) ≤ (x0.length : Int) then (impl_trimmed.l0 k (x0.take ((wrap64 ((x0.length : Int) - 1)) : Int).toNat)) else (none)) else (some x0)) else (none)) else (none)) else (some x0)
def impl_trimmed.f (k : Nat) (l0 : List Int) : Option (List Int) := impl_trimmed.l0 k l0
theorem impl_trimmed.mono_l : ∀ k, (∀ y0, LeO (impl_trimmed.l0 k y0) (impl_trimmed.l0 (k + 1) y0))
 | 0 => fun _ r h => by simp [impl_trimmed.l0] at h
 | k + 1 => by
  have ih0 := impl_trimmed.mono_l k
  ·intro y0
   unfold impl_trimmed.l0
   repeat' first
   | (with_reducible exact ih0 _)
   | (with_reducible exact LeO.refl _)
   | (with_reducible exact LeO.none _)
   | (with_reducible refine LeO.ite ?_ ?_)
   | (with_reducible refine LeO.bind ?_ (fun _ => ?_))
   | exact ih0 _
   | exact LeO.none _
   | refine LeO.ite ?_ ?_
   | refine LeO.bind ?_ (fun _ => ?_)
theorem impl_trimmed.mono : ∀ a0 k, LeO (impl_trimmed.f k a0) (impl_trimmed.f (k + 1) a0) := by
 intro a0 k
 have ih0 := impl_trimmed.mono_l k
 unfold impl_trimmed.f
 repeat' first
   | (with_reducible exact ih0 _)
   | (with_reducible exact LeO.refl _)
   | (with_reducible exact LeO.none _)
   | (with_reducible refine LeO.ite ?_ ?_)
   | (with_reducible refine LeO.bind ?_ (fun _ => ?_))
   | exact ih0 _
   | exact LeO.none _
   | refine LeO.ite ?_ ?_
   | refine LeO.bind ?_ (fun _ => ?_)
set_option maxHeartbeats 8000000 in
set_option maxRecDepth 100000 in
theorem impl_trimmed.calls (k : Nat) (P0_ : Nat → Prop) (A0 : Option Addr) (c0 : Nat) (l0 : List Int) (r : List Int) (w : World) (hs0 : Kd.V (Kd.int .i64) 3 w w.heap.size (fun k_ => P0_ k_) (.slice A0 l0.length c0) l0) (h : impl_trimmed.f k l0 = some r) :
  Calls Try.prog 126 #[.slice A0 l0.length c0] w fun e w' => ∃ v0_ : Value, e = .returned (v0_) ∧ Kd.V (Kd.int .i64) 3 w' w.heap.size (fun k_ => (P0_ k_ ∨ w.heap.size ≤ k_)) v0_ r ∧ Below w.heap.size w w' := by
 have HO0 := Aside0.mk (show Kd.V (Kd.int .i64) 3 w w.heap.size (fun k_ => (P0_ k_ ∨ w.heap.size ≤ k_)) (.slice A0 l0.length c0) l0 from Kd.V_mono hs0 (fun k_ hk => .inl hk))
 have HB := Aside0.mk (Below.refl w.heap.size w)
 have H : (impl_trimmed.l0 k l0) = some r := h
 clear h
 have H' := Aside0.mk H
 clear H
 go_enter Try.func126, Try.ntmps126
 go_wp2
 go_loopg [0] k (fun kq v0 w' => ∃ (x0_1 : List Int), Aside0 (impl_trimmed.l0 kq x0_1 = some r) ∧ Aside0 (kq ≤ k) ∧ Aside0 (Kd.V (Kd.int .i64) 3 w' w.heap.size (fun k_ => (P0_ k_ ∨ w.heap.size ≤ k_)) v0 x0_1) ∧ Aside0 (Below w.heap.size w w'))
 case atStart => exact ⟨(l0), H', ⟨Nat.le_refl _⟩, ⟨by (with_reducible repeat (first | apply Kd.V_alloc | apply Kd.V_drewN | apply Kd.V_drew)); exact HO0.out⟩, ⟨zH⟩⟩
 case round =>
  clear H'
  (try clear c1)
  obtain ⟨x0_1, HA, HK1, HO_0, HB⟩ := hrel
  cases gk with
  | zero => exact absurd HA.out (by simp [impl_trimmed.l0])
  | succ k1 =>
   have H := HA.out
   clear HA
   simp only [impl_trimmed.l0] at H
   by_cases c2 : (x0_1.length : Int) > 0
   ·rw [if_pos c2] at H
    have c2b0 : decide (0 < (x0_1.length : Int)) = true := decide_eq_true c2
    have c2b1 : decide (0 < x0_1.length) = true := decide_eq_true (by omega)
    clear c2
    obtain ⟨ji3, hji3⟩ : ∃ j_ : Int, (wrap64 ((x0_1.length : Int) - 1)) = j_ := ⟨_, rfl⟩
    replace H : (if 0 ≤ (ji3) then (if (ji3) < (x0_1.length : Int) then (if (rd x0_1 (ji3)) = 0 then (if (ji3) ≤ (x0_1.length : Int) then (impl_trimmed.l0 k1 (x0_1.take ((ji3) : Int).toNat)) else (none)) else (some x0_1)) else (none)) else (none)) = some r := by first | (rw [hji3] at H; exact H) | (simp only [hji3] at H ⊢; exact H)
    have hji3w : (IntKind.i64.wrap ((x0_1.length : Int) - 1)) = ji3 := (i64_w _).trans hji3
    by_cases c4 : 0 ≤ (ji3)
    ·rw [if_pos c4] at H
     have c4b0 : decide (0 ≤ (ji3)) = true := decide_eq_true c4
     clear c4
     by_cases c5 : (ji3) < (x0_1.length : Int)
     ·rw [if_pos c5] at H
      have c5b0 : decide ((ji3) < (x0_1.length : Int)) = true := decide_eq_true c5
      clear c5
      by_cases c6 : (rd x0_1 (ji3)) = 0
      ·rw [if_pos c6] at H
       have c6b0 : ((rd x0_1 (ji3)) == 0) = true := beq_iff_eq.mpr c6
       have c6b1 : ((rd x0_1 (ji3)) != 0) = false := bne_eq_false_iff_eq.mpr c6
       clear c6
       have c7b0 := eq_true (zD : 0 ≤ (ji3))
       by_cases c8 : (ji3) ≤ (x0_1.length : Int)
       ·rw [if_pos c8] at H
        have c8b0 := eq_true c8
        have c8b1 : decide ((ji3) ≤ (x0_1.length : Int)) = true := decide_eq_true c8
        clear c8
        obtain ⟨y213, hy213⟩ : ∃ y_ : List Int, y_ = (x0_1.take ((ji3) : Int).toNat) := ⟨_, rfl⟩
        replace H : (impl_trimmed.l0 k1 y213) = some r := by first | (rw [hy213]; with_reducible exact H) | (have H2_ := (Option.bind_some _ _).symm.trans H; rw [hy213]; with_reducible exact H2_) | (have H2_ := (Option.bind_some _ _).symm.trans H; with_reducible exact H2_) | with_reducible exact H | (rw [hy213]; exact H) | exact H
        have Ny213 := Aside0.mk hy213
        clear hy213
        have H' := Aside0.mk H
        clear H
        obtain ⟨Ao9, co9, eo9⟩ := Kd.V_slice HO_0.out
        subst eo9
        have p212 : 0 ≤ ((ji3) : Int) := zD
        have q212 : (ji3) < (x0_1.length : Int) := zD
        obtain ⟨ad212, e212, hx212_0⟩ := Kd.at_int (Kd.V_reads' HO_0.out).2.2 (ji3) p212 q212
        cases e212
        replace p212 := eq_true p212
        replace q212 := eq_true q212
        have q10 : ((ji3) : Int) ≤ ((x0_1.length : Int) : Int) := zD
        obtain ⟨i010, hi010, _, hsz10, _⟩ := info_parts info3
        have hroom10 : x0_1.length ≤ co9 := (Kd.V_reads' HO_0.out).2.1
        have hC10 : Kd.F (Kd.int .i64) _ _ (some ad212) x0_1.length x0_1 := (Kd.V_at (base := w.heap.size) HO_0.out).2.2
        have hcut10 := cut_to (P := Try.prog) 22 3 .i64 Try.underlying22 hi010 (some ad212) x0_1.length co9 (ji3) zD q10 hroom10
        have hr10 := Kd.F_take (m := ((ji3) : Int).toNat) hC10 (by omega)
        have hy10 : y213.length = ((ji3) : Int).toNat := (by rw [Ny213.out, List.length_take]; omega)
        rw [← Ny213.out] at hr10
        rw [← hy10] at hcut10
        have HO217 := Aside0.mk (show Kd.V (Kd.int .i64) 3 _ w.heap.size _ (.slice (some ad212) y213.length co9) y213 from Kd.V_mk (by omega) hr10)
        have HC217 := Aside0.mk (show y213.length ≤ co9 from by omega)
        clear hr10 hC10 hroom10 hi010 hsz10
        have KY10 := Aside0.mk hy10
        clear hy10
        replace q10 := eq_true q10
        go_wp2
        go_roundg k1
        case measure => have := HK1.out; omega
        case rel => exact ⟨(y213), H', ⟨by have := HK1.out; omega⟩, ⟨by (with_reducible repeat (first | apply Kd.V_alloc | apply Kd.V_drewN | apply Kd.V_drew)); exact HO217.out⟩, ⟨zH⟩⟩
       ·rw [if_neg c8] at H
        exact absurd H (by simp)
      ·rw [if_neg c6] at H
       have c6b0 : ((rd x0_1 (ji3)) == 0) = false := beq_eq_false_iff_ne.mpr c6
       have c6b1 : ((rd x0_1 (ji3)) != 0) = true := bne_iff_ne.mpr c6
       obtain rfl := Option.some.inj H
       obtain ⟨Ao11, co11, eo11⟩ := Kd.V_slice HO_0.out
       subst eo11
       have p212 : 0 ≤ ((ji3) : Int) := zD
       have q212 : (ji3) < (x0_1.length : Int) := zD
       obtain ⟨ad212, e212, hx212_0⟩ := Kd.at_int (Kd.V_reads' HO_0.out).2.2 (ji3) p212 q212
       cases e212
       replace p212 := eq_true p212
       replace q212 := eq_true q212
       go_wp2
       go_ret
       exact ⟨_, by first | rfl | (simp [errW_none, errW_some] <;> rfl) | (simp only [← hji3]; first | rfl | (simp [errW_none, errW_some] <;> rfl)) | (simp [*, errW_none, errW_some] <;> rfl), by (with_reducible repeat (first | apply Kd.V_alloc | apply Kd.V_drewN | apply Kd.V_drew)); exact HO_0.out, zH⟩
     ·rw [if_neg c5] at H
      exact absurd H (by simp)
    ·rw [if_neg c4] at H
     exact absurd H (by simp)
   ·rw [if_neg c2] at H
    have c2b0 : decide (0 < (x0_1.length : Int)) = false := decide_eq_false c2
    have c2b1 : decide (0 < x0_1.length) = false := decide_eq_false (by omega)
    clear c2
    obtain rfl := Option.some.inj H
    obtain ⟨Ao12, co12, eo12⟩ := Kd.V_slice HO_0.out
    subst eo12
    go_wp2
    go_ret
    exact ⟨_, zE, by (with_reducible repeat (first | apply Kd.V_alloc | apply Kd.V_drewN | apply Kd.V_drew)); exact HO_0.out, zH⟩

end Go.Proofs.Ytabicblkdgpogaa.QFnCertTrue
