-- Made by this session's program (wip/tools/myprint.py) out of the translation; Lean checks it.
import Derived.Test.YtabicblkdgpogaaQFnExactTakeEventx0
import Derived.Test.YtabicblkdgpogaaQFnExactTakeEventx10
import Derived.Test.YtabicblkdgpogaaQFnExactTakeEventx14
import Derived.Test.YtabicblkdgpogaaQFnExactTakeEventx15
namespace Go.Proofs.Ytabicblkdgpogaa.QFnExactTakeEvent
open Go.RowKit Go.Proofs.YtabicblkdgpogaaW.PrintWords Go.Proofs.YtabicblkdgpogaaW.PrintLast Go.Proofs.YtabicblkdgpogaaW.PrintMore
attribute [local go_sem] max2_int min2_int max_two min_two max_three min_three max_four min_four   -- for this text's walks alone
set_option linter.unusedVariables false
set_option linter.unusedSimpArgs false

/-! ### impl_takeEvent: function 107 -/
def impl_takeEvent.j0 : Nat → Int → Int → Bool → Int → Int → List Int → Option (Int × Int × Int × Int × List Int × Bool)
 | 0, _, _, _, _, _, _ => none
 | k + 1, x4, x5, x21, x283000, x283001, x283002 => if x21 = true then (some (0, 0, 0, 0, ([] : List Int), false)) else (if 0 < (x283002.length : Int) then ((some (([] : List Int) : List Int)).bind fun y289 => (if 0 ≤ x5 then (if x5 ≤ (x283002.length : Int) then (if y289.length + (x283002.drop (x5 : Int).toNat).length < 140737488355328 then ((some (y289 ++ (x283002.drop (x5 : Int).toNat) : List Int)).bind fun y293 => ((impl_isEvent.f k (wrap64 (rd x283002 0)) x283000 x283001 x4 y293).bind fun t297 => (if t297 = true then (some (wrap64 (rd x283002 0), x283000, x283001, x4, y293, true)) else (some (0, 0, 0, 0, ([] : List Int), false))))) else (none)) else (none)) else (none))) else (none))
def impl_takeEvent.f (k : Nat) (a0_0 : Int) (a0_1 : Int) (l0_2 : List Int) : Option (Int × Int × Int × Int × List Int × Bool) := (impl_takeNumber.f k l0_2 1).bind fun bt284 => (if bt284.2.2 = true then ((impl_isFrame.f a0_0 a0_1 l0_2).bind fun t287 => (impl_takeEvent.j0 k bt284.1 bt284.2.1 (!t287) a0_0 a0_1 l0_2)) else (impl_takeEvent.j0 k bt284.1 bt284.2.1 true a0_0 a0_1 l0_2))
theorem impl_takeEvent.mono_l : ∀ k, (∀ y0 y1 y2 y3 y4 y5, LeO (impl_takeEvent.j0 k y0 y1 y2 y3 y4 y5) (impl_takeEvent.j0 (k + 1) y0 y1 y2 y3 y4 y5))
 | 0 => fun _ _ _ _ _ _ r h => by simp [impl_takeEvent.j0] at h
 | k + 1 => by
  have ih0 := impl_takeEvent.mono_l k
  ·intro y0 y1 y2 y3 y4 y5
   unfold impl_takeEvent.j0
   repeat' first
   | (with_reducible exact ih0 _ _ _ _ _ _)
   | (with_reducible exact impl_isEvent.mono _ _ _ _ _ _)
   | (with_reducible exact impl_takeNumber.mono _ _ _)
   | (with_reducible exact LeO.refl _)
   | (with_reducible exact LeO.none _)
   | (with_reducible refine LeO.ite ?_ ?_)
   | (with_reducible refine LeO.bind ?_ (fun _ => ?_))
   | exact ih0 _ _ _ _ _ _
   | exact impl_isEvent.mono _ _ _ _ _ _
   | exact impl_takeNumber.mono _ _ _
   | exact LeO.none _
   | refine LeO.ite ?_ ?_
   | refine LeO.bind ?_ (fun _ => ?_)
theorem impl_takeEvent.mono : ∀ a0 a1 a2 k, LeO (impl_takeEvent.f k a0 a1 a2) (impl_takeEvent.f (k + 1) a0 a1 a2) := by
 intro a0 a1 a2 k
 have ih0 := impl_takeEvent.mono_l k
 unfold impl_takeEvent.f
 repeat' first
   | (with_reducible exact ih0 _ _ _ _ _ _)
   | (with_reducible exact impl_isEvent.mono _ _ _ _ _ _)
   | (with_reducible exact impl_takeNumber.mono _ _ _)
   | (with_reducible exact LeO.refl _)
   | (with_reducible exact LeO.none _)
   | (with_reducible refine LeO.ite ?_ ?_)
   | (with_reducible refine LeO.bind ?_ (fun _ => ?_))
   | exact ih0 _ _ _ _ _ _
   | exact impl_isEvent.mono _ _ _ _ _ _
   | exact impl_takeNumber.mono _ _ _
   | exact LeO.none _
   | refine LeO.ite ?_ ?_
   | refine LeO.bind ?_ (fun _ => ?_)
def impl_takeEvent.T4 : Bool × List (List Nat × List Nat) := (true, [([], []), ([0], [0]), ([1], [1]), ([2], [2]), ([3], [3]), ([], []), ([5], [5]), ([], []), ([7], [7]), ([], []), ([], []), ([], []), ([11], [11]), ([], []), ([12, 13], [12, 13]), ([10, 14], [10, 14]), ([4, 6, 8, 9, 15], [4, 6, 8, 9, 15]), ([], []), ([17, 16, 15, 0, 1, 2, 3, 4, 5, 6, 7, 8, 9, 10, 11, 12, 13, 14, 15, 16, 17], [16, 17])])
def impl_takeEvent.B4 : List Nat := [0, 1, 3, 7, 15, 0, 32, 0, 128, 0, 0, 0, 2048, 0, 14336, 31744, 65535, 0, 262143]
theorem impl_takeEvent.tab4 : rtab .any (opsOf Try.f107 4) = impl_takeEvent.T4 := by kernel_rfl
theorem impl_takeEvent.bits4 : waitsOk impl_takeEvent.T4.2 impl_takeEvent.B4 = true := by kernel_rfl
set_option maxHeartbeats 8000000 in
set_option maxRecDepth 100000 in
theorem impl_takeEvent.calls (k : Nat) (a0_0 : Int) (a0_1 : Int) (A0_2 : Option Addr) (c0_2 : Nat) (l0_2 : List Int) (r1 : Int) (r2 : Int) (r3 : Int) (r4 : Int) (r5 : List Int) (r6 : Bool) (w : World) (hr0_2 : Kd.C (Kd.int .u8) w A0_2 l0_2.length l0_2) (hc0_2 : l0_2.length ≤ c0_2) (h : impl_takeEvent.f k a0_0 a0_1 l0_2 = some (r1, r2, r3, r4, r5, r6)) :
  Calls Try.prog 107 #[.agg #[.int .i64 a0_0, .int .i64 a0_1, .slice A0_2 l0_2.length c0_2]] w fun e w' => ∃ v4_ : Value, e = .returned (.tuple #[.agg #[.int .i64 r1, .int .i64 r2, .int .i64 r3, .int .i64 r4, v4_], .bool r6]) ∧ Kd.R (Kd.int .u8) 5 w' w.heap.size (fun _ => True) v4_ r5 ∧ Below w.heap.size w w' := by
 have hu62 := Try.underlying62
 have hu44 := Try.underlying44
 have HR0_2 := Aside0.mk hr0_2
 have HC0_2 := Aside0.mk hc0_2
 clear hr0_2 hc0_2
 have HB := Aside0.mk (Below.refl w.heap.size w)
 have H : ((impl_takeNumber.f k l0_2 1).bind fun bt284 => (if bt284.2.2 = true then ((impl_isFrame.f a0_0 a0_1 l0_2).bind fun t287 => (impl_takeEvent.j0 k bt284.1 bt284.2.1 (!t287) a0_0 a0_1 l0_2)) else (impl_takeEvent.j0 k bt284.1 bt284.2.1 true a0_0 a0_1 l0_2))) = some (r1, r2, r3, r4, r5, r6) := h
 clear h
 replace H := Option.bind_eq_some_iff.mp H
 obtain ⟨⟨t284, t285, t286⟩, A20, H⟩ := H
 replace H : (if t286 = true then ((impl_isFrame.f a0_0 a0_1 l0_2).bind fun t287 => (impl_takeEvent.j0 k t284 t285 (!t287) a0_0 a0_1 l0_2)) else (impl_takeEvent.j0 k t284 t285 true a0_0 a0_1 l0_2)) = some (r1, r2, r3, r4, r5, r6) := H
 have A2 := Aside0.mk A20
 clear A20
 have HC3 := Aside0.mk H
 clear H
 go_enter Try.func107, Try.ntmps107
 go_upto_region 2 with (first | ((with_reducible refine gate_dst (N := 1) rfl ?_); refine box_event ?hg (N := 1) ?hd (cs := #[.int .i64 a0_0, .int .i64 a0_1, .slice A0_2 l0_2.length c0_2]) (t := 62) ?hr ?_; (case hd => rfl); (case hg => rfl); (case hr => first | (go_simp; done) | (go_simp; rfl)); intro gb282 hg w4 hbox hb; have n0_ := Aside0.mk (below_step zH hb); have n1_ := Aside0.mk (hbox); have n2_ := Aside0.mk ((by rw [hg]; exact (below_size zH) : w.heap.size ≤ gb282)); have n3_ := Aside0.mk ((by rw [hg]; exact (below_size zH) : w.heap.size ≤ gb282)); clear HB; have HB := n0_; have BK282 := n1_; have GW282 := n2_; have GE282 := n3_; clear n0_ n1_ n2_ n3_; clear hb hbox hg) | ((with_reducible refine gate_dst (N := 2) rfl ?_); refine box_event ?hg (N := 2) ?hd (cs := #[.int .i64 0, .int .i64 0, .int .i64 0, .int .i64 0, .slice none 0 0]) (t := 44) ?hr ?_; (case hd => rfl); (case hg => rfl); (case hr => first | (go_simp; done) | (go_simp; rfl)); intro gb283 hg w5 hbox hb; have n0_ := Aside0.mk (blk_below (g := gb282) (o := .cells #[.int .i64 a0_0, .int .i64 a0_1, .slice A0_2 l0_2.length c0_2] 62 (0, 0)) (zB BK282.out) hb); have n1_ := Aside0.mk (below_step zH hb); have n2_ := Aside0.mk (hbox); have n3_ := Aside0.mk ((by rw [hg]; exact (below_size zH) : w.heap.size ≤ gb283)); have n4_ := Aside0.mk ((by rw [hg]; exact (below_size zH) : w.heap.size ≤ gb283)); have n5_ := Aside0.mk ((by rw [hg]; exact Nat.ne_of_lt (blk_lt (g := gb282) (o := .cells #[.int .i64 a0_0, .int .i64 a0_1, .slice A0_2 l0_2.length c0_2] 62 (0, 0)) (zB BK282.out)) : gb282 ≠ gb283)); have n6_ := Aside0.mk ((by rw [hg]; exact Nat.ne_of_gt (blk_lt (g := gb282) (o := .cells #[.int .i64 a0_0, .int .i64 a0_1, .slice A0_2 l0_2.length c0_2] 62 (0, 0)) (zB BK282.out)) : gb283 ≠ gb282)); clear BK282; clear HB; have BK282 := n0_; have HB := n1_; have BK283 := n2_; have GW283 := n3_; have GE283 := n4_; have NB282_283 := n5_; have NB283_282 := n6_; clear n0_ n1_ n2_ n3_ n4_ n5_ n6_; clear hb hbox hg; have hnb6 := NB282_283.out; have hnc6 := NB283_282.out; obtain ⟨hcz7_0, hcz7_1, hcz7_2⟩ := zc3 BK282.out; obtain ⟨hfz7_0, hfz7_1, hfz7_2, _, _⟩ := zf BK282.out) | ((with_reducible refine gate_callee (f := 148) rfl ?_); refine goesL_ (some 11) rfl rfl Try.func148 (by kernel_rfl) rfl #[.slice A0_2 l0_2.length c0_2, .int .i64 1] rfl zM ?_; (with_reducible refine (impl_takeNumber.calls k _ _ l0_2 1 t284 t285 t286 _ ?side1 ?side2 A2.out).mono ?_); (case side1 => exact zC (Kd.C_below HR0_2.out HB.out)); (case side2 => exact HC0_2.out); rintro e w' ⟨rfl, ⟨nd, rfl⟩⟩; refine ⟨_, rfl, ?_⟩))
 (try simp only [Act.put, List.setIfInBounds_toArray, List.set_cons_zero, List.set_cons_succ])
 go_cut [21] (fun v21 wc => ∃ (kq : Nat) (x21_2 : Bool), v21 = .bool x21_2 ∧ Aside0 (impl_takeEvent.j0 kq t284 t285 x21_2 a0_0 a0_1 l0_2 = some (r1, r2, r3, r4, r5, r6)) ∧ Aside0 (kq ≤ k) ∧ Aside0 (wc.heap[gb282]? = some (.cells #[.int .i64 a0_0, .int .i64 a0_1, (.slice A0_2 l0_2.length c0_2)] 62 (0, 0))) ∧ Aside0 (wc.heap[gb283]? = some (.cells #[.int .i64 0, .int .i64 0, .int .i64 0, .int .i64 0, (.slice none 0 0)] 44 (0, 0))) ∧ Aside0 (Below w.heap.size w wc))
 case first =>
  have H := HC3.out
  clear HC3
  by_cases c8 : t286 = true
  ·subst c8
   replace H : ((impl_isFrame.f a0_0 a0_1 l0_2).bind fun t287 => (impl_takeEvent.j0 k t284 t285 (!t287) a0_0 a0_1 l0_2)) = some (r1, r2, r3, r4, r5, r6) := by rw [if_pos rfl] at H; exact H
   replace H := Option.bind_eq_some_iff.mp H
   obtain ⟨t287, A90, H⟩ := H
   replace H : (impl_takeEvent.j0 k t284 t285 (!t287) a0_0 a0_1 l0_2) = some (r1, r2, r3, r4, r5, r6) := H
   have A9 := Aside0.mk A90
   clear A90
   have H' := Aside0.mk H
   clear H
   have hnb10 := NB282_283.out
   have hnc10 := NB283_282.out
   obtain ⟨hcz11_0, hcz11_1, hcz11_2⟩ := zc3 BK282.out
   obtain ⟨hfz11_0, hfz11_1, hfz11_2, _, _⟩ := zf BK282.out
   go_wp2_with (first | (go_at_call 149; (with_reducible refine (impl_isFrame.calls a0_0 a0_1 _ _ l0_2 t287 _ ?side1 ?side2 A9.out).mono ?_); (case side1 => exact zC (Kd.C_below HR0_2.out HB.out)); (case side2 => exact HC0_2.out); rintro e w12 ⟨rfl, hb⟩; have n0_ := Aside0.mk (blk_below (g := gb282) (o := .cells #[.int .i64 a0_0, .int .i64 a0_1, .slice A0_2 l0_2.length c0_2] 62 (0, 0)) (zB BK282.out) hb); have n1_ := Aside0.mk (blk_below (g := gb283) (o := .cells #[.int .i64 0, .int .i64 0, .int .i64 0, .int .i64 0, .slice none 0 0] 44 (0, 0)) (zB BK283.out) hb); have n2_ := Aside0.mk (below_step zH hb); clear BK282; clear BK283; clear HB; have BK282 := n0_; have BK283 := n1_; have HB := n2_; clear n0_ n1_ n2_; (try clear hb); (try clear hb2); (try clear hk); (try clear hi)))
   go_meet
   case rel => exact ⟨_, (!t287), zF, H', ⟨by first | omega | exact Nat.le_refl _⟩, ⟨zB BK282.out⟩, ⟨zB BK283.out⟩, ⟨zH⟩⟩
  ·replace c8 := Bool.eq_false_iff.mpr c8
   subst c8
   replace H : (impl_takeEvent.j0 k t284 t285 true a0_0 a0_1 l0_2) = some (r1, r2, r3, r4, r5, r6) := by rw [if_neg (show ¬ (false = true) by decide)] at H; exact H
   have H' := Aside0.mk H
   clear H
   go_wp2
   go_meet
   case rel => exact ⟨_, (true), zF, H', ⟨by first | omega | exact Nat.le_refl _⟩, ⟨zB BK282.out⟩, ⟨zB BK283.out⟩, ⟨zH⟩⟩
 case rest =>
  clear HC3
  (try clear c1);(try clear p2);(try clear c6);(try clear c8);(try clear c10);(try clear hcz11_0);(try clear hcz11_1);(try clear hcz11_2);(try clear hcz7_0);(try clear hcz7_1);(try clear hcz7_2);(try clear hfz11_0);(try clear hfz11_1);(try clear hfz11_2);(try clear hfz7_0);(try clear hfz7_1);(try clear hfz7_2)
  obtain ⟨kq, x21_2, rfl, HA, HJ2, BK282, BK283, HB⟩ := hcut
  cases kq with
  | zero => exact absurd HA.out (by simp [impl_takeEvent.j0])
  | succ kj2 =>
   have H := HA.out
   clear HA
   simp only [impl_takeEvent.j0] at H
   by_cases c13 : x21_2 = true
   ·subst c13
    replace H : (some (0, 0, 0, 0, ([] : List Int), false)) = some (r1, r2, r3, r4, r5, r6) := by rw [if_pos rfl] at H; exact H
    simp only [Option.some.injEq, Prod.mk.injEq] at H
    obtain ⟨rfl, rfl, rfl, rfl, rfl, rfl⟩ := H
    have hnb14 := NB283_282.out
    have hnc14 := NB282_283.out
    obtain ⟨hcz15_0, hcz15_1, hcz15_2, hcz15_3, hcz15_4⟩ := zc5 BK283.out
    obtain ⟨hfz15_0, hfz15_1, hfz15_2, hfz15_3, hfz15_4⟩ := zf BK283.out
    go_wp2
    refine bodyPost_ret (results_ct rfl _ _ gb283 44 #[.int .i64 0, .int .i64 0, .int .i64 0, .int .i64 0, .slice none 0 0] (0, 0) _ rfl (by (repeat refine zL ?_); refine blk_put (cs := #[.int .i64 0, .int .i64 0, .int .i64 0, .int .i64 0, .slice none 0 0]) ?_ 4 _ rfl; (repeat refine zL ?_); refine blk_put (cs := #[.int .i64 0, .int .i64 0, .int .i64 0, .int .i64 0, .slice none 0 0]) ?_ 3 _ rfl; (repeat refine zL ?_); refine blk_put (cs := #[.int .i64 0, .int .i64 0, .int .i64 0, .int .i64 0, .slice none 0 0]) ?_ 2 _ rfl; (repeat refine zL ?_); refine blk_put (cs := #[.int .i64 0, .int .i64 0, .int .i64 0, .int .i64 0, .slice none 0 0]) ?_ 1 _ rfl; (repeat refine zL ?_); refine blk_put (cs := #[.int .i64 0, .int .i64 0, .int .i64 0, .int .i64 0, .slice none 0 0]) ?_ 0 _ rfl; (repeat refine zL ?_); exact BK283.out) Try.underlying44 rfl (by kernel_rfl)) rfl ?_
    exact ⟨.slice none 0 0, zE, by first | exact Kd.R_nil _ _ _ _ _ | exact Kd.R_nil _ _ _ w.heap.size _ | exact Kd.N_nil _ _ _ _ _ | exact Kd.V_nil _ _ _ _ _ | exact Kd.Q_nil _ _ _ _ _ | exact Kd.S_nil _ _ _ _ _, zH⟩
   ·replace c13 := Bool.eq_false_iff.mpr c13
    subst c13
    replace H : (if 0 < (l0_2.length : Int) then ((some (([] : List Int) : List Int)).bind fun y289 => (if 0 ≤ t285 then (if t285 ≤ (l0_2.length : Int) then (if y289.length + (l0_2.drop (t285 : Int).toNat).length < 140737488355328 then ((some (y289 ++ (l0_2.drop (t285 : Int).toNat) : List Int)).bind fun y293 => ((impl_isEvent.f kj2 (wrap64 (rd l0_2 0)) a0_0 a0_1 t284 y293).bind fun t297 => (if t297 = true then (some (wrap64 (rd l0_2 0), a0_0, a0_1, t284, y293, true)) else (some (0, 0, 0, 0, ([] : List Int), false))))) else (none)) else (none)) else (none))) else (none)) = some (r1, r2, r3, r4, r5, r6) := by rw [if_neg (show ¬ (false = true) by decide)] at H; exact H
    by_cases c16 : 0 < (l0_2.length : Int)
    ·rw [if_pos c16] at H
     have c16b0 : decide (0 < (l0_2.length : Int)) = true := decide_eq_true c16
     have c16b1 : decide (0 < l0_2.length) = true := decide_eq_true (by omega)
     clear c16
     obtain ⟨y289, hy289⟩ : ∃ y_ : List Int, y_ = (([] : List Int)) := ⟨_, rfl⟩
     replace H : (if 0 ≤ t285 then (if t285 ≤ (l0_2.length : Int) then (if y289.length + (l0_2.drop (t285 : Int).toNat).length < 140737488355328 then ((some (y289 ++ (l0_2.drop (t285 : Int).toNat) : List Int)).bind fun y293 => ((impl_isEvent.f kj2 (wrap64 (rd l0_2 0)) a0_0 a0_1 t284 y293).bind fun t297 => (if t297 = true then (some (wrap64 (rd l0_2 0), a0_0, a0_1, t284, y293, true)) else (some (0, 0, 0, 0, ([] : List Int), false))))) else (none)) else (none)) else (none)) = some (r1, r2, r3, r4, r5, r6) := by first | (rw [hy289]; with_reducible exact H) | (have H2_ := (Option.bind_some _ _).symm.trans H; rw [hy289]; with_reducible exact H2_) | (have H2_ := (Option.bind_some _ _).symm.trans H; with_reducible exact H2_) | with_reducible exact H | (rw [hy289]; exact H) | exact H
     have Ny289 := Aside0.mk hy289
     clear hy289
     by_cases c17 : 0 ≤ t285
     ·rw [if_pos c17] at H
      have c17b0 := eq_true c17
      have c17b1 : decide (0 ≤ t285) = true := decide_eq_true c17
      clear c17
      by_cases c18 : t285 ≤ (l0_2.length : Int)
      ·rw [if_pos c18] at H
       have c18b0 := eq_true c18
       have c18b1 : decide (t285 ≤ (l0_2.length : Int)) = true := decide_eq_true c18
       clear c18
       by_cases c19 : y289.length + (l0_2.drop (t285 : Int).toNat).length < 140737488355328
       ·rw [if_pos c19] at H
        have LMc19 := Aside0.mk c19
        clear c19
        obtain ⟨y293, hy293⟩ : ∃ y_ : List Int, y_ = (y289 ++ (l0_2.drop (t285 : Int).toNat)) := ⟨_, rfl⟩
        replace H : ((impl_isEvent.f kj2 (wrap64 (rd l0_2 0)) a0_0 a0_1 t284 y293).bind fun t297 => (if t297 = true then (some (wrap64 (rd l0_2 0), a0_0, a0_1, t284, y293, true)) else (some (0, 0, 0, 0, ([] : List Int), false)))) = some (r1, r2, r3, r4, r5, r6) := by first | (rw [hy293]; with_reducible exact H) | (have H2_ := (Option.bind_some _ _).symm.trans H; rw [hy293]; with_reducible exact H2_) | (have H2_ := (Option.bind_some _ _).symm.trans H; with_reducible exact H2_) | with_reducible exact H | (rw [hy293]; exact H) | exact H
        have Ny293 := Aside0.mk hy293
        clear hy293
        replace H := Option.bind_eq_some_iff.mp H
        obtain ⟨t297, A200, H⟩ := H
        replace H : (if t297 = true then (some (wrap64 (rd l0_2 0), a0_0, a0_1, t284, y293, true)) else (some (0, 0, 0, 0, ([] : List Int), false))) = some (r1, r2, r3, r4, r5, r6) := H
        have A20 := Aside0.mk A200
        clear A200
        by_cases c21 : t297 = true
        ·subst c21
         replace H : (some (wrap64 (rd l0_2 0), a0_0, a0_1, t284, y293, true)) = some (r1, r2, r3, r4, r5, r6) := by rw [if_pos rfl] at H; exact H
         simp only [Option.some.injEq, Prod.mk.injEq] at H
         obtain ⟨rfl, rfl, rfl, rfl, rfl, rfl⟩ := H
         try go_wp2
         have n0_ := Aside0.mk (blk_drew BK282.out)
         have n1_ := Aside0.mk (blk_drew BK283.out)
         have n2_ := Aside0.mk (below_drew1 HB.out)
         clear BK282
         clear BK283
         clear HB
         have BK282 := n0_
         have BK283 := n1_
         have HB := n2_
         clear n0_ n1_ n2_
         have p288 : 0 ≤ (0 : Int) := (by omega)
         have q288 : 0 < (l0_2.length : Int) := zD
         obtain ⟨ad288, e288, hx288_0⟩ := Kd.at_int HR0_2.out 0 p288 q288
         have hw288_0 := hx288_0
         (try rw [show ((0 : Int)).toNat = 0 from rfl] at hw288_0)
         (try rw [show 0 * 1 = 0 from rfl] at hw288_0)
         (try rw [Addr.add_zero'] at hw288_0)
         cases e288
         have qi288 : (0 < l0_2.length) = True := eq_true (by omega)
         (try rw [show ((0 : Int)).toNat = 0 from rfl] at hx288_0)
         (try rw [Addr.add_zero'] at hx288_0)
         replace hx288_0 := (HB.out.cell (World.block_lt_of_cell? w _ hx288_0)).trans hx288_0
         replace p288 := eq_true p288
         replace q288 := eq_true q288
         obtain ⟨i023, hi023, _, hsz23, _⟩ := info_parts info5
         obtain ⟨A23, hcut23, hA23, hC23⟩ := print_drop_of (P := Try.prog) (Value.int .u8) 0 39 5 .i64 Try.underlying39 hi023 hsz23 (some ad288) c0_2 l0_2 t285 zD zD HC0_2.out
         have HR292 := Aside0.mk (Kd.C_of_reads (h1 := fun _ => rfl) (hA23 _ (Kd.reads_of_C HR0_2.out)))
         have HC292 := Aside0.mk hC23
         clear hA23 hC23 hi023 hsz23
         refine start_ (n := 19) (S := fun w' => w'.cell? ⟨gb282, 0, none⟩ = some (.int .i64 a0_0) ∧ w'.cell? ⟨gb282, 1, none⟩ = some (.int .i64 a0_1) ∧ w'.cell? ⟨gb282, 2, none⟩ = some (.slice (some ad288) l0_2.length c0_2) ∧ w'.cell? ad288 = some (.int .u8 (rd l0_2 0))) (ds := []) #[false, false, false, false, false, false, false, false, false, false, false, false, false, false, false, false, false, false, false] (by kernel_rfl) rfl rfl ⟨(blk_cell BK282.out 0).trans rfl, (blk_cell BK282.out 1).trans rfl, (blk_cell BK282.out 2).trans rfl, ((HB.out.cell (World.block_lt_of_cell? w _ hw288_0)).trans hw288_0)⟩ (fun hHeld => ?_); refine with_tabW impl_takeEvent.tab4 impl_takeEvent.bits4 (fun HT_ HW_ => ?_)
         generalize wc.drew = w22 at BK282 BK283 HB HR292 hx288_0 hHeld ⊢
         refine pure_ (i := 0) (N := some 23) (v := ?_) (a' := ?_) #[true, false, false, false, false, false, false, false, false, false, false, false, false, false, false, false, false, false, false] rfl rfl (any_of HT_.out (by kernel_rfl)) (fun _ _ _ h => h) (Or.inl ⟨by rfl, ?_⟩) ?_ ?_
         rotate_left;(focus intro w';go_simp;with_reducible rfl);rotate_left;(focus simp only [Act.put, List.setIfInBounds_toArray, List.set_cons_zero, List.set_cons_succ, i64_w, i32_w];rfl)
         refine pure_ (i := 5) (N := some 28) (v := ?_) (a' := ?_) #[true, false, false, false, false, true, false, false, false, false, false, false, false, false, false, false, false, false, false] rfl rfl (any_of HT_.out (by kernel_rfl)) (fun _ _ _ h => h) (Or.inl ⟨by rfl, ?_⟩) ?_ ?_
         rotate_left;(focus intro w';go_simp;with_reducible rfl);rotate_left;(focus simp only [Act.put, List.setIfInBounds_toArray, List.set_cons_zero, List.set_cons_succ, i64_w, i32_w];rfl)
         refine pure_ (i := 7) (N := some 30) (v := ?_) (a' := ?_) #[true, false, false, false, false, true, false, true, false, false, false, false, false, false, false, false, false, false, false] rfl rfl (any_of HT_.out (by kernel_rfl)) (fun _ _ _ h => h) (Or.inl ⟨by rfl, ?_⟩) ?_ ?_
         rotate_left;(focus intro w';go_simp;with_reducible rfl);rotate_left;(focus simp only [Act.put, List.setIfInBounds_toArray, List.set_cons_zero, List.set_cons_succ, i64_w, i32_w];rfl)
         refine pure_ (i := 9) (N := some 32) (v := ?_) (a' := ?_) #[true, false, false, false, false, true, false, true, false, true, false, false, false, false, false, false, false, false, false] rfl rfl (any_of HT_.out (by kernel_rfl)) (fun _ _ _ h => h) (Or.inl ⟨by rfl, ?_⟩) ?_ ?_
         rotate_left;(focus intro w';go_simp;with_reducible rfl);rotate_left;(focus simp only [Act.put, List.setIfInBounds_toArray, List.set_cons_zero, List.set_cons_succ, i64_w, i32_w];rfl)
         refine pure_ (i := 11) (N := some 34) (v := ?_) (a' := ?_) #[true, false, false, false, false, true, false, true, false, true, false, true, false, false, false, false, false, false, false] rfl rfl (any_of HT_.out (by kernel_rfl)) (fun _ _ _ h => h) (Or.inl ⟨by rfl, ?_⟩) ?_ ?_
         rotate_left;(focus intro w';go_simp;with_reducible rfl);rotate_left;(focus simp only [Act.put, List.setIfInBounds_toArray, List.set_cons_zero, List.set_cons_succ, i64_w, i32_w];rfl)
         refine pure_ (i := 13) (N := some 36) (v := ?_) (a' := ?_) #[true, false, false, false, false, true, false, true, false, true, false, true, false, true, false, false, false, false, false] rfl rfl (any_of HT_.out (by kernel_rfl)) (fun _ _ _ h => h) (Or.inl ⟨by rfl, ?_⟩) ?_ ?_
         rotate_left;(focus intro w';go_simp;with_reducible rfl);rotate_left;(focus simp only [Act.put, List.setIfInBounds_toArray, List.set_cons_zero, List.set_cons_succ, i64_w, i32_w];rfl)
         refine take_ (i := 1) (N := some 24) (v := ?_) (a' := ?_) #[true, true, false, false, false, true, false, true, false, true, false, true, false, true, false, false, false, false, false] rfl rfl (take_ofW HT_.out HW_.out (by kernel_rfl)) (fun _ _ _ h => h) (Or.inl ⟨by rfl, ?_⟩) hHeld ?_ ?_
         rotate_left
         ·rintro w' ⟨s0, s1, s2, s3⟩
          go_simp
          with_reducible rfl
         rotate_left
         ·simp only [Act.put, List.setIfInBounds_toArray, List.set_cons_zero, List.set_cons_succ, i64_w, i32_w]
          rfl
         refine pure_ (i := 2) (N := some 25) (v := ?_) (a' := ?_) #[true, true, true, false, false, true, false, true, false, true, false, true, false, true, false, false, false, false, false] rfl rfl (any_of HT_.out (by kernel_rfl)) (fun _ _ _ h => h) (Or.inl ⟨by rfl, ?_⟩) ?_ ?_
         rotate_left;(focus intro w';go_simp;with_reducible rfl);rotate_left;(focus simp only [Act.put, List.setIfInBounds_toArray, List.set_cons_zero, List.set_cons_succ, i64_w, i32_w];rfl)
         refine take_ (i := 3) (N := some 26) (v := ?_) (a' := ?_) #[true, true, true, true, false, true, false, true, false, true, false, true, false, true, false, false, false, false, false] rfl rfl (take_ofW HT_.out HW_.out (by kernel_rfl)) (fun _ _ _ h => h) (Or.inl ⟨by rfl, ?_⟩) hHeld ?_ ?_
         rotate_left
         ·rintro w' ⟨s0, s1, s2, s3⟩
          go_simp
          with_reducible rfl
         rotate_left
         ·simp only [Act.put, List.setIfInBounds_toArray, List.set_cons_zero, List.set_cons_succ, i64_w, i32_w]
          rfl
         refine pure_ (i := 4) (N := some 27) (v := ?_) (a' := ?_) #[true, true, true, true, true, true, false, true, false, true, false, true, false, true, false, false, false, false, false] rfl rfl (any_of HT_.out (by kernel_rfl)) (fun _ _ _ h => h) (Or.inl ⟨by rfl, ?_⟩) ?_ ?_
         rotate_left;(focus intro w';go_simp;with_reducible rfl);rotate_left;(focus simp only [Act.put, List.setIfInBounds_toArray, List.set_cons_zero, List.set_cons_succ, i64_w, i32_w];rfl)
         refine take_ (i := 6) (N := some 29) (v := ?_) (a' := ?_) #[true, true, true, true, true, true, true, true, false, true, false, true, false, true, false, false, false, false, false] rfl rfl (take_ofW HT_.out HW_.out (by kernel_rfl)) (fun _ _ _ h => h) (Or.inl ⟨by rfl, ?_⟩) hHeld ?_ ?_
         rotate_left
         ·rintro w' ⟨s0, s1, s2, s3⟩
          go_simp
          with_reducible rfl
         rotate_left
         ·simp only [Act.put, List.setIfInBounds_toArray, List.set_cons_zero, List.set_cons_succ, i64_w, i32_w]
          rfl
         refine take_ (i := 8) (N := some 31) (v := ?_) (a' := ?_) #[true, true, true, true, true, true, true, true, true, true, false, true, false, true, false, false, false, false, false] rfl rfl (take_ofW HT_.out HW_.out (by kernel_rfl)) (fun _ _ _ h => h) (Or.inl ⟨by rfl, ?_⟩) hHeld ?_ ?_
         rotate_left
         ·rintro w' ⟨s0, s1, s2, s3⟩
          go_simp
          with_reducible rfl
         rotate_left
         ·simp only [Act.put, List.setIfInBounds_toArray, List.set_cons_zero, List.set_cons_succ, i64_w, i32_w]
          rfl
         refine take_ (i := 12) (N := some 35) (v := ?_) (a' := ?_) #[true, true, true, true, true, true, true, true, true, true, false, true, true, true, false, false, false, false, false] rfl rfl (take_ofW HT_.out HW_.out (by kernel_rfl)) (fun _ _ _ h => h) (Or.inl ⟨by rfl, ?_⟩) hHeld ?_ ?_
         rotate_left
         ·rintro w' ⟨s0, s1, s2, s3⟩
          go_simp
          with_reducible rfl
         rotate_left
         ·simp only [Act.put, List.setIfInBounds_toArray, List.set_cons_zero, List.set_cons_succ, i64_w, i32_w]
          rfl
         refine pure_ (i := 14) (N := some 37) (v := ?_) (a' := ?_) #[true, true, true, true, true, true, true, true, true, true, false, true, true, true, true, false, false, false, false] rfl rfl (any_of HT_.out (by kernel_rfl)) (fun _ _ _ h => h) (Or.inl ⟨by rfl, ?_⟩) ?_ ?_
         rotate_left;(focus intro w';go_simp;with_reducible rfl);rotate_left;(focus simp only [Act.put, List.setIfInBounds_toArray, List.set_cons_zero, List.set_cons_succ, i64_w, i32_w];rfl)
         refine join_ (σ := Value × Value × Nat) 1 #[true, true, true, true, true, true, true, true, true, true, true, true, true, true, true, true, true, true, false] (fun s_ => [(33, s_.1), (38, s_.2.1), (7, .pointer (some ⟨s_.2.2, 0, none⟩)), (39, .agg #[.int .i64 (wrap64 (rd l0_2 0)), .int .i64 a0_0, .int .i64 a0_1, .int .i64 t284, s_.2.1])]) (fun s_ w' => (w'.cell? ⟨gb282, 0, none⟩ = some (.int .i64 a0_0) ∧ w'.cell? ⟨gb282, 1, none⟩ = some (.int .i64 a0_1) ∧ w'.cell? ⟨gb282, 2, none⟩ = some (.slice (some ad288) l0_2.length c0_2) ∧ w'.cell? ad288 = some (.int .u8 (rd l0_2 0))) ∧ (Kd.R (Kd.int .u8) 5 w' w.heap.size (fun _ => True) s_.2.1 y293) ∧ (w'.heap[gb282]? = some (.cells #[.int .i64 a0_0, .int .i64 a0_1, .slice (some ad288) l0_2.length c0_2] 62 (0, 0))) ∧ (w'.heap[gb283]? = some (.cells #[.int .i64 0, .int .i64 0, .int .i64 0, .int .i64 0, .slice none 0 0] 44 (0, 0))) ∧ (w'.heap[s_.2.2]? = some (.cells #[.int .i64 0, .int .i64 0, .int .i64 0, .int .i64 0, .slice none 0 0] 44 (0, 0))) ∧ (w.heap.size ≤ s_.2.2) ∧ (w.heap.size ≤ s_.2.2) ∧ (gb282 ≠ s_.2.2) ∧ (s_.2.2 ≠ gb282) ∧ (gb283 ≠ s_.2.2) ∧ (s_.2.2 ≠ gb283) ∧ (Below w.heap.size w w')) ?_ ?_
         rotate_left
         ·intro hCont
          refine two_ (i := 10) (j := 17) (Ni := some 33) (Nj := some 7) #[true, true, true, true, true, true, true, true, true, true, true, true, true, true, true, false, false, false, false] #[true, true, true, true, true, true, true, true, true, true, false, true, true, true, true, false, false, true, false] rfl rfl rfl rfl (two_of HT_.out (by kernel_rfl)) (by decide) (by decide) (fun K hK => ?_) (fun K hK => ?_)
          ·skip
           refine Kd.R_lit_step (Kd.int .u8) _ 5 ?hg (N := 33) ?hd (xs := ([] : List Int)) (inner := []) (ok := fun _ => True) (okp := fun _ => True) ?hr ?hp (fun _ hk => hk) trivial (Below.refl _ _) (Nat.le_refl _) (by simp) ?_; (case hd => rfl); (case hg => rfl); (case hr => first | (go_simp; done) | (go_simp; rfl)); (case hp => exact (Reps.none _ _))
           intro v290 w24 ho25 hb hg_ hnew_
           clear hg_ hnew_
           (first | rw [← Ny289.out] at ho25 | (simp only [Int.reduceToNat] at ho25; rw [← Ny289.out] at ho25))
           have n0_ := Aside0.mk (Kd.R_lower ho25 (below_size zH))
           have n1_ := Aside0.mk (blk_below (g := gb282) (o := .cells #[.int .i64 a0_0, .int .i64 a0_1, .slice (some ad288) l0_2.length c0_2] 62 (0, 0)) (zB BK282.out) hb)
           have n2_ := Aside0.mk (blk_below (g := gb283) (o := .cells #[.int .i64 0, .int .i64 0, .int .i64 0, .int .i64 0, .slice none 0 0] 44 (0, 0)) (zB BK283.out) hb)
           have n3_ := Aside0.mk (below_step zH hb)
           clear BK282
           clear BK283
           clear HB
           have HO291 := n0_
           have BK282 := n1_
           have BK283 := n2_
           have HB := n3_
           clear n0_ n1_ n2_ n3_
           clear hb ho25
           refine hK.out _ _ ⟨(blk_cell BK282.out 0).trans rfl, (blk_cell BK282.out 1).trans rfl, (blk_cell BK282.out 2).trans rfl, ((HB.out.cell (World.block_lt_of_cell? w _ hw288_0)).trans hw288_0)⟩ (fun hHeld => ?_)
           clear hK K
           refine norm_ (a' := ?_) ?_ ?_
           rotate_left
           ·show Act.put _ (some 33) _ = _
            simp only [Act.put, List.setIfInBounds_toArray, List.set_cons_zero, List.set_cons_succ, i64_w, i32_w]
            rfl
           refine two_ (i := 15) (j := 17) (Ni := some 38) (Nj := some 7) #[true, true, true, true, true, true, true, true, true, true, true, true, true, true, true, true, false, false, false] #[true, true, true, true, true, true, true, true, true, true, true, true, true, true, true, false, false, true, false] rfl rfl rfl rfl (two_of HT_.out (by kernel_rfl)) (by decide) (by decide) (fun K hK => ?_) (fun K hK => ?_)
           ·skip
            refine Kd.R_append_rows_step (Kd.int .u8) (w0 := w) w.heap.size (by rfl) (.tmp 33) (.tmp 37) 39 5 (.int .u8 0) 1 rfl Try.underlying39 info5 rfl (by decide) (by omega) v290 y289 (l0_2.drop (t285 : Int).toNat) _ _ _ (fun _ => True) (fun _ => False) rfl rfl ?aO ?aR (fun _ _ h => h) (fun _ h => h.elim) ?aF ?aB ?aS ?aL ?_
            (case aR => first | (rw [← show (l0_2.drop (t285 : Int).toNat).length = (l0_2.length - t285.toNat) from List.length_drop]; exact zC (Kd.C_below HR292.out HB.out)) | (exact zC (Kd.C_below HR292.out HB.out)))
            (case aB => exact zH)
            (case aF => exact (fun _ _ => trivial))
            (case aO => exact (zR HO291.out))
            (case aS => exact (below_size zH))
            (case aL => have := LMc19.out; have hlx_ := (show (l0_2.drop (t285 : Int).toNat).length = (l0_2.length - t285.toNat) from List.length_drop); omega)
            intro v294 w26 ho hb hg hat
            rw [← Ny293.out] at ho
            have n0_ := Aside0.mk (blk_grown (g := gb282) (o := .cells #[.int .i64 a0_0, .int .i64 a0_1, .slice (some ad288) l0_2.length c0_2] 62 (0, 0)) (zB BK282.out) hg (Kd.R_ne HO291.out BK282.out (by decide)))
            have n1_ := Aside0.mk (blk_grown (g := gb283) (o := .cells #[.int .i64 0, .int .i64 0, .int .i64 0, .int .i64 0, .slice none 0 0] 44 (0, 0)) (zB BK283.out) hg (Kd.R_ne HO291.out BK283.out (by decide)))
            have n2_ := Aside0.mk (hb)
            have n3_ := Aside0.mk (ho)
            clear BK282
            clear BK283
            clear HB
            clear HO291
            have BK282 := n0_
            have BK283 := n1_
            have HB := n2_
            have HO295 := n3_
            clear n0_ n1_ n2_ n3_
            clear ho hb hg hat
            obtain ⟨Ao27, co27, eo27⟩ := Kd.R_slice HO295.out
            (first | subst eo27 | (injection eo27 with f1_ f2_ f3_; have f4_ := f1_.symm; have f5_ := f3_.symm; clear f1_ f2_ f3_; subst f4_; subst f5_))
            refine hK.out _ _ ⟨(blk_cell BK282.out 0).trans rfl, (blk_cell BK282.out 1).trans rfl, (blk_cell BK282.out 2).trans rfl, ((HB.out.cell (World.block_lt_of_cell? w _ hw288_0)).trans hw288_0)⟩ (fun hHeld => ?_)
            clear hK K
            refine norm_ (a' := ?_) ?_ ?_
            rotate_left
            ·show Act.put _ (some 38) _ = _
             simp only [Act.put, List.setIfInBounds_toArray, List.set_cons_zero, List.set_cons_succ, i64_w, i32_w]
             rfl
            refine pure_ (i := 16) (N := some 39) (v := ?_) (a' := ?_) #[true, true, true, true, true, true, true, true, true, true, true, true, true, true, true, true, true, false, false] rfl rfl (any_of HT_.out (by kernel_rfl)) (fun _ _ _ h => h) (Or.inl ⟨by rfl, ?_⟩) ?_ ?_
            rotate_left;(focus intro w';go_simp;with_reducible rfl);rotate_left;(focus simp only [Act.put, List.setIfInBounds_toArray, List.set_cons_zero, List.set_cons_succ, i64_w, i32_w];rfl)
            refine one_ (i := 17) (N := some 7) #[true, true, true, true, true, true, true, true, true, true, true, true, true, true, true, true, true, true, false] rfl rfl (one_of HT_.out (by kernel_rfl)) (by decide) (fun K hK => ?_)
            refine box_step ?hg (N := 7) ?hd (cs := #[.int .i64 0, .int .i64 0, .int .i64 0, .int .i64 0, .slice none 0 0]) (t := 44) ?hr ?_; (case hd => rfl); (case hg => rfl); (case hr => first | (go_simp; done) | (go_simp; rfl))
            intro gb296 hg w28 hbox hb
            have n0_ := Aside0.mk (Kd.R_below (zR HO295.out) hb)
            have n1_ := Aside0.mk (blk_below (g := gb282) (o := .cells #[.int .i64 a0_0, .int .i64 a0_1, .slice (some ad288) l0_2.length c0_2] 62 (0, 0)) (zB BK282.out) hb)
            have n2_ := Aside0.mk (blk_below (g := gb283) (o := .cells #[.int .i64 0, .int .i64 0, .int .i64 0, .int .i64 0, .slice none 0 0] 44 (0, 0)) (zB BK283.out) hb)
            have n3_ := Aside0.mk (below_step zH hb)
            have n4_ := Aside0.mk (hbox)
            have n5_ := Aside0.mk ((by rw [hg]; exact (below_size zH) : w.heap.size ≤ gb296))
            have n6_ := Aside0.mk ((by rw [hg]; exact (below_size zH) : w.heap.size ≤ gb296))
            have n7_ := Aside0.mk ((by rw [hg]; exact Nat.ne_of_lt (blk_lt (g := gb282) (o := .cells #[.int .i64 a0_0, .int .i64 a0_1, .slice (some ad288) l0_2.length c0_2] 62 (0, 0)) (zB BK282.out)) : gb282 ≠ gb296))
            have n8_ := Aside0.mk ((by rw [hg]; exact Nat.ne_of_gt (blk_lt (g := gb282) (o := .cells #[.int .i64 a0_0, .int .i64 a0_1, .slice (some ad288) l0_2.length c0_2] 62 (0, 0)) (zB BK282.out)) : gb296 ≠ gb282))
            have n9_ := Aside0.mk ((by rw [hg]; exact Nat.ne_of_lt (blk_lt (g := gb283) (o := .cells #[.int .i64 0, .int .i64 0, .int .i64 0, .int .i64 0, .slice none 0 0] 44 (0, 0)) (zB BK283.out)) : gb283 ≠ gb296))
            have n10_ := Aside0.mk ((by rw [hg]; exact Nat.ne_of_gt (blk_lt (g := gb283) (o := .cells #[.int .i64 0, .int .i64 0, .int .i64 0, .int .i64 0, .slice none 0 0] 44 (0, 0)) (zB BK283.out)) : gb296 ≠ gb283))
            clear HO295
            clear BK282
            clear BK283
            clear HB
            have HO295 := n0_
            have BK282 := n1_
            have BK283 := n2_
            have HB := n3_
            have BK296 := n4_
            have GW296 := n5_
            have GE296 := n6_
            have NB282_296 := n7_
            have NB296_282 := n8_
            have NB283_296 := n9_
            have NB296_283 := n10_
            clear n0_ n1_ n2_ n3_ n4_ n5_ n6_ n7_ n8_ n9_ n10_
            clear hb hbox hg
            refine hK.out _ _ ⟨(blk_cell BK282.out 0).trans rfl, (blk_cell BK282.out 1).trans rfl, (blk_cell BK282.out 2).trans rfl, ((HB.out.cell (World.block_lt_of_cell? w _ hw288_0)).trans hw288_0)⟩ (fun hHeld => ?_)
            clear hK K
            refine norm_ (a' := ?_) ?_ ?_
            rotate_left
            ·show Act.put _ (some 7) _ = _
             simp only [Act.put, List.setIfInBounds_toArray, List.set_cons_zero, List.set_cons_succ, i64_w, i32_w]
             rfl
            exact norm_ (by simp only [putAll, Act.put, List.setIfInBounds_toArray, List.set_cons_zero, List.set_cons_succ]) (hCont (v290, .slice Ao27 y293.length co27, gb296) _ ⟨hHeld, (zR HO295.out), (zB BK282.out), (zB BK283.out), (zB BK296.out), GW296.out, GE296.out, NB282_296.out, NB296_282.out, NB283_296.out, NB296_283.out, zH⟩)
           ·skip
            refine box_step ?hg (N := 7) ?hd (cs := #[.int .i64 0, .int .i64 0, .int .i64 0, .int .i64 0, .slice none 0 0]) (t := 44) ?hr ?_; (case hd => rfl); (case hg => rfl); (case hr => first | (go_simp; done) | (go_simp; rfl))
            intro gb296 hg w26 hbox hb
            have n0_ := Aside0.mk (Kd.R_below (zR HO291.out) hb)
            have n1_ := Aside0.mk (blk_below (g := gb282) (o := .cells #[.int .i64 a0_0, .int .i64 a0_1, .slice (some ad288) l0_2.length c0_2] 62 (0, 0)) (zB BK282.out) hb)
            have n2_ := Aside0.mk (blk_below (g := gb283) (o := .cells #[.int .i64 0, .int .i64 0, .int .i64 0, .int .i64 0, .slice none 0 0] 44 (0, 0)) (zB BK283.out) hb)
            have n3_ := Aside0.mk (below_step zH hb)
            have n4_ := Aside0.mk (hbox)
            have n5_ := Aside0.mk ((by rw [hg]; exact (below_size zH) : w.heap.size ≤ gb296))
            have n6_ := Aside0.mk ((by rw [hg]; exact (below_size zH) : w.heap.size ≤ gb296))
            have n7_ := Aside0.mk ((by rw [hg]; exact Nat.ne_of_lt (blk_lt (g := gb282) (o := .cells #[.int .i64 a0_0, .int .i64 a0_1, .slice (some ad288) l0_2.length c0_2] 62 (0, 0)) (zB BK282.out)) : gb282 ≠ gb296))
            have n8_ := Aside0.mk ((by rw [hg]; exact Nat.ne_of_gt (blk_lt (g := gb282) (o := .cells #[.int .i64 a0_0, .int .i64 a0_1, .slice (some ad288) l0_2.length c0_2] 62 (0, 0)) (zB BK282.out)) : gb296 ≠ gb282))
            have n9_ := Aside0.mk ((by rw [hg]; exact Nat.ne_of_lt (blk_lt (g := gb283) (o := .cells #[.int .i64 0, .int .i64 0, .int .i64 0, .int .i64 0, .slice none 0 0] 44 (0, 0)) (zB BK283.out)) : gb283 ≠ gb296))
            have n10_ := Aside0.mk ((by rw [hg]; exact Nat.ne_of_gt (blk_lt (g := gb283) (o := .cells #[.int .i64 0, .int .i64 0, .int .i64 0, .int .i64 0, .slice none 0 0] 44 (0, 0)) (zB BK283.out)) : gb296 ≠ gb283))
            clear HO291
            clear BK282
            clear BK283
            clear HB
            have HO291 := n0_
            have BK282 := n1_
            have BK283 := n2_
            have HB := n3_
            have BK296 := n4_
            have GW296 := n5_
            have GE296 := n6_
            have NB282_296 := n7_
            have NB296_282 := n8_
            have NB283_296 := n9_
            have NB296_283 := n10_
            clear n0_ n1_ n2_ n3_ n4_ n5_ n6_ n7_ n8_ n9_ n10_
            clear hb hbox hg
            refine hK.out _ _ ⟨(blk_cell BK282.out 0).trans rfl, (blk_cell BK282.out 1).trans rfl, (blk_cell BK282.out 2).trans rfl, ((HB.out.cell (World.block_lt_of_cell? w _ hw288_0)).trans hw288_0)⟩ (fun hHeld => ?_)
            clear hK K
            refine norm_ (a' := ?_) ?_ ?_
            rotate_left
            ·show Act.put _ (some 7) _ = _
             simp only [Act.put, List.setIfInBounds_toArray, List.set_cons_zero, List.set_cons_succ, i64_w, i32_w]
             rfl
            refine one_ (i := 15) (N := some 38) #[true, true, true, true, true, true, true, true, true, true, true, true, true, true, true, true, false, true, false] rfl rfl (one_of HT_.out (by kernel_rfl)) (by decide) (fun K hK => ?_)
            refine Kd.R_append_rows_step (Kd.int .u8) (w0 := w) w.heap.size (by rfl) (.tmp 33) (.tmp 37) 39 5 (.int .u8 0) 1 rfl Try.underlying39 info5 rfl (by decide) (by omega) v290 y289 (l0_2.drop (t285 : Int).toNat) _ _ _ (fun _ => True) (fun _ => False) rfl rfl ?aO ?aR (fun _ _ h => h) (fun _ h => h.elim) ?aF ?aB ?aS ?aL ?_
            (case aR => first | (rw [← show (l0_2.drop (t285 : Int).toNat).length = (l0_2.length - t285.toNat) from List.length_drop]; exact zC (Kd.C_below HR292.out HB.out)) | (exact zC (Kd.C_below HR292.out HB.out)))
            (case aB => exact zH)
            (case aF => exact (fun _ _ => trivial))
            (case aO => exact (zR HO291.out))
            (case aS => exact (below_size zH))
            (case aL => have := LMc19.out; have hlx_ := (show (l0_2.drop (t285 : Int).toNat).length = (l0_2.length - t285.toNat) from List.length_drop); omega)
            intro v294 w27 ho hb hg hat
            rw [← Ny293.out] at ho
            have n0_ := Aside0.mk (blk_grown (g := gb282) (o := .cells #[.int .i64 a0_0, .int .i64 a0_1, .slice (some ad288) l0_2.length c0_2] 62 (0, 0)) (zB BK282.out) hg (Kd.R_ne HO291.out BK282.out (by decide)))
            have n1_ := Aside0.mk (blk_grown (g := gb283) (o := .cells #[.int .i64 0, .int .i64 0, .int .i64 0, .int .i64 0, .slice none 0 0] 44 (0, 0)) (zB BK283.out) hg (Kd.R_ne HO291.out BK283.out (by decide)))
            have n2_ := Aside0.mk (blk_grown (g := gb296) (o := .cells #[.int .i64 0, .int .i64 0, .int .i64 0, .int .i64 0, .slice none 0 0] 44 (0, 0)) (zB BK296.out) hg (Kd.R_ne HO291.out BK296.out (by decide)))
            have n3_ := Aside0.mk (hb)
            have n4_ := Aside0.mk (ho)
            clear BK282
            clear BK283
            clear BK296
            clear HB
            clear HO291
            have BK282 := n0_
            have BK283 := n1_
            have BK296 := n2_
            have HB := n3_
            have HO295 := n4_
            clear n0_ n1_ n2_ n3_ n4_
            clear ho hb hg hat
            obtain ⟨Ao28, co28, eo28⟩ := Kd.R_slice HO295.out
            (first | subst eo28 | (injection eo28 with f1_ f2_ f3_; have f4_ := f1_.symm; have f5_ := f3_.symm; clear f1_ f2_ f3_; subst f4_; subst f5_))
            refine hK.out _ _ ⟨(blk_cell BK282.out 0).trans rfl, (blk_cell BK282.out 1).trans rfl, (blk_cell BK282.out 2).trans rfl, ((HB.out.cell (World.block_lt_of_cell? w _ hw288_0)).trans hw288_0)⟩ (fun hHeld => ?_)
            clear hK K
            refine norm_ (a' := ?_) ?_ ?_
            rotate_left
            ·show Act.put _ (some 38) _ = _
             simp only [Act.put, List.setIfInBounds_toArray, List.set_cons_zero, List.set_cons_succ, i64_w, i32_w]
             rfl
            refine pure_ (i := 16) (N := some 39) (v := ?_) (a' := ?_) #[true, true, true, true, true, true, true, true, true, true, true, true, true, true, true, true, true, true, false] rfl rfl (any_of HT_.out (by kernel_rfl)) (fun _ _ _ h => h) (Or.inl ⟨by rfl, ?_⟩) ?_ ?_
            rotate_left;(focus intro w';go_simp;with_reducible rfl);rotate_left;(focus simp only [Act.put, List.setIfInBounds_toArray, List.set_cons_zero, List.set_cons_succ, i64_w, i32_w];rfl)
            exact norm_ (by simp only [putAll, Act.put, List.setIfInBounds_toArray, List.set_cons_zero, List.set_cons_succ]) (hCont (v290, .slice Ao28 y293.length co28, gb296) _ ⟨hHeld, (zR HO295.out), (zB BK282.out), (zB BK283.out), (zB BK296.out), GW296.out, GE296.out, NB282_296.out, NB296_282.out, NB283_296.out, NB296_283.out, zH⟩)
          ·skip
           refine box_step ?hg (N := 7) ?hd (cs := #[.int .i64 0, .int .i64 0, .int .i64 0, .int .i64 0, .slice none 0 0]) (t := 44) ?hr ?_; (case hd => rfl); (case hg => rfl); (case hr => first | (go_simp; done) | (go_simp; rfl))
           intro gb296 hg w24 hbox hb
           have n0_ := Aside0.mk (blk_below (g := gb282) (o := .cells #[.int .i64 a0_0, .int .i64 a0_1, .slice (some ad288) l0_2.length c0_2] 62 (0, 0)) (zB BK282.out) hb)
           have n1_ := Aside0.mk (blk_below (g := gb283) (o := .cells #[.int .i64 0, .int .i64 0, .int .i64 0, .int .i64 0, .slice none 0 0] 44 (0, 0)) (zB BK283.out) hb)
           have n2_ := Aside0.mk (below_step zH hb)
           have n3_ := Aside0.mk (hbox)
           have n4_ := Aside0.mk ((by rw [hg]; exact (below_size zH) : w.heap.size ≤ gb296))
           have n5_ := Aside0.mk ((by rw [hg]; exact (below_size zH) : w.heap.size ≤ gb296))
           have n6_ := Aside0.mk ((by rw [hg]; exact Nat.ne_of_lt (blk_lt (g := gb282) (o := .cells #[.int .i64 a0_0, .int .i64 a0_1, .slice (some ad288) l0_2.length c0_2] 62 (0, 0)) (zB BK282.out)) : gb282 ≠ gb296))
           have n7_ := Aside0.mk ((by rw [hg]; exact Nat.ne_of_gt (blk_lt (g := gb282) (o := .cells #[.int .i64 a0_0, .int .i64 a0_1, .slice (some ad288) l0_2.length c0_2] 62 (0, 0)) (zB BK282.out)) : gb296 ≠ gb282))
           have n8_ := Aside0.mk ((by rw [hg]; exact Nat.ne_of_lt (blk_lt (g := gb283) (o := .cells #[.int .i64 0, .int .i64 0, .int .i64 0, .int .i64 0, .slice none 0 0] 44 (0, 0)) (zB BK283.out)) : gb283 ≠ gb296))
           have n9_ := Aside0.mk ((by rw [hg]; exact Nat.ne_of_gt (blk_lt (g := gb283) (o := .cells #[.int .i64 0, .int .i64 0, .int .i64 0, .int .i64 0, .slice none 0 0] 44 (0, 0)) (zB BK283.out)) : gb296 ≠ gb283))
           clear BK282
           clear BK283
           clear HB
           have BK282 := n0_
           have BK283 := n1_
           have HB := n2_
           have BK296 := n3_
           have GW296 := n4_
           have GE296 := n5_
           have NB282_296 := n6_
           have NB296_282 := n7_
           have NB283_296 := n8_
           have NB296_283 := n9_
           clear n0_ n1_ n2_ n3_ n4_ n5_ n6_ n7_ n8_ n9_
           clear hb hbox hg
           refine hK.out _ _ ⟨(blk_cell BK282.out 0).trans rfl, (blk_cell BK282.out 1).trans rfl, (blk_cell BK282.out 2).trans rfl, ((HB.out.cell (World.block_lt_of_cell? w _ hw288_0)).trans hw288_0)⟩ (fun hHeld => ?_)
           clear hK K
           refine norm_ (a' := ?_) ?_ ?_
           rotate_left
           ·show Act.put _ (some 7) _ = _
            simp only [Act.put, List.setIfInBounds_toArray, List.set_cons_zero, List.set_cons_succ, i64_w, i32_w]
            rfl
           refine one_ (i := 10) (N := some 33) #[true, true, true, true, true, true, true, true, true, true, true, true, true, true, true, false, false, true, false] rfl rfl (one_of HT_.out (by kernel_rfl)) (by decide) (fun K hK => ?_)
           refine Kd.R_lit_step (Kd.int .u8) _ 5 ?hg (N := 33) ?hd (xs := ([] : List Int)) (inner := []) (ok := fun _ => True) (okp := fun _ => True) ?hr ?hp (fun _ hk => hk) trivial (Below.refl _ _) (Nat.le_refl _) (by simp) ?_; (case hd => rfl); (case hg => rfl); (case hr => first | (go_simp; done) | (go_simp; rfl)); (case hp => exact (Reps.none _ _))
           intro v290 w25 ho26 hb hg_ hnew_
           clear hg_ hnew_
           (first | rw [← Ny289.out] at ho26 | (simp only [Int.reduceToNat] at ho26; rw [← Ny289.out] at ho26))
           have n0_ := Aside0.mk (Kd.R_lower ho26 (below_size zH))
           have n1_ := Aside0.mk (blk_below (g := gb282) (o := .cells #[.int .i64 a0_0, .int .i64 a0_1, .slice (some ad288) l0_2.length c0_2] 62 (0, 0)) (zB BK282.out) hb)
           have n2_ := Aside0.mk (blk_below (g := gb283) (o := .cells #[.int .i64 0, .int .i64 0, .int .i64 0, .int .i64 0, .slice none 0 0] 44 (0, 0)) (zB BK283.out) hb)
           have n3_ := Aside0.mk (blk_below (g := gb296) (o := .cells #[.int .i64 0, .int .i64 0, .int .i64 0, .int .i64 0, .slice none 0 0] 44 (0, 0)) (zB BK296.out) hb)
           have n4_ := Aside0.mk (below_step zH hb)
           clear BK282
           clear BK283
           clear BK296
           clear HB
           have HO291 := n0_
           have BK282 := n1_
           have BK283 := n2_
           have BK296 := n3_
           have HB := n4_
           clear n0_ n1_ n2_ n3_ n4_
           clear hb ho26
           refine hK.out _ _ ⟨(blk_cell BK282.out 0).trans rfl, (blk_cell BK282.out 1).trans rfl, (blk_cell BK282.out 2).trans rfl, ((HB.out.cell (World.block_lt_of_cell? w _ hw288_0)).trans hw288_0)⟩ (fun hHeld => ?_)
           clear hK K
           refine norm_ (a' := ?_) ?_ ?_
           rotate_left
           ·show Act.put _ (some 33) _ = _
            simp only [Act.put, List.setIfInBounds_toArray, List.set_cons_zero, List.set_cons_succ, i64_w, i32_w]
            rfl
           refine one_ (i := 15) (N := some 38) #[true, true, true, true, true, true, true, true, true, true, true, true, true, true, true, true, false, true, false] rfl rfl (one_of HT_.out (by kernel_rfl)) (by decide) (fun K hK => ?_)
           refine Kd.R_append_rows_step (Kd.int .u8) (w0 := w) w.heap.size (by rfl) (.tmp 33) (.tmp 37) 39 5 (.int .u8 0) 1 rfl Try.underlying39 info5 rfl (by decide) (by omega) v290 y289 (l0_2.drop (t285 : Int).toNat) _ _ _ (fun _ => True) (fun _ => False) rfl rfl ?aO ?aR (fun _ _ h => h) (fun _ h => h.elim) ?aF ?aB ?aS ?aL ?_
           (case aR => first | (rw [← show (l0_2.drop (t285 : Int).toNat).length = (l0_2.length - t285.toNat) from List.length_drop]; exact zC (Kd.C_below HR292.out HB.out)) | (exact zC (Kd.C_below HR292.out HB.out)))
           (case aB => exact zH)
           (case aF => exact (fun _ _ => trivial))
           (case aO => exact (zR HO291.out))
           (case aS => exact (below_size zH))
           (case aL => have := LMc19.out; have hlx_ := (show (l0_2.drop (t285 : Int).toNat).length = (l0_2.length - t285.toNat) from List.length_drop); omega)
           intro v294 w27 ho hb hg hat
           rw [← Ny293.out] at ho
           have n0_ := Aside0.mk (blk_grown (g := gb282) (o := .cells #[.int .i64 a0_0, .int .i64 a0_1, .slice (some ad288) l0_2.length c0_2] 62 (0, 0)) (zB BK282.out) hg (Kd.R_ne HO291.out BK282.out (by decide)))
           have n1_ := Aside0.mk (blk_grown (g := gb283) (o := .cells #[.int .i64 0, .int .i64 0, .int .i64 0, .int .i64 0, .slice none 0 0] 44 (0, 0)) (zB BK283.out) hg (Kd.R_ne HO291.out BK283.out (by decide)))
           have n2_ := Aside0.mk (blk_grown (g := gb296) (o := .cells #[.int .i64 0, .int .i64 0, .int .i64 0, .int .i64 0, .slice none 0 0] 44 (0, 0)) (zB BK296.out) hg (Kd.R_ne HO291.out BK296.out (by decide)))
           have n3_ := Aside0.mk (hb)
           have n4_ := Aside0.mk (ho)
           clear BK282
           clear BK283
           clear BK296
           clear HB
           clear HO291
           have BK282 := n0_
           have BK283 := n1_
           have BK296 := n2_
           have HB := n3_
           have HO295 := n4_
           clear n0_ n1_ n2_ n3_ n4_
           clear ho hb hg hat
           obtain ⟨Ao28, co28, eo28⟩ := Kd.R_slice HO295.out
           (first | subst eo28 | (injection eo28 with f1_ f2_ f3_; have f4_ := f1_.symm; have f5_ := f3_.symm; clear f1_ f2_ f3_; subst f4_; subst f5_))
           refine hK.out _ _ ⟨(blk_cell BK282.out 0).trans rfl, (blk_cell BK282.out 1).trans rfl, (blk_cell BK282.out 2).trans rfl, ((HB.out.cell (World.block_lt_of_cell? w _ hw288_0)).trans hw288_0)⟩ (fun hHeld => ?_)
           clear hK K
           refine norm_ (a' := ?_) ?_ ?_
           rotate_left
           ·show Act.put _ (some 38) _ = _
            simp only [Act.put, List.setIfInBounds_toArray, List.set_cons_zero, List.set_cons_succ, i64_w, i32_w]
            rfl
           refine pure_ (i := 16) (N := some 39) (v := ?_) (a' := ?_) #[true, true, true, true, true, true, true, true, true, true, true, true, true, true, true, true, true, true, false] rfl rfl (any_of HT_.out (by kernel_rfl)) (fun _ _ _ h => h) (Or.inl ⟨by rfl, ?_⟩) ?_ ?_
           rotate_left;(focus intro w';go_simp;with_reducible rfl);rotate_left;(focus simp only [Act.put, List.setIfInBounds_toArray, List.set_cons_zero, List.set_cons_succ, i64_w, i32_w];rfl)
           exact norm_ (by simp only [putAll, Act.put, List.setIfInBounds_toArray, List.set_cons_zero, List.set_cons_succ]) (hCont (v290, .slice Ao28 y293.length co28, gb296) _ ⟨hHeld, (zR HO295.out), (zB BK282.out), (zB BK283.out), (zB BK296.out), GW296.out, GE296.out, NB282_296.out, NB296_282.out, NB283_296.out, NB296_283.out, zH⟩)
         rintro ⟨v290, v294, gb296⟩ w29 ⟨hS_, h0_, h1_, h2_, h3_, h4_, h5_, h6_, h7_, h8_, h9_, h10_⟩
         have n0_ : Aside0 (Kd.R (Kd.int .u8) 5 w29 w.heap.size (fun _ => True) v294 y293) := ⟨h0_⟩
         have n1_ : Aside0 (w29.heap[gb282]? = some (.cells #[.int .i64 a0_0, .int .i64 a0_1, .slice (some ad288) l0_2.length c0_2] 62 (0, 0))) := ⟨h1_⟩
         have n2_ : Aside0 (w29.heap[gb283]? = some (.cells #[.int .i64 0, .int .i64 0, .int .i64 0, .int .i64 0, .slice none 0 0] 44 (0, 0))) := ⟨h2_⟩
         have n3_ : Aside0 (w29.heap[gb296]? = some (.cells #[.int .i64 0, .int .i64 0, .int .i64 0, .int .i64 0, .slice none 0 0] 44 (0, 0))) := ⟨h3_⟩
         have n4_ : Aside0 (w.heap.size ≤ gb296) := ⟨h4_⟩
         have n5_ : Aside0 (w.heap.size ≤ gb296) := ⟨h5_⟩
         have n6_ : Aside0 (gb282 ≠ gb296) := ⟨h6_⟩
         have n7_ : Aside0 (gb296 ≠ gb282) := ⟨h7_⟩
         have n8_ : Aside0 (gb283 ≠ gb296) := ⟨h8_⟩
         have n9_ : Aside0 (gb296 ≠ gb283) := ⟨h9_⟩
         have n10_ : Aside0 (Below w.heap.size w w29) := ⟨h10_⟩
         clear BK282
         clear BK283
         clear HB
         clear h0_ h1_ h2_ h3_ h4_ h5_ h6_ h7_ h8_ h9_ h10_
         have HO295 := n0_
         have BK282 := n1_
         have BK283 := n2_
         have BK296 := n3_
         have GW296 := n4_
         have GE296 := n5_
         have NB282_296 := n6_
         have NB296_282 := n7_
         have NB283_296 := n8_
         have NB296_283 := n9_
         have HB := n10_
         clear n0_ n1_ n2_ n3_ n4_ n5_ n6_ n7_ n8_ n9_ n10_
         have hHeld : w29.cell? ⟨gb282, 0, none⟩ = some (.int .i64 a0_0) ∧ w29.cell? ⟨gb282, 1, none⟩ = some (.int .i64 a0_1) ∧ w29.cell? ⟨gb282, 2, none⟩ = some (.slice (some ad288) l0_2.length c0_2) ∧ w29.cell? ad288 = some (.int .u8 (rd l0_2 0)) := hS_
         obtain ⟨Ao30, co30, eo30⟩ := Kd.R_slice HO295.out
         (first | subst eo30 | (injection eo30 with f1_ f2_ f3_; have f4_ := f1_.symm; have f5_ := f3_.symm; clear f1_ f2_ f3_; subst f4_; subst f5_))
         refine norm_ (a' := ?_) ?_ ?_
         rotate_left
         ·simp only [putAll, Act.put, List.setIfInBounds_toArray, List.set_cons_zero, List.set_cons_succ]
          rfl
         refine one_ (i := 18) (N := none) #[true, true, true, true, true, true, true, true, true, true, true, true, true, true, true, true, true, true, true] rfl rfl (one_of HT_.out (by kernel_rfl)) (by decide) (fun K hK => ?_)
         have hs31 : w29.cell? ⟨gb296, 0, none⟩ = some (.int .i64 0) := (blk_cell BK296.out 0).trans rfl
         have hfs31 := blk_frozen BK296.out 0
         have hns31_0 := NB282_296.out
         have hns31_1 := NB283_296.out
         have hms31_0 := NB296_282.out
         have hms31_1 := NB296_283.out
         have hs32 : w29.cell? ⟨gb296, 1, none⟩ = some (.int .i64 0) := (blk_cell BK296.out 1).trans rfl
         have hfs32 := blk_frozen BK296.out 1
         have hns32_0 := NB282_296.out
         have hns32_1 := NB283_296.out
         have hms32_0 := NB296_282.out
         have hms32_1 := NB296_283.out
         have hs33 : w29.cell? ⟨gb296, 2, none⟩ = some (.int .i64 0) := (blk_cell BK296.out 2).trans rfl
         have hfs33 := blk_frozen BK296.out 2
         have hns33_0 := NB282_296.out
         have hns33_1 := NB283_296.out
         have hms33_0 := NB296_282.out
         have hms33_1 := NB296_283.out
         have hs34 : w29.cell? ⟨gb296, 3, none⟩ = some (.int .i64 0) := (blk_cell BK296.out 3).trans rfl
         have hfs34 := blk_frozen BK296.out 3
         have hns34_0 := NB282_296.out
         have hns34_1 := NB283_296.out
         have hms34_0 := NB296_282.out
         have hms34_1 := NB296_283.out
         have hs35 : w29.cell? ⟨gb296, 4, none⟩ = some (.slice none 0 0) := (blk_cell BK296.out 4).trans rfl
         have hfs35 := blk_frozen BK296.out 4
         have hns35_0 := NB282_296.out
         have hns35_1 := NB283_296.out
         have hms35_0 := NB296_282.out
         have hms35_1 := NB296_283.out
         refine skip_ (w1 := ?_) (by rfl) rfl ?_ ?_
         rotate_left
         ·go_simp
          rfl
         refine hK.out _ _ ⟨((cell_far (p := ⟨gb296, _, none⟩) NB282_296.out _).trans (((cell_far (p := ⟨gb296, _, none⟩) NB282_296.out _).trans (((cell_far (p := ⟨gb296, _, none⟩) NB282_296.out _).trans (((cell_far (p := ⟨gb296, _, none⟩) NB282_296.out _).trans (((cell_far (p := ⟨gb296, _, none⟩) NB282_296.out _).trans (hHeld.1)))))))))), ((cell_far (p := ⟨gb296, _, none⟩) NB282_296.out _).trans (((cell_far (p := ⟨gb296, _, none⟩) NB282_296.out _).trans (((cell_far (p := ⟨gb296, _, none⟩) NB282_296.out _).trans (((cell_far (p := ⟨gb296, _, none⟩) NB282_296.out _).trans (((cell_far (p := ⟨gb296, _, none⟩) NB282_296.out _).trans (hHeld.2.1)))))))))), ((cell_far (p := ⟨gb296, _, none⟩) NB282_296.out _).trans (((cell_far (p := ⟨gb296, _, none⟩) NB282_296.out _).trans (((cell_far (p := ⟨gb296, _, none⟩) NB282_296.out _).trans (((cell_far (p := ⟨gb296, _, none⟩) NB282_296.out _).trans (((cell_far (p := ⟨gb296, _, none⟩) NB282_296.out _).trans (hHeld.2.2.1)))))))))), ((cell_far (p := ⟨gb296, _, none⟩) (zO hw288_0 GW296.out) _).trans (((cell_far (p := ⟨gb296, _, none⟩) (zO hw288_0 GW296.out) _).trans (((cell_far (p := ⟨gb296, _, none⟩) (zO hw288_0 GW296.out) _).trans (((cell_far (p := ⟨gb296, _, none⟩) (zO hw288_0 GW296.out) _).trans (((cell_far (p := ⟨gb296, _, none⟩) (zO hw288_0 GW296.out) _).trans (hHeld.2.2.2))))))))))⟩ (fun hHeld => ?_)
         clear hK K
         refine done_ (done_of HT_.out (by kernel_rfl)) ?_
         have hnb36 := NB296_282.out
         have hnc36 := NB282_296.out
         have hnb37 := NB296_283.out
         have hnc37 := NB283_296.out
         obtain ⟨hcz38_0, hcz38_1, hcz38_2, hcz38_3, hcz38_4⟩ := zc5 BK296.out
         obtain ⟨hfz38_0, hfz38_1, hfz38_2, hfz38_3, hfz38_4⟩ := zf BK296.out
         try go_wp2_with (first | ((with_reducible refine gate_callee (f := 88) rfl ?_); refine goesL_ (some 41) rfl rfl Try.func88 (by kernel_rfl) rfl #[.agg #[.int .i64 (wrap64 (rd l0_2 0)), .int .i64 a0_0, .int .i64 a0_1, .int .i64 t284, .slice Ao30 y293.length co30]] rfl zM ?_; (with_reducible refine (impl_isEvent.calls kj2 (wrap64 (rd l0_2 0)) a0_0 a0_1 t284 _ _ y293 true _ ?side1 ?side2 A20.out).mono ?_); (case side1 => refine (Kd.R_reads' (e := 5) (base := w.heap.size) (ok := fun k_ => True) (n := y293.length) (c := co30) ?_).2.2; exact (by (with_reducible repeat (first | apply Kd.R_alloc | apply Kd.R_drewN | apply Kd.R_drew)); exact (Kd.R_mono (Kd.R_far (p := ⟨gb296, 4, none⟩) (Kd.R_far (p := ⟨gb296, 3, none⟩) (Kd.R_far (p := ⟨gb296, 2, none⟩) (Kd.R_far (p := ⟨gb296, 1, none⟩) (Kd.R_far (p := ⟨gb296, 0, none⟩) (Kd.R_types HO295.out BK296.out (by decide)) (fun _ hk => hk.2) (.int .i64 (wrap64 (rd l0_2 0)))) (fun _ hk => hk.2) (.int .i64 a0_0)) (fun _ hk => hk.2) (.int .i64 a0_1)) (fun _ hk => hk.2) (.int .i64 t284)) (fun _ hk => hk.2) (.slice Ao30 y293.length co30)) (fun _ h_ => h_.1)))); (case side2 => exact (Kd.R_reads' HO295.out).2.1); rintro e w39 ⟨rfl, hb⟩; refine ⟨_, rfl, ?_⟩; have n0_ := Aside0.mk (Kd.R_below (by (with_reducible repeat (first | apply Kd.R_alloc | apply Kd.R_drewN | apply Kd.R_drew)); exact (Kd.R_mono (Kd.R_far (p := ⟨gb296, 4, none⟩) (Kd.R_far (p := ⟨gb296, 3, none⟩) (Kd.R_far (p := ⟨gb296, 2, none⟩) (Kd.R_far (p := ⟨gb296, 1, none⟩) (Kd.R_far (p := ⟨gb296, 0, none⟩) (Kd.R_types HO295.out BK296.out (by decide)) (fun _ hk => hk.2) (.int .i64 (wrap64 (rd l0_2 0)))) (fun _ hk => hk.2) (.int .i64 a0_0)) (fun _ hk => hk.2) (.int .i64 a0_1)) (fun _ hk => hk.2) (.int .i64 t284)) (fun _ hk => hk.2) (.slice Ao30 y293.length co30)) (fun _ h_ => h_.1))) hb); have n1_ := Aside0.mk (blk_below (g := gb282) (o := .cells #[.int .i64 a0_0, .int .i64 a0_1, .slice (some ad288) l0_2.length c0_2] 62 (0, 0)) (by (repeat refine zL ?_); refine blk_far ?_ NB282_296.out _; (repeat refine zL ?_); refine blk_far ?_ NB282_296.out _; (repeat refine zL ?_); refine blk_far ?_ NB282_296.out _; (repeat refine zL ?_); refine blk_far ?_ NB282_296.out _; (repeat refine zL ?_); refine blk_far ?_ NB282_296.out _; (repeat refine zL ?_); exact BK282.out) hb); have n2_ := Aside0.mk (blk_below (g := gb283) (o := .cells #[.int .i64 0, .int .i64 0, .int .i64 0, .int .i64 0, .slice none 0 0] 44 (0, 0)) (by (repeat refine zL ?_); refine blk_far ?_ NB283_296.out _; (repeat refine zL ?_); refine blk_far ?_ NB283_296.out _; (repeat refine zL ?_); refine blk_far ?_ NB283_296.out _; (repeat refine zL ?_); refine blk_far ?_ NB283_296.out _; (repeat refine zL ?_); refine blk_far ?_ NB283_296.out _; (repeat refine zL ?_); exact BK283.out) hb); have n3_ := Aside0.mk (blk_below (g := gb296) (o := .cells #[.int .i64 (wrap64 (rd l0_2 0)), .int .i64 a0_0, .int .i64 a0_1, .int .i64 t284, .slice Ao30 y293.length co30] 44 (0, 0)) (by (repeat refine zL ?_); refine blk_put (cs := #[.int .i64 (wrap64 (rd l0_2 0)), .int .i64 a0_0, .int .i64 a0_1, .int .i64 t284, .slice none 0 0]) ?_ 4 _ rfl; (repeat refine zL ?_); refine blk_put (cs := #[.int .i64 (wrap64 (rd l0_2 0)), .int .i64 a0_0, .int .i64 a0_1, .int .i64 0, .slice none 0 0]) ?_ 3 _ rfl; (repeat refine zL ?_); refine blk_put (cs := #[.int .i64 (wrap64 (rd l0_2 0)), .int .i64 a0_0, .int .i64 0, .int .i64 0, .slice none 0 0]) ?_ 2 _ rfl; (repeat refine zL ?_); refine blk_put (cs := #[.int .i64 (wrap64 (rd l0_2 0)), .int .i64 0, .int .i64 0, .int .i64 0, .slice none 0 0]) ?_ 1 _ rfl; (repeat refine zL ?_); refine blk_put (cs := #[.int .i64 0, .int .i64 0, .int .i64 0, .int .i64 0, .slice none 0 0]) ?_ 0 _ rfl; (repeat refine zL ?_); exact BK296.out) hb); have n4_ := Aside0.mk (below_step zH hb); clear HO295; clear BK282; clear BK283; clear BK296; clear HB; have HO295 := n0_; have BK282 := n1_; have BK283 := n2_; have BK296 := n3_; have HB := n4_; clear n0_ n1_ n2_ n3_ n4_; (try clear hb); (try clear hb2); (try clear hk); (try clear hi); obtain ⟨hcz40_0, hcz40_1, hcz40_2, hcz40_3, hcz40_4⟩ := zc5 BK296.out; obtain ⟨hfz40_0, hfz40_1, hfz40_2, hfz40_3, hfz40_4⟩ := zf BK296.out; have hnb41 := NB283_282.out; have hnc41 := NB282_283.out; obtain ⟨hcz42_0, hcz42_1, hcz42_2, hcz42_3, hcz42_4⟩ := zc5 BK283.out; obtain ⟨hfz42_0, hfz42_1, hfz42_2, hfz42_3, hfz42_4⟩ := zf BK283.out))
         refine bodyPost_ret (results_ct rfl _ _ gb283 44 #[.int .i64 (wrap64 (rd l0_2 0)), .int .i64 a0_0, .int .i64 a0_1, .int .i64 t284, .slice Ao30 y293.length co30] (0, 0) _ rfl (by (repeat refine zL ?_); refine blk_put (cs := #[.int .i64 (wrap64 (rd l0_2 0)), .int .i64 a0_0, .int .i64 a0_1, .int .i64 t284, .slice none 0 0]) ?_ 4 _ rfl; (repeat refine zL ?_); refine blk_put (cs := #[.int .i64 (wrap64 (rd l0_2 0)), .int .i64 a0_0, .int .i64 a0_1, .int .i64 0, .slice none 0 0]) ?_ 3 _ rfl; (repeat refine zL ?_); refine blk_put (cs := #[.int .i64 (wrap64 (rd l0_2 0)), .int .i64 a0_0, .int .i64 0, .int .i64 0, .slice none 0 0]) ?_ 2 _ rfl; (repeat refine zL ?_); refine blk_put (cs := #[.int .i64 (wrap64 (rd l0_2 0)), .int .i64 0, .int .i64 0, .int .i64 0, .slice none 0 0]) ?_ 1 _ rfl; (repeat refine zL ?_); refine blk_put (cs := #[.int .i64 0, .int .i64 0, .int .i64 0, .int .i64 0, .slice none 0 0]) ?_ 0 _ rfl; (repeat refine zL ?_); exact BK283.out) Try.underlying44 rfl (by kernel_rfl)) rfl ?_
         exact ⟨_, zE, by (with_reducible repeat (first | apply Kd.R_alloc | apply Kd.R_drewN | apply Kd.R_drew)); exact Kd.R_mono (Kd.R_far (p := ⟨gb283, 4, none⟩) (Kd.R_far (p := ⟨gb283, 3, none⟩) (Kd.R_far (p := ⟨gb283, 2, none⟩) (Kd.R_far (p := ⟨gb283, 1, none⟩) (Kd.R_far (p := ⟨gb283, 0, none⟩) (Kd.R_types HO295.out BK283.out (by decide)) (fun _ hk => hk.2) (.int .i64 (wrap64 (rd l0_2 0)))) (fun _ hk => hk.2) (.int .i64 a0_0)) (fun _ hk => hk.2) (.int .i64 a0_1)) (fun _ hk => hk.2) (.int .i64 t284)) (fun _ hk => hk.2) (.slice Ao30 y293.length co30)) (fun _ hk => trivial), zH⟩
        ·replace c21 := Bool.eq_false_iff.mpr c21
         subst c21
         replace H : (some (0, 0, 0, 0, ([] : List Int), false)) = some (r1, r2, r3, r4, r5, r6) := by rw [if_neg (show ¬ (false = true) by decide)] at H; exact H
         simp only [Option.some.injEq, Prod.mk.injEq] at H
         obtain ⟨rfl, rfl, rfl, rfl, rfl, rfl⟩ := H
         try go_wp2
         have n0_ := Aside0.mk (blk_drew BK282.out)
         have n1_ := Aside0.mk (blk_drew BK283.out)
         have n2_ := Aside0.mk (below_drew1 HB.out)
         clear BK282
         clear BK283
         clear HB
         have BK282 := n0_
         have BK283 := n1_
         have HB := n2_
         clear n0_ n1_ n2_
         have p288 : 0 ≤ (0 : Int) := (by omega)
         have q288 : 0 < (l0_2.length : Int) := zD
         obtain ⟨ad288, e288, hx288_0⟩ := Kd.at_int HR0_2.out 0 p288 q288
         have hw288_0 := hx288_0
         (try rw [show ((0 : Int)).toNat = 0 from rfl] at hw288_0)
         (try rw [show 0 * 1 = 0 from rfl] at hw288_0)
         (try rw [Addr.add_zero'] at hw288_0)
         cases e288
         have qi288 : (0 < l0_2.length) = True := eq_true (by omega)
         (try rw [show ((0 : Int)).toNat = 0 from rfl] at hx288_0)
         (try rw [Addr.add_zero'] at hx288_0)
         replace hx288_0 := (HB.out.cell (World.block_lt_of_cell? w _ hx288_0)).trans hx288_0
         replace p288 := eq_true p288
         replace q288 := eq_true q288
         obtain ⟨i044, hi044, _, hsz44, _⟩ := info_parts info5
         obtain ⟨A44, hcut44, hA44, hC44⟩ := print_drop_of (P := Try.prog) (Value.int .u8) 0 39 5 .i64 Try.underlying39 hi044 hsz44 (some ad288) c0_2 l0_2 t285 zD zD HC0_2.out
         have HR292 := Aside0.mk (Kd.C_of_reads (h1 := fun _ => rfl) (hA44 _ (Kd.reads_of_C HR0_2.out)))
         have HC292 := Aside0.mk hC44
         clear hA44 hC44 hi044 hsz44
         refine start_ (n := 19) (S := fun w' => w'.cell? ⟨gb282, 0, none⟩ = some (.int .i64 a0_0) ∧ w'.cell? ⟨gb282, 1, none⟩ = some (.int .i64 a0_1) ∧ w'.cell? ⟨gb282, 2, none⟩ = some (.slice (some ad288) l0_2.length c0_2) ∧ w'.cell? ad288 = some (.int .u8 (rd l0_2 0))) (ds := []) #[false, false, false, false, false, false, false, false, false, false, false, false, false, false, false, false, false, false, false] (by kernel_rfl) rfl rfl ⟨(blk_cell BK282.out 0).trans rfl, (blk_cell BK282.out 1).trans rfl, (blk_cell BK282.out 2).trans rfl, ((HB.out.cell (World.block_lt_of_cell? w _ hw288_0)).trans hw288_0)⟩ (fun hHeld => ?_); refine with_tabW impl_takeEvent.tab4 impl_takeEvent.bits4 (fun HT_ HW_ => ?_)
         generalize wc.drew = w43 at BK282 BK283 HB HR292 hx288_0 hHeld ⊢
         refine pure_ (i := 0) (N := some 23) (v := ?_) (a' := ?_) #[true, false, false, false, false, false, false, false, false, false, false, false, false, false, false, false, false, false, false] rfl rfl (any_of HT_.out (by kernel_rfl)) (fun _ _ _ h => h) (Or.inl ⟨by rfl, ?_⟩) ?_ ?_
         rotate_left;(focus intro w';go_simp;with_reducible rfl);rotate_left;(focus simp only [Act.put, List.setIfInBounds_toArray, List.set_cons_zero, List.set_cons_succ, i64_w, i32_w];rfl)
         refine pure_ (i := 5) (N := some 28) (v := ?_) (a' := ?_) #[true, false, false, false, false, true, false, false, false, false, false, false, false, false, false, false, false, false, false] rfl rfl (any_of HT_.out (by kernel_rfl)) (fun _ _ _ h => h) (Or.inl ⟨by rfl, ?_⟩) ?_ ?_
         rotate_left;(focus intro w';go_simp;with_reducible rfl);rotate_left;(focus simp only [Act.put, List.setIfInBounds_toArray, List.set_cons_zero, List.set_cons_succ, i64_w, i32_w];rfl)
         refine pure_ (i := 7) (N := some 30) (v := ?_) (a' := ?_) #[true, false, false, false, false, true, false, true, false, false, false, false, false, false, false, false, false, false, false] rfl rfl (any_of HT_.out (by kernel_rfl)) (fun _ _ _ h => h) (Or.inl ⟨by rfl, ?_⟩) ?_ ?_
         rotate_left;(focus intro w';go_simp;with_reducible rfl);rotate_left;(focus simp only [Act.put, List.setIfInBounds_toArray, List.set_cons_zero, List.set_cons_succ, i64_w, i32_w];rfl)
         refine pure_ (i := 9) (N := some 32) (v := ?_) (a' := ?_) #[true, false, false, false, false, true, false, true, false, true, false, false, false, false, false, false, false, false, false] rfl rfl (any_of HT_.out (by kernel_rfl)) (fun _ _ _ h => h) (Or.inl ⟨by rfl, ?_⟩) ?_ ?_
         rotate_left;(focus intro w';go_simp;with_reducible rfl);rotate_left;(focus simp only [Act.put, List.setIfInBounds_toArray, List.set_cons_zero, List.set_cons_succ, i64_w, i32_w];rfl)
         refine pure_ (i := 11) (N := some 34) (v := ?_) (a' := ?_) #[true, false, false, false, false, true, false, true, false, true, false, true, false, false, false, false, false, false, false] rfl rfl (any_of HT_.out (by kernel_rfl)) (fun _ _ _ h => h) (Or.inl ⟨by rfl, ?_⟩) ?_ ?_
         rotate_left;(focus intro w';go_simp;with_reducible rfl);rotate_left;(focus simp only [Act.put, List.setIfInBounds_toArray, List.set_cons_zero, List.set_cons_succ, i64_w, i32_w];rfl)
         refine pure_ (i := 13) (N := some 36) (v := ?_) (a' := ?_) #[true, false, false, false, false, true, false, true, false, true, false, true, false, true, false, false, false, false, false] rfl rfl (any_of HT_.out (by kernel_rfl)) (fun _ _ _ h => h) (Or.inl ⟨by rfl, ?_⟩) ?_ ?_
         rotate_left;(focus intro w';go_simp;with_reducible rfl);rotate_left;(focus simp only [Act.put, List.setIfInBounds_toArray, List.set_cons_zero, List.set_cons_succ, i64_w, i32_w];rfl)
         refine take_ (i := 1) (N := some 24) (v := ?_) (a' := ?_) #[true, true, false, false, false, true, false, true, false, true, false, true, false, true, false, false, false, false, false] rfl rfl (take_ofW HT_.out HW_.out (by kernel_rfl)) (fun _ _ _ h => h) (Or.inl ⟨by rfl, ?_⟩) hHeld ?_ ?_
         rotate_left
         ·rintro w' ⟨s0, s1, s2, s3⟩
          go_simp
          with_reducible rfl
         rotate_left
         ·simp only [Act.put, List.setIfInBounds_toArray, List.set_cons_zero, List.set_cons_succ, i64_w, i32_w]
          rfl
         refine pure_ (i := 2) (N := some 25) (v := ?_) (a' := ?_) #[true, true, true, false, false, true, false, true, false, true, false, true, false, true, false, false, false, false, false] rfl rfl (any_of HT_.out (by kernel_rfl)) (fun _ _ _ h => h) (Or.inl ⟨by rfl, ?_⟩) ?_ ?_
         rotate_left;(focus intro w';go_simp;with_reducible rfl);rotate_left;(focus simp only [Act.put, List.setIfInBounds_toArray, List.set_cons_zero, List.set_cons_succ, i64_w, i32_w];rfl)
         refine take_ (i := 3) (N := some 26) (v := ?_) (a' := ?_) #[true, true, true, true, false, true, false, true, false, true, false, true, false, true, false, false, false, false, false] rfl rfl (take_ofW HT_.out HW_.out (by kernel_rfl)) (fun _ _ _ h => h) (Or.inl ⟨by rfl, ?_⟩) hHeld ?_ ?_
         rotate_left
         ·rintro w' ⟨s0, s1, s2, s3⟩
          go_simp
          with_reducible rfl
         rotate_left
         ·simp only [Act.put, List.setIfInBounds_toArray, List.set_cons_zero, List.set_cons_succ, i64_w, i32_w]
          rfl
         refine pure_ (i := 4) (N := some 27) (v := ?_) (a' := ?_) #[true, true, true, true, true, true, false, true, false, true, false, true, false, true, false, false, false, false, false] rfl rfl (any_of HT_.out (by kernel_rfl)) (fun _ _ _ h => h) (Or.inl ⟨by rfl, ?_⟩) ?_ ?_
         rotate_left;(focus intro w';go_simp;with_reducible rfl);rotate_left;(focus simp only [Act.put, List.setIfInBounds_toArray, List.set_cons_zero, List.set_cons_succ, i64_w, i32_w];rfl)
         refine take_ (i := 6) (N := some 29) (v := ?_) (a' := ?_) #[true, true, true, true, true, true, true, true, false, true, false, true, false, true, false, false, false, false, false] rfl rfl (take_ofW HT_.out HW_.out (by kernel_rfl)) (fun _ _ _ h => h) (Or.inl ⟨by rfl, ?_⟩) hHeld ?_ ?_
         rotate_left
         ·rintro w' ⟨s0, s1, s2, s3⟩
          go_simp
          with_reducible rfl
         rotate_left
         ·simp only [Act.put, List.setIfInBounds_toArray, List.set_cons_zero, List.set_cons_succ, i64_w, i32_w]
          rfl
         refine take_ (i := 8) (N := some 31) (v := ?_) (a' := ?_) #[true, true, true, true, true, true, true, true, true, true, false, true, false, true, false, false, false, false, false] rfl rfl (take_ofW HT_.out HW_.out (by kernel_rfl)) (fun _ _ _ h => h) (Or.inl ⟨by rfl, ?_⟩) hHeld ?_ ?_
         rotate_left
         ·rintro w' ⟨s0, s1, s2, s3⟩
          go_simp
          with_reducible rfl
         rotate_left
         ·simp only [Act.put, List.setIfInBounds_toArray, List.set_cons_zero, List.set_cons_succ, i64_w, i32_w]
          rfl
         refine take_ (i := 12) (N := some 35) (v := ?_) (a' := ?_) #[true, true, true, true, true, true, true, true, true, true, false, true, true, true, false, false, false, false, false] rfl rfl (take_ofW HT_.out HW_.out (by kernel_rfl)) (fun _ _ _ h => h) (Or.inl ⟨by rfl, ?_⟩) hHeld ?_ ?_
         rotate_left
         ·rintro w' ⟨s0, s1, s2, s3⟩
          go_simp
          with_reducible rfl
         rotate_left
         ·simp only [Act.put, List.setIfInBounds_toArray, List.set_cons_zero, List.set_cons_succ, i64_w, i32_w]
          rfl
         refine pure_ (i := 14) (N := some 37) (v := ?_) (a' := ?_) #[true, true, true, true, true, true, true, true, true, true, false, true, true, true, true, false, false, false, false] rfl rfl (any_of HT_.out (by kernel_rfl)) (fun _ _ _ h => h) (Or.inl ⟨by rfl, ?_⟩) ?_ ?_
         rotate_left;(focus intro w';go_simp;with_reducible rfl);rotate_left;(focus simp only [Act.put, List.setIfInBounds_toArray, List.set_cons_zero, List.set_cons_succ, i64_w, i32_w];rfl)
         refine join_ (σ := Value × Value × Nat) 1 #[true, true, true, true, true, true, true, true, true, true, true, true, true, true, true, true, true, true, false] (fun s_ => [(33, s_.1), (38, s_.2.1), (7, .pointer (some ⟨s_.2.2, 0, none⟩)), (39, .agg #[.int .i64 (wrap64 (rd l0_2 0)), .int .i64 a0_0, .int .i64 a0_1, .int .i64 t284, s_.2.1])]) (fun s_ w' => (w'.cell? ⟨gb282, 0, none⟩ = some (.int .i64 a0_0) ∧ w'.cell? ⟨gb282, 1, none⟩ = some (.int .i64 a0_1) ∧ w'.cell? ⟨gb282, 2, none⟩ = some (.slice (some ad288) l0_2.length c0_2) ∧ w'.cell? ad288 = some (.int .u8 (rd l0_2 0))) ∧ (Kd.R (Kd.int .u8) 5 w' w.heap.size (fun _ => True) s_.2.1 y293) ∧ (w'.heap[gb282]? = some (.cells #[.int .i64 a0_0, .int .i64 a0_1, .slice (some ad288) l0_2.length c0_2] 62 (0, 0))) ∧ (w'.heap[gb283]? = some (.cells #[.int .i64 0, .int .i64 0, .int .i64 0, .int .i64 0, .slice none 0 0] 44 (0, 0))) ∧ (w'.heap[s_.2.2]? = some (.cells #[.int .i64 0, .int .i64 0, .int .i64 0, .int .i64 0, .slice none 0 0] 44 (0, 0))) ∧ (w.heap.size ≤ s_.2.2) ∧ (w.heap.size ≤ s_.2.2) ∧ (gb282 ≠ s_.2.2) ∧ (s_.2.2 ≠ gb282) ∧ (gb283 ≠ s_.2.2) ∧ (s_.2.2 ≠ gb283) ∧ (Below w.heap.size w w')) ?_ ?_
         rotate_left
         ·intro hCont
          refine two_ (i := 10) (j := 17) (Ni := some 33) (Nj := some 7) #[true, true, true, true, true, true, true, true, true, true, true, true, true, true, true, false, false, false, false] #[true, true, true, true, true, true, true, true, true, true, false, true, true, true, true, false, false, true, false] rfl rfl rfl rfl (two_of HT_.out (by kernel_rfl)) (by decide) (by decide) (fun K hK => ?_) (fun K hK => ?_)
          ·skip
           refine Kd.R_lit_step (Kd.int .u8) _ 5 ?hg (N := 33) ?hd (xs := ([] : List Int)) (inner := []) (ok := fun _ => True) (okp := fun _ => True) ?hr ?hp (fun _ hk => hk) trivial (Below.refl _ _) (Nat.le_refl _) (by simp) ?_; (case hd => rfl); (case hg => rfl); (case hr => first | (go_simp; done) | (go_simp; rfl)); (case hp => exact (Reps.none _ _))
           intro v290 w45 ho46 hb hg_ hnew_
           clear hg_ hnew_
           (first | rw [← Ny289.out] at ho46 | (simp only [Int.reduceToNat] at ho46; rw [← Ny289.out] at ho46))
           have n0_ := Aside0.mk (Kd.R_lower ho46 (below_size zH))
           have n1_ := Aside0.mk (blk_below (g := gb282) (o := .cells #[.int .i64 a0_0, .int .i64 a0_1, .slice (some ad288) l0_2.length c0_2] 62 (0, 0)) (zB BK282.out) hb)
           have n2_ := Aside0.mk (blk_below (g := gb283) (o := .cells #[.int .i64 0, .int .i64 0, .int .i64 0, .int .i64 0, .slice none 0 0] 44 (0, 0)) (zB BK283.out) hb)
           have n3_ := Aside0.mk (below_step zH hb)
           clear BK282
           clear BK283
           clear HB
           have HO291 := n0_
           have BK282 := n1_
           have BK283 := n2_
           have HB := n3_
           clear n0_ n1_ n2_ n3_
           clear hb ho46
           refine hK.out _ _ ⟨(blk_cell BK282.out 0).trans rfl, (blk_cell BK282.out 1).trans rfl, (blk_cell BK282.out 2).trans rfl, ((HB.out.cell (World.block_lt_of_cell? w _ hw288_0)).trans hw288_0)⟩ (fun hHeld => ?_)
           clear hK K
           refine norm_ (a' := ?_) ?_ ?_
           rotate_left
           ·show Act.put _ (some 33) _ = _
            simp only [Act.put, List.setIfInBounds_toArray, List.set_cons_zero, List.set_cons_succ, i64_w, i32_w]
            rfl
           refine two_ (i := 15) (j := 17) (Ni := some 38) (Nj := some 7) #[true, true, true, true, true, true, true, true, true, true, true, true, true, true, true, true, false, false, false] #[true, true, true, true, true, true, true, true, true, true, true, true, true, true, true, false, false, true, false] rfl rfl rfl rfl (two_of HT_.out (by kernel_rfl)) (by decide) (by decide) (fun K hK => ?_) (fun K hK => ?_)
           ·skip
            refine Kd.R_append_rows_step (Kd.int .u8) (w0 := w) w.heap.size (by rfl) (.tmp 33) (.tmp 37) 39 5 (.int .u8 0) 1 rfl Try.underlying39 info5 rfl (by decide) (by omega) v290 y289 (l0_2.drop (t285 : Int).toNat) _ _ _ (fun _ => True) (fun _ => False) rfl rfl ?aO ?aR (fun _ _ h => h) (fun _ h => h.elim) ?aF ?aB ?aS ?aL ?_
            (case aR => first | (rw [← show (l0_2.drop (t285 : Int).toNat).length = (l0_2.length - t285.toNat) from List.length_drop]; exact zC (Kd.C_below HR292.out HB.out)) | (exact zC (Kd.C_below HR292.out HB.out)))
            (case aB => exact zH)
            (case aF => exact (fun _ _ => trivial))
            (case aO => exact (zR HO291.out))
            (case aS => exact (below_size zH))
            (case aL => have := LMc19.out; have hlx_ := (show (l0_2.drop (t285 : Int).toNat).length = (l0_2.length - t285.toNat) from List.length_drop); omega)
            intro v294 w47 ho hb hg hat
            rw [← Ny293.out] at ho
            have n0_ := Aside0.mk (blk_grown (g := gb282) (o := .cells #[.int .i64 a0_0, .int .i64 a0_1, .slice (some ad288) l0_2.length c0_2] 62 (0, 0)) (zB BK282.out) hg (Kd.R_ne HO291.out BK282.out (by decide)))
            have n1_ := Aside0.mk (blk_grown (g := gb283) (o := .cells #[.int .i64 0, .int .i64 0, .int .i64 0, .int .i64 0, .slice none 0 0] 44 (0, 0)) (zB BK283.out) hg (Kd.R_ne HO291.out BK283.out (by decide)))
            have n2_ := Aside0.mk (hb)
            have n3_ := Aside0.mk (ho)
            clear BK282
            clear BK283
            clear HB
            clear HO291
            have BK282 := n0_
            have BK283 := n1_
            have HB := n2_
            have HO295 := n3_
            clear n0_ n1_ n2_ n3_
            clear ho hb hg hat
            obtain ⟨Ao48, co48, eo48⟩ := Kd.R_slice HO295.out
            (first | subst eo48 | (injection eo48 with f1_ f2_ f3_; have f4_ := f1_.symm; have f5_ := f3_.symm; clear f1_ f2_ f3_; subst f4_; subst f5_))
            refine hK.out _ _ ⟨(blk_cell BK282.out 0).trans rfl, (blk_cell BK282.out 1).trans rfl, (blk_cell BK282.out 2).trans rfl, ((HB.out.cell (World.block_lt_of_cell? w _ hw288_0)).trans hw288_0)⟩ (fun hHeld => ?_)
            clear hK K
            refine norm_ (a' := ?_) ?_ ?_
            rotate_left
            ·show Act.put _ (some 38) _ = _
             simp only [Act.put, List.setIfInBounds_toArray, List.set_cons_zero, List.set_cons_succ, i64_w, i32_w]
             rfl
            refine pure_ (i := 16) (N := some 39) (v := ?_) (a' := ?_) #[true, true, true, true, true, true, true, true, true, true, true, true, true, true, true, true, true, false, false] rfl rfl (any_of HT_.out (by kernel_rfl)) (fun _ _ _ h => h) (Or.inl ⟨by rfl, ?_⟩) ?_ ?_
            rotate_left;(focus intro w';go_simp;with_reducible rfl);rotate_left;(focus simp only [Act.put, List.setIfInBounds_toArray, List.set_cons_zero, List.set_cons_succ, i64_w, i32_w];rfl)
            refine one_ (i := 17) (N := some 7) #[true, true, true, true, true, true, true, true, true, true, true, true, true, true, true, true, true, true, false] rfl rfl (one_of HT_.out (by kernel_rfl)) (by decide) (fun K hK => ?_)
            refine box_step ?hg (N := 7) ?hd (cs := #[.int .i64 0, .int .i64 0, .int .i64 0, .int .i64 0, .slice none 0 0]) (t := 44) ?hr ?_; (case hd => rfl); (case hg => rfl); (case hr => first | (go_simp; done) | (go_simp; rfl))
            intro gb296 hg w49 hbox hb
            have n0_ := Aside0.mk (Kd.R_below (zR HO295.out) hb)
            have n1_ := Aside0.mk (blk_below (g := gb282) (o := .cells #[.int .i64 a0_0, .int .i64 a0_1, .slice (some ad288) l0_2.length c0_2] 62 (0, 0)) (zB BK282.out) hb)
            have n2_ := Aside0.mk (blk_below (g := gb283) (o := .cells #[.int .i64 0, .int .i64 0, .int .i64 0, .int .i64 0, .slice none 0 0] 44 (0, 0)) (zB BK283.out) hb)
            have n3_ := Aside0.mk (below_step zH hb)
            have n4_ := Aside0.mk (hbox)
            have n5_ := Aside0.mk ((by rw [hg]; exact (below_size zH) : w.heap.size ≤ gb296))
            have n6_ := Aside0.mk ((by rw [hg]; exact (below_size zH) : w.heap.size ≤ gb296))
            have n7_ := Aside0.mk ((by rw [hg]; exact Nat.ne_of_lt (blk_lt (g := gb282) (o := .cells #[.int .i64 a0_0, .int .i64 a0_1, .slice (some ad288) l0_2.length c0_2] 62 (0, 0)) (zB BK282.out)) : gb282 ≠ gb296))
            have n8_ := Aside0.mk ((by rw [hg]; exact Nat.ne_of_gt (blk_lt (g := gb282) (o := .cells #[.int .i64 a0_0, .int .i64 a0_1, .slice (some ad288) l0_2.length c0_2] 62 (0, 0)) (zB BK282.out)) : gb296 ≠ gb282))
            have n9_ := Aside0.mk ((by rw [hg]; exact Nat.ne_of_lt (blk_lt (g := gb283) (o := .cells #[.int .i64 0, .int .i64 0, .int .i64 0, .int .i64 0, .slice none 0 0] 44 (0, 0)) (zB BK283.out)) : gb283 ≠ gb296))
            have n10_ := Aside0.mk ((by rw [hg]; exact Nat.ne_of_gt (blk_lt (g := gb283) (o := .cells #[.int .i64 0, .int .i64 0, .int .i64 0, .int .i64 0, .slice none 0 0] 44 (0, 0)) (zB BK283.out)) : gb296 ≠ gb283))
            clear HO295
            clear BK282
            clear BK283
            clear HB
            have HO295 := n0_
            have BK282 := n1_
            have BK283 := n2_
            have HB := n3_
            have BK296 := n4_
            have GW296 := n5_
            have GE296 := n6_
            have NB282_296 := n7_
            have NB296_282 := n8_
            have NB283_296 := n9_
            have NB296_283 := n10_
            clear n0_ n1_ n2_ n3_ n4_ n5_ n6_ n7_ n8_ n9_ n10_
            clear hb hbox hg
            refine hK.out _ _ ⟨(blk_cell BK282.out 0).trans rfl, (blk_cell BK282.out 1).trans rfl, (blk_cell BK282.out 2).trans rfl, ((HB.out.cell (World.block_lt_of_cell? w _ hw288_0)).trans hw288_0)⟩ (fun hHeld => ?_)
            clear hK K
            refine norm_ (a' := ?_) ?_ ?_
            rotate_left
            ·show Act.put _ (some 7) _ = _
             simp only [Act.put, List.setIfInBounds_toArray, List.set_cons_zero, List.set_cons_succ, i64_w, i32_w]
             rfl
            exact norm_ (by simp only [putAll, Act.put, List.setIfInBounds_toArray, List.set_cons_zero, List.set_cons_succ]) (hCont (v290, .slice Ao48 y293.length co48, gb296) _ ⟨hHeld, (zR HO295.out), (zB BK282.out), (zB BK283.out), (zB BK296.out), GW296.out, GE296.out, NB282_296.out, NB296_282.out, NB283_296.out, NB296_283.out, zH⟩)
           ·skip
            refine box_step ?hg (N := 7) ?hd (cs := #[.int .i64 0, .int .i64 0, .int .i64 0, .int .i64 0, .slice none 0 0]) (t := 44) ?hr ?_; (case hd => rfl); (case hg => rfl); (case hr => first | (go_simp; done) | (go_simp; rfl))
            intro gb296 hg w47 hbox hb
            have n0_ := Aside0.mk (Kd.R_below (zR HO291.out) hb)
            have n1_ := Aside0.mk (blk_below (g := gb282) (o := .cells #[.int .i64 a0_0, .int .i64 a0_1, .slice (some ad288) l0_2.length c0_2] 62 (0, 0)) (zB BK282.out) hb)
            have n2_ := Aside0.mk (blk_below (g := gb283) (o := .cells #[.int .i64 0, .int .i64 0, .int .i64 0, .int .i64 0, .slice none 0 0] 44 (0, 0)) (zB BK283.out) hb)
            have n3_ := Aside0.mk (below_step zH hb)
            have n4_ := Aside0.mk (hbox)
            have n5_ := Aside0.mk ((by rw [hg]; exact (below_size zH) : w.heap.size ≤ gb296))
            have n6_ := Aside0.mk ((by rw [hg]; exact (below_size zH) : w.heap.size ≤ gb296))
            have n7_ := Aside0.mk ((by rw [hg]; exact Nat.ne_of_lt (blk_lt (g := gb282) (o := .cells #[.int .i64 a0_0, .int .i64 a0_1, .slice (some ad288) l0_2.length c0_2] 62 (0, 0)) (zB BK282.out)) : gb282 ≠ gb296))
            have n8_ := Aside0.mk ((by rw [hg]; exact Nat.ne_of_gt (blk_lt (g := gb282) (o := .cells #[.int .i64 a0_0, .int .i64 a0_1, .slice (some ad288) l0_2.length c0_2] 62 (0, 0)) (zB BK282.out)) : gb296 ≠ gb282))
            have n9_ := Aside0.mk ((by rw [hg]; exact Nat.ne_of_lt (blk_lt (g := gb283) (o := .cells #[.int .i64 0, .int .i64 0, .int .i64 0, .int .i64 0, .slice none 0 0] 44 (0, 0)) (zB BK283.out)) : gb283 ≠ gb296))
            have n10_ := Aside0.mk ((by rw [hg]; exact Nat.ne_of_gt (blk_lt (g := gb283) (o := .cells #[.int .i64 0, .int .i64 0, .int .i64 0, .int .i64 0, .slice none 0 0] 44 (0, 0)) (zB BK283.out)) : gb296 ≠ gb283))
            clear HO291
            clear BK282
            clear BK283
            clear HB
            have HO291 := n0_
            have BK282 := n1_
            have BK283 := n2_
            have HB := n3_
            have BK296 := n4_
            have GW296 := n5_
            have GE296 := n6_
            have NB282_296 := n7_
            have NB296_282 := n8_
            have NB283_296 := n9_
            have NB296_283 := n10_
            clear n0_ n1_ n2_ n3_ n4_ n5_ n6_ n7_ n8_ n9_ n10_
            clear hb hbox hg
            refine hK.out _ _ ⟨(blk_cell BK282.out 0).trans rfl, (blk_cell BK282.out 1).trans rfl, (blk_cell BK282.out 2).trans rfl, ((HB.out.cell (World.block_lt_of_cell? w _ hw288_0)).trans hw288_0)⟩ (fun hHeld => ?_)
            clear hK K
            refine norm_ (a' := ?_) ?_ ?_
            rotate_left
            ·show Act.put _ (some 7) _ = _
             simp only [Act.put, List.setIfInBounds_toArray, List.set_cons_zero, List.set_cons_succ, i64_w, i32_w]
             rfl
            refine one_ (i := 15) (N := some 38) #[true, true, true, true, true, true, true, true, true, true, true, true, true, true, true, true, false, true, false] rfl rfl (one_of HT_.out (by kernel_rfl)) (by decide) (fun K hK => ?_)
            refine Kd.R_append_rows_step (Kd.int .u8) (w0 := w) w.heap.size (by rfl) (.tmp 33) (.tmp 37) 39 5 (.int .u8 0) 1 rfl Try.underlying39 info5 rfl (by decide) (by omega) v290 y289 (l0_2.drop (t285 : Int).toNat) _ _ _ (fun _ => True) (fun _ => False) rfl rfl ?aO ?aR (fun _ _ h => h) (fun _ h => h.elim) ?aF ?aB ?aS ?aL ?_
            (case aR => first | (rw [← show (l0_2.drop (t285 : Int).toNat).length = (l0_2.length - t285.toNat) from List.length_drop]; exact zC (Kd.C_below HR292.out HB.out)) | (exact zC (Kd.C_below HR292.out HB.out)))
            (case aB => exact zH)
            (case aF => exact (fun _ _ => trivial))
            (case aO => exact (zR HO291.out))
            (case aS => exact (below_size zH))
            (case aL => have := LMc19.out; have hlx_ := (show (l0_2.drop (t285 : Int).toNat).length = (l0_2.length - t285.toNat) from List.length_drop); omega)
            intro v294 w48 ho hb hg hat
            rw [← Ny293.out] at ho
            have n0_ := Aside0.mk (blk_grown (g := gb282) (o := .cells #[.int .i64 a0_0, .int .i64 a0_1, .slice (some ad288) l0_2.length c0_2] 62 (0, 0)) (zB BK282.out) hg (Kd.R_ne HO291.out BK282.out (by decide)))
            have n1_ := Aside0.mk (blk_grown (g := gb283) (o := .cells #[.int .i64 0, .int .i64 0, .int .i64 0, .int .i64 0, .slice none 0 0] 44 (0, 0)) (zB BK283.out) hg (Kd.R_ne HO291.out BK283.out (by decide)))
            have n2_ := Aside0.mk (blk_grown (g := gb296) (o := .cells #[.int .i64 0, .int .i64 0, .int .i64 0, .int .i64 0, .slice none 0 0] 44 (0, 0)) (zB BK296.out) hg (Kd.R_ne HO291.out BK296.out (by decide)))
            have n3_ := Aside0.mk (hb)
            have n4_ := Aside0.mk (ho)
            clear BK282
            clear BK283
            clear BK296
            clear HB
            clear HO291
            have BK282 := n0_
            have BK283 := n1_
            have BK296 := n2_
            have HB := n3_
            have HO295 := n4_
            clear n0_ n1_ n2_ n3_ n4_
            clear ho hb hg hat
            obtain ⟨Ao49, co49, eo49⟩ := Kd.R_slice HO295.out
            (first | subst eo49 | (injection eo49 with f1_ f2_ f3_; have f4_ := f1_.symm; have f5_ := f3_.symm; clear f1_ f2_ f3_; subst f4_; subst f5_))
            refine hK.out _ _ ⟨(blk_cell BK282.out 0).trans rfl, (blk_cell BK282.out 1).trans rfl, (blk_cell BK282.out 2).trans rfl, ((HB.out.cell (World.block_lt_of_cell? w _ hw288_0)).trans hw288_0)⟩ (fun hHeld => ?_)
            clear hK K
            refine norm_ (a' := ?_) ?_ ?_
            rotate_left
            ·show Act.put _ (some 38) _ = _
             simp only [Act.put, List.setIfInBounds_toArray, List.set_cons_zero, List.set_cons_succ, i64_w, i32_w]
             rfl
            refine pure_ (i := 16) (N := some 39) (v := ?_) (a' := ?_) #[true, true, true, true, true, true, true, true, true, true, true, true, true, true, true, true, true, true, false] rfl rfl (any_of HT_.out (by kernel_rfl)) (fun _ _ _ h => h) (Or.inl ⟨by rfl, ?_⟩) ?_ ?_
            rotate_left;(focus intro w';go_simp;with_reducible rfl);rotate_left;(focus simp only [Act.put, List.setIfInBounds_toArray, List.set_cons_zero, List.set_cons_succ, i64_w, i32_w];rfl)
            exact norm_ (by simp only [putAll, Act.put, List.setIfInBounds_toArray, List.set_cons_zero, List.set_cons_succ]) (hCont (v290, .slice Ao49 y293.length co49, gb296) _ ⟨hHeld, (zR HO295.out), (zB BK282.out), (zB BK283.out), (zB BK296.out), GW296.out, GE296.out, NB282_296.out, NB296_282.out, NB283_296.out, NB296_283.out, zH⟩)
          ·skip
           refine box_step ?hg (N := 7) ?hd (cs := #[.int .i64 0, .int .i64 0, .int .i64 0, .int .i64 0, .slice none 0 0]) (t := 44) ?hr ?_; (case hd => rfl); (case hg => rfl); (case hr => first | (go_simp; done) | (go_simp; rfl))
           intro gb296 hg w45 hbox hb
           have n0_ := Aside0.mk (blk_below (g := gb282) (o := .cells #[.int .i64 a0_0, .int .i64 a0_1, .slice (some ad288) l0_2.length c0_2] 62 (0, 0)) (zB BK282.out) hb)
           have n1_ := Aside0.mk (blk_below (g := gb283) (o := .cells #[.int .i64 0, .int .i64 0, .int .i64 0, .int .i64 0, .slice none 0 0] 44 (0, 0)) (zB BK283.out) hb)
           have n2_ := Aside0.mk (below_step zH hb)
           have n3_ := Aside0.mk (hbox)
           have n4_ := Aside0.mk ((by rw [hg]; exact (below_size zH) : w.heap.size ≤ gb296))
           have n5_ := Aside0.mk ((by rw [hg]; exact (below_size zH) : w.heap.size ≤ gb296))
           have n6_ := Aside0.mk ((by rw [hg]; exact Nat.ne_of_lt (blk_lt (g := gb282) (o := .cells #[.int .i64 a0_0, .int .i64 a0_1, .slice (some ad288) l0_2.length c0_2] 62 (0, 0)) (zB BK282.out)) : gb282 ≠ gb296))
           have n7_ := Aside0.mk ((by rw [hg]; exact Nat.ne_of_gt (blk_lt (g := gb282) (o := .cells #[.int .i64 a0_0, .int .i64 a0_1, .slice (some ad288) l0_2.length c0_2] 62 (0, 0)) (zB BK282.out)) : gb296 ≠ gb282))
           have n8_ := Aside0.mk ((by rw [hg]; exact Nat.ne_of_lt (blk_lt (g := gb283) (o := .cells #[.int .i64 0, .int .i64 0, .int .i64 0, .int .i64 0, .slice none 0 0] 44 (0, 0)) (zB BK283.out)) : gb283 ≠ gb296))
           have n9_ := Aside0.mk ((by rw [hg]; exact Nat.ne_of_gt (blk_lt (g := gb283) (o := .cells #[.int .i64 0, .int .i64 0, .int .i64 0, .int .i64 0, .slice none 0 0] 44 (0, 0)) (zB BK283.out)) : gb296 ≠ gb283))
           clear BK282
           clear BK283
           clear HB
           have BK282 := n0_
           have BK283 := n1_
           have HB := n2_
           have BK296 := n3_
           have GW296 := n4_
           have GE296 := n5_
           have NB282_296 := n6_
           have NB296_282 := n7_
           have NB283_296 := n8_
           have NB296_283 := n9_
           clear n0_ n1_ n2_ n3_ n4_ n5_ n6_ n7_ n8_ n9_
           clear hb hbox hg
           refine hK.out _ _ ⟨(blk_cell BK282.out 0).trans rfl, (blk_cell BK282.out 1).trans rfl, (blk_cell BK282.out 2).trans rfl, ((HB.out.cell (World.block_lt_of_cell? w _ hw288_0)).trans hw288_0)⟩ (fun hHeld => ?_)
           clear hK K
           refine norm_ (a' := ?_) ?_ ?_
           rotate_left
           ·show Act.put _ (some 7) _ = _
            simp only [Act.put, List.setIfInBounds_toArray, List.set_cons_zero, List.set_cons_succ, i64_w, i32_w]
            rfl
           refine one_ (i := 10) (N := some 33) #[true, true, true, true, true, true, true, true, true, true, true, true, true, true, true, false, false, true, false] rfl rfl (one_of HT_.out (by kernel_rfl)) (by decide) (fun K hK => ?_)
           refine Kd.R_lit_step (Kd.int .u8) _ 5 ?hg (N := 33) ?hd (xs := ([] : List Int)) (inner := []) (ok := fun _ => True) (okp := fun _ => True) ?hr ?hp (fun _ hk => hk) trivial (Below.refl _ _) (Nat.le_refl _) (by simp) ?_; (case hd => rfl); (case hg => rfl); (case hr => first | (go_simp; done) | (go_simp; rfl)); (case hp => exact (Reps.none _ _))
           intro v290 w46 ho47 hb hg_ hnew_
           clear hg_ hnew_
           (first | rw [← Ny289.out] at ho47 | (simp only [Int.reduceToNat] at ho47; rw [← Ny289.out] at ho47))
           have n0_ := Aside0.mk (Kd.R_lower ho47 (below_size zH))
           have n1_ := Aside0.mk (blk_below (g := gb282) (o := .cells #[.int .i64 a0_0, .int .i64 a0_1, .slice (some ad288) l0_2.length c0_2] 62 (0, 0)) (zB BK282.out) hb)
           have n2_ := Aside0.mk (blk_below (g := gb283) (o := .cells #[.int .i64 0, .int .i64 0, .int .i64 0, .int .i64 0, .slice none 0 0] 44 (0, 0)) (zB BK283.out) hb)
           have n3_ := Aside0.mk (blk_below (g := gb296) (o := .cells #[.int .i64 0, .int .i64 0, .int .i64 0, .int .i64 0, .slice none 0 0] 44 (0, 0)) (zB BK296.out) hb)
           have n4_ := Aside0.mk (below_step zH hb)
           clear BK282
           clear BK283
           clear BK296
           clear HB
           have HO291 := n0_
           have BK282 := n1_
           have BK283 := n2_
           have BK296 := n3_
           have HB := n4_
           clear n0_ n1_ n2_ n3_ n4_
           clear hb ho47
           refine hK.out _ _ ⟨(blk_cell BK282.out 0).trans rfl, (blk_cell BK282.out 1).trans rfl, (blk_cell BK282.out 2).trans rfl, ((HB.out.cell (World.block_lt_of_cell? w _ hw288_0)).trans hw288_0)⟩ (fun hHeld => ?_)
           clear hK K
           refine norm_ (a' := ?_) ?_ ?_
           rotate_left
           ·show Act.put _ (some 33) _ = _
            simp only [Act.put, List.setIfInBounds_toArray, List.set_cons_zero, List.set_cons_succ, i64_w, i32_w]
            rfl
           refine one_ (i := 15) (N := some 38) #[true, true, true, true, true, true, true, true, true, true, true, true, true, true, true, true, false, true, false] rfl rfl (one_of HT_.out (by kernel_rfl)) (by decide) (fun K hK => ?_)
           refine Kd.R_append_rows_step (Kd.int .u8) (w0 := w) w.heap.size (by rfl) (.tmp 33) (.tmp 37) 39 5 (.int .u8 0) 1 rfl Try.underlying39 info5 rfl (by decide) (by omega) v290 y289 (l0_2.drop (t285 : Int).toNat) _ _ _ (fun _ => True) (fun _ => False) rfl rfl ?aO ?aR (fun _ _ h => h) (fun _ h => h.elim) ?aF ?aB ?aS ?aL ?_
           (case aR => first | (rw [← show (l0_2.drop (t285 : Int).toNat).length = (l0_2.length - t285.toNat) from List.length_drop]; exact zC (Kd.C_below HR292.out HB.out)) | (exact zC (Kd.C_below HR292.out HB.out)))
           (case aB => exact zH)
           (case aF => exact (fun _ _ => trivial))
           (case aO => exact (zR HO291.out))
           (case aS => exact (below_size zH))
           (case aL => have := LMc19.out; have hlx_ := (show (l0_2.drop (t285 : Int).toNat).length = (l0_2.length - t285.toNat) from List.length_drop); omega)
           intro v294 w48 ho hb hg hat
           rw [← Ny293.out] at ho
           have n0_ := Aside0.mk (blk_grown (g := gb282) (o := .cells #[.int .i64 a0_0, .int .i64 a0_1, .slice (some ad288) l0_2.length c0_2] 62 (0, 0)) (zB BK282.out) hg (Kd.R_ne HO291.out BK282.out (by decide)))
           have n1_ := Aside0.mk (blk_grown (g := gb283) (o := .cells #[.int .i64 0, .int .i64 0, .int .i64 0, .int .i64 0, .slice none 0 0] 44 (0, 0)) (zB BK283.out) hg (Kd.R_ne HO291.out BK283.out (by decide)))
           have n2_ := Aside0.mk (blk_grown (g := gb296) (o := .cells #[.int .i64 0, .int .i64 0, .int .i64 0, .int .i64 0, .slice none 0 0] 44 (0, 0)) (zB BK296.out) hg (Kd.R_ne HO291.out BK296.out (by decide)))
           have n3_ := Aside0.mk (hb)
           have n4_ := Aside0.mk (ho)
           clear BK282
           clear BK283
           clear BK296
           clear HB
           clear HO291
           have BK282 := n0_
           have BK283 := n1_
           have BK296 := n2_
           have HB := n3_
           have HO295 := n4_
           clear n0_ n1_ n2_ n3_ n4_
           clear ho hb hg hat
           obtain ⟨Ao49, co49, eo49⟩ := Kd.R_slice HO295.out
           (first | subst eo49 | (injection eo49 with f1_ f2_ f3_; have f4_ := f1_.symm; have f5_ := f3_.symm; clear f1_ f2_ f3_; subst f4_; subst f5_))
           refine hK.out _ _ ⟨(blk_cell BK282.out 0).trans rfl, (blk_cell BK282.out 1).trans rfl, (blk_cell BK282.out 2).trans rfl, ((HB.out.cell (World.block_lt_of_cell? w _ hw288_0)).trans hw288_0)⟩ (fun hHeld => ?_)
           clear hK K
           refine norm_ (a' := ?_) ?_ ?_
           rotate_left
           ·show Act.put _ (some 38) _ = _
            simp only [Act.put, List.setIfInBounds_toArray, List.set_cons_zero, List.set_cons_succ, i64_w, i32_w]
            rfl
           refine pure_ (i := 16) (N := some 39) (v := ?_) (a' := ?_) #[true, true, true, true, true, true, true, true, true, true, true, true, true, true, true, true, true, true, false] rfl rfl (any_of HT_.out (by kernel_rfl)) (fun _ _ _ h => h) (Or.inl ⟨by rfl, ?_⟩) ?_ ?_
           rotate_left;(focus intro w';go_simp;with_reducible rfl);rotate_left;(focus simp only [Act.put, List.setIfInBounds_toArray, List.set_cons_zero, List.set_cons_succ, i64_w, i32_w];rfl)
           exact norm_ (by simp only [putAll, Act.put, List.setIfInBounds_toArray, List.set_cons_zero, List.set_cons_succ]) (hCont (v290, .slice Ao49 y293.length co49, gb296) _ ⟨hHeld, (zR HO295.out), (zB BK282.out), (zB BK283.out), (zB BK296.out), GW296.out, GE296.out, NB282_296.out, NB296_282.out, NB283_296.out, NB296_283.out, zH⟩)
         rintro ⟨v290, v294, gb296⟩ w50 ⟨hS_, h0_, h1_, h2_, h3_, h4_, h5_, h6_, h7_, h8_, h9_, h10_⟩
         have n0_ : Aside0 (Kd.R (Kd.int .u8) 5 w50 w.heap.size (fun _ => True) v294 y293) := ⟨h0_⟩
         have n1_ : Aside0 (w50.heap[gb282]? = some (.cells #[.int .i64 a0_0, .int .i64 a0_1, .slice (some ad288) l0_2.length c0_2] 62 (0, 0))) := ⟨h1_⟩
         have n2_ : Aside0 (w50.heap[gb283]? = some (.cells #[.int .i64 0, .int .i64 0, .int .i64 0, .int .i64 0, .slice none 0 0] 44 (0, 0))) := ⟨h2_⟩
         have n3_ : Aside0 (w50.heap[gb296]? = some (.cells #[.int .i64 0, .int .i64 0, .int .i64 0, .int .i64 0, .slice none 0 0] 44 (0, 0))) := ⟨h3_⟩
         have n4_ : Aside0 (w.heap.size ≤ gb296) := ⟨h4_⟩
         have n5_ : Aside0 (w.heap.size ≤ gb296) := ⟨h5_⟩
         have n6_ : Aside0 (gb282 ≠ gb296) := ⟨h6_⟩
         have n7_ : Aside0 (gb296 ≠ gb282) := ⟨h7_⟩
         have n8_ : Aside0 (gb283 ≠ gb296) := ⟨h8_⟩
         have n9_ : Aside0 (gb296 ≠ gb283) := ⟨h9_⟩
         have n10_ : Aside0 (Below w.heap.size w w50) := ⟨h10_⟩
         clear BK282
         clear BK283
         clear HB
         clear h0_ h1_ h2_ h3_ h4_ h5_ h6_ h7_ h8_ h9_ h10_
         have HO295 := n0_
         have BK282 := n1_
         have BK283 := n2_
         have BK296 := n3_
         have GW296 := n4_
         have GE296 := n5_
         have NB282_296 := n6_
         have NB296_282 := n7_
         have NB283_296 := n8_
         have NB296_283 := n9_
         have HB := n10_
         clear n0_ n1_ n2_ n3_ n4_ n5_ n6_ n7_ n8_ n9_ n10_
         have hHeld : w50.cell? ⟨gb282, 0, none⟩ = some (.int .i64 a0_0) ∧ w50.cell? ⟨gb282, 1, none⟩ = some (.int .i64 a0_1) ∧ w50.cell? ⟨gb282, 2, none⟩ = some (.slice (some ad288) l0_2.length c0_2) ∧ w50.cell? ad288 = some (.int .u8 (rd l0_2 0)) := hS_
         obtain ⟨Ao51, co51, eo51⟩ := Kd.R_slice HO295.out
         (first | subst eo51 | (injection eo51 with f1_ f2_ f3_; have f4_ := f1_.symm; have f5_ := f3_.symm; clear f1_ f2_ f3_; subst f4_; subst f5_))
         refine norm_ (a' := ?_) ?_ ?_
         rotate_left
         ·simp only [putAll, Act.put, List.setIfInBounds_toArray, List.set_cons_zero, List.set_cons_succ]
          rfl
         refine one_ (i := 18) (N := none) #[true, true, true, true, true, true, true, true, true, true, true, true, true, true, true, true, true, true, true] rfl rfl (one_of HT_.out (by kernel_rfl)) (by decide) (fun K hK => ?_)
         have hs52 : w50.cell? ⟨gb296, 0, none⟩ = some (.int .i64 0) := (blk_cell BK296.out 0).trans rfl
         have hfs52 := blk_frozen BK296.out 0
         have hns52_0 := NB282_296.out
         have hns52_1 := NB283_296.out
         have hms52_0 := NB296_282.out
         have hms52_1 := NB296_283.out
         have hs53 : w50.cell? ⟨gb296, 1, none⟩ = some (.int .i64 0) := (blk_cell BK296.out 1).trans rfl
         have hfs53 := blk_frozen BK296.out 1
         have hns53_0 := NB282_296.out
         have hns53_1 := NB283_296.out
         have hms53_0 := NB296_282.out
         have hms53_1 := NB296_283.out
         have hs54 : w50.cell? ⟨gb296, 2, none⟩ = some (.int .i64 0) := (blk_cell BK296.out 2).trans rfl
         have hfs54 := blk_frozen BK296.out 2
         have hns54_0 := NB282_296.out
         have hns54_1 := NB283_296.out
         have hms54_0 := NB296_282.out
         have hms54_1 := NB296_283.out
         have hs55 : w50.cell? ⟨gb296, 3, none⟩ = some (.int .i64 0) := (blk_cell BK296.out 3).trans rfl
         have hfs55 := blk_frozen BK296.out 3
         have hns55_0 := NB282_296.out
         have hns55_1 := NB283_296.out
         have hms55_0 := NB296_282.out
         have hms55_1 := NB296_283.out
         have hs56 : w50.cell? ⟨gb296, 4, none⟩ = some (.slice none 0 0) := (blk_cell BK296.out 4).trans rfl
         have hfs56 := blk_frozen BK296.out 4
         have hns56_0 := NB282_296.out
         have hns56_1 := NB283_296.out
         have hms56_0 := NB296_282.out
         have hms56_1 := NB296_283.out
         refine skip_ (w1 := ?_) (by rfl) rfl ?_ ?_
         rotate_left
         ·go_simp
          rfl
         refine hK.out _ _ ⟨((cell_far (p := ⟨gb296, _, none⟩) NB282_296.out _).trans (((cell_far (p := ⟨gb296, _, none⟩) NB282_296.out _).trans (((cell_far (p := ⟨gb296, _, none⟩) NB282_296.out _).trans (((cell_far (p := ⟨gb296, _, none⟩) NB282_296.out _).trans (((cell_far (p := ⟨gb296, _, none⟩) NB282_296.out _).trans (hHeld.1)))))))))), ((cell_far (p := ⟨gb296, _, none⟩) NB282_296.out _).trans (((cell_far (p := ⟨gb296, _, none⟩) NB282_296.out _).trans (((cell_far (p := ⟨gb296, _, none⟩) NB282_296.out _).trans (((cell_far (p := ⟨gb296, _, none⟩) NB282_296.out _).trans (((cell_far (p := ⟨gb296, _, none⟩) NB282_296.out _).trans (hHeld.2.1)))))))))), ((cell_far (p := ⟨gb296, _, none⟩) NB282_296.out _).trans (((cell_far (p := ⟨gb296, _, none⟩) NB282_296.out _).trans (((cell_far (p := ⟨gb296, _, none⟩) NB282_296.out _).trans (((cell_far (p := ⟨gb296, _, none⟩) NB282_296.out _).trans (((cell_far (p := ⟨gb296, _, none⟩) NB282_296.out _).trans (hHeld.2.2.1)))))))))), ((cell_far (p := ⟨gb296, _, none⟩) (zO hw288_0 GW296.out) _).trans (((cell_far (p := ⟨gb296, _, none⟩) (zO hw288_0 GW296.out) _).trans (((cell_far (p := ⟨gb296, _, none⟩) (zO hw288_0 GW296.out) _).trans (((cell_far (p := ⟨gb296, _, none⟩) (zO hw288_0 GW296.out) _).trans (((cell_far (p := ⟨gb296, _, none⟩) (zO hw288_0 GW296.out) _).trans (hHeld.2.2.2))))))))))⟩ (fun hHeld => ?_)
         clear hK K
         refine done_ (done_of HT_.out (by kernel_rfl)) ?_
         have hnb57 := NB296_282.out
         have hnc57 := NB282_296.out
         have hnb58 := NB296_283.out
         have hnc58 := NB283_296.out
         obtain ⟨hcz59_0, hcz59_1, hcz59_2, hcz59_3, hcz59_4⟩ := zc5 BK296.out
         obtain ⟨hfz59_0, hfz59_1, hfz59_2, hfz59_3, hfz59_4⟩ := zf BK296.out
         try go_wp2_with (first | ((with_reducible refine gate_callee (f := 88) rfl ?_); refine goesL_ (some 41) rfl rfl Try.func88 (by kernel_rfl) rfl #[.agg #[.int .i64 (wrap64 (rd l0_2 0)), .int .i64 a0_0, .int .i64 a0_1, .int .i64 t284, .slice Ao51 y293.length co51]] rfl zM ?_; (with_reducible refine (impl_isEvent.calls kj2 (wrap64 (rd l0_2 0)) a0_0 a0_1 t284 _ _ y293 false _ ?side1 ?side2 A20.out).mono ?_); (case side1 => refine (Kd.R_reads' (e := 5) (base := w.heap.size) (ok := fun k_ => True) (n := y293.length) (c := co51) ?_).2.2; exact (by (with_reducible repeat (first | apply Kd.R_alloc | apply Kd.R_drewN | apply Kd.R_drew)); exact (Kd.R_mono (Kd.R_far (p := ⟨gb296, 4, none⟩) (Kd.R_far (p := ⟨gb296, 3, none⟩) (Kd.R_far (p := ⟨gb296, 2, none⟩) (Kd.R_far (p := ⟨gb296, 1, none⟩) (Kd.R_far (p := ⟨gb296, 0, none⟩) (Kd.R_types HO295.out BK296.out (by decide)) (fun _ hk => hk.2) (.int .i64 (wrap64 (rd l0_2 0)))) (fun _ hk => hk.2) (.int .i64 a0_0)) (fun _ hk => hk.2) (.int .i64 a0_1)) (fun _ hk => hk.2) (.int .i64 t284)) (fun _ hk => hk.2) (.slice Ao51 y293.length co51)) (fun _ h_ => h_.1)))); (case side2 => exact (Kd.R_reads' HO295.out).2.1); rintro e w60 ⟨rfl, hb⟩; refine ⟨_, rfl, ?_⟩; have n0_ := Aside0.mk (Kd.R_below (by (with_reducible repeat (first | apply Kd.R_alloc | apply Kd.R_drewN | apply Kd.R_drew)); exact (Kd.R_mono (Kd.R_far (p := ⟨gb296, 4, none⟩) (Kd.R_far (p := ⟨gb296, 3, none⟩) (Kd.R_far (p := ⟨gb296, 2, none⟩) (Kd.R_far (p := ⟨gb296, 1, none⟩) (Kd.R_far (p := ⟨gb296, 0, none⟩) (Kd.R_types HO295.out BK296.out (by decide)) (fun _ hk => hk.2) (.int .i64 (wrap64 (rd l0_2 0)))) (fun _ hk => hk.2) (.int .i64 a0_0)) (fun _ hk => hk.2) (.int .i64 a0_1)) (fun _ hk => hk.2) (.int .i64 t284)) (fun _ hk => hk.2) (.slice Ao51 y293.length co51)) (fun _ h_ => h_.1))) hb); have n1_ := Aside0.mk (blk_below (g := gb282) (o := .cells #[.int .i64 a0_0, .int .i64 a0_1, .slice (some ad288) l0_2.length c0_2] 62 (0, 0)) (by (repeat refine zL ?_); refine blk_far ?_ NB282_296.out _; (repeat refine zL ?_); refine blk_far ?_ NB282_296.out _; (repeat refine zL ?_); refine blk_far ?_ NB282_296.out _; (repeat refine zL ?_); refine blk_far ?_ NB282_296.out _; (repeat refine zL ?_); refine blk_far ?_ NB282_296.out _; (repeat refine zL ?_); exact BK282.out) hb); have n2_ := Aside0.mk (blk_below (g := gb283) (o := .cells #[.int .i64 0, .int .i64 0, .int .i64 0, .int .i64 0, .slice none 0 0] 44 (0, 0)) (by (repeat refine zL ?_); refine blk_far ?_ NB283_296.out _; (repeat refine zL ?_); refine blk_far ?_ NB283_296.out _; (repeat refine zL ?_); refine blk_far ?_ NB283_296.out _; (repeat refine zL ?_); refine blk_far ?_ NB283_296.out _; (repeat refine zL ?_); refine blk_far ?_ NB283_296.out _; (repeat refine zL ?_); exact BK283.out) hb); have n3_ := Aside0.mk (blk_below (g := gb296) (o := .cells #[.int .i64 (wrap64 (rd l0_2 0)), .int .i64 a0_0, .int .i64 a0_1, .int .i64 t284, .slice Ao51 y293.length co51] 44 (0, 0)) (by (repeat refine zL ?_); refine blk_put (cs := #[.int .i64 (wrap64 (rd l0_2 0)), .int .i64 a0_0, .int .i64 a0_1, .int .i64 t284, .slice none 0 0]) ?_ 4 _ rfl; (repeat refine zL ?_); refine blk_put (cs := #[.int .i64 (wrap64 (rd l0_2 0)), .int .i64 a0_0, .int .i64 a0_1, .int .i64 0, .slice none 0 0]) ?_ 3 _ rfl; (repeat refine zL ?_); refine blk_put (cs := #[.int .i64 (wrap64 (rd l0_2 0)), .int .i64 a0_0, .int .i64 0, .int .i64 0, .slice none 0 0]) ?_ 2 _ rfl; (repeat refine zL ?_); refine blk_put (cs := #[.int .i64 (wrap64 (rd l0_2 0)), .int .i64 0, .int .i64 0, .int .i64 0, .slice none 0 0]) ?_ 1 _ rfl; (repeat refine zL ?_); refine blk_put (cs := #[.int .i64 0, .int .i64 0, .int .i64 0, .int .i64 0, .slice none 0 0]) ?_ 0 _ rfl; (repeat refine zL ?_); exact BK296.out) hb); have n4_ := Aside0.mk (below_step zH hb); clear HO295; clear BK282; clear BK283; clear BK296; clear HB; have HO295 := n0_; have BK282 := n1_; have BK283 := n2_; have BK296 := n3_; have HB := n4_; clear n0_ n1_ n2_ n3_ n4_; (try clear hb); (try clear hb2); (try clear hk); (try clear hi); have hnb61 := NB283_282.out; have hnc61 := NB282_283.out; obtain ⟨hcz62_0, hcz62_1, hcz62_2, hcz62_3, hcz62_4⟩ := zc5 BK283.out; obtain ⟨hfz62_0, hfz62_1, hfz62_2, hfz62_3, hfz62_4⟩ := zf BK283.out))
         refine bodyPost_ret (results_ct rfl _ _ gb283 44 #[.int .i64 0, .int .i64 0, .int .i64 0, .int .i64 0, .slice none 0 0] (0, 0) _ rfl (by (repeat refine zL ?_); refine blk_put (cs := #[.int .i64 0, .int .i64 0, .int .i64 0, .int .i64 0, .slice none 0 0]) ?_ 4 _ rfl; (repeat refine zL ?_); refine blk_put (cs := #[.int .i64 0, .int .i64 0, .int .i64 0, .int .i64 0, .slice none 0 0]) ?_ 3 _ rfl; (repeat refine zL ?_); refine blk_put (cs := #[.int .i64 0, .int .i64 0, .int .i64 0, .int .i64 0, .slice none 0 0]) ?_ 2 _ rfl; (repeat refine zL ?_); refine blk_put (cs := #[.int .i64 0, .int .i64 0, .int .i64 0, .int .i64 0, .slice none 0 0]) ?_ 1 _ rfl; (repeat refine zL ?_); refine blk_put (cs := #[.int .i64 0, .int .i64 0, .int .i64 0, .int .i64 0, .slice none 0 0]) ?_ 0 _ rfl; (repeat refine zL ?_); exact BK283.out) Try.underlying44 rfl (by kernel_rfl)) rfl ?_
         exact ⟨.slice none 0 0, zE, by first | exact Kd.R_nil _ _ _ _ _ | exact Kd.R_nil _ _ _ w.heap.size _ | exact Kd.N_nil _ _ _ _ _ | exact Kd.V_nil _ _ _ _ _ | exact Kd.Q_nil _ _ _ _ _ | exact Kd.S_nil _ _ _ _ _, zH⟩
       ·rw [if_neg c19] at H
        exact absurd H (by simp)
      ·rw [if_neg c18] at H
       exact absurd H (by simp)
     ·rw [if_neg c17] at H
      exact absurd H (by simp)
    ·rw [if_neg c16] at H
     exact absurd H (by simp)

end Go.Proofs.Ytabicblkdgpogaa.QFnExactTakeEvent
