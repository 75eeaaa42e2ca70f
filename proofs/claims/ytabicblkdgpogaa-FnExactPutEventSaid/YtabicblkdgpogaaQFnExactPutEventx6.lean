-- Made by this session's program (wip/tools/myprint.py) out of the translation; Lean checks it.
import Derived.Test.YtabicblkdgpogaaQFnExactPutEventx0
import Derived.Test.YtabicblkdgpogaaQFnExactPutEventx4
namespace Go.Proofs.Ytabicblkdgpogaa.QFnExactPutEvent
open Go.RowKit Go.Proofs.YtabicblkdgpogaaW.PrintWords Go.Proofs.YtabicblkdgpogaaW.PrintLast Go.Proofs.YtabicblkdgpogaaW.PrintMore
attribute [local go_sem] max2_int min2_int max_two min_two max_three min_three max_four min_four   -- for this text's walks alone
set_option linter.unusedVariables false
set_option linter.unusedSimpArgs false

/-! ### spec_l10Bits: function 132 -/
def spec_l10Bits.l0 : Nat → Int → Int → Option (Int)
 | 0, _, _ => none
 | k + 1, x0, x3 => if x0 > 0 then (spec_l10Bits.l0 k (wrap64 (Int.tdiv x0 2)) (wrap64 (x3 + 1))) else (some x3)
def spec_l10Bits.f (k : Nat) (a0 : Int) : Option (Int) := spec_l10Bits.l0 k a0 0
theorem spec_l10Bits.mono_l : ∀ k, (∀ y0 y1, LeO (spec_l10Bits.l0 k y0 y1) (spec_l10Bits.l0 (k + 1) y0 y1))
 | 0 => fun _ _ r h => by simp [spec_l10Bits.l0] at h
 | k + 1 => by
  have ih0 := spec_l10Bits.mono_l k
  ·intro y0 y1
   unfold spec_l10Bits.l0
   repeat' first
   | (with_reducible exact ih0 _ _)
   | (with_reducible exact LeO.refl _)
   | (with_reducible exact LeO.none _)
   | (with_reducible refine LeO.ite ?_ ?_)
   | (with_reducible refine LeO.bind ?_ (fun _ => ?_))
   | exact ih0 _ _
   | exact LeO.none _
   | refine LeO.ite ?_ ?_
   | refine LeO.bind ?_ (fun _ => ?_)
theorem spec_l10Bits.mono : ∀ a0 k, LeO (spec_l10Bits.f k a0) (spec_l10Bits.f (k + 1) a0) := by
 intro a0 k
 have ih0 := spec_l10Bits.mono_l k
 unfold spec_l10Bits.f
 repeat' first
   | (with_reducible exact ih0 _ _)
   | (with_reducible exact LeO.refl _)
   | (with_reducible exact LeO.none _)
   | (with_reducible refine LeO.ite ?_ ?_)
   | (with_reducible refine LeO.bind ?_ (fun _ => ?_))
   | exact ih0 _ _
   | exact LeO.none _
   | refine LeO.ite ?_ ?_
   | refine LeO.bind ?_ (fun _ => ?_)
set_option maxHeartbeats 8000000 in
set_option maxRecDepth 100000 in
theorem spec_l10Bits.calls (k : Nat) (a0 : Int) (r : Int) (w : World) (h : spec_l10Bits.f k a0 = some r) :
  Calls Try.prog 132 #[.int .i64 a0] w fun e w' => e = .returned (.int .i64 r) ∧ Drawn0 w w' := by
 have H : (spec_l10Bits.l0 k a0 0) = some r := h
 clear h
 have H' := Aside0.mk H
 clear H
 go_enter Try.func132, Try.ntmps132
 go_wp2
 go_loopg [0, 3] k (fun kq v0 v3 w' => ∃ (x0_1 : Int) (x3_1 : Int), v0 = .int .i64 x0_1 ∧ v3 = .int .i64 x3_1 ∧ Aside0 (spec_l10Bits.l0 kq x0_1 x3_1 = some r) ∧ Aside0 (kq ≤ k) ∧ Drawn0 w w')
 case atStart => exact ⟨(a0), (0), zF, zF, H', ⟨Nat.le_refl _⟩, by repeat (first | exact Drawn0.refl _ | apply Drawn0.step)⟩
 case round =>
  clear H'
  (try clear c1)
  obtain ⟨x0_1, x3_1, rfl, rfl, HA, HK1, ⟨m1, rfl⟩⟩ := hrel
  cases gk with
  | zero => exact absurd HA.out (by simp [spec_l10Bits.l0])
  | succ k1 =>
   have H := HA.out
   clear HA
   simp only [spec_l10Bits.l0] at H
   by_cases c2 : x0_1 > 0
   ·rw [if_pos c2] at H
    have c2b0 : decide (0 < x0_1) = true := decide_eq_true c2
    clear c2
    have H' := Aside0.mk H
    clear H
    go_wp2
    go_roundg k1
    case measure => have := HK1.out; omega
    case rel => exact ⟨(wrap64 (Int.tdiv x0_1 2)), (wrap64 (x3_1 + 1)), zF, zF, H', ⟨by have := HK1.out; omega⟩, by repeat (first | exact Drawn0.refl _ | apply Drawn0.step)⟩
   ·rw [if_neg c2] at H
    have c2b0 : decide (0 < x0_1) = false := decide_eq_false c2
    clear c2
    obtain rfl := Option.some.inj H
    go_wp2
    go_ret
    exact ⟨zF, by repeat (first | exact Drawn0.refl _ | apply Drawn0.step)⟩

/-! ### spec_JobCost: function 86 -/
mutual
def spec_JobCost.j0 : Nat → Int → Int → Int → Int → Int → Bool → Option (Int)
 | 0, _, _, _, _, _, _ => none
 | k + 1, x3, x4, x5, x6, x23, x24 => if x24 = true then (some (wrap64 (1 + (wrap64 (x3 * x4))))) else (if x23 = 3 then (spec_JobCost.j1 k x3 x4 x5 x6 x23 (x23 == 3)) else (spec_JobCost.j1 k x3 x4 x5 x6 x23 (x23 == 4)))
def spec_JobCost.j1 : Nat → Int → Int → Int → Int → Int → Bool → Option (Int)
 | 0, _, _, _, _, _, _ => none
 | k + 1, x3, x4, x5, x6, x23, x31 => if x31 = true then (some (wrap64 (1 + (wrap64 ((wrap64 (3 * x3)) * x4))))) else (if x23 = 5 then (some (wrap64 (1 + (wrap64 (x5 * x6))))) else (if x23 = 6 then (some (wrap64 (1 + (wrap64 ((wrap64 (2 * x5)) * x6))))) else (if x23 = 7 then (some (wrap64 (1 + (wrap64 ((wrap64 (2 * x3)) * x4))))) else (if x23 = 8 then (spec_JobCost.j2 k x3 x5 x6 x23 (x23 == 8)) else (spec_JobCost.j2 k x3 x5 x6 x23 (x23 == 9))))))
def spec_JobCost.j2 : Nat → Int → Int → Int → Int → Bool → Option (Int)
 | 0, _, _, _, _, _ => none
 | k + 1, x3, x5, x6, x23, x59 => if x59 = true then (some (wrap64 (1 + (wrap64 ((wrap64 (x5 * x6)) * x6))))) else (if x23 = 10 then (some (wrap64 (1 + (wrap64 ((wrap64 (3 * x5)) * x6))))) else (some (wrap64 (1 + (wrap64 (x3 * x3))))))
end
def spec_JobCost.f (k : Nat) (a0_0 : Int) (a0_1 : Int) (l0_2 : List Int) (l0_3 : List Int) (a0_4 : Int) : Option (Int) := (spec_JobOk.f k a0_0 a0_1 l0_2 l0_3 a0_4).bind fun t187 => (if t187 = true then ((spec_l10Bits.f k (l0_2.length : Int)).bind fun t188 => ((spec_l10Bits.f k (wrap64 ((l0_2.length : Int) + (l0_3.length : Int)))).bind fun t189 => (if a0_0 = 1 then (spec_JobCost.j0 k (l0_2.length : Int) t188 (wrap64 ((l0_2.length : Int) + (l0_3.length : Int))) t189 a0_0 (a0_0 == 1)) else (spec_JobCost.j0 k (l0_2.length : Int) t188 (wrap64 ((l0_2.length : Int) + (l0_3.length : Int))) t189 a0_0 (a0_0 == 2))))) else (some (-1)))
theorem spec_JobCost.mono_l : ∀ k, (∀ y0 y1 y2 y3 y4 y5, LeO (spec_JobCost.j0 k y0 y1 y2 y3 y4 y5) (spec_JobCost.j0 (k + 1) y0 y1 y2 y3 y4 y5)) ∧ (∀ y0 y1 y2 y3 y4 y5, LeO (spec_JobCost.j1 k y0 y1 y2 y3 y4 y5) (spec_JobCost.j1 (k + 1) y0 y1 y2 y3 y4 y5)) ∧ (∀ y0 y1 y2 y3 y4, LeO (spec_JobCost.j2 k y0 y1 y2 y3 y4) (spec_JobCost.j2 (k + 1) y0 y1 y2 y3 y4))
 | 0 => ⟨fun _ _ _ _ _ _ r h => by simp [spec_JobCost.j0] at h, fun _ _ _ _ _ _ r h => by simp [spec_JobCost.j1] at h, fun _ _ _ _ _ r h => by simp [spec_JobCost.j2] at h⟩
 | k + 1 => by
  obtain ⟨ih0, ih1, ih2⟩ := spec_JobCost.mono_l k
  refine ⟨?_, ?_, ?_⟩
  ·intro y0 y1 y2 y3 y4 y5
   unfold spec_JobCost.j0
   repeat' first
   | (with_reducible exact ih0 _ _ _ _ _ _)
   | (with_reducible exact ih1 _ _ _ _ _ _)
   | (with_reducible exact ih2 _ _ _ _ _)
   | (with_reducible exact spec_JobOk.mono _ _ _ _ _ _)
   | (with_reducible exact spec_l10Bits.mono _ _)
   | (with_reducible exact LeO.refl _)
   | (with_reducible exact LeO.none _)
   | (with_reducible refine LeO.ite ?_ ?_)
   | (with_reducible refine LeO.bind ?_ (fun _ => ?_))
   | exact ih0 _ _ _ _ _ _
   | exact ih1 _ _ _ _ _ _
   | exact ih2 _ _ _ _ _
   | exact spec_JobOk.mono _ _ _ _ _ _
   | exact spec_l10Bits.mono _ _
   | exact LeO.none _
   | refine LeO.ite ?_ ?_
   | refine LeO.bind ?_ (fun _ => ?_)
  ·intro y0 y1 y2 y3 y4 y5
   unfold spec_JobCost.j1
   repeat' first
   | (with_reducible exact ih0 _ _ _ _ _ _)
   | (with_reducible exact ih1 _ _ _ _ _ _)
   | (with_reducible exact ih2 _ _ _ _ _)
   | (with_reducible exact spec_JobOk.mono _ _ _ _ _ _)
   | (with_reducible exact spec_l10Bits.mono _ _)
   | (with_reducible exact LeO.refl _)
   | (with_reducible exact LeO.none _)
   | (with_reducible refine LeO.ite ?_ ?_)
   | (with_reducible refine LeO.bind ?_ (fun _ => ?_))
   | exact ih0 _ _ _ _ _ _
   | exact ih1 _ _ _ _ _ _
   | exact ih2 _ _ _ _ _
   | exact spec_JobOk.mono _ _ _ _ _ _
   | exact spec_l10Bits.mono _ _
   | exact LeO.none _
   | refine LeO.ite ?_ ?_
   | refine LeO.bind ?_ (fun _ => ?_)
  ·intro y0 y1 y2 y3 y4
   unfold spec_JobCost.j2
   repeat' first
   | (with_reducible exact ih0 _ _ _ _ _ _)
   | (with_reducible exact ih1 _ _ _ _ _ _)
   | (with_reducible exact ih2 _ _ _ _ _)
   | (with_reducible exact spec_JobOk.mono _ _ _ _ _ _)
   | (with_reducible exact spec_l10Bits.mono _ _)
   | (with_reducible exact LeO.refl _)
   | (with_reducible exact LeO.none _)
   | (with_reducible refine LeO.ite ?_ ?_)
   | (with_reducible refine LeO.bind ?_ (fun _ => ?_))
   | exact ih0 _ _ _ _ _ _
   | exact ih1 _ _ _ _ _ _
   | exact ih2 _ _ _ _ _
   | exact spec_JobOk.mono _ _ _ _ _ _
   | exact spec_l10Bits.mono _ _
   | exact LeO.none _
   | refine LeO.ite ?_ ?_
   | refine LeO.bind ?_ (fun _ => ?_)
theorem spec_JobCost.mono : ∀ a0 a1 a2 a3 a4 k, LeO (spec_JobCost.f k a0 a1 a2 a3 a4) (spec_JobCost.f (k + 1) a0 a1 a2 a3 a4) := by
 intro a0 a1 a2 a3 a4 k
 obtain ⟨ih0, ih1, ih2⟩ := spec_JobCost.mono_l k
 unfold spec_JobCost.f
 repeat' first
   | (with_reducible exact ih0 _ _ _ _ _ _)
   | (with_reducible exact ih1 _ _ _ _ _ _)
   | (with_reducible exact ih2 _ _ _ _ _)
   | (with_reducible exact spec_JobOk.mono _ _ _ _ _ _)
   | (with_reducible exact spec_l10Bits.mono _ _)
   | (with_reducible exact LeO.refl _)
   | (with_reducible exact LeO.none _)
   | (with_reducible refine LeO.ite ?_ ?_)
   | (with_reducible refine LeO.bind ?_ (fun _ => ?_))
   | exact ih0 _ _ _ _ _ _
   | exact ih1 _ _ _ _ _ _
   | exact ih2 _ _ _ _ _
   | exact spec_JobOk.mono _ _ _ _ _ _
   | exact spec_l10Bits.mono _ _
   | exact LeO.none _
   | refine LeO.ite ?_ ?_
   | refine LeO.bind ?_ (fun _ => ?_)
set_option maxHeartbeats 8000000 in
set_option maxRecDepth 100000 in
theorem spec_JobCost.calls (k : Nat) (a0_0 : Int) (a0_1 : Int) (A0_2 : Option Addr) (c0_2 : Nat) (l0_2 : List Int) (A0_3 : Option Addr) (c0_3 : Nat) (l0_3 : List Int) (a0_4 : Int) (r : Int) (w : World) (hr0_2 : Kd.C (Kd.int .i64) w A0_2 l0_2.length l0_2) (hc0_2 : l0_2.length ≤ c0_2) (hr0_3 : Kd.C (Kd.int .i64) w A0_3 l0_3.length l0_3) (hc0_3 : l0_3.length ≤ c0_3) (h : spec_JobCost.f k a0_0 a0_1 l0_2 l0_3 a0_4 = some r) :
  Calls Try.prog 86 #[.agg #[.int .i64 a0_0, .int .i64 a0_1, .slice A0_2 l0_2.length c0_2, .slice A0_3 l0_3.length c0_3, .int .i64 a0_4]] w fun e w' => e = .returned (.int .i64 r) ∧ Below w.heap.size w w' := by
 have hu99 := Try.underlying99
 have HR0_2 := Aside0.mk hr0_2
 have HC0_2 := Aside0.mk hc0_2
 clear hr0_2 hc0_2
 have HR0_3 := Aside0.mk hr0_3
 have HC0_3 := Aside0.mk hc0_3
 clear hr0_3 hc0_3
 have HB := Aside0.mk (Below.refl w.heap.size w)
 have H : ((spec_JobOk.f k a0_0 a0_1 l0_2 l0_3 a0_4).bind fun t187 => (if t187 = true then ((spec_l10Bits.f k (l0_2.length : Int)).bind fun t188 => ((spec_l10Bits.f k (wrap64 ((l0_2.length : Int) + (l0_3.length : Int)))).bind fun t189 => (if a0_0 = 1 then (spec_JobCost.j0 k (l0_2.length : Int) t188 (wrap64 ((l0_2.length : Int) + (l0_3.length : Int))) t189 a0_0 (a0_0 == 1)) else (spec_JobCost.j0 k (l0_2.length : Int) t188 (wrap64 ((l0_2.length : Int) + (l0_3.length : Int))) t189 a0_0 (a0_0 == 2))))) else (some (-1)))) = some r := h
 clear h
 replace H := Option.bind_eq_some_iff.mp H
 obtain ⟨t187, A20, H⟩ := H
 replace H : (if t187 = true then ((spec_l10Bits.f k (l0_2.length : Int)).bind fun t188 => ((spec_l10Bits.f k (wrap64 ((l0_2.length : Int) + (l0_3.length : Int)))).bind fun t189 => (if a0_0 = 1 then (spec_JobCost.j0 k (l0_2.length : Int) t188 (wrap64 ((l0_2.length : Int) + (l0_3.length : Int))) t189 a0_0 (a0_0 == 1)) else (spec_JobCost.j0 k (l0_2.length : Int) t188 (wrap64 ((l0_2.length : Int) + (l0_3.length : Int))) t189 a0_0 (a0_0 == 2))))) else (some (-1))) = some r := H
 have A2 := Aside0.mk A20
 clear A20
 by_cases c3 : t187 = true
 ·subst c3
  replace H : ((spec_l10Bits.f k (l0_2.length : Int)).bind fun t188 => ((spec_l10Bits.f k (wrap64 ((l0_2.length : Int) + (l0_3.length : Int)))).bind fun t189 => (if a0_0 = 1 then (spec_JobCost.j0 k (l0_2.length : Int) t188 (wrap64 ((l0_2.length : Int) + (l0_3.length : Int))) t189 a0_0 (a0_0 == 1)) else (spec_JobCost.j0 k (l0_2.length : Int) t188 (wrap64 ((l0_2.length : Int) + (l0_3.length : Int))) t189 a0_0 (a0_0 == 2))))) = some r := by rw [if_pos rfl] at H; exact H
  replace H := Option.bind_eq_some_iff.mp H
  obtain ⟨t188, A40, H⟩ := H
  replace H : ((spec_l10Bits.f k (wrap64 ((l0_2.length : Int) + (l0_3.length : Int)))).bind fun t189 => (if a0_0 = 1 then (spec_JobCost.j0 k (l0_2.length : Int) t188 (wrap64 ((l0_2.length : Int) + (l0_3.length : Int))) t189 a0_0 (a0_0 == 1)) else (spec_JobCost.j0 k (l0_2.length : Int) t188 (wrap64 ((l0_2.length : Int) + (l0_3.length : Int))) t189 a0_0 (a0_0 == 2)))) = some r := H
  have A4 := Aside0.mk A40
  clear A40
  replace H := Option.bind_eq_some_iff.mp H
  obtain ⟨t189, A50, H⟩ := H
  replace H : (if a0_0 = 1 then (spec_JobCost.j0 k (l0_2.length : Int) t188 (wrap64 ((l0_2.length : Int) + (l0_3.length : Int))) t189 a0_0 (a0_0 == 1)) else (spec_JobCost.j0 k (l0_2.length : Int) t188 (wrap64 ((l0_2.length : Int) + (l0_3.length : Int))) t189 a0_0 (a0_0 == 2))) = some r := H
  have A5 := Aside0.mk A50
  clear A50
  have HC6 := Aside0.mk H
  clear H
  go_enter Try.func86, Try.ntmps86
  go_upto_if 24 with (first | ((with_reducible refine gate_dst (N := 1) rfl ?_); refine box_event ?hg (N := 1) ?hd (cs := #[.int .i64 a0_0, .int .i64 a0_1, .slice A0_2 l0_2.length c0_2, .slice A0_3 l0_3.length c0_3, .int .i64 a0_4]) (t := 99) ?hr ?_; (case hd => rfl); (case hg => rfl); (case hr => first | (go_simp; done) | (go_simp; rfl)); intro gb186 hg w7 hbox hb; have n0_ := Aside0.mk (below_step zH hb); have n1_ := Aside0.mk (hbox); have n2_ := Aside0.mk ((by rw [hg]; exact (below_size zH) : w.heap.size ≤ gb186)); have n3_ := Aside0.mk ((by rw [hg]; exact (below_size zH) : w.heap.size ≤ gb186)); clear HB; have HB := n0_; have BK186 := n1_; have GW186 := n2_; have GE186 := n3_; clear n0_ n1_ n2_ n3_; clear hb hbox hg; obtain ⟨hcz8_0, hcz8_1, hcz8_2, hcz8_3, hcz8_4⟩ := zc5 BK186.out; obtain ⟨hfz8_0, hfz8_1, hfz8_2, hfz8_3, hfz8_4⟩ := zf BK186.out) | ((with_reducible refine gate_callee (f := 131) rfl ?_); refine goesL_ (some 8) rfl rfl Try.func131 (by kernel_rfl) rfl #[.agg #[.int .i64 a0_0, .int .i64 a0_1, .slice A0_2 l0_2.length c0_2, .slice A0_3 l0_3.length c0_3, .int .i64 a0_4]] rfl zM ?_; (with_reducible refine (spec_JobOk.calls k a0_0 a0_1 _ _ l0_2 _ _ l0_3 a0_4 true _ ?side1 ?side2 ?side3 ?side4 A2.out).mono ?_); (case side1 => exact zC (Kd.C_below HR0_2.out HB.out)); (case side2 => exact HC0_2.out); (case side3 => exact zC (Kd.C_below HR0_3.out HB.out)); (case side4 => exact HC0_3.out); rintro e w9 ⟨rfl, hb⟩; refine ⟨_, rfl, ?_⟩; have n0_ := Aside0.mk (blk_below (g := gb186) (o := .cells #[.int .i64 a0_0, .int .i64 a0_1, .slice A0_2 l0_2.length c0_2, .slice A0_3 l0_3.length c0_3, .int .i64 a0_4] 99 (0, 0)) (zB BK186.out) hb); have n1_ := Aside0.mk (below_step zH hb); clear BK186; clear HB; have BK186 := n0_; have HB := n1_; clear n0_ n1_; (try clear hb); (try clear hb2); (try clear hk); (try clear hi); obtain ⟨hcz10_0, hcz10_1, hcz10_2, hcz10_3, hcz10_4⟩ := zc5 BK186.out; obtain ⟨hfz10_0, hfz10_1, hfz10_2, hfz10_3, hfz10_4⟩ := zf BK186.out) | ((with_reducible refine gate_callee (f := 132) rfl ?_); refine goesL_ (some 14) rfl rfl Try.func132 (by kernel_rfl) rfl #[.int .i64 (l0_2.length : Int)] rfl zM ?_; (with_reducible refine (spec_l10Bits.calls k (l0_2.length : Int) t188 _ A4.out).mono ?_); rintro e w' ⟨rfl, ⟨nd, rfl⟩⟩; refine ⟨_, rfl, ?_⟩) | ((with_reducible refine gate_callee (f := 132) rfl ?_); refine goesL_ (some 21) rfl rfl Try.func132 (by kernel_rfl) rfl #[.int .i64 (wrap64 ((l0_2.length : Int) + (l0_3.length : Int)))] rfl zM ?_; (with_reducible refine (spec_l10Bits.calls k (wrap64 ((l0_2.length : Int) + (l0_3.length : Int))) t189 _ A5.out).mono ?_); rintro e w' ⟨rfl, ⟨nd, rfl⟩⟩; refine ⟨_, rfl, ?_⟩))
  (try simp only [Act.put, List.setIfInBounds_toArray, List.set_cons_zero, List.set_cons_succ])
  go_cut [24] (fun v24 wc => ∃ (kq : Nat) (x24_5 : Bool), v24 = .bool x24_5 ∧ Aside0 (spec_JobCost.j0 kq (l0_2.length : Int) t188 (wrap64 ((l0_2.length : Int) + (l0_3.length : Int))) t189 a0_0 x24_5 = some r) ∧ Aside0 (kq ≤ k) ∧ Aside0 (wc.heap[gb186]? = some (.cells #[.int .i64 a0_0, .int .i64 a0_1, (.slice A0_2 l0_2.length c0_2), (.slice A0_3 l0_3.length c0_3), .int .i64 a0_4] 99 (0, 0))) ∧ Aside0 (Below w.heap.size w wc))
  case first =>
   have H := HC6.out
   clear HC6
   by_cases c11 : a0_0 = 1
   ·rw [if_pos c11] at H
    have c11b0 : (a0_0 == 1) = true := beq_iff_eq.mpr c11
    have c11b1 : (a0_0 != 1) = false := bne_eq_false_iff_eq.mpr c11
    clear c11
    (first | rw [c11b0] | (simp only [i64_w, i32_w]; rw [c11b0]) | skip)
    have H' := Aside0.mk H
    clear H
    go_wp2
    go_meet
    case rel => exact ⟨_, ((a0_0 == 1)), zF, H', ⟨by first | omega | exact Nat.le_refl _⟩, ⟨zB BK186.out⟩, ⟨zH⟩⟩
   ·rw [if_neg c11] at H
    have c11b0 : (a0_0 == 1) = false := beq_eq_false_iff_ne.mpr c11
    have c11b1 : (a0_0 != 1) = true := bne_iff_ne.mpr c11
    (first | rw [c11b0] | (simp only [i64_w, i32_w]; rw [c11b0]) | skip)
    have H' := Aside0.mk H
    clear H
    go_wp2
    go_meet
    case rel => exact ⟨_, ((a0_0 == 2)), zF, H', ⟨by first | omega | exact Nat.le_refl _⟩, ⟨zB BK186.out⟩, ⟨zH⟩⟩
  case rest =>
   clear HC6
   (try clear c1);(try clear p2);(try clear c3);(try clear p6);(try clear c8);(try clear c11);(try clear c11b0);(try clear c11b1);(try clear hcz10_0);(try clear hcz10_1);(try clear hcz10_2);(try clear hcz10_3);(try clear hcz10_4);(try clear hcz8_0);(try clear hcz8_1);(try clear hcz8_2);(try clear hcz8_3);(try clear hcz8_4);(try clear hfz10_0);(try clear hfz10_1);(try clear hfz10_2);(try clear hfz10_3);(try clear hfz10_4);(try clear hfz8_0);(try clear hfz8_1)
   (try clear hfz8_2);(try clear hfz8_3);(try clear hfz8_4)
   obtain ⟨kq, x24_5, rfl, HA, HJ5, BK186, HB⟩ := hcut
   cases kq with
   | zero => exact absurd HA.out (by simp [spec_JobCost.j0])
   | succ kj5 =>
    have H := HA.out
    clear HA
    simp only [spec_JobCost.j0] at H
    by_cases c12 : x24_5 = true
    ·subst c12
     replace H : (some (wrap64 (1 + (wrap64 ((l0_2.length : Int) * t188))))) = some r := by rw [if_pos rfl] at H; exact H
     obtain rfl := Option.some.inj H
     go_wp2
     go_ret
     exact ⟨zE, zH⟩
    ·replace c12 := Bool.eq_false_iff.mpr c12
     subst c12
     replace H : (if a0_0 = 3 then (spec_JobCost.j1 kj5 (l0_2.length : Int) t188 (wrap64 ((l0_2.length : Int) + (l0_3.length : Int))) t189 a0_0 (a0_0 == 3)) else (spec_JobCost.j1 kj5 (l0_2.length : Int) t188 (wrap64 ((l0_2.length : Int) + (l0_3.length : Int))) t189 a0_0 (a0_0 == 4))) = some r := by rw [if_neg (show ¬ (false = true) by decide)] at H; exact H
     have HC13 := Aside0.mk H
     clear H
     go_upto_if 31 with (fail)
     go_cut [31] (fun v31 wc => ∃ (kq : Nat) (x31_12 : Bool), v31 = .bool x31_12 ∧ Aside0 (spec_JobCost.j1 kq (l0_2.length : Int) t188 (wrap64 ((l0_2.length : Int) + (l0_3.length : Int))) t189 a0_0 x31_12 = some r) ∧ Aside0 (kq ≤ kj5) ∧ Aside0 (wc.heap[gb186]? = some (.cells #[.int .i64 a0_0, .int .i64 a0_1, (.slice A0_2 l0_2.length c0_2), (.slice A0_3 l0_3.length c0_3), .int .i64 a0_4] 99 (0, 0))) ∧ Aside0 (Below w.heap.size w wc))
     case first =>
      have H := HC13.out
      clear HC13
      by_cases c14 : a0_0 = 3
      ·rw [if_pos c14] at H
       have c14b0 : (a0_0 == 3) = true := beq_iff_eq.mpr c14
       have c14b1 : (a0_0 != 3) = false := bne_eq_false_iff_eq.mpr c14
       clear c14
       (first | rw [c14b0] | (simp only [i64_w, i32_w]; rw [c14b0]) | skip)
       have H' := Aside0.mk H
       clear H
       go_wp2
       go_meet
       case rel => exact ⟨_, ((a0_0 == 3)), zF, H', ⟨by have := HJ5.out; first | omega | exact Nat.le_refl _⟩, ⟨zB BK186.out⟩, ⟨zH⟩⟩
      ·rw [if_neg c14] at H
       have c14b0 : (a0_0 == 3) = false := beq_eq_false_iff_ne.mpr c14
       have c14b1 : (a0_0 != 3) = true := bne_iff_ne.mpr c14
       (first | rw [c14b0] | (simp only [i64_w, i32_w]; rw [c14b0]) | skip)
       have H' := Aside0.mk H
       clear H
       go_wp2
       go_meet
       case rel => exact ⟨_, ((a0_0 == 4)), zF, H', ⟨by have := HJ5.out; first | omega | exact Nat.le_refl _⟩, ⟨zB BK186.out⟩, ⟨zH⟩⟩
     case rest =>
      clear HC13
      (try clear c1);(try clear p2);(try clear c3);(try clear p6);(try clear c8);(try clear c11);(try clear c11b0);(try clear c11b1);(try clear c12);(try clear c13);(try clear c14);(try clear c14b0);(try clear c14b1);(try clear hcz10_0);(try clear hcz10_1);(try clear hcz10_2);(try clear hcz10_3);(try clear hcz10_4);(try clear hcz8_0);(try clear hcz8_1);(try clear hcz8_2);(try clear hcz8_3);(try clear hcz8_4);(try clear hfz10_0);(try clear hfz10_1);(try clear hfz10_2)
      (try clear hfz10_3);(try clear hfz10_4);(try clear hfz8_0);(try clear hfz8_1);(try clear hfz8_2);(try clear hfz8_3);(try clear hfz8_4);(try clear p2);(try clear p6)
      obtain ⟨kq, x31_12, rfl, HA, HJ12, BK186, HB⟩ := hcut
      cases kq with
      | zero => exact absurd HA.out (by simp [spec_JobCost.j1])
      | succ kj12 =>
       have H := HA.out
       clear HA
       simp only [spec_JobCost.j1] at H
       by_cases c15 : x31_12 = true
       ·subst c15
        replace H : (some (wrap64 (1 + (wrap64 ((wrap64 (3 * (l0_2.length : Int))) * t188))))) = some r := by rw [if_pos rfl] at H; exact H
        obtain rfl := Option.some.inj H
        go_wp2
        go_ret
        exact ⟨zE, zH⟩
       ·replace c15 := Bool.eq_false_iff.mpr c15
        subst c15
        replace H : (if a0_0 = 5 then (some (wrap64 (1 + (wrap64 ((wrap64 ((l0_2.length : Int) + (l0_3.length : Int))) * t189))))) else (if a0_0 = 6 then (some (wrap64 (1 + (wrap64 ((wrap64 (2 * (wrap64 ((l0_2.length : Int) + (l0_3.length : Int))))) * t189))))) else (if a0_0 = 7 then (some (wrap64 (1 + (wrap64 ((wrap64 (2 * (l0_2.length : Int))) * t188))))) else (if a0_0 = 8 then (spec_JobCost.j2 kj12 (l0_2.length : Int) (wrap64 ((l0_2.length : Int) + (l0_3.length : Int))) t189 a0_0 (a0_0 == 8)) else (spec_JobCost.j2 kj12 (l0_2.length : Int) (wrap64 ((l0_2.length : Int) + (l0_3.length : Int))) t189 a0_0 (a0_0 == 9)))))) = some r := by rw [if_neg (show ¬ (false = true) by decide)] at H; exact H
        by_cases c16 : a0_0 = 5
        ·rw [if_pos c16] at H
         have c16b0 : (a0_0 == 5) = true := beq_iff_eq.mpr c16
         have c16b1 : (a0_0 != 5) = false := bne_eq_false_iff_eq.mpr c16
         clear c16
         obtain rfl := Option.some.inj H
         go_wp2
         go_ret
         exact ⟨zE, zH⟩
        ·rw [if_neg c16] at H
         have c16b0 : (a0_0 == 5) = false := beq_eq_false_iff_ne.mpr c16
         have c16b1 : (a0_0 != 5) = true := bne_iff_ne.mpr c16
         by_cases c17 : a0_0 = 6
         ·rw [if_pos c17] at H
          have c17b0 : (a0_0 == 6) = true := beq_iff_eq.mpr c17
          have c17b1 : (a0_0 != 6) = false := bne_eq_false_iff_eq.mpr c17
          clear c17
          obtain rfl := Option.some.inj H
          go_wp2
          go_ret
          exact ⟨zE, zH⟩
         ·rw [if_neg c17] at H
          have c17b0 : (a0_0 == 6) = false := beq_eq_false_iff_ne.mpr c17
          have c17b1 : (a0_0 != 6) = true := bne_iff_ne.mpr c17
          by_cases c18 : a0_0 = 7
          ·rw [if_pos c18] at H
           have c18b0 : (a0_0 == 7) = true := beq_iff_eq.mpr c18
           have c18b1 : (a0_0 != 7) = false := bne_eq_false_iff_eq.mpr c18
           clear c18
           obtain rfl := Option.some.inj H
           go_wp2
           go_ret
           exact ⟨zE, zH⟩
          ·rw [if_neg c18] at H
           have c18b0 : (a0_0 == 7) = false := beq_eq_false_iff_ne.mpr c18
           have c18b1 : (a0_0 != 7) = true := bne_iff_ne.mpr c18
           have HC19 := Aside0.mk H
           clear H
           go_upto_if 59 with (fail)
           go_cut [59] (fun v59 wc => ∃ (kq : Nat) (x59_18 : Bool), v59 = .bool x59_18 ∧ Aside0 (spec_JobCost.j2 kq (l0_2.length : Int) (wrap64 ((l0_2.length : Int) + (l0_3.length : Int))) t189 a0_0 x59_18 = some r) ∧ Aside0 (kq ≤ kj12) ∧ Aside0 (wc.heap[gb186]? = some (.cells #[.int .i64 a0_0, .int .i64 a0_1, (.slice A0_2 l0_2.length c0_2), (.slice A0_3 l0_3.length c0_3), .int .i64 a0_4] 99 (0, 0))) ∧ Aside0 (Below w.heap.size w wc))
           case first =>
            have H := HC19.out
            clear HC19
            by_cases c20 : a0_0 = 8
            ·rw [if_pos c20] at H
             have c20b0 : (a0_0 == 8) = true := beq_iff_eq.mpr c20
             have c20b1 : (a0_0 != 8) = false := bne_eq_false_iff_eq.mpr c20
             clear c20
             (first | rw [c20b0] | (simp only [i64_w, i32_w]; rw [c20b0]) | skip)
             have H' := Aside0.mk H
             clear H
             go_wp2
             go_meet
             case rel => exact ⟨_, ((a0_0 == 8)), zF, H', ⟨by have := HJ5.out; have := HJ12.out; first | omega | exact Nat.le_refl _⟩, ⟨zB BK186.out⟩, ⟨zH⟩⟩
            ·rw [if_neg c20] at H
             have c20b0 : (a0_0 == 8) = false := beq_eq_false_iff_ne.mpr c20
             have c20b1 : (a0_0 != 8) = true := bne_iff_ne.mpr c20
             (first | rw [c20b0] | (simp only [i64_w, i32_w]; rw [c20b0]) | skip)
             have H' := Aside0.mk H
             clear H
             go_wp2
             go_meet
             case rel => exact ⟨_, ((a0_0 == 9)), zF, H', ⟨by have := HJ5.out; have := HJ12.out; first | omega | exact Nat.le_refl _⟩, ⟨zB BK186.out⟩, ⟨zH⟩⟩
           case rest =>
            clear HC19
            (try clear c1);(try clear c2);(try clear p2);(try clear c3);(try clear p6);(try clear c8);(try clear c11);(try clear c11b0);(try clear c11b1);(try clear c12);(try clear c13);(try clear c14);(try clear c14b0);(try clear c14b1);(try clear c15);(try clear c16);(try clear c16b0);(try clear c16b1);(try clear c17);(try clear c17b0);(try clear c17b1);(try clear c18);(try clear c18b0);(try clear c18b1);(try clear c20);(try clear c20b0);(try clear c20b1);(try clear hcz10_0)
            (try clear hcz10_1);(try clear hcz10_2);(try clear hcz10_3);(try clear hcz10_4);(try clear hcz8_0);(try clear hcz8_1);(try clear hcz8_2);(try clear hcz8_3);(try clear hcz8_4);(try clear hfz10_0);(try clear hfz10_1);(try clear hfz10_2);(try clear hfz10_3);(try clear hfz10_4);(try clear hfz8_0);(try clear hfz8_1);(try clear hfz8_2);(try clear hfz8_3);(try clear hfz8_4);(try clear p2);(try clear p6)
            obtain ⟨kq, x59_18, rfl, HA, HJ18, BK186, HB⟩ := hcut
            cases kq with
            | zero => exact absurd HA.out (by simp [spec_JobCost.j2])
            | succ kj18 =>
             have H := HA.out
             clear HA
             simp only [spec_JobCost.j2] at H
             by_cases c21 : x59_18 = true
             ·subst c21
              replace H : (some (wrap64 (1 + (wrap64 ((wrap64 ((wrap64 ((l0_2.length : Int) + (l0_3.length : Int))) * t189)) * t189))))) = some r := by rw [if_pos rfl] at H; exact H
              obtain rfl := Option.some.inj H
              go_wp2
              go_ret
              exact ⟨zE, zH⟩
             ·replace c21 := Bool.eq_false_iff.mpr c21
              subst c21
              replace H : (if a0_0 = 10 then (some (wrap64 (1 + (wrap64 ((wrap64 (3 * (wrap64 ((l0_2.length : Int) + (l0_3.length : Int))))) * t189))))) else (some (wrap64 (1 + (wrap64 ((l0_2.length : Int) * (l0_2.length : Int))))))) = some r := by rw [if_neg (show ¬ (false = true) by decide)] at H; exact H
              by_cases c22 : a0_0 = 10
              ·rw [if_pos c22] at H
               have c22b0 : (a0_0 == 10) = true := beq_iff_eq.mpr c22
               have c22b1 : (a0_0 != 10) = false := bne_eq_false_iff_eq.mpr c22
               clear c22
               obtain rfl := Option.some.inj H
               go_wp2
               go_ret
               exact ⟨zE, zH⟩
              ·rw [if_neg c22] at H
               have c22b0 : (a0_0 == 10) = false := beq_eq_false_iff_ne.mpr c22
               have c22b1 : (a0_0 != 10) = true := bne_iff_ne.mpr c22
               obtain rfl := Option.some.inj H
               go_wp2
               go_ret
               exact ⟨zE, zH⟩
 ·replace c3 := Bool.eq_false_iff.mpr c3
  subst c3
  replace H : (some (-1)) = some r := by rw [if_neg (show ¬ (false = true) by decide)] at H; exact H
  obtain rfl := Option.some.inj H
  go_enter Try.func86, Try.ntmps86
  go_wp2_with (first | ((with_reducible refine gate_dst (N := 1) rfl ?_); refine box_event ?hg (N := 1) ?hd (cs := #[.int .i64 a0_0, .int .i64 a0_1, .slice A0_2 l0_2.length c0_2, .slice A0_3 l0_3.length c0_3, .int .i64 a0_4]) (t := 99) ?hr ?_; (case hd => rfl); (case hg => rfl); (case hr => first | (go_simp; done) | (go_simp; rfl)); intro gb186 hg w23 hbox hb; have n0_ := Aside0.mk (below_step zH hb); have n1_ := Aside0.mk (hbox); have n2_ := Aside0.mk ((by rw [hg]; exact (below_size zH) : w.heap.size ≤ gb186)); have n3_ := Aside0.mk ((by rw [hg]; exact (below_size zH) : w.heap.size ≤ gb186)); clear HB; have HB := n0_; have BK186 := n1_; have GW186 := n2_; have GE186 := n3_; clear n0_ n1_ n2_ n3_; clear hb hbox hg; obtain ⟨hcz24_0, hcz24_1, hcz24_2, hcz24_3, hcz24_4⟩ := zc5 BK186.out; obtain ⟨hfz24_0, hfz24_1, hfz24_2, hfz24_3, hfz24_4⟩ := zf BK186.out) | ((with_reducible refine gate_callee (f := 131) rfl ?_); refine goesL_ (some 8) rfl rfl Try.func131 (by kernel_rfl) rfl #[.agg #[.int .i64 a0_0, .int .i64 a0_1, .slice A0_2 l0_2.length c0_2, .slice A0_3 l0_3.length c0_3, .int .i64 a0_4]] rfl zM ?_; (with_reducible refine (spec_JobOk.calls k a0_0 a0_1 _ _ l0_2 _ _ l0_3 a0_4 false _ ?side1 ?side2 ?side3 ?side4 A2.out).mono ?_); (case side1 => exact zC (Kd.C_below HR0_2.out HB.out)); (case side2 => exact HC0_2.out); (case side3 => exact zC (Kd.C_below HR0_3.out HB.out)); (case side4 => exact HC0_3.out); rintro e w25 ⟨rfl, hb⟩; refine ⟨_, rfl, ?_⟩; have n0_ := Aside0.mk (blk_below (g := gb186) (o := .cells #[.int .i64 a0_0, .int .i64 a0_1, .slice A0_2 l0_2.length c0_2, .slice A0_3 l0_3.length c0_3, .int .i64 a0_4] 99 (0, 0)) (zB BK186.out) hb); have n1_ := Aside0.mk (below_step zH hb); clear BK186; clear HB; have BK186 := n0_; have HB := n1_; clear n0_ n1_; (try clear hb); (try clear hb2); (try clear hk); (try clear hi)))
  go_ret
  exact ⟨zE, zH⟩

end Go.Proofs.Ytabicblkdgpogaa.QFnExactPutEvent
