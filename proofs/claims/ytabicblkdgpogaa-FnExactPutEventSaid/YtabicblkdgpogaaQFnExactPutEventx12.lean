-- Made by this session's program (wip/tools/myprint.py) out of the translation; Lean checks it.
import Derived.Test.YtabicblkdgpogaaQFnExactPutEventx0
import Derived.Test.YtabicblkdgpogaaQFnExactPutEventx10
import Derived.Test.YtabicblkdgpogaaQFnExactPutEventx11
namespace Go.Proofs.Ytabicblkdgpogaa.QFnExactPutEvent
open Go.RowKit Go.Proofs.YtabicblkdgpogaaW.PrintWords Go.Proofs.YtabicblkdgpogaaW.PrintLast Go.Proofs.YtabicblkdgpogaaW.PrintMore
attribute [local go_sem] max2_int min2_int max_two min_two max_three min_three max_four min_four   -- for this text's walks alone
set_option linter.unusedVariables false
set_option linter.unusedSimpArgs false

/-! ### impl_DecodeJob: function 133 -/
mutual
def impl_DecodeJob.j0 : Nat → List Int → Int → Bool → Int → Int → Int → Int → Option (Int × Int × List Int × List Int × Int × Bool)
 | 0, _, _, _, _, _, _, _ => none
 | k + 1, x0, x6, x7, x10, x296000, x296001, x296004 => impl_DecodeJob.l0 k x0 x6 x7 x10 0 x296000 x296001 ([] : List Int) x296004
def impl_DecodeJob.l0 : Nat → List Int → Int → Bool → Int → Int → Int → Int → List Int → Int → Option (Int × Int × List Int × List Int × Int × Bool)
 | 0, _, _, _, _, _, _, _, _, _ => none
 | k + 1, x0, x6, x7, x10, x13, x296000, x296001, x296002, x296004 => if x7 = true then (if x13 < x10 then ((impl_takeNumber.f k x0 x6).bind fun bt303 => (if x296002.length < 17592186044416 then (impl_DecodeJob.l0 k x0 bt303.2.1 bt303.2.2 x10 (wrap64 (x13 + 1)) x296000 x296001 (x296002 ++ [bt303.1]) x296004) else (none))) else ((impl_takeNumber.f k x0 x6).bind fun bt309 => (if bt309.2.2 = true then (if bt309.1 ≥ 0 then (impl_DecodeJob.j2 k x0 bt309.2.1 (decide (bt309.1 ≤ 400)) bt309.1 x296000 x296001 x296002 x296004) else (impl_DecodeJob.j2 k x0 bt309.2.1 false bt309.1 x296000 x296001 x296002 x296004)) else (impl_DecodeJob.j2 k x0 bt309.2.1 false bt309.1 x296000 x296001 x296002 x296004)))) else (some (0, 0, ([] : List Int), ([] : List Int), 0, false))
def impl_DecodeJob.j2 : Nat → List Int → Int → Bool → Int → Int → Int → List Int → Int → Option (Int × Int × List Int × List Int × Int × Bool)
 | 0, _, _, _, _, _, _, _, _ => none
 | k + 1, x0, x6, x7, x10, x296000, x296001, x296002, x296004 => impl_DecodeJob.l1 k x0 x6 x7 x10 0 x296000 x296001 x296002 ([] : List Int) x296004
def impl_DecodeJob.j4 : Nat → List Int → Int → Bool → Int → Int → List Int → List Int → Int → Option (Int × Int × List Int × List Int × Int × Bool)
 | 0, _, _, _, _, _, _, _, _ => none
 | k + 1, x0, x6, x7, x296000, x296001, x296002, x296003, x296004 => if x7 = true then (if x6 = (x0.length : Int) then ((impl_isJob.f k x296000 x296001 x296002 x296003 x296004).bind fun t318 => (if t318 = true then (some (x296000, x296001, x296002, x296003, x296004, true)) else (some (0, 0, ([] : List Int), ([] : List Int), 0, false)))) else (some (0, 0, ([] : List Int), ([] : List Int), 0, false))) else (some (0, 0, ([] : List Int), ([] : List Int), 0, false))
def impl_DecodeJob.l1 : Nat → List Int → Int → Bool → Int → Int → Int → Int → List Int → List Int → Int → Option (Int × Int × List Int × List Int × Int × Bool)
 | 0, _, _, _, _, _, _, _, _, _, _ => none
 | k + 1, x0, x6, x7, x10, x13, x296000, x296001, x296002, x296003, x296004 => if x7 = true then (if x13 < x10 then ((impl_takeNumber.f k x0 x6).bind fun bt312 => (if x296003.length < 17592186044416 then (impl_DecodeJob.l1 k x0 bt312.2.1 bt312.2.2 x10 (wrap64 (x13 + 1)) x296000 x296001 x296002 (x296003 ++ [bt312.1]) x296004) else (none))) else (impl_DecodeJob.j4 k x0 x6 x7 x296000 x296001 x296002 x296003 x296004)) else (impl_DecodeJob.j4 k x0 x6 x7 x296000 x296001 x296002 x296003 x296004)
end
def impl_DecodeJob.f (k : Nat) (l0 : List Int) : Option (Int × Int × List Int × List Int × Int × Bool) := if (l0.length : Int) < 2 then (some (0, 0, ([] : List Int), ([] : List Int), 0, false)) else (if 0 < (l0.length : Int) then (if 1 < (l0.length : Int) then ((impl_takeNumber.f k l0 2).bind fun bt296 => ((impl_takeNumber.f k l0 bt296.2.1).bind fun bt300 => (if bt296.2.2 = true then (if bt300.2.2 = true then (if bt300.1 ≥ 0 then (impl_DecodeJob.j0 k l0 bt300.2.1 (decide (bt300.1 ≤ 400)) bt300.1 (wrap64 (rd l0 0)) (wrap64 (rd l0 1)) bt296.1) else (impl_DecodeJob.j0 k l0 bt300.2.1 false bt300.1 (wrap64 (rd l0 0)) (wrap64 (rd l0 1)) bt296.1)) else (impl_DecodeJob.j0 k l0 bt300.2.1 false bt300.1 (wrap64 (rd l0 0)) (wrap64 (rd l0 1)) bt296.1)) else (impl_DecodeJob.j0 k l0 bt300.2.1 false bt300.1 (wrap64 (rd l0 0)) (wrap64 (rd l0 1)) bt296.1)))) else (none)) else (none))
theorem impl_DecodeJob.mono_l : ∀ k, (∀ y0 y1 y2 y3 y4 y5 y6, LeO (impl_DecodeJob.j0 k y0 y1 y2 y3 y4 y5 y6) (impl_DecodeJob.j0 (k + 1) y0 y1 y2 y3 y4 y5 y6)) ∧ (∀ y0 y1 y2 y3 y4 y5 y6 y7 y8, LeO (impl_DecodeJob.l0 k y0 y1 y2 y3 y4 y5 y6 y7 y8) (impl_DecodeJob.l0 (k + 1) y0 y1 y2 y3 y4 y5 y6 y7 y8)) ∧ (∀ y0 y1 y2 y3 y4 y5 y6 y7, LeO (impl_DecodeJob.j2 k y0 y1 y2 y3 y4 y5 y6 y7) (impl_DecodeJob.j2 (k + 1) y0 y1 y2 y3 y4 y5 y6 y7)) ∧ (∀ y0 y1 y2 y3 y4 y5 y6 y7, LeO (impl_DecodeJob.j4 k y0 y1 y2 y3 y4 y5 y6 y7) (impl_DecodeJob.j4 (k + 1) y0 y1 y2 y3 y4 y5 y6 y7)) ∧ (∀ y0 y1 y2 y3 y4 y5 y6 y7 y8 y9, LeO (impl_DecodeJob.l1 k y0 y1 y2 y3 y4 y5 y6 y7 y8 y9) (impl_DecodeJob.l1 (k + 1) y0 y1 y2 y3 y4 y5 y6 y7 y8 y9))
 | 0 => ⟨fun _ _ _ _ _ _ _ r h => by simp [impl_DecodeJob.j0] at h, fun _ _ _ _ _ _ _ _ _ r h => by simp [impl_DecodeJob.l0] at h, fun _ _ _ _ _ _ _ _ r h => by simp [impl_DecodeJob.j2] at h, fun _ _ _ _ _ _ _ _ r h => by simp [impl_DecodeJob.j4] at h, fun _ _ _ _ _ _ _ _ _ _ r h => by simp [impl_DecodeJob.l1] at h⟩
 | k + 1 => by
  obtain ⟨ih0, ih1, ih2, ih3, ih4⟩ := impl_DecodeJob.mono_l k
  refine ⟨?_, ?_, ?_, ?_, ?_⟩
  ·intro y0 y1 y2 y3 y4 y5 y6
   unfold impl_DecodeJob.j0
   repeat' first
   | (with_reducible exact ih0 _ _ _ _ _ _ _)
   | (with_reducible exact ih1 _ _ _ _ _ _ _ _ _)
   | (with_reducible exact ih2 _ _ _ _ _ _ _ _)
   | (with_reducible exact ih3 _ _ _ _ _ _ _ _)
   | (with_reducible exact ih4 _ _ _ _ _ _ _ _ _ _)
   | (with_reducible exact impl_isJob.mono _ _ _ _ _ _)
   | (with_reducible exact impl_takeNumber.mono _ _ _)
   | (with_reducible exact LeO.refl _)
   | (with_reducible exact LeO.none _)
   | (with_reducible refine LeO.ite ?_ ?_)
   | (with_reducible refine LeO.bind ?_ (fun _ => ?_))
   | exact ih0 _ _ _ _ _ _ _
   | exact ih1 _ _ _ _ _ _ _ _ _
   | exact ih2 _ _ _ _ _ _ _ _
   | exact ih3 _ _ _ _ _ _ _ _
   | exact ih4 _ _ _ _ _ _ _ _ _ _
   | exact impl_isJob.mono _ _ _ _ _ _
   | exact impl_takeNumber.mono _ _ _
   | exact LeO.none _
   | refine LeO.ite ?_ ?_
   | refine LeO.bind ?_ (fun _ => ?_)
  ·intro y0 y1 y2 y3 y4 y5 y6 y7 y8
   unfold impl_DecodeJob.l0
   repeat' first
   | (with_reducible exact ih0 _ _ _ _ _ _ _)
   | (with_reducible exact ih1 _ _ _ _ _ _ _ _ _)
   | (with_reducible exact ih2 _ _ _ _ _ _ _ _)
   | (with_reducible exact ih3 _ _ _ _ _ _ _ _)
   | (with_reducible exact ih4 _ _ _ _ _ _ _ _ _ _)
   | (with_reducible exact impl_isJob.mono _ _ _ _ _ _)
   | (with_reducible exact impl_takeNumber.mono _ _ _)
   | (with_reducible exact LeO.refl _)
   | (with_reducible exact LeO.none _)
   | (with_reducible refine LeO.ite ?_ ?_)
   | (with_reducible refine LeO.bind ?_ (fun _ => ?_))
   | exact ih0 _ _ _ _ _ _ _
   | exact ih1 _ _ _ _ _ _ _ _ _
   | exact ih2 _ _ _ _ _ _ _ _
   | exact ih3 _ _ _ _ _ _ _ _
   | exact ih4 _ _ _ _ _ _ _ _ _ _
   | exact impl_isJob.mono _ _ _ _ _ _
   | exact impl_takeNumber.mono _ _ _
   | exact LeO.none _
   | refine LeO.ite ?_ ?_
   | refine LeO.bind ?_ (fun _ => ?_)
  ·intro y0 y1 y2 y3 y4 y5 y6 y7
   unfold impl_DecodeJob.j2
   repeat' first
   | (with_reducible exact ih0 _ _ _ _ _ _ _)
   | (with_reducible exact ih1 _ _ _ _ _ _ _ _ _)
   | (with_reducible exact ih2 _ _ _ _ _ _ _ _)
   | (with_reducible exact ih3 _ _ _ _ _ _ _ _)
   | (with_reducible exact ih4 _ _ _ _ _ _ _ _ _ _)
   | (with_reducible exact impl_isJob.mono _ _ _ _ _ _)
   | (with_reducible exact impl_takeNumber.mono _ _ _)
   | (with_reducible exact LeO.refl _)
   | (with_reducible exact LeO.none _)
   | (with_reducible refine LeO.ite ?_ ?_)
   | (with_reducible refine LeO.bind ?_ (fun _ => ?_))
   | exact ih0 _ _ _ _ _ _ _
   | exact ih1 _ _ _ _ _ _ _ _ _
   | exact ih2 _ _ _ _ _ _ _ _
   | exact ih3 _ _ _ _ _ _ _ _
   | exact ih4 _ _ _ _ _ _ _ _ _ _
   | exact impl_isJob.mono _ _ _ _ _ _
   | exact impl_takeNumber.mono _ _ _
   | exact LeO.none _
   | refine LeO.ite ?_ ?_
   | refine LeO.bind ?_ (fun _ => ?_)
  ·intro y0 y1 y2 y3 y4 y5 y6 y7
   unfold impl_DecodeJob.j4
   repeat' first
   | (with_reducible exact ih0 _ _ _ _ _ _ _)
   | (with_reducible exact ih1 _ _ _ _ _ _ _ _ _)
   | (with_reducible exact ih2 _ _ _ _ _ _ _ _)
   | (with_reducible exact ih3 _ _ _ _ _ _ _ _)
   | (with_reducible exact ih4 _ _ _ _ _ _ _ _ _ _)
   | (with_reducible exact impl_isJob.mono _ _ _ _ _ _)
   | (with_reducible exact impl_takeNumber.mono _ _ _)
   | (with_reducible exact LeO.refl _)
   | (with_reducible exact LeO.none _)
   | (with_reducible refine LeO.ite ?_ ?_)
   | (with_reducible refine LeO.bind ?_ (fun _ => ?_))
   | exact ih0 _ _ _ _ _ _ _
   | exact ih1 _ _ _ _ _ _ _ _ _
   | exact ih2 _ _ _ _ _ _ _ _
   | exact ih3 _ _ _ _ _ _ _ _
   | exact ih4 _ _ _ _ _ _ _ _ _ _
   | exact impl_isJob.mono _ _ _ _ _ _
   | exact impl_takeNumber.mono _ _ _
   | exact LeO.none _
   | refine LeO.ite ?_ ?_
   | refine LeO.bind ?_ (fun _ => ?_)
  ·intro y0 y1 y2 y3 y4 y5 y6 y7 y8 y9
   unfold impl_DecodeJob.l1
   repeat' first
   | (with_reducible exact ih0 _ _ _ _ _ _ _)
   | (with_reducible exact ih1 _ _ _ _ _ _ _ _ _)
   | (with_reducible exact ih2 _ _ _ _ _ _ _ _)
   | (with_reducible exact ih3 _ _ _ _ _ _ _ _)
   | (with_reducible exact ih4 _ _ _ _ _ _ _ _ _ _)
   | (with_reducible exact impl_isJob.mono _ _ _ _ _ _)
   | (with_reducible exact impl_takeNumber.mono _ _ _)
   | (with_reducible exact LeO.refl _)
   | (with_reducible exact LeO.none _)
   | (with_reducible refine LeO.ite ?_ ?_)
   | (with_reducible refine LeO.bind ?_ (fun _ => ?_))
   | exact ih0 _ _ _ _ _ _ _
   | exact ih1 _ _ _ _ _ _ _ _ _
   | exact ih2 _ _ _ _ _ _ _ _
   | exact ih3 _ _ _ _ _ _ _ _
   | exact ih4 _ _ _ _ _ _ _ _ _ _
   | exact impl_isJob.mono _ _ _ _ _ _
   | exact impl_takeNumber.mono _ _ _
   | exact LeO.none _
   | refine LeO.ite ?_ ?_
   | refine LeO.bind ?_ (fun _ => ?_)
theorem impl_DecodeJob.mono : ∀ a0 k, LeO (impl_DecodeJob.f k a0) (impl_DecodeJob.f (k + 1) a0) := by
 intro a0 k
 obtain ⟨ih0, ih1, ih2, ih3, ih4⟩ := impl_DecodeJob.mono_l k
 unfold impl_DecodeJob.f
 repeat' first
   | (with_reducible exact ih0 _ _ _ _ _ _ _)
   | (with_reducible exact ih1 _ _ _ _ _ _ _ _ _)
   | (with_reducible exact ih2 _ _ _ _ _ _ _ _)
   | (with_reducible exact ih3 _ _ _ _ _ _ _ _)
   | (with_reducible exact ih4 _ _ _ _ _ _ _ _ _ _)
   | (with_reducible exact impl_isJob.mono _ _ _ _ _ _)
   | (with_reducible exact impl_takeNumber.mono _ _ _)
   | (with_reducible exact LeO.refl _)
   | (with_reducible exact LeO.none _)
   | (with_reducible refine LeO.ite ?_ ?_)
   | (with_reducible refine LeO.bind ?_ (fun _ => ?_))
   | exact ih0 _ _ _ _ _ _ _
   | exact ih1 _ _ _ _ _ _ _ _ _
   | exact ih2 _ _ _ _ _ _ _ _
   | exact ih3 _ _ _ _ _ _ _ _
   | exact ih4 _ _ _ _ _ _ _ _ _ _
   | exact impl_isJob.mono _ _ _ _ _ _
   | exact impl_takeNumber.mono _ _ _
   | exact LeO.none _
   | refine LeO.ite ?_ ?_
   | refine LeO.bind ?_ (fun _ => ?_)
def impl_DecodeJob.T3 : Bool × List (List Nat × List Nat) := (true, [([], []), ([0], [0]), ([1], [1]), ([2], [2]), ([], []), ([4], [4]), ([5], [5]), ([6], [6]), ([3, 7], [3, 7]), ([], []), ([9, 8, 0, 1, 2, 3, 4, 5, 6, 7, 8, 9], [8, 9])])
def impl_DecodeJob.B3 : List Nat := [0, 1, 3, 7, 0, 16, 48, 112, 255, 0, 1023]
theorem impl_DecodeJob.tab3 : rtab .any (opsOf Try.f133 3) = impl_DecodeJob.T3 := by kernel_rfl
theorem impl_DecodeJob.bits3 : waitsOk impl_DecodeJob.T3.2 impl_DecodeJob.B3 = true := by kernel_rfl
theorem pair_event {P : Program} {ops : Array Oper} {Q : Exit → Act → World → Prop} {a : Act} {rest : List Oper} {o : Oper} {W : World} (hgd : o.guard = none) {N : Tmp} (_hd : o.dst = some N) {cs : Array Value} {t : TypeId} {n : Nat}
  (hrun : (execOp a.eval o).run P W = .ok (.value (.slice (some ⟨W.heap.size, 0, none⟩) n n)) (W.alloc (.cells cs t (0, 0))))
  (h : ∀ g, g = W.heap.size → ∀ w1, w1.heap[g]? = some (.cells cs t (0, 0)) → Below W.heap.size W w1 → wpList P ops Q rest (a.put o.dst (.slice (some ⟨g, 0, none⟩) n n)) w1) : wpList P ops Q (o :: rest) a W :=
 Kd.event_run hgd hrun (h _ rfl _ (blk_new W _) (below_alloc (Below.refl _ _) _))
set_option maxHeartbeats 8000000 in
set_option maxRecDepth 100000 in
theorem impl_DecodeJob.calls (k : Nat) (A0 : Option Addr) (c0 : Nat) (l0 : List Int) (r1 : Int) (r2 : Int) (r3 : List Int) (r4 : List Int) (r5 : Int) (r6 : Bool) (w : World) (hr0 : Kd.C (Kd.int .u8) w A0 l0.length l0) (hc0 : l0.length ≤ c0) (h : impl_DecodeJob.f k l0 = some (r1, r2, r3, r4, r5, r6)) :
  Calls Try.prog 133 #[.slice A0 l0.length c0] w fun e w' => ∃ v2_ v3_ : Value, e = .returned (.tuple #[.agg #[.int .i64 r1, .int .i64 r2, v2_, v3_, .int .i64 r5], .bool r6]) ∧ Kd.R (Kd.int .i64) 3 w' w.heap.size (fun k_ => some k_ ≠ (v3_ : Value).ownBlock) v2_ r3 ∧ Kd.R (Kd.int .i64) 3 w' w.heap.size (fun k_ => some k_ ≠ (v2_ : Value).ownBlock) v3_ r4 ∧ Below w.heap.size w w' := by
 have hu99 := Try.underlying99
 have hu88 := Try.underlying88
 have HR0 := Aside0.mk hr0
 have HC0 := Aside0.mk hc0
 clear hr0 hc0
 have HB := Aside0.mk (Below.refl w.heap.size w)
 have H : (if (l0.length : Int) < 2 then (some (0, 0, ([] : List Int), ([] : List Int), 0, false)) else (if 0 < (l0.length : Int) then (if 1 < (l0.length : Int) then ((impl_takeNumber.f k l0 2).bind fun bt296 => ((impl_takeNumber.f k l0 bt296.2.1).bind fun bt300 => (if bt296.2.2 = true then (if bt300.2.2 = true then (if bt300.1 ≥ 0 then (impl_DecodeJob.j0 k l0 bt300.2.1 (decide (bt300.1 ≤ 400)) bt300.1 (wrap64 (rd l0 0)) (wrap64 (rd l0 1)) bt296.1) else (impl_DecodeJob.j0 k l0 bt300.2.1 false bt300.1 (wrap64 (rd l0 0)) (wrap64 (rd l0 1)) bt296.1)) else (impl_DecodeJob.j0 k l0 bt300.2.1 false bt300.1 (wrap64 (rd l0 0)) (wrap64 (rd l0 1)) bt296.1)) else (impl_DecodeJob.j0 k l0 bt300.2.1 false bt300.1 (wrap64 (rd l0 0)) (wrap64 (rd l0 1)) bt296.1)))) else (none)) else (none))) = some (r1, r2, r3, r4, r5, r6) := h
 clear h
 by_cases c2 : (l0.length : Int) < 2
 ·rw [if_pos c2] at H
  have c2b0 : decide ((l0.length : Int) < 2) = true := decide_eq_true c2
  have c2b1 : decide (l0.length < 2) = true := decide_eq_true (by omega)
  clear c2
  simp only [Option.some.injEq, Prod.mk.injEq] at H
  obtain ⟨rfl, rfl, rfl, rfl, rfl, rfl⟩ := H
  go_enter Try.func133, Try.ntmps133
  go_wp2_with (first | ((with_reducible refine gate_dst (N := 2) rfl ?_); refine box_event ?hg (N := 2) ?hd (cs := #[.int .i64 0, .int .i64 0, .slice none 0 0, .slice none 0 0, .int .i64 0]) (t := 99) ?hr ?_; (case hd => rfl); (case hg => rfl); (case hr => first | (go_simp; done) | (go_simp; rfl)); intro gb292 hg w3 hbox hb; have n0_ := Aside0.mk (below_step zH hb); have n1_ := Aside0.mk (hbox); have n2_ := Aside0.mk ((by rw [hg]; exact (below_size zH) : w.heap.size ≤ gb292)); have n3_ := Aside0.mk ((by rw [hg]; exact (below_size zH) : w.heap.size ≤ gb292)); clear HB; have HB := n0_; have BK292 := n1_; have GW292 := n2_; have GE292 := n3_; clear n0_ n1_ n2_ n3_; clear hb hbox hg; obtain ⟨hcz4_0, hcz4_1, hcz4_2, hcz4_3, hcz4_4⟩ := zc5 BK292.out; obtain ⟨hfz4_0, hfz4_1, hfz4_2, hfz4_3, hfz4_4⟩ := zf BK292.out))
  refine bodyPost_ret (results_ct rfl _ _ gb292 99 #[.int .i64 0, .int .i64 0, .slice none 0 0, .slice none 0 0, .int .i64 0] (0, 0) _ rfl (by (repeat refine zL ?_); refine blk_put (cs := #[.int .i64 0, .int .i64 0, .slice none 0 0, .slice none 0 0, .int .i64 0]) ?_ 4 _ rfl; (repeat refine zL ?_); refine blk_put (cs := #[.int .i64 0, .int .i64 0, .slice none 0 0, .slice none 0 0, .int .i64 0]) ?_ 3 _ rfl; (repeat refine zL ?_); refine blk_put (cs := #[.int .i64 0, .int .i64 0, .slice none 0 0, .slice none 0 0, .int .i64 0]) ?_ 2 _ rfl; (repeat refine zL ?_); refine blk_put (cs := #[.int .i64 0, .int .i64 0, .slice none 0 0, .slice none 0 0, .int .i64 0]) ?_ 1 _ rfl; (repeat refine zL ?_); refine blk_put (cs := #[.int .i64 0, .int .i64 0, .slice none 0 0, .slice none 0 0, .int .i64 0]) ?_ 0 _ rfl; (repeat refine zL ?_); exact BK292.out) Try.underlying99 rfl (by kernel_rfl)) rfl ?_
  exact ⟨_, _, zE, zN, zN, zH⟩
 ·rw [if_neg c2] at H
  have c2b0 : decide ((l0.length : Int) < 2) = false := decide_eq_false c2
  have c2b1 : decide (l0.length < 2) = false := decide_eq_false (by omega)
  clear c2
  by_cases c5 : 0 < (l0.length : Int)
  ·rw [if_pos c5] at H
   have c5b0 : decide (0 < (l0.length : Int)) = true := decide_eq_true c5
   have c5b1 : decide (0 < l0.length) = true := decide_eq_true (by omega)
   clear c5
   by_cases c6 : 1 < (l0.length : Int)
   ·rw [if_pos c6] at H
    have c6b0 : decide (1 < (l0.length : Int)) = true := decide_eq_true c6
    have c6b1 : decide (1 < l0.length) = true := decide_eq_true (by omega)
    clear c6
    replace H := Option.bind_eq_some_iff.mp H
    obtain ⟨⟨t296, t297, t298⟩, A70, H⟩ := H
    replace H : ((impl_takeNumber.f k l0 t297).bind fun bt300 => (if t298 = true then (if bt300.2.2 = true then (if bt300.1 ≥ 0 then (impl_DecodeJob.j0 k l0 bt300.2.1 (decide (bt300.1 ≤ 400)) bt300.1 (wrap64 (rd l0 0)) (wrap64 (rd l0 1)) t296) else (impl_DecodeJob.j0 k l0 bt300.2.1 false bt300.1 (wrap64 (rd l0 0)) (wrap64 (rd l0 1)) t296)) else (impl_DecodeJob.j0 k l0 bt300.2.1 false bt300.1 (wrap64 (rd l0 0)) (wrap64 (rd l0 1)) t296)) else (impl_DecodeJob.j0 k l0 bt300.2.1 false bt300.1 (wrap64 (rd l0 0)) (wrap64 (rd l0 1)) t296))) = some (r1, r2, r3, r4, r5, r6) := H
    have A7 := Aside0.mk A70
    clear A70
    replace H := Option.bind_eq_some_iff.mp H
    obtain ⟨⟨t300, t301, t302⟩, A80, H⟩ := H
    replace H : (if t298 = true then (if t302 = true then (if t300 ≥ 0 then (impl_DecodeJob.j0 k l0 t301 (decide (t300 ≤ 400)) t300 (wrap64 (rd l0 0)) (wrap64 (rd l0 1)) t296) else (impl_DecodeJob.j0 k l0 t301 false t300 (wrap64 (rd l0 0)) (wrap64 (rd l0 1)) t296)) else (impl_DecodeJob.j0 k l0 t301 false t300 (wrap64 (rd l0 0)) (wrap64 (rd l0 1)) t296)) else (impl_DecodeJob.j0 k l0 t301 false t300 (wrap64 (rd l0 0)) (wrap64 (rd l0 1)) t296)) = some (r1, r2, r3, r4, r5, r6) := H
    have A8 := Aside0.mk A80
    clear A80
    have HC9 := Aside0.mk H
    clear H
    go_enter Try.func133, Try.ntmps133
    try go_wp2_with (first | ((with_reducible refine gate_dst (N := 2) rfl ?_); refine box_event ?hg (N := 2) ?hd (cs := #[.int .i64 0, .int .i64 0, .slice none 0 0, .slice none 0 0, .int .i64 0]) (t := 99) ?hr ?_; (case hd => rfl); (case hg => rfl); (case hr => first | (go_simp; done) | (go_simp; rfl)); intro gb292 hg w10 hbox hb; have n0_ := Aside0.mk (below_step zH hb); have n1_ := Aside0.mk (hbox); have n2_ := Aside0.mk ((by rw [hg]; exact (below_size zH) : w.heap.size ≤ gb292)); have n3_ := Aside0.mk ((by rw [hg]; exact (below_size zH) : w.heap.size ≤ gb292)); clear HB; have HB := n0_; have BK292 := n1_; have GW292 := n2_; have GE292 := n3_; clear n0_ n1_ n2_ n3_; clear hb hbox hg))
    have n0_ := Aside0.mk (blk_drew BK292.out)
    have n1_ := Aside0.mk (below_drew1 HB.out)
    clear BK292
    clear HB
    have BK292 := n0_
    have HB := n1_
    clear n0_ n1_
    have p293 : 0 ≤ (0 : Int) := (by omega)
    have q293 : 0 < (l0.length : Int) := zD
    obtain ⟨ad293, e293, hx293_0⟩ := Kd.at_int HR0.out 0 p293 q293
    have hw293_0 := hx293_0
    (try rw [show ((0 : Int)).toNat = 0 from rfl] at hw293_0)
    (try rw [show 0 * 1 = 0 from rfl] at hw293_0)
    (try rw [Addr.add_zero'] at hw293_0)
    cases e293
    have qi293 : (0 < l0.length) = True := eq_true (by omega)
    (try rw [show ((0 : Int)).toNat = 0 from rfl] at hx293_0)
    (try rw [Addr.add_zero'] at hx293_0)
    replace hx293_0 := (HB.out.cell (World.block_lt_of_cell? w _ hx293_0)).trans hx293_0
    replace p293 := eq_true p293
    replace q293 := eq_true q293
    have p294 : 0 ≤ (1 : Int) := (by omega)
    have q294 : 1 < (l0.length : Int) := zD
    obtain ⟨ad294, e294, hx294_0⟩ := Kd.at_int HR0.out 1 p294 q294
    have hw294_0 := hx294_0
    (try rw [show ((1 : Int)).toNat = 1 from rfl] at hw294_0)
    (try rw [show 1 * 1 = 1 from rfl] at hw294_0)
    (try simp only [Nat.reduceMul, Nat.reduceEqDiff, Go.Addr.add, ↓reduceIte] at hw294_0)
    obtain rfl : ad293 = ad294 := (by injection e294)
    (try simp only [show (1 : Int).toNat = 1 from rfl, Nat.reduceMul, Nat.reduceEqDiff, Go.Addr.add, ↓reduceIte] at hx294_0)
    have qi294 : (1 < l0.length) = True := eq_true (by omega)
    (try rw [show ((1 : Int)).toNat = 1 from rfl] at hx294_0)
    replace hx294_0 := (HB.out.cell (World.block_lt_of_cell? w _ hx294_0)).trans hx294_0
    replace p294 := eq_true p294
    replace q294 := eq_true q294
    refine start_ (n := 11) (S := fun w' => w'.cell? ad293 = some (.int .u8 (rd l0 0)) ∧ w'.cell? ⟨ad293.block, ad293.off + 1, none⟩ = some (.int .u8 (rd l0 1))) (ds := []) #[false, false, false, false, false, false, false, false, false, false, false] (by kernel_rfl) rfl rfl ⟨((HB.out.cell (World.block_lt_of_cell? w _ hw293_0)).trans hw293_0), ((HB.out.cell (World.block_lt_of_cell? w _ hw294_0)).trans hw294_0)⟩ (fun hHeld => ?_); refine with_tabW impl_DecodeJob.tab3 impl_DecodeJob.bits3 (fun HT_ HW_ => ?_)
    generalize w10.drew = w11 at BK292 HB hx293_0 hx294_0 hHeld ⊢
    refine pure_ (i := 0) (N := some 18) (v := ?_) (a' := ?_) #[true, false, false, false, false, false, false, false, false, false, false] rfl rfl (any_of HT_.out (by kernel_rfl)) (fun _ _ _ h => h) (Or.inl ⟨by rfl, ?_⟩) ?_ ?_
    rotate_left;(focus intro w';go_simp;with_reducible rfl);rotate_left;(focus simp only [Act.put, List.setIfInBounds_toArray, List.set_cons_zero, List.set_cons_succ, i64_w, i32_w];rfl)
    refine pure_ (i := 1) (N := some 19) (v := ?_) (a' := ?_) #[true, true, false, false, false, false, false, false, false, false, false] rfl rfl (any_of HT_.out (by kernel_rfl)) (fun _ _ _ h => h) (Or.inl ⟨by rfl, ?_⟩) ?_ ?_
    rotate_left;(focus intro w';go_simp;with_reducible rfl);rotate_left;(focus simp only [Act.put, List.setIfInBounds_toArray, List.set_cons_zero, List.set_cons_succ, i64_w, i32_w];rfl)
    refine pure_ (i := 4) (N := some 22) (v := ?_) (a' := ?_) #[true, true, false, false, true, false, false, false, false, false, false] rfl rfl (any_of HT_.out (by kernel_rfl)) (fun _ _ _ h => h) (Or.inl ⟨by rfl, ?_⟩) ?_ ?_
    rotate_left;(focus intro w';go_simp;with_reducible rfl);rotate_left;(focus simp only [Act.put, List.setIfInBounds_toArray, List.set_cons_zero, List.set_cons_succ, i64_w, i32_w];rfl)
    refine pure_ (i := 5) (N := some 23) (v := ?_) (a' := ?_) #[true, true, false, false, true, true, false, false, false, false, false] rfl rfl (any_of HT_.out (by kernel_rfl)) (fun _ _ _ h => h) (Or.inl ⟨by rfl, ?_⟩) ?_ ?_
    rotate_left;(focus intro w';go_simp;with_reducible rfl);rotate_left;(focus simp only [Act.put, List.setIfInBounds_toArray, List.set_cons_zero, List.set_cons_succ, i64_w, i32_w];rfl)
    refine take_ (i := 2) (N := some 20) (v := ?_) (a' := ?_) #[true, true, true, false, true, true, false, false, false, false, false] rfl rfl (take_ofW HT_.out HW_.out (by kernel_rfl)) (fun _ _ _ h => h) (Or.inl ⟨by rfl, ?_⟩) hHeld ?_ ?_
    rotate_left
    ·rintro w' ⟨s0, s1⟩
     go_simp
     with_reducible rfl
    rotate_left
    ·simp only [Act.put, List.setIfInBounds_toArray, List.set_cons_zero, List.set_cons_succ, i64_w, i32_w]
     rfl
    refine pure_ (i := 3) (N := some 21) (v := ?_) (a' := ?_) #[true, true, true, true, true, true, false, false, false, false, false] rfl rfl (any_of HT_.out (by kernel_rfl)) (fun _ _ _ h => h) (Or.inl ⟨by rfl, ?_⟩) ?_ ?_
    rotate_left;(focus intro w';go_simp;with_reducible rfl);rotate_left;(focus simp only [Act.put, List.setIfInBounds_toArray, List.set_cons_zero, List.set_cons_succ, i64_w, i32_w];rfl)
    refine take_ (i := 6) (N := some 24) (v := ?_) (a' := ?_) #[true, true, true, true, true, true, true, false, false, false, false] rfl rfl (take_ofW HT_.out HW_.out (by kernel_rfl)) (fun _ _ _ h => h) (Or.inl ⟨by rfl, ?_⟩) hHeld ?_ ?_
    rotate_left
    ·rintro w' ⟨s0, s1⟩
     go_simp
     with_reducible rfl
    rotate_left
    ·simp only [Act.put, List.setIfInBounds_toArray, List.set_cons_zero, List.set_cons_succ, i64_w, i32_w]
     rfl
    refine pure_ (i := 7) (N := some 25) (v := ?_) (a' := ?_) #[true, true, true, true, true, true, true, true, false, false, false] rfl rfl (any_of HT_.out (by kernel_rfl)) (fun _ _ _ h => h) (Or.inl ⟨by rfl, ?_⟩) ?_ ?_
    rotate_left;(focus intro w';go_simp;with_reducible rfl);rotate_left;(focus simp only [Act.put, List.setIfInBounds_toArray, List.set_cons_zero, List.set_cons_succ, i64_w, i32_w];rfl)
    refine pure_ (i := 8) (N := some 26) (v := ?_) (a' := ?_) #[true, true, true, true, true, true, true, true, true, false, false] rfl rfl (any_of HT_.out (by kernel_rfl)) (fun _ _ _ h => h) (Or.inl ⟨by rfl, ?_⟩) ?_ ?_
    rotate_left;(focus intro w';go_simp;with_reducible rfl);rotate_left;(focus simp only [Act.put, List.setIfInBounds_toArray, List.set_cons_zero, List.set_cons_succ, i64_w, i32_w];rfl)
    refine one_ (i := 9) (N := some 4) #[true, true, true, true, true, true, true, true, true, true, false] rfl rfl (one_of HT_.out (by kernel_rfl)) (by decide) (fun K hK => ?_)
    refine box_step ?hg (N := 4) ?hd (cs := #[.int .i64 0, .int .i64 0, .slice none 0 0, .slice none 0 0, .int .i64 0]) (t := 99) ?hr ?_; (case hd => rfl); (case hg => rfl); (case hr => first | (go_simp; done) | (go_simp; rfl))
    intro gb295 hg w12 hbox hb
    have n0_ := Aside0.mk (blk_below (g := gb292) (o := .cells #[.int .i64 0, .int .i64 0, .slice none 0 0, .slice none 0 0, .int .i64 0] 99 (0, 0)) (zB BK292.out) hb)
    have n1_ := Aside0.mk (below_step zH hb)
    have n2_ := Aside0.mk (hbox)
    have n3_ := Aside0.mk ((by rw [hg]; exact (below_size zH) : w.heap.size ≤ gb295))
    have n4_ := Aside0.mk ((by rw [hg]; exact (below_size zH) : w.heap.size ≤ gb295))
    have n5_ := Aside0.mk ((by rw [hg]; exact Nat.ne_of_lt (blk_lt (g := gb292) (o := .cells #[.int .i64 0, .int .i64 0, .slice none 0 0, .slice none 0 0, .int .i64 0] 99 (0, 0)) (zB BK292.out)) : gb292 ≠ gb295))
    have n6_ := Aside0.mk ((by rw [hg]; exact Nat.ne_of_gt (blk_lt (g := gb292) (o := .cells #[.int .i64 0, .int .i64 0, .slice none 0 0, .slice none 0 0, .int .i64 0] 99 (0, 0)) (zB BK292.out)) : gb295 ≠ gb292))
    clear BK292
    clear HB
    have BK292 := n0_
    have HB := n1_
    have BK295 := n2_
    have GW295 := n3_
    have GE295 := n4_
    have NB292_295 := n5_
    have NB295_292 := n6_
    clear n0_ n1_ n2_ n3_ n4_ n5_ n6_
    clear hb hbox hg
    refine hK.out _ _ ⟨((HB.out.cell (World.block_lt_of_cell? w _ hw293_0)).trans hw293_0), ((HB.out.cell (World.block_lt_of_cell? w _ hw294_0)).trans hw294_0)⟩ (fun hHeld => ?_)
    clear hK K
    refine norm_ (a' := ?_) ?_ ?_
    rotate_left
    ·show Act.put _ (some 4) _ = _
     simp only [Act.put, List.setIfInBounds_toArray, List.set_cons_zero, List.set_cons_succ, i64_w, i32_w]
     rfl
    refine one_ (i := 10) (N := none) #[true, true, true, true, true, true, true, true, true, true, true] rfl rfl (one_of HT_.out (by kernel_rfl)) (by decide) (fun K hK => ?_)
    have hs13 : w12.cell? ⟨gb295, 0, none⟩ = some (.int .i64 0) := (blk_cell BK295.out 0).trans rfl
    have hfs13 := blk_frozen BK295.out 0
    have hns13_0 := NB292_295.out
    have hms13_0 := NB295_292.out
    have hs14 : w12.cell? ⟨gb295, 1, none⟩ = some (.int .i64 0) := (blk_cell BK295.out 1).trans rfl
    have hfs14 := blk_frozen BK295.out 1
    have hns14_0 := NB292_295.out
    have hms14_0 := NB295_292.out
    have hs15 : w12.cell? ⟨gb295, 2, none⟩ = some (.slice none 0 0) := (blk_cell BK295.out 2).trans rfl
    have hfs15 := blk_frozen BK295.out 2
    have hns15_0 := NB292_295.out
    have hms15_0 := NB295_292.out
    have hs16 : w12.cell? ⟨gb295, 3, none⟩ = some (.slice none 0 0) := (blk_cell BK295.out 3).trans rfl
    have hfs16 := blk_frozen BK295.out 3
    have hns16_0 := NB292_295.out
    have hms16_0 := NB295_292.out
    have hs17 : w12.cell? ⟨gb295, 4, none⟩ = some (.int .i64 0) := (blk_cell BK295.out 4).trans rfl
    have hfs17 := blk_frozen BK295.out 4
    have hns17_0 := NB292_295.out
    have hms17_0 := NB295_292.out
    refine skip_ (w1 := ?_) (by rfl) rfl ?_ ?_
    rotate_left
    ·go_simp
     rfl
    refine hK.out _ _ ⟨((cell_far (p := ⟨gb295, _, none⟩) (zO hw293_0 GW295.out) _).trans (((cell_far (p := ⟨gb295, _, none⟩) (zO hw293_0 GW295.out) _).trans (((cell_far (p := ⟨gb295, _, none⟩) (zO hw293_0 GW295.out) _).trans (((cell_far (p := ⟨gb295, _, none⟩) (zO hw293_0 GW295.out) _).trans (((cell_far (p := ⟨gb295, _, none⟩) (zO hw293_0 GW295.out) _).trans (hHeld.1)))))))))), ((cell_far (p := ⟨gb295, _, none⟩) (zO hw294_0 GW295.out) _).trans (((cell_far (p := ⟨gb295, _, none⟩) (zO hw294_0 GW295.out) _).trans (((cell_far (p := ⟨gb295, _, none⟩) (zO hw294_0 GW295.out) _).trans (((cell_far (p := ⟨gb295, _, none⟩) (zO hw294_0 GW295.out) _).trans (((cell_far (p := ⟨gb295, _, none⟩) (zO hw294_0 GW295.out) _).trans (hHeld.2))))))))))⟩ (fun hHeld => ?_)
    clear hK K
    refine done_ (done_of HT_.out (by kernel_rfl)) ?_
    go_upto_region 6 with (first | ((with_reducible refine gate_callee (f := 148) rfl ?_); refine goesL_ (some 29) rfl rfl Try.func148 (by kernel_rfl) rfl #[.slice (some ad293) l0.length c0, .int .i64 2] rfl zM ?_; (with_reducible refine (impl_takeNumber.calls k _ _ l0 2 t296 t297 t298 _ ?side1 ?side2 A7.out).mono ?_); (case side1 => exact Kd.C_below HR0.out zH); (case side2 => exact HC0.out); rintro e w' ⟨rfl, ⟨nd, rfl⟩⟩; refine ⟨_, rfl, ?_⟩; have hnb18 := NB295_292.out; have hnc18 := NB292_295.out; obtain ⟨hcz19_0, hcz19_1, hcz19_2, hcz19_3, hcz19_4⟩ := zc5 BK295.out; obtain ⟨hfz19_0, hfz19_1, hfz19_2, hfz19_3, hfz19_4⟩ := zf BK295.out))
    go_wp2_with (first | ((with_reducible refine gate_dst (N := 37) rfl ?_); refine pair_event ?hg (N := 37) ?hd (n := 2) (cs := #[.pointer (some ⟨gb295, 2, none⟩), .pointer (some ⟨gb295, 3, none⟩)]) (t := 148) ?hr ?_; (case hd => rfl); (case hg => rfl); (case hr => first | (go_simp; done) | (go_simp; rfl)); intro gb299 hg w20 hbox hb; have n0_ := Aside0.mk (blk_below (g := gb292) (o := .cells #[.int .i64 0, .int .i64 0, .slice none 0 0, .slice none 0 0, .int .i64 0] 99 (0, 0)) (by (repeat refine zL ?_); refine blk_far ?_ NB292_295.out _; (repeat refine zL ?_); refine blk_far ?_ NB292_295.out _; (repeat refine zL ?_); refine blk_far ?_ NB292_295.out _; (repeat refine zL ?_); refine blk_far ?_ NB292_295.out _; (repeat refine zL ?_); refine blk_far ?_ NB292_295.out _; (repeat refine zL ?_); refine blk_far ?_ NB292_295.out _; (repeat refine zL ?_); exact BK292.out) hb); have n1_ := Aside0.mk (blk_below (g := gb295) (o := .cells #[.int .i64 (wrap64 (rd l0 0)), .int .i64 (wrap64 (rd l0 1)), .slice none 0 0, .slice none 0 0, .int .i64 t296] 99 (0, 0)) (by (repeat refine zL ?_); refine blk_put (cs := #[.int .i64 (wrap64 (rd l0 0)), .int .i64 (wrap64 (rd l0 1)), .slice none 0 0, .slice none 0 0, .int .i64 0]) ?_ 4 _ rfl; (repeat refine zL ?_); refine blk_put (cs := #[.int .i64 (wrap64 (rd l0 0)), .int .i64 (wrap64 (rd l0 1)), .slice none 0 0, .slice none 0 0, .int .i64 0]) ?_ 4 _ rfl; (repeat refine zL ?_); refine blk_put (cs := #[.int .i64 (wrap64 (rd l0 0)), .int .i64 (wrap64 (rd l0 1)), .slice none 0 0, .slice none 0 0, .int .i64 0]) ?_ 3 _ rfl; (repeat refine zL ?_); refine blk_put (cs := #[.int .i64 (wrap64 (rd l0 0)), .int .i64 (wrap64 (rd l0 1)), .slice none 0 0, .slice none 0 0, .int .i64 0]) ?_ 2 _ rfl; (repeat refine zL ?_); refine blk_put (cs := #[.int .i64 (wrap64 (rd l0 0)), .int .i64 0, .slice none 0 0, .slice none 0 0, .int .i64 0]) ?_ 1 _ rfl; (repeat refine zL ?_); refine blk_put (cs := #[.int .i64 0, .int .i64 0, .slice none 0 0, .slice none 0 0, .int .i64 0]) ?_ 0 _ rfl; (repeat refine zL ?_); exact BK295.out) hb); have n2_ := Aside0.mk (below_step zH hb); have n3_ := Aside0.mk (hbox); have n4_ := Aside0.mk ((by rw [hg]; exact (below_size zH) : w.heap.size ≤ gb299)); have n5_ := Aside0.mk ((by rw [hg]; exact (below_size zH) : w.heap.size ≤ gb299)); have n6_ := Aside0.mk ((by rw [hg]; exact Nat.ne_of_lt (blk_lt (g := gb292) (o := .cells #[.int .i64 0, .int .i64 0, .slice none 0 0, .slice none 0 0, .int .i64 0] 99 (0, 0)) (by (repeat refine zL ?_); refine blk_far ?_ NB292_295.out _; (repeat refine zL ?_); refine blk_far ?_ NB292_295.out _; (repeat refine zL ?_); refine blk_far ?_ NB292_295.out _; (repeat refine zL ?_); refine blk_far ?_ NB292_295.out _; (repeat refine zL ?_); refine blk_far ?_ NB292_295.out _; (repeat refine zL ?_); refine blk_far ?_ NB292_295.out _; (repeat refine zL ?_); exact BK292.out)) : gb292 ≠ gb299)); have n7_ := Aside0.mk ((by rw [hg]; exact Nat.ne_of_gt (blk_lt (g := gb292) (o := .cells #[.int .i64 0, .int .i64 0, .slice none 0 0, .slice none 0 0, .int .i64 0] 99 (0, 0)) (by (repeat refine zL ?_); refine blk_far ?_ NB292_295.out _; (repeat refine zL ?_); refine blk_far ?_ NB292_295.out _; (repeat refine zL ?_); refine blk_far ?_ NB292_295.out _; (repeat refine zL ?_); refine blk_far ?_ NB292_295.out _; (repeat refine zL ?_); refine blk_far ?_ NB292_295.out _; (repeat refine zL ?_); refine blk_far ?_ NB292_295.out _; (repeat refine zL ?_); exact BK292.out)) : gb299 ≠ gb292)); have n8_ := Aside0.mk ((by rw [hg]; exact Nat.ne_of_lt (blk_lt (g := gb295) (o := .cells #[.int .i64 (wrap64 (rd l0 0)), .int .i64 (wrap64 (rd l0 1)), .slice none 0 0, .slice none 0 0, .int .i64 t296] 99 (0, 0)) (by (repeat refine zL ?_); refine blk_put (cs := #[.int .i64 (wrap64 (rd l0 0)), .int .i64 (wrap64 (rd l0 1)), .slice none 0 0, .slice none 0 0, .int .i64 0]) ?_ 4 _ rfl; (repeat refine zL ?_); refine blk_put (cs := #[.int .i64 (wrap64 (rd l0 0)), .int .i64 (wrap64 (rd l0 1)), .slice none 0 0, .slice none 0 0, .int .i64 0]) ?_ 4 _ rfl; (repeat refine zL ?_); refine blk_put (cs := #[.int .i64 (wrap64 (rd l0 0)), .int .i64 (wrap64 (rd l0 1)), .slice none 0 0, .slice none 0 0, .int .i64 0]) ?_ 3 _ rfl; (repeat refine zL ?_); refine blk_put (cs := #[.int .i64 (wrap64 (rd l0 0)), .int .i64 (wrap64 (rd l0 1)), .slice none 0 0, .slice none 0 0, .int .i64 0]) ?_ 2 _ rfl; (repeat refine zL ?_); refine blk_put (cs := #[.int .i64 (wrap64 (rd l0 0)), .int .i64 0, .slice none 0 0, .slice none 0 0, .int .i64 0]) ?_ 1 _ rfl; (repeat refine zL ?_); refine blk_put (cs := #[.int .i64 0, .int .i64 0, .slice none 0 0, .slice none 0 0, .int .i64 0]) ?_ 0 _ rfl; (repeat refine zL ?_); exact BK295.out)) : gb295 ≠ gb299)); have n9_ := Aside0.mk ((by rw [hg]; exact Nat.ne_of_gt (blk_lt (g := gb295) (o := .cells #[.int .i64 (wrap64 (rd l0 0)), .int .i64 (wrap64 (rd l0 1)), .slice none 0 0, .slice none 0 0, .int .i64 t296] 99 (0, 0)) (by (repeat refine zL ?_); refine blk_put (cs := #[.int .i64 (wrap64 (rd l0 0)), .int .i64 (wrap64 (rd l0 1)), .slice none 0 0, .slice none 0 0, .int .i64 0]) ?_ 4 _ rfl; (repeat refine zL ?_); refine blk_put (cs := #[.int .i64 (wrap64 (rd l0 0)), .int .i64 (wrap64 (rd l0 1)), .slice none 0 0, .slice none 0 0, .int .i64 0]) ?_ 4 _ rfl; (repeat refine zL ?_); refine blk_put (cs := #[.int .i64 (wrap64 (rd l0 0)), .int .i64 (wrap64 (rd l0 1)), .slice none 0 0, .slice none 0 0, .int .i64 0]) ?_ 3 _ rfl; (repeat refine zL ?_); refine blk_put (cs := #[.int .i64 (wrap64 (rd l0 0)), .int .i64 (wrap64 (rd l0 1)), .slice none 0 0, .slice none 0 0, .int .i64 0]) ?_ 2 _ rfl; (repeat refine zL ?_); refine blk_put (cs := #[.int .i64 (wrap64 (rd l0 0)), .int .i64 0, .slice none 0 0, .slice none 0 0, .int .i64 0]) ?_ 1 _ rfl; (repeat refine zL ?_); refine blk_put (cs := #[.int .i64 0, .int .i64 0, .slice none 0 0, .slice none 0 0, .int .i64 0]) ?_ 0 _ rfl; (repeat refine zL ?_); exact BK295.out)) : gb299 ≠ gb295)); clear BK292; clear BK295; clear HB; have BK292 := n0_; have BK295 := n1_; have HB := n2_; have BK299 := n3_; have GW299 := n4_; have GE299 := n5_; have NB292_299 := n6_; have NB299_292 := n7_; have NB295_299 := n8_; have NB299_295 := n9_; clear n0_ n1_ n2_ n3_ n4_ n5_ n6_ n7_ n8_ n9_; clear hb hbox hg; have hnb21 := NB299_292.out; have hnc21 := NB292_299.out; have hnb22 := NB299_295.out; have hnc22 := NB295_299.out; obtain ⟨hcz23_0, hcz23_1⟩ := zc2 BK299.out; obtain ⟨hfz23_0, hfz23_1, hfz23_2, _, _⟩ := zf BK299.out))
    refine wp_loop_rounds 3 ?_
    rw [rounds_succ]
    go_upto_region 11 with (first | ((with_reducible refine gate_callee (f := 148) rfl ?_); refine goesL_ (some 46) rfl rfl Try.func148 (by kernel_rfl) rfl #[.slice (some ad293) l0.length c0, .int .i64 t297] rfl zM ?_; (with_reducible refine (impl_takeNumber.calls k _ _ l0 t297 t300 t301 t302 _ ?side1 ?side2 A8.out).mono ?_); (case side1 => exact zC (Kd.C_below HR0.out HB.out)); (case side2 => exact HC0.out); rintro e w' ⟨rfl, ⟨nd, rfl⟩⟩; refine ⟨_, rfl, ?_⟩))
    (try simp only [Act.put, List.setIfInBounds_toArray, List.set_cons_zero, List.set_cons_succ])
    go_cut [7] (fun v7 wc => ∃ (kq : Nat) (x7_8 : Bool), v7 = .bool x7_8 ∧ Aside0 (impl_DecodeJob.j0 kq l0 t301 x7_8 t300 (wrap64 (rd l0 0)) (wrap64 (rd l0 1)) t296 = some (r1, r2, r3, r4, r5, r6)) ∧ Aside0 (kq ≤ k) ∧ Aside0 (wc.heap[gb292]? = some (.cells #[.int .i64 0, .int .i64 0, (.slice none 0 0), (.slice none 0 0), .int .i64 0] 99 (0, 0))) ∧ Aside0 (wc.heap[gb295]? = some (.cells #[.int .i64 (wrap64 (rd l0 0)), .int .i64 (wrap64 (rd l0 1)), (.slice none 0 0), (.slice none 0 0), .int .i64 t296] 99 (0, 0))) ∧ Aside0 (wc.heap[gb299]? = some (.cells #[.pointer (some ⟨gb295, 2, none⟩), .pointer (some ⟨gb295, 3, none⟩)] 148 (0, 0))) ∧ Aside0 (Below w.heap.size w wc))
    case first =>
     have H := HC9.out
     clear HC9
     by_cases c24 : t298 = true
     ·subst c24
      replace H : (if t302 = true then (if t300 ≥ 0 then (impl_DecodeJob.j0 k l0 t301 (decide (t300 ≤ 400)) t300 (wrap64 (rd l0 0)) (wrap64 (rd l0 1)) t296) else (impl_DecodeJob.j0 k l0 t301 false t300 (wrap64 (rd l0 0)) (wrap64 (rd l0 1)) t296)) else (impl_DecodeJob.j0 k l0 t301 false t300 (wrap64 (rd l0 0)) (wrap64 (rd l0 1)) t296)) = some (r1, r2, r3, r4, r5, r6) := by rw [if_pos rfl] at H; exact H
      by_cases c25 : t302 = true
      ·subst c25
       replace H : (if t300 ≥ 0 then (impl_DecodeJob.j0 k l0 t301 (decide (t300 ≤ 400)) t300 (wrap64 (rd l0 0)) (wrap64 (rd l0 1)) t296) else (impl_DecodeJob.j0 k l0 t301 false t300 (wrap64 (rd l0 0)) (wrap64 (rd l0 1)) t296)) = some (r1, r2, r3, r4, r5, r6) := by rw [if_pos rfl] at H; exact H
       by_cases c26 : t300 ≥ 0
       ·rw [if_pos c26] at H
        have c26b0 : decide (0 ≤ t300) = true := decide_eq_true c26
        clear c26
        (first | rw [c26b0] | (simp only [i64_w, i32_w]; rw [c26b0]) | skip)
        have H' := Aside0.mk H
        clear H
        go_wp2
        go_meet
        case rel => exact ⟨_, (decide (t300 ≤ 400)), zF, H', ⟨by first | omega | exact Nat.le_refl _⟩, ⟨zB BK292.out⟩, ⟨zB BK295.out⟩, ⟨zB BK299.out⟩, ⟨zH⟩⟩
       ·rw [if_neg c26] at H
        have c26b0 : decide (0 ≤ t300) = false := decide_eq_false c26
        clear c26
        (first | rw [c26b0] | (simp only [i64_w, i32_w]; rw [c26b0]) | skip)
        have H' := Aside0.mk H
        clear H
        go_wp2
        go_meet
        case rel => exact ⟨_, (false), zF, H', ⟨by first | omega | exact Nat.le_refl _⟩, ⟨zB BK292.out⟩, ⟨zB BK295.out⟩, ⟨zB BK299.out⟩, ⟨zH⟩⟩
      ·replace c25 := Bool.eq_false_iff.mpr c25
       subst c25
       replace H : (impl_DecodeJob.j0 k l0 t301 false t300 (wrap64 (rd l0 0)) (wrap64 (rd l0 1)) t296) = some (r1, r2, r3, r4, r5, r6) := by rw [if_neg (show ¬ (false = true) by decide)] at H; exact H
       have H' := Aside0.mk H
       clear H
       go_wp2
       go_meet
       case rel => exact ⟨_, (false), zF, H', ⟨by first | omega | exact Nat.le_refl _⟩, ⟨zB BK292.out⟩, ⟨zB BK295.out⟩, ⟨zB BK299.out⟩, ⟨zH⟩⟩
     ·replace c24 := Bool.eq_false_iff.mpr c24
      subst c24
      replace H : (impl_DecodeJob.j0 k l0 t301 false t300 (wrap64 (rd l0 0)) (wrap64 (rd l0 1)) t296) = some (r1, r2, r3, r4, r5, r6) := by rw [if_neg (show ¬ (false = true) by decide)] at H; exact H
      have H' := Aside0.mk H
      clear H
      go_wp2
      go_meet
      case rel => exact ⟨_, (false), zF, H', ⟨by first | omega | exact Nat.le_refl _⟩, ⟨zB BK292.out⟩, ⟨zB BK295.out⟩, ⟨zB BK299.out⟩, ⟨zH⟩⟩
    case rest =>
     clear HC9
     (try clear c1);(try clear c2);(try clear c2b0);(try clear c2b1);(try clear p2);(try clear q2);(try clear hx2);(try clear qi2);(try clear c5);(try clear c5b0);(try clear c5b1);(try clear c6);(try clear c6b0);(try clear c6b1);(try clear p6);(try clear c13);(try clear c14);(try clear c18);(try clear c21);(try clear c22);(try clear c24);(try clear c25);(try clear c26);(try clear c26b0);(try clear hcz19_0);(try clear hcz19_1);(try clear hcz19_2);(try clear hcz19_3)
     (try clear hcz19_4);(try clear hcz23_0);(try clear hcz23_1);(try clear hcz23_2);(try clear hcz4_0);(try clear hcz4_1);(try clear hcz4_2);(try clear hcz4_3);(try clear hcz4_4);(try clear hfz19_0);(try clear hfz19_1);(try clear hfz19_2);(try clear hfz19_3);(try clear hfz19_4);(try clear hfz23_0);(try clear hfz23_1);(try clear hfz23_2);(try clear hfz4_0);(try clear hfz4_1);(try clear hfz4_2);(try clear hfz4_3);(try clear hfz4_4);(try clear hx293_0)
     (try clear hx294_0);(try clear p293);(try clear p294);(try clear q293);(try clear q294)
     obtain ⟨kq, x7_8, rfl, HA, HJ8, BK292, BK295, BK299, HB⟩ := hcut
     cases kq with
     | zero => exact absurd HA.out (by simp [impl_DecodeJob.j0])
     | succ kj8 =>
      have H := HA.out
      clear HA
      simp only [impl_DecodeJob.j0] at H
      have H' := Aside0.mk H
      clear H
      go_wp2
      go_loopg [6, 7, 13] kj8 (fun kq v6 v7 v13 w' => ∃ (x6_2 : Int) (x7_2 : Bool) (x13_2 : Int) (x296002_2 : List Int) (u296002 : Value), v6 = .int .i64 x6_2 ∧ v7 = .bool x7_2 ∧ v13 = .int .i64 x13_2 ∧ Aside0 (impl_DecodeJob.l0 kq l0 x6_2 x7_2 t300 x13_2 (wrap64 (rd l0 0)) (wrap64 (rd l0 1)) x296002_2 t296 = some (r1, r2, r3, r4, r5, r6)) ∧ Aside0 (kq ≤ kj8) ∧ Aside0 (Kd.R (Kd.int .i64) 3 w' w.heap.size (fun _ => True) u296002 x296002_2) ∧ Aside0 (w'.heap[gb292]? = some (.cells #[.int .i64 0, .int .i64 0, (.slice none 0 0), (.slice none 0 0), .int .i64 0] 99 (0, 0))) ∧ Aside0 (w'.heap[gb295]? = some (.cells #[.int .i64 (wrap64 (rd l0 0)), .int .i64 (wrap64 (rd l0 1)), u296002, (.slice none 0 0), .int .i64 t296] 99 (0, 0))) ∧ Aside0 (w'.heap[gb299]? = some (.cells #[.pointer (some ⟨gb295, 2, none⟩), .pointer (some ⟨gb295, 3, none⟩)] 148 (0, 0))) ∧ Aside0 (Below w.heap.size w w'))
      case atStart => exact ⟨(t301), (x7_8), (0), (([] : List Int)), (.slice none 0 0), zF, zF, zF, H', ⟨Nat.le_refl _⟩, ⟨by first | exact Kd.R_nil _ _ _ _ _ | exact Kd.N_nil _ _ _ _ _ | exact Kd.V_nil _ _ _ _ _ | exact Kd.Q_nil _ _ _ _ _ | exact Kd.S_nil _ _ _ _ _⟩, ⟨zB BK292.out⟩, ⟨zB BK295.out⟩, ⟨zB BK299.out⟩, ⟨zH⟩⟩
      case round =>
       clear H'
       (try clear c1);(try clear c2);(try clear c2b0);(try clear c2b1);(try clear p2);(try clear q2);(try clear hx2);(try clear qi2);(try clear c5);(try clear c5b0);(try clear c5b1);(try clear c6);(try clear c6b0);(try clear c6b1);(try clear p6);(try clear c13);(try clear c14);(try clear c18);(try clear c21);(try clear c22);(try clear c24);(try clear c25);(try clear c26);(try clear c26b0);(try clear hcz19_0);(try clear hcz19_1);(try clear hcz19_2);(try clear hcz19_3)
       (try clear hcz19_4);(try clear hcz23_0);(try clear hcz23_1);(try clear hcz23_2);(try clear hcz4_0);(try clear hcz4_1);(try clear hcz4_2);(try clear hcz4_3);(try clear hcz4_4);(try clear hfz19_0);(try clear hfz19_1);(try clear hfz19_2);(try clear hfz19_3);(try clear hfz19_4);(try clear hfz23_0);(try clear hfz23_1);(try clear hfz23_2);(try clear hfz4_0);(try clear hfz4_1);(try clear hfz4_2);(try clear hfz4_3);(try clear hfz4_4);(try clear hx293_0)
       (try clear hx294_0);(try clear p2);(try clear p293);(try clear p294);(try clear p6);(try clear q2);(try clear q293);(try clear q294)
       obtain ⟨x6_2, x7_2, x13_2, x296002_2, u296002, rfl, rfl, rfl, HA, HK2, HO_296002, BK292, BK295, BK299, HB⟩ := hrel
       cases gk with
       | zero => exact absurd HA.out (by simp [impl_DecodeJob.l0])
       | succ k2 =>
        have H := HA.out
        clear HA
        simp only [impl_DecodeJob.l0] at H
        by_cases c27 : x7_2 = true
        ·subst c27
         replace H : (if x13_2 < t300 then ((impl_takeNumber.f k2 l0 x6_2).bind fun bt303 => (if x296002_2.length < 17592186044416 then (impl_DecodeJob.l0 k2 l0 bt303.2.1 bt303.2.2 t300 (wrap64 (x13_2 + 1)) (wrap64 (rd l0 0)) (wrap64 (rd l0 1)) (x296002_2 ++ [bt303.1]) t296) else (none))) else ((impl_takeNumber.f k2 l0 x6_2).bind fun bt309 => (if bt309.2.2 = true then (if bt309.1 ≥ 0 then (impl_DecodeJob.j2 k2 l0 bt309.2.1 (decide (bt309.1 ≤ 400)) bt309.1 (wrap64 (rd l0 0)) (wrap64 (rd l0 1)) x296002_2 t296) else (impl_DecodeJob.j2 k2 l0 bt309.2.1 false bt309.1 (wrap64 (rd l0 0)) (wrap64 (rd l0 1)) x296002_2 t296)) else (impl_DecodeJob.j2 k2 l0 bt309.2.1 false bt309.1 (wrap64 (rd l0 0)) (wrap64 (rd l0 1)) x296002_2 t296)))) = some (r1, r2, r3, r4, r5, r6) := by rw [if_pos rfl] at H; exact H
         by_cases c28 : x13_2 < t300
         ·rw [if_pos c28] at H
          have c28b0 : decide (x13_2 < t300) = true := decide_eq_true c28
          clear c28
          replace H := Option.bind_eq_some_iff.mp H
          obtain ⟨⟨t303, t304, t305⟩, A290, H⟩ := H
          replace H : (if x296002_2.length < 17592186044416 then (impl_DecodeJob.l0 k2 l0 t304 t305 t300 (wrap64 (x13_2 + 1)) (wrap64 (rd l0 0)) (wrap64 (rd l0 1)) (x296002_2 ++ [t303]) t296) else (none)) = some (r1, r2, r3, r4, r5, r6) := H
          have A29 := Aside0.mk A290
          clear A290
          by_cases c30 : x296002_2.length < 17592186044416
          ·rw [if_pos c30] at H
           have LMc30 := Aside0.mk c30
           clear c30
           obtain ⟨y306, hy306⟩ : ∃ y_ : List Int, y_ = (x296002_2 ++ [t303]) := ⟨_, rfl⟩
           replace H : (impl_DecodeJob.l0 k2 l0 t304 t305 t300 (wrap64 (x13_2 + 1)) (wrap64 (rd l0 0)) (wrap64 (rd l0 1)) y306 t296) = some (r1, r2, r3, r4, r5, r6) := by first | (rw [hy306]; with_reducible exact H) | (have H2_ := (Option.bind_some _ _).symm.trans H; rw [hy306]; with_reducible exact H2_) | (have H2_ := (Option.bind_some _ _).symm.trans H; with_reducible exact H2_) | with_reducible exact H | (rw [hy306]; exact H) | exact H
           have Ny306 := Aside0.mk hy306
           clear hy306
           have H' := Aside0.mk H
           clear H
           go_wp2_with (first | ((with_reducible refine gate_callee (f := 148) rfl ?_); refine goesL_ (some 74) rfl rfl Try.func148 (by kernel_rfl) rfl #[.slice (some ad293) l0.length c0, .int .i64 x6_2] rfl zM ?_; (with_reducible refine (impl_takeNumber.calls k2 _ _ l0 x6_2 t303 t304 t305 _ ?side1 ?side2 A29.out).mono ?_); (case side1 => exact zC (Kd.C_below HR0.out HB.out)); (case side2 => exact HC0.out); rintro e w' ⟨rfl, ⟨nd, rfl⟩⟩; refine ⟨_, rfl, ?_⟩; (try (rw [drewN_self wr]; generalize hq_ : World.drewN wr _ = wr; have n0_ : Aside0 (Kd.R (Kd.int .i64) 3 wr w.heap.size (fun _ => True) u296002 x296002_2) := ⟨by rw [← hq_]; exact (zR HO_296002.out)⟩; have n1_ : Aside0 (wr.heap[gb292]? = some (.cells #[.int .i64 0, .int .i64 0, .slice none 0 0, .slice none 0 0, .int .i64 0] 99 (0, 0))) := ⟨by rw [← hq_]; exact (zB BK292.out)⟩; have n2_ : Aside0 (wr.heap[gb295]? = some (.cells #[.int .i64 (wrap64 (rd l0 0)), .int .i64 (wrap64 (rd l0 1)), u296002, .slice none 0 0, .int .i64 t296] 99 (0, 0))) := ⟨by rw [← hq_]; exact (zB BK295.out)⟩; have n3_ : Aside0 (wr.heap[gb299]? = some (.cells #[.pointer (some ⟨gb295, 2, none⟩), .pointer (some ⟨gb295, 3, none⟩)] 148 (0, 0))) := ⟨by rw [← hq_]; exact (zB BK299.out)⟩; have n4_ : Aside0 (Below w.heap.size w wr) := ⟨by rw [← hq_]; exact zH⟩; clear HO_296002 BK292 BK295 BK299 HB hq_; have HO_296002 := n0_; have BK292 := n1_; have BK295 := n2_; have BK299 := n3_; have HB := n4_; clear n0_ n1_ n2_ n3_ n4_)); have hnb31 := NB295_292.out; have hnc31 := NB292_295.out; have hnb32 := NB295_299.out; have hnc32 := NB299_295.out; obtain ⟨hcz33_0, hcz33_1, hcz33_2, hcz33_3, hcz33_4⟩ := zc5 BK295.out; obtain ⟨hfz33_0, hfz33_1, hfz33_2, hfz33_3, hfz33_4⟩ := zf BK295.out) | ((with_reducible refine gate_builtin (b := .append) (xs := #[.tmp 81, .tmp 83]) rfl ?_); at_builtin; refine Kd.R_append (Kd.int .i64) (w0 := w) w.heap.size rfl (.tmp 81) (.tmp 83) 22 3 (.int .i64 0) 8 rfl Try.underlying22 info3 rfl (by decide) (by omega) u296002 x296002_2 t303 [.int .i64 t303] (fun _ => True) (fun _ => False) rfl rfl ?aP (fun _ hk => hk.elim) ?aF ?aO ?aB ?aS ?aL ?_; (case aP => exact rfl); (case aB => exact zH); (case aF => exact (fun _ _ => trivial)); (case aO => exact (zR HO_296002.out)); (case aS => exact (below_size zH)); (case aL => have := LMc30.out; omega); intro v307 w34 ho hb hg hat; rw [← Ny306.out] at ho; have n0_ := Aside0.mk (blk_grown (g := gb292) (o := .cells #[.int .i64 0, .int .i64 0, .slice none 0 0, .slice none 0 0, .int .i64 0] 99 (0, 0)) (zB BK292.out) hg (Kd.R_ne HO_296002.out BK292.out (by decide))); have n1_ := Aside0.mk (blk_grown (g := gb295) (o := .cells #[.int .i64 (wrap64 (rd l0 0)), .int .i64 (wrap64 (rd l0 1)), u296002, .slice none 0 0, .int .i64 t296] 99 (0, 0)) (zB BK295.out) hg (Kd.R_ne HO_296002.out BK295.out (by decide))); have n2_ := Aside0.mk (blk_grown (g := gb299) (o := .cells #[.pointer (some ⟨gb295, 2, none⟩), .pointer (some ⟨gb295, 3, none⟩)] 148 (0, 0)) (zB BK299.out) hg (Kd.R_ne HO_296002.out BK299.out (by decide))); have n3_ := Aside0.mk (hb); have n4_ := Aside0.mk (ho); clear BK292; clear BK295; clear BK299; clear HB; clear HO_296002; have BK292 := n0_; have BK295 := n1_; have BK299 := n2_; have HB := n3_; have HO308 := n4_; clear n0_ n1_ n2_ n3_ n4_; clear ho hb hg hat; obtain ⟨Ao35, co35, eo35⟩ := Kd.R_slice HO308.out; subst eo35; obtain ⟨hcz36_0, hcz36_1, hcz36_2, hcz36_3, hcz36_4⟩ := zc5 BK295.out; obtain ⟨hfz36_0, hfz36_1, hfz36_2, hfz36_3, hfz36_4⟩ := zf BK295.out))
           go_roundg k2
           case measure => have := HJ8.out; have := HK2.out; omega
           case rel => exact ⟨(t304), (t305), (wrap64 (x13_2 + 1)), (y306), (.slice Ao35 y306.length co35), zF, zF, zF, H', ⟨by have := HJ8.out; have := HK2.out; omega⟩, ⟨by (with_reducible repeat (first | apply Kd.R_alloc | apply Kd.R_drewN | apply Kd.R_drew)); exact Kd.R_mono (Kd.R_far (p := ⟨gb295, 2, none⟩) (Kd.R_types HO308.out BK295.out (by decide)) (fun _ hk => hk.2) (.slice Ao35 y306.length co35)) (fun _ hk => trivial)⟩, ⟨by (repeat refine zL ?_); refine blk_far ?_ NB292_295.out _; (repeat refine zL ?_); exact BK292.out⟩, ⟨by (repeat refine zL ?_); refine blk_put (cs := #[.int .i64 (wrap64 (rd l0 0)), .int .i64 (wrap64 (rd l0 1)), u296002, .slice none 0 0, .int .i64 t296]) ?_ 2 _ rfl; (repeat refine zL ?_); exact BK295.out⟩, ⟨by (repeat refine zL ?_); refine blk_far ?_ NB299_295.out _; (repeat refine zL ?_); exact BK299.out⟩, ⟨zH⟩⟩
          ·rw [if_neg c30] at H
           exact absurd H (by simp)
         ·rw [if_neg c28] at H
          have c28b0 : decide (x13_2 < t300) = false := decide_eq_false c28
          clear c28
          replace H := Option.bind_eq_some_iff.mp H
          obtain ⟨⟨t309, t310, t311⟩, A370, H⟩ := H
          replace H : (if t311 = true then (if t309 ≥ 0 then (impl_DecodeJob.j2 k2 l0 t310 (decide (t309 ≤ 400)) t309 (wrap64 (rd l0 0)) (wrap64 (rd l0 1)) x296002_2 t296) else (impl_DecodeJob.j2 k2 l0 t310 false t309 (wrap64 (rd l0 0)) (wrap64 (rd l0 1)) x296002_2 t296)) else (impl_DecodeJob.j2 k2 l0 t310 false t309 (wrap64 (rd l0 0)) (wrap64 (rd l0 1)) x296002_2 t296)) = some (r1, r2, r3, r4, r5, r6) := H
          have A37 := Aside0.mk A370
          clear A370
          have HC38 := Aside0.mk H
          clear H
          have hnb39 := NB299_292.out
          have hnc39 := NB292_299.out
          have hnb40 := NB299_295.out
          have hnc40 := NB295_299.out
          obtain ⟨hcz41_0, hcz41_1⟩ := zc2 BK299.out
          skip
          obtain ⟨hfz41_0, hfz41_1, hfz41_2, _, _⟩ := zf BK299.out
          go_wp2
          rw [rounds_succ]
          go_upto_region 11 with (first | ((with_reducible refine gate_callee (f := 148) rfl ?_); refine goesL_ (some 46) rfl rfl Try.func148 (by kernel_rfl) rfl #[.slice (some ad293) l0.length c0, .int .i64 x6_2] rfl zM ?_; (with_reducible refine (impl_takeNumber.calls k2 _ _ l0 x6_2 t309 t310 t311 _ ?side1 ?side2 A37.out).mono ?_); (case side1 => exact zC (Kd.C_below HR0.out HB.out)); (case side2 => exact HC0.out); rintro e w' ⟨rfl, ⟨nd, rfl⟩⟩; refine ⟨_, rfl, ?_⟩))
          (try simp only [Act.put, List.setIfInBounds_toArray, List.set_cons_zero, List.set_cons_succ])
          go_cut [7] (fun v7 wc => ∃ (kq : Nat) (x7_37 : Bool), v7 = .bool x7_37 ∧ Aside0 (impl_DecodeJob.j2 kq l0 t310 x7_37 t309 (wrap64 (rd l0 0)) (wrap64 (rd l0 1)) x296002_2 t296 = some (r1, r2, r3, r4, r5, r6)) ∧ Aside0 (kq ≤ k2) ∧ Aside0 (Kd.R (Kd.int .i64) 3 wc w.heap.size (fun _ => True) u296002 x296002_2) ∧ Aside0 (wc.heap[gb292]? = some (.cells #[.int .i64 0, .int .i64 0, (.slice none 0 0), (.slice none 0 0), .int .i64 0] 99 (0, 0))) ∧ Aside0 (wc.heap[gb295]? = some (.cells #[.int .i64 (wrap64 (rd l0 0)), .int .i64 (wrap64 (rd l0 1)), u296002, (.slice none 0 0), .int .i64 t296] 99 (0, 0))) ∧ Aside0 (wc.heap[gb299]? = some (.cells #[.pointer (some ⟨gb295, 2, none⟩), .pointer (some ⟨gb295, 3, none⟩)] 148 (0, 0))) ∧ Aside0 (Below w.heap.size w wc))
          case first =>
           have H := HC38.out
           clear HC38
           by_cases c42 : t311 = true
           ·subst c42
            replace H : (if t309 ≥ 0 then (impl_DecodeJob.j2 k2 l0 t310 (decide (t309 ≤ 400)) t309 (wrap64 (rd l0 0)) (wrap64 (rd l0 1)) x296002_2 t296) else (impl_DecodeJob.j2 k2 l0 t310 false t309 (wrap64 (rd l0 0)) (wrap64 (rd l0 1)) x296002_2 t296)) = some (r1, r2, r3, r4, r5, r6) := by rw [if_pos rfl] at H; exact H
            by_cases c43 : t309 ≥ 0
            ·rw [if_pos c43] at H
             have c43b0 : decide (0 ≤ t309) = true := decide_eq_true c43
             clear c43
             (first | rw [c43b0] | (simp only [i64_w, i32_w]; rw [c43b0]) | skip)
             have H' := Aside0.mk H
             clear H
             go_wp2
             go_meet
             case rel => exact ⟨_, (decide (t309 ≤ 400)), zF, H', ⟨by have := HJ8.out; have := HK2.out; first | omega | exact Nat.le_refl _⟩, ⟨zR HO_296002.out⟩, ⟨zB BK292.out⟩, ⟨zB BK295.out⟩, ⟨zB BK299.out⟩, ⟨zH⟩⟩
            ·rw [if_neg c43] at H
             have c43b0 : decide (0 ≤ t309) = false := decide_eq_false c43
             clear c43
             (first | rw [c43b0] | (simp only [i64_w, i32_w]; rw [c43b0]) | skip)
             have H' := Aside0.mk H
             clear H
             go_wp2
             go_meet
             case rel => exact ⟨_, (false), zF, H', ⟨by have := HJ8.out; have := HK2.out; first | omega | exact Nat.le_refl _⟩, ⟨zR HO_296002.out⟩, ⟨zB BK292.out⟩, ⟨zB BK295.out⟩, ⟨zB BK299.out⟩, ⟨zH⟩⟩
           ·replace c42 := Bool.eq_false_iff.mpr c42
            subst c42
            replace H : (impl_DecodeJob.j2 k2 l0 t310 false t309 (wrap64 (rd l0 0)) (wrap64 (rd l0 1)) x296002_2 t296) = some (r1, r2, r3, r4, r5, r6) := by rw [if_neg (show ¬ (false = true) by decide)] at H; exact H
            have H' := Aside0.mk H
            clear H
            go_wp2
            go_meet
            case rel => exact ⟨_, (false), zF, H', ⟨by have := HJ8.out; have := HK2.out; first | omega | exact Nat.le_refl _⟩, ⟨zR HO_296002.out⟩, ⟨zB BK292.out⟩, ⟨zB BK295.out⟩, ⟨zB BK299.out⟩, ⟨zH⟩⟩
          case rest =>
           clear HC38
           (try clear c1);(try clear c2);(try clear c2b0);(try clear c2b1);(try clear p2);(try clear q2);(try clear hx2);(try clear qi2);(try clear c3);(try clear c4);(try clear c5);(try clear c5b0);(try clear c5b1);(try clear c6);(try clear c6b0);(try clear c6b1);(try clear p6);(try clear c13);(try clear c14);(try clear c18);(try clear c21);(try clear c22);(try clear c24);(try clear c25);(try clear c26);(try clear c26b0);(try clear c27);(try clear c28);(try clear c28b0)
           (try clear p29);(try clear q29);(try clear hx29);(try clear qi29);(try clear c30);(try clear c31);(try clear c32);(try clear c39);(try clear c40);(try clear c42);(try clear c43);(try clear c43b0);(try clear hcz19_0);(try clear hcz19_1);(try clear hcz19_2);(try clear hcz19_3);(try clear hcz19_4);(try clear hcz23_0);(try clear hcz23_1);(try clear hcz23_2);(try clear hcz33_0);(try clear hcz33_1);(try clear hcz33_2);(try clear hcz33_3);(try clear hcz33_4)
           (try clear hcz36_0);(try clear hcz36_1);(try clear hcz36_2);(try clear hcz36_3);(try clear hcz36_4);(try clear hcz41_0);(try clear hcz41_1);(try clear hcz41_2);(try clear hcz4_0);(try clear hcz4_1);(try clear hcz4_2);(try clear hcz4_3);(try clear hcz4_4);(try clear hfz19_0);(try clear hfz19_1);(try clear hfz19_2);(try clear hfz19_3);(try clear hfz19_4);(try clear hfz23_0);(try clear hfz23_1);(try clear hfz23_2);(try clear hfz33_0);(try clear hfz33_1)
           (try clear hfz33_2);(try clear hfz33_3);(try clear hfz33_4);(try clear hfz36_0);(try clear hfz36_1);(try clear hfz36_2);(try clear hfz36_3);(try clear hfz36_4);(try clear hfz41_0);(try clear hfz41_1);(try clear hfz41_2);(try clear hfz4_0);(try clear hfz4_1);(try clear hfz4_2);(try clear hfz4_3);(try clear hfz4_4);(try clear hx293_0);(try clear hx294_0);(try clear p2);(try clear p293);(try clear p294);(try clear p6);(try clear q2);(try clear q293)
           (try clear q294)
           obtain ⟨kq, x7_37, rfl, HA, HJ37, HO_296002, BK292, BK295, BK299, HB⟩ := hcut
           cases kq with
           | zero => exact absurd HA.out (by simp [impl_DecodeJob.j2])
           | succ kj37 =>
            have H := HA.out
            clear HA
            simp only [impl_DecodeJob.j2] at H
            have HC44 := Aside0.mk H
            clear H
            go_upto_block 2 with (fail)
            go_cut [6, 7] (fun v6 v7 wc => ∃ (kq : Nat) (x6_43 : Int) (x7_43 : Bool) (x296003_43 : List Int) (u296003 : Value), v6 = .int .i64 x6_43 ∧ v7 = .bool x7_43 ∧ Aside0 (impl_DecodeJob.j4 kq l0 x6_43 x7_43 (wrap64 (rd l0 0)) (wrap64 (rd l0 1)) x296002_2 x296003_43 t296 = some (r1, r2, r3, r4, r5, r6)) ∧ Aside0 (kq ≤ kj37) ∧ Aside0 (Kd.R (Kd.int .i64) 3 wc w.heap.size (fun k_ => some k_ ≠ (u296003 : Value).ownBlock) u296002 x296002_2) ∧ Aside0 (Kd.R (Kd.int .i64) 3 wc w.heap.size (fun k_ => some k_ ≠ (u296002 : Value).ownBlock) u296003 x296003_43) ∧ Aside0 (wc.heap[gb292]? = some (.cells #[.int .i64 0, .int .i64 0, (.slice none 0 0), (.slice none 0 0), .int .i64 0] 99 (0, 0))) ∧ Aside0 (wc.heap[gb295]? = some (.cells #[.int .i64 (wrap64 (rd l0 0)), .int .i64 (wrap64 (rd l0 1)), u296002, u296003, .int .i64 t296] 99 (0, 0))) ∧ Aside0 (wc.heap[gb299]? = some (.cells #[.pointer (some ⟨gb295, 2, none⟩), .pointer (some ⟨gb295, 3, none⟩)] 148 (0, 0))) ∧ Aside0 (Below w.heap.size w wc))
            case first =>
             have H := HC44.out
             clear HC44
             have H' := Aside0.mk H
             clear H
             go_wp2
             go_loopg [6, 7, 13] kj37 (fun kq v6 v7 v13 w' => ∃ (x6_4 : Int) (x7_4 : Bool) (x13_4 : Int) (x296003_4 : List Int) (u296003 : Value), v6 = .int .i64 x6_4 ∧ v7 = .bool x7_4 ∧ v13 = .int .i64 x13_4 ∧ Aside0 (impl_DecodeJob.l1 kq l0 x6_4 x7_4 t309 x13_4 (wrap64 (rd l0 0)) (wrap64 (rd l0 1)) x296002_2 x296003_4 t296 = some (r1, r2, r3, r4, r5, r6)) ∧ Aside0 (kq ≤ kj37) ∧ Aside0 (Kd.R (Kd.int .i64) 3 w' w.heap.size (fun k_ => some k_ ≠ (u296003 : Value).ownBlock) u296002 x296002_2) ∧ Aside0 (Kd.R (Kd.int .i64) 3 w' w.heap.size (fun k_ => some k_ ≠ (u296002 : Value).ownBlock) u296003 x296003_4) ∧ Aside0 (w'.heap[gb292]? = some (.cells #[.int .i64 0, .int .i64 0, (.slice none 0 0), (.slice none 0 0), .int .i64 0] 99 (0, 0))) ∧ Aside0 (w'.heap[gb295]? = some (.cells #[.int .i64 (wrap64 (rd l0 0)), .int .i64 (wrap64 (rd l0 1)), u296002, u296003, .int .i64 t296] 99 (0, 0))) ∧ Aside0 (w'.heap[gb299]? = some (.cells #[.pointer (some ⟨gb295, 2, none⟩), .pointer (some ⟨gb295, 3, none⟩)] 148 (0, 0))) ∧ Aside0 (Below w.heap.size w w'))
             case atStart => exact ⟨(t310), (x7_37), (0), (([] : List Int)), (.slice none 0 0), zF, zF, zF, H', ⟨Nat.le_refl _⟩, ⟨by (with_reducible repeat (first | apply Kd.R_alloc | apply Kd.R_drewN | apply Kd.R_drew)); exact Kd.R_mono HO_296002.out (fun _ hk => (by simp [Value.ownBlock]))⟩, ⟨by first | exact Kd.R_nil _ _ _ _ _ | exact Kd.N_nil _ _ _ _ _ | exact Kd.V_nil _ _ _ _ _ | exact Kd.Q_nil _ _ _ _ _ | exact Kd.S_nil _ _ _ _ _⟩, ⟨zB BK292.out⟩, ⟨zB BK295.out⟩, ⟨zB BK299.out⟩, ⟨zH⟩⟩
             case round =>
              clear H'
              (try clear c1);(try clear c2);(try clear c2b0);(try clear c2b1);(try clear p2);(try clear q2);(try clear hx2);(try clear qi2);(try clear c3);(try clear c4);(try clear c5);(try clear c5b0);(try clear c5b1);(try clear c6);(try clear c6b0);(try clear c6b1);(try clear p6);(try clear c13);(try clear c14);(try clear c18);(try clear c21);(try clear c22);(try clear c24);(try clear c25);(try clear c26);(try clear c26b0);(try clear c27);(try clear c28);(try clear c28b0)
              (try clear p29);(try clear q29);(try clear hx29);(try clear qi29);(try clear c30);(try clear c31);(try clear c32);(try clear c39);(try clear c40);(try clear c42);(try clear c43);(try clear c43b0);(try clear hcz19_0);(try clear hcz19_1);(try clear hcz19_2);(try clear hcz19_3);(try clear hcz19_4);(try clear hcz23_0);(try clear hcz23_1);(try clear hcz23_2);(try clear hcz33_0);(try clear hcz33_1);(try clear hcz33_2);(try clear hcz33_3);(try clear hcz33_4)
              (try clear hcz36_0);(try clear hcz36_1);(try clear hcz36_2);(try clear hcz36_3);(try clear hcz36_4);(try clear hcz41_0);(try clear hcz41_1);(try clear hcz41_2);(try clear hcz4_0);(try clear hcz4_1);(try clear hcz4_2);(try clear hcz4_3);(try clear hcz4_4);(try clear hfz19_0);(try clear hfz19_1);(try clear hfz19_2);(try clear hfz19_3);(try clear hfz19_4);(try clear hfz23_0);(try clear hfz23_1);(try clear hfz23_2);(try clear hfz33_0);(try clear hfz33_1)
              (try clear hfz33_2);(try clear hfz33_3);(try clear hfz33_4);(try clear hfz36_0);(try clear hfz36_1);(try clear hfz36_2);(try clear hfz36_3);(try clear hfz36_4);(try clear hfz41_0);(try clear hfz41_1);(try clear hfz41_2);(try clear hfz4_0);(try clear hfz4_1);(try clear hfz4_2);(try clear hfz4_3);(try clear hfz4_4);(try clear hx293_0);(try clear hx294_0);(try clear p2);(try clear p29);(try clear p293);(try clear p294);(try clear p6);(try clear q2)
              (try clear q29);(try clear q293);(try clear q294)
              obtain ⟨x6_4, x7_4, x13_4, x296003_4, u296003, rfl, rfl, rfl, HA, HK4, HO_296002, HO_296003, BK292, BK295, BK299, HB⟩ := hrel
              cases gk with
              | zero => exact absurd HA.out (by simp [impl_DecodeJob.l1])
              | succ k4 =>
               have H := HA.out
               clear HA
               simp only [impl_DecodeJob.l1] at H
               by_cases c45 : x7_4 = true
               ·subst c45
                replace H : (if x13_4 < t309 then ((impl_takeNumber.f k4 l0 x6_4).bind fun bt312 => (if x296003_4.length < 17592186044416 then (impl_DecodeJob.l1 k4 l0 bt312.2.1 bt312.2.2 t309 (wrap64 (x13_4 + 1)) (wrap64 (rd l0 0)) (wrap64 (rd l0 1)) x296002_2 (x296003_4 ++ [bt312.1]) t296) else (none))) else (impl_DecodeJob.j4 k4 l0 x6_4 true (wrap64 (rd l0 0)) (wrap64 (rd l0 1)) x296002_2 x296003_4 t296)) = some (r1, r2, r3, r4, r5, r6) := by rw [if_pos rfl] at H; exact H
                by_cases c46 : x13_4 < t309
                ·rw [if_pos c46] at H
                 have c46b0 : decide (x13_4 < t309) = true := decide_eq_true c46
                 clear c46
                 (first | rw [c46b0] | (simp only [i64_w, i32_w]; rw [c46b0]) | skip)
                 replace H := Option.bind_eq_some_iff.mp H
                 obtain ⟨⟨t312, t313, t314⟩, A470, H⟩ := H
                 replace H : (if x296003_4.length < 17592186044416 then (impl_DecodeJob.l1 k4 l0 t313 t314 t309 (wrap64 (x13_4 + 1)) (wrap64 (rd l0 0)) (wrap64 (rd l0 1)) x296002_2 (x296003_4 ++ [t312]) t296) else (none)) = some (r1, r2, r3, r4, r5, r6) := H
                 have A47 := Aside0.mk A470
                 clear A470
                 by_cases c48 : x296003_4.length < 17592186044416
                 ·rw [if_pos c48] at H
                  have LMc48 := Aside0.mk c48
                  clear c48
                  obtain ⟨y315, hy315⟩ : ∃ y_ : List Int, y_ = (x296003_4 ++ [t312]) := ⟨_, rfl⟩
                  replace H : (impl_DecodeJob.l1 k4 l0 t313 t314 t309 (wrap64 (x13_4 + 1)) (wrap64 (rd l0 0)) (wrap64 (rd l0 1)) x296002_2 y315 t296) = some (r1, r2, r3, r4, r5, r6) := by first | (rw [hy315]; with_reducible exact H) | (have H2_ := (Option.bind_some _ _).symm.trans H; rw [hy315]; with_reducible exact H2_) | (have H2_ := (Option.bind_some _ _).symm.trans H; with_reducible exact H2_) | with_reducible exact H | (rw [hy315]; exact H) | exact H
                  have Ny315 := Aside0.mk hy315
                  clear hy315
                  have H' := Aside0.mk H
                  clear H
                  go_wp2_with (first | ((with_reducible refine gate_callee (f := 148) rfl ?_); refine goesL_ (some 74) rfl rfl Try.func148 (by kernel_rfl) rfl #[.slice (some ad293) l0.length c0, .int .i64 x6_4] rfl zM ?_; (with_reducible refine (impl_takeNumber.calls k4 _ _ l0 x6_4 t312 t313 t314 _ ?side1 ?side2 A47.out).mono ?_); (case side1 => exact zC (Kd.C_below HR0.out HB.out)); (case side2 => exact HC0.out); rintro e w' ⟨rfl, ⟨nd, rfl⟩⟩; refine ⟨_, rfl, ?_⟩; (try (rw [drewN_self wr]; generalize hq_ : World.drewN wr _ = wr; have n0_ : Aside0 (Kd.R (Kd.int .i64) 3 wr w.heap.size (fun k_ => some k_ ≠ (u296003 : Value).ownBlock) u296002 x296002_2) := ⟨by rw [← hq_]; exact (zR HO_296002.out)⟩; have n1_ : Aside0 (Kd.R (Kd.int .i64) 3 wr w.heap.size (fun k_ => some k_ ≠ (u296002 : Value).ownBlock) u296003 x296003_4) := ⟨by rw [← hq_]; exact (zR HO_296003.out)⟩; have n2_ : Aside0 (wr.heap[gb292]? = some (.cells #[.int .i64 0, .int .i64 0, .slice none 0 0, .slice none 0 0, .int .i64 0] 99 (0, 0))) := ⟨by rw [← hq_]; exact (zB BK292.out)⟩; have n3_ : Aside0 (wr.heap[gb295]? = some (.cells #[.int .i64 (wrap64 (rd l0 0)), .int .i64 (wrap64 (rd l0 1)), u296002, u296003, .int .i64 t296] 99 (0, 0))) := ⟨by rw [← hq_]; exact (zB BK295.out)⟩; have n4_ : Aside0 (wr.heap[gb299]? = some (.cells #[.pointer (some ⟨gb295, 2, none⟩), .pointer (some ⟨gb295, 3, none⟩)] 148 (0, 0))) := ⟨by rw [← hq_]; exact (zB BK299.out)⟩; have n5_ : Aside0 (Below w.heap.size w wr) := ⟨by rw [← hq_]; exact zH⟩; clear HO_296002 HO_296003 BK292 BK295 BK299 HB hq_; have HO_296002 := n0_; have HO_296003 := n1_; have BK292 := n2_; have BK295 := n3_; have BK299 := n4_; have HB := n5_; clear n0_ n1_ n2_ n3_ n4_ n5_)); have hnb49 := NB295_292.out; have hnc49 := NB292_295.out; have hnb50 := NB295_299.out; have hnc50 := NB299_295.out; obtain ⟨hcz51_0, hcz51_1, hcz51_2, hcz51_3, hcz51_4⟩ := zc5 BK295.out; obtain ⟨hfz51_0, hfz51_1, hfz51_2, hfz51_3, hfz51_4⟩ := zf BK295.out) | ((with_reducible refine gate_builtin (b := .append) (xs := #[.tmp 81, .tmp 83]) rfl ?_); at_builtin; refine Kd.R_append (Kd.int .i64) (w0 := w) w.heap.size rfl (.tmp 81) (.tmp 83) 22 3 (.int .i64 0) 8 rfl Try.underlying22 info3 rfl (by decide) (by omega) u296003 x296003_4 t312 [.int .i64 t312] (fun k_ => some k_ ≠ (u296002 : Value).ownBlock) (fun _ => False) rfl rfl ?aP (fun _ hk => hk.elim) ?aF ?aO ?aB ?aS ?aL ?_; (case aP => exact rfl); (case aB => exact zH); (case aF => exact (fun k_ hk => Kd.fresh' (Kd.R_lt (zR HO_296002.out)) k_ hk)); (case aO => exact (zR HO_296003.out)); (case aS => exact (below_size zH)); (case aL => have := LMc48.out; omega); intro v316 w52 ho hb hg hat; rw [← Ny315.out] at ho; have n0_ := Aside0.mk (Kd.R_after (ok := (fun _ => True)) (by (with_reducible repeat (first | apply Kd.R_alloc | apply Kd.R_drewN | apply Kd.R_drew)); exact Kd.R_mono HO_296002.out (fun _ hk => ⟨trivial, hk⟩)) hg hat); have n1_ := Aside0.mk (blk_grown (g := gb292) (o := .cells #[.int .i64 0, .int .i64 0, .slice none 0 0, .slice none 0 0, .int .i64 0] 99 (0, 0)) (zB BK292.out) hg (Kd.R_ne HO_296003.out BK292.out (by decide))); have n2_ := Aside0.mk (blk_grown (g := gb295) (o := .cells #[.int .i64 (wrap64 (rd l0 0)), .int .i64 (wrap64 (rd l0 1)), u296002, u296003, .int .i64 t296] 99 (0, 0)) (zB BK295.out) hg (Kd.R_ne HO_296003.out BK295.out (by decide))); have n3_ := Aside0.mk (blk_grown (g := gb299) (o := .cells #[.pointer (some ⟨gb295, 2, none⟩), .pointer (some ⟨gb295, 3, none⟩)] 148 (0, 0)) (zB BK299.out) hg (Kd.R_ne HO_296003.out BK299.out (by decide))); have n4_ := Aside0.mk (hb); have n5_ := Aside0.mk (ho); clear HO_296002; clear BK292; clear BK295; clear BK299; clear HB; clear HO_296003; have HO_296002 := n0_; have BK292 := n1_; have BK295 := n2_; have BK299 := n3_; have HB := n4_; have HO317 := n5_; clear n0_ n1_ n2_ n3_ n4_ n5_; clear ho hb hg hat; obtain ⟨Ao53, co53, eo53⟩ := Kd.R_slice HO317.out; subst eo53; obtain ⟨hcz54_0, hcz54_1, hcz54_2, hcz54_3, hcz54_4⟩ := zc5 BK295.out; obtain ⟨hfz54_0, hfz54_1, hfz54_2, hfz54_3, hfz54_4⟩ := zf BK295.out))
                  go_roundg k4
                  case measure => have := HJ8.out; have := HK2.out; have := HJ37.out; have := HK4.out; omega
                  case rel => exact ⟨(t313), (t314), (wrap64 (x13_4 + 1)), (y315), (.slice Ao53 y315.length co53), zF, zF, zF, H', ⟨by have := HJ8.out; have := HK2.out; have := HJ37.out; have := HK4.out; omega⟩, ⟨by (with_reducible repeat (first | apply Kd.R_alloc | apply Kd.R_drewN | apply Kd.R_drew)); exact Kd.R_mono (Kd.R_far (p := ⟨gb295, 3, none⟩) (Kd.R_types HO_296002.out BK295.out (by decide)) (fun _ hk => hk.2) (.slice Ao53 y315.length co53)) (fun _ hk => hk.1.2)⟩, ⟨by (with_reducible repeat (first | apply Kd.R_alloc | apply Kd.R_drewN | apply Kd.R_drew)); exact Kd.R_mono (Kd.R_far (p := ⟨gb295, 3, none⟩) (Kd.R_types HO317.out BK295.out (by decide)) (fun _ hk => hk.2) (.slice Ao53 y315.length co53)) (fun _ hk => hk.1)⟩, ⟨by (repeat refine zL ?_); refine blk_far ?_ NB292_295.out _; (repeat refine zL ?_); exact BK292.out⟩, ⟨by (repeat refine zL ?_); refine blk_put (cs := #[.int .i64 (wrap64 (rd l0 0)), .int .i64 (wrap64 (rd l0 1)), u296002, u296003, .int .i64 t296]) ?_ 3 _ rfl; (repeat refine zL ?_); exact BK295.out⟩, ⟨by (repeat refine zL ?_); refine blk_far ?_ NB299_295.out _; (repeat refine zL ?_); exact BK299.out⟩, ⟨zH⟩⟩
                 ·rw [if_neg c48] at H
                  exact absurd H (by simp)
                ·rw [if_neg c46] at H
                 have c46b0 : decide (x13_4 < t309) = false := decide_eq_false c46
                 clear c46
                 (first | rw [c46b0] | (simp only [i64_w, i32_w]; rw [c46b0]) | skip)
                 have H' := Aside0.mk H
                 clear H
                 go_wp2
                 go_meet
                 case rel => exact ⟨_, (x6_4), (true), (x296003_4), (u296003), zF, zF, H', ⟨by have := HJ8.out; have := HK2.out; have := HJ37.out; have := HK4.out; first | omega | exact Nat.le_refl _⟩, ⟨zR HO_296002.out⟩, ⟨zR HO_296003.out⟩, ⟨zB BK292.out⟩, ⟨zB BK295.out⟩, ⟨zB BK299.out⟩, ⟨zH⟩⟩
               ·replace c45 := Bool.eq_false_iff.mpr c45
                subst c45
                replace H : (impl_DecodeJob.j4 k4 l0 x6_4 false (wrap64 (rd l0 0)) (wrap64 (rd l0 1)) x296002_2 x296003_4 t296) = some (r1, r2, r3, r4, r5, r6) := by rw [if_neg (show ¬ (false = true) by decide)] at H; exact H
                have H' := Aside0.mk H
                clear H
                go_wp2
                go_meet
                case rel => exact ⟨_, (x6_4), (false), (x296003_4), (u296003), zF, zF, H', ⟨by have := HJ8.out; have := HK2.out; have := HJ37.out; have := HK4.out; first | omega | exact Nat.le_refl _⟩, ⟨zR HO_296002.out⟩, ⟨zR HO_296003.out⟩, ⟨zB BK292.out⟩, ⟨zB BK295.out⟩, ⟨zB BK299.out⟩, ⟨zH⟩⟩
            case rest =>
             clear HC44
             (try clear c1);(try clear c2);(try clear c2b0);(try clear c2b1);(try clear p2);(try clear q2);(try clear hx2);(try clear qi2);(try clear c3);(try clear c4);(try clear c5);(try clear c5b0);(try clear c5b1);(try clear c6);(try clear c6b0);(try clear c6b1);(try clear p6);(try clear c13);(try clear c14);(try clear c18);(try clear c21);(try clear c22);(try clear c24);(try clear c25);(try clear c26);(try clear c26b0);(try clear c27);(try clear c28);(try clear c28b0)
             (try clear p29);(try clear q29);(try clear hx29);(try clear qi29);(try clear c30);(try clear c31);(try clear c32);(try clear c39);(try clear c40);(try clear c42);(try clear c43);(try clear c43b0);(try clear c45);(try clear c46);(try clear c46b0);(try clear c48);(try clear c49);(try clear c50);(try clear hcz19_0);(try clear hcz19_1);(try clear hcz19_2);(try clear hcz19_3);(try clear hcz19_4);(try clear hcz23_0);(try clear hcz23_1);(try clear hcz23_2)
             (try clear hcz33_0);(try clear hcz33_1);(try clear hcz33_2);(try clear hcz33_3);(try clear hcz33_4);(try clear hcz36_0);(try clear hcz36_1);(try clear hcz36_2);(try clear hcz36_3);(try clear hcz36_4);(try clear hcz41_0);(try clear hcz41_1);(try clear hcz41_2);(try clear hcz4_0);(try clear hcz4_1);(try clear hcz4_2);(try clear hcz4_3);(try clear hcz4_4);(try clear hcz51_0);(try clear hcz51_1);(try clear hcz51_2);(try clear hcz51_3);(try clear hcz51_4)
             (try clear hcz54_0);(try clear hcz54_1);(try clear hcz54_2);(try clear hcz54_3);(try clear hcz54_4);(try clear hfz19_0);(try clear hfz19_1);(try clear hfz19_2);(try clear hfz19_3);(try clear hfz19_4);(try clear hfz23_0);(try clear hfz23_1);(try clear hfz23_2);(try clear hfz33_0);(try clear hfz33_1);(try clear hfz33_2);(try clear hfz33_3);(try clear hfz33_4);(try clear hfz36_0);(try clear hfz36_1);(try clear hfz36_2);(try clear hfz36_3);(try clear hfz36_4)
             (try clear hfz41_0);(try clear hfz41_1);(try clear hfz41_2);(try clear hfz4_0);(try clear hfz4_1);(try clear hfz4_2);(try clear hfz4_3);(try clear hfz4_4);(try clear hfz51_0);(try clear hfz51_1);(try clear hfz51_2);(try clear hfz51_3);(try clear hfz51_4);(try clear hfz54_0);(try clear hfz54_1);(try clear hfz54_2);(try clear hfz54_3);(try clear hfz54_4);(try clear hx293_0);(try clear hx294_0);(try clear p2);(try clear p29);(try clear p293);(try clear p294)
             (try clear p6);(try clear q2);(try clear q29);(try clear q293);(try clear q294)
             obtain ⟨kq, x6_43, x7_43, x296003_43, u296003, rfl, rfl, HA, HJ43, HO_296002, HO_296003, BK292, BK295, BK299, HB⟩ := hcut
             cases kq with
             | zero => exact absurd HA.out (by simp [impl_DecodeJob.j4])
             | succ kj43 =>
              have H := HA.out
              clear HA
              simp only [impl_DecodeJob.j4] at H
              by_cases c55 : x7_43 = true
              ·subst c55
               replace H : (if x6_43 = (l0.length : Int) then ((impl_isJob.f kj43 (wrap64 (rd l0 0)) (wrap64 (rd l0 1)) x296002_2 x296003_43 t296).bind fun t318 => (if t318 = true then (some ((wrap64 (rd l0 0)), (wrap64 (rd l0 1)), x296002_2, x296003_43, t296, true)) else (some (0, 0, ([] : List Int), ([] : List Int), 0, false)))) else (some (0, 0, ([] : List Int), ([] : List Int), 0, false))) = some (r1, r2, r3, r4, r5, r6) := by rw [if_pos rfl] at H; exact H
               by_cases c56 : x6_43 = (l0.length : Int)
               ·rw [if_pos c56] at H
                have c56b0 : (x6_43 == (l0.length : Int)) = true := beq_iff_eq.mpr c56
                have c56b1 : (x6_43 != (l0.length : Int)) = false := bne_eq_false_iff_eq.mpr c56
                clear c56
                replace H := Option.bind_eq_some_iff.mp H
                obtain ⟨t318, A570, H⟩ := H
                replace H : (if t318 = true then (some ((wrap64 (rd l0 0)), (wrap64 (rd l0 1)), x296002_2, x296003_43, t296, true)) else (some (0, 0, ([] : List Int), ([] : List Int), 0, false))) = some (r1, r2, r3, r4, r5, r6) := H
                have A57 := Aside0.mk A570
                clear A570
                by_cases c58 : t318 = true
                ·subst c58
                 replace H : (some ((wrap64 (rd l0 0)), (wrap64 (rd l0 1)), x296002_2, x296003_43, t296, true)) = some (r1, r2, r3, r4, r5, r6) := by rw [if_pos rfl] at H; exact H
                 simp only [Option.some.injEq, Prod.mk.injEq] at H
                 obtain ⟨rfl, rfl, rfl, rfl, rfl, rfl⟩ := H
                 have hnb59 := NB295_292.out
                 have hnc59 := NB292_295.out
                 have hnb60 := NB295_299.out
                 have hnc60 := NB299_295.out
                 obtain ⟨hcz61_0, hcz61_1, hcz61_2, hcz61_3, hcz61_4⟩ := zc5 BK295.out
                 obtain ⟨hfz61_0, hfz61_1, hfz61_2, hfz61_3, hfz61_4⟩ := zf BK295.out
                 obtain ⟨Ao62, co62, eo62⟩ := Kd.R_slice HO_296002.out
                 subst eo62
                 obtain ⟨Ao63, co63, eo63⟩ := Kd.R_slice HO_296003.out
                 subst eo63
                 (try (go_wp2; rw [rounds_succ]))
                 go_wp2_with (first | (go_at_call 168; (with_reducible refine (impl_isJob.calls kj43 (wrap64 (rd l0 0)) (wrap64 (rd l0 1)) _ _ x296002_2 _ _ x296003_43 t296 true _ ?side1 ?side2 ?side3 ?side4 A57.out).mono ?_); (case side1 => exact zC ((Kd.R_reads' HO_296002.out).2.2)); (case side2 => exact (Kd.R_reads' HO_296002.out).2.1); (case side3 => exact zC ((Kd.R_reads' HO_296003.out).2.2)); (case side4 => exact (Kd.R_reads' HO_296003.out).2.1); rintro e w64 ⟨rfl, hb⟩; have n0_ := Aside0.mk (Kd.R_below (zR HO_296002.out) hb); have n1_ := Aside0.mk (Kd.R_below (zR HO_296003.out) hb); have n2_ := Aside0.mk (blk_below (g := gb292) (o := .cells #[.int .i64 0, .int .i64 0, .slice none 0 0, .slice none 0 0, .int .i64 0] 99 (0, 0)) (zB BK292.out) hb); have n3_ := Aside0.mk (blk_below (g := gb295) (o := .cells #[.int .i64 (wrap64 (rd l0 0)), .int .i64 (wrap64 (rd l0 1)), .slice Ao62 x296002_2.length co62, .slice Ao63 x296003_43.length co63, .int .i64 t296] 99 (0, 0)) (zB BK295.out) hb); have n4_ := Aside0.mk (blk_below (g := gb299) (o := .cells #[.pointer (some ⟨gb295, 2, none⟩), .pointer (some ⟨gb295, 3, none⟩)] 148 (0, 0)) (zB BK299.out) hb); have n5_ := Aside0.mk (below_step zH hb); clear HO_296002; clear HO_296003; clear BK292; clear BK295; clear BK299; clear HB; have HO_296002 := n0_; have HO_296003 := n1_; have BK292 := n2_; have BK295 := n3_; have BK299 := n4_; have HB := n5_; clear n0_ n1_ n2_ n3_ n4_ n5_; (try clear hb); (try clear hb2); (try clear hk); (try clear hi); obtain ⟨hcz65_0, hcz65_1, hcz65_2, hcz65_3, hcz65_4⟩ := zc5 BK295.out; obtain ⟨hfz65_0, hfz65_1, hfz65_2, hfz65_3, hfz65_4⟩ := zf BK295.out; have hnb66 := NB292_299.out; have hnc66 := NB299_292.out; obtain ⟨hcz67_0, hcz67_1, hcz67_2, hcz67_3, hcz67_4⟩ := zc5 BK292.out; obtain ⟨hfz67_0, hfz67_1, hfz67_2, hfz67_3, hfz67_4⟩ := zf BK292.out))
                 refine bodyPost_ret (results_ct rfl _ _ gb292 99 #[.int .i64 (wrap64 (rd l0 0)), .int .i64 (wrap64 (rd l0 1)), .slice Ao62 x296002_2.length co62, .slice Ao63 x296003_43.length co63, .int .i64 t296] (0, 0) _ rfl (by (repeat refine zL ?_); refine blk_put (cs := #[.int .i64 (wrap64 (rd l0 0)), .int .i64 (wrap64 (rd l0 1)), .slice Ao62 x296002_2.length co62, .slice Ao63 x296003_43.length co63, .int .i64 0]) ?_ 4 _ rfl; (repeat refine zL ?_); refine blk_put (cs := #[.int .i64 (wrap64 (rd l0 0)), .int .i64 (wrap64 (rd l0 1)), .slice Ao62 x296002_2.length co62, .slice none 0 0, .int .i64 0]) ?_ 3 _ rfl; (repeat refine zL ?_); refine blk_put (cs := #[.int .i64 (wrap64 (rd l0 0)), .int .i64 (wrap64 (rd l0 1)), .slice none 0 0, .slice none 0 0, .int .i64 0]) ?_ 2 _ rfl; (repeat refine zL ?_); refine blk_put (cs := #[.int .i64 (wrap64 (rd l0 0)), .int .i64 0, .slice none 0 0, .slice none 0 0, .int .i64 0]) ?_ 1 _ rfl; (repeat refine zL ?_); refine blk_put (cs := #[.int .i64 0, .int .i64 0, .slice none 0 0, .slice none 0 0, .int .i64 0]) ?_ 0 _ rfl; (repeat refine zL ?_); exact BK292.out) Try.underlying99 rfl (by kernel_rfl)) rfl ?_
                 exact ⟨_, _, zE, by (with_reducible repeat (first | apply Kd.R_alloc | apply Kd.R_drewN | apply Kd.R_drew)); exact Kd.R_mono (Kd.R_far (p := ⟨gb292, 4, none⟩) (Kd.R_far (p := ⟨gb292, 3, none⟩) (Kd.R_far (p := ⟨gb292, 2, none⟩) (Kd.R_far (p := ⟨gb292, 1, none⟩) (Kd.R_far (p := ⟨gb292, 0, none⟩) (Kd.R_types HO_296002.out BK292.out (by decide)) (fun _ hk => hk.2) (.int .i64 (wrap64 (rd l0 0)))) (fun _ hk => hk.2) (.int .i64 (wrap64 (rd l0 1)))) (fun _ hk => hk.2) (.slice Ao62 x296002_2.length co62)) (fun _ hk => hk.2) (.slice Ao63 x296003_43.length co63)) (fun _ hk => hk.2) (.int .i64 t296)) (fun _ hk => hk.1), by (with_reducible repeat (first | apply Kd.R_alloc | apply Kd.R_drewN | apply Kd.R_drew)); exact Kd.R_mono (Kd.R_far (p := ⟨gb292, 4, none⟩) (Kd.R_far (p := ⟨gb292, 3, none⟩) (Kd.R_far (p := ⟨gb292, 2, none⟩) (Kd.R_far (p := ⟨gb292, 1, none⟩) (Kd.R_far (p := ⟨gb292, 0, none⟩) (Kd.R_types HO_296003.out BK292.out (by decide)) (fun _ hk => hk.2) (.int .i64 (wrap64 (rd l0 0)))) (fun _ hk => hk.2) (.int .i64 (wrap64 (rd l0 1)))) (fun _ hk => hk.2) (.slice Ao62 x296002_2.length co62)) (fun _ hk => hk.2) (.slice Ao63 x296003_43.length co63)) (fun _ hk => hk.2) (.int .i64 t296)) (fun _ hk => hk.1), zH⟩
                ·replace c58 := Bool.eq_false_iff.mpr c58
                 subst c58
                 replace H : (some (0, 0, ([] : List Int), ([] : List Int), 0, false)) = some (r1, r2, r3, r4, r5, r6) := by rw [if_neg (show ¬ (false = true) by decide)] at H; exact H
                 simp only [Option.some.injEq, Prod.mk.injEq] at H
                 obtain ⟨rfl, rfl, rfl, rfl, rfl, rfl⟩ := H
                 have hnb68 := NB295_292.out
                 have hnc68 := NB292_295.out
                 have hnb69 := NB295_299.out
                 have hnc69 := NB299_295.out
                 obtain ⟨hcz70_0, hcz70_1, hcz70_2, hcz70_3, hcz70_4⟩ := zc5 BK295.out
                 obtain ⟨hfz70_0, hfz70_1, hfz70_2, hfz70_3, hfz70_4⟩ := zf BK295.out
                 obtain ⟨Ao71, co71, eo71⟩ := Kd.R_slice HO_296002.out
                 subst eo71
                 obtain ⟨Ao72, co72, eo72⟩ := Kd.R_slice HO_296003.out
                 subst eo72
                 (try (go_wp2; rw [rounds_succ]))
                 go_wp2_with (first | (go_at_call 168; (with_reducible refine (impl_isJob.calls kj43 (wrap64 (rd l0 0)) (wrap64 (rd l0 1)) _ _ x296002_2 _ _ x296003_43 t296 false _ ?side1 ?side2 ?side3 ?side4 A57.out).mono ?_); (case side1 => exact zC ((Kd.R_reads' HO_296002.out).2.2)); (case side2 => exact (Kd.R_reads' HO_296002.out).2.1); (case side3 => exact zC ((Kd.R_reads' HO_296003.out).2.2)); (case side4 => exact (Kd.R_reads' HO_296003.out).2.1); rintro e w73 ⟨rfl, hb⟩; have n0_ := Aside0.mk (Kd.R_below (zR HO_296002.out) hb); have n1_ := Aside0.mk (Kd.R_below (zR HO_296003.out) hb); have n2_ := Aside0.mk (blk_below (g := gb292) (o := .cells #[.int .i64 0, .int .i64 0, .slice none 0 0, .slice none 0 0, .int .i64 0] 99 (0, 0)) (zB BK292.out) hb); have n3_ := Aside0.mk (blk_below (g := gb295) (o := .cells #[.int .i64 (wrap64 (rd l0 0)), .int .i64 (wrap64 (rd l0 1)), .slice Ao71 x296002_2.length co71, .slice Ao72 x296003_43.length co72, .int .i64 t296] 99 (0, 0)) (zB BK295.out) hb); have n4_ := Aside0.mk (blk_below (g := gb299) (o := .cells #[.pointer (some ⟨gb295, 2, none⟩), .pointer (some ⟨gb295, 3, none⟩)] 148 (0, 0)) (zB BK299.out) hb); have n5_ := Aside0.mk (below_step zH hb); clear HO_296002; clear HO_296003; clear BK292; clear BK295; clear BK299; clear HB; have HO_296002 := n0_; have HO_296003 := n1_; have BK292 := n2_; have BK295 := n3_; have BK299 := n4_; have HB := n5_; clear n0_ n1_ n2_ n3_ n4_ n5_; (try clear hb); (try clear hb2); (try clear hk); (try clear hi); have hnb74 := NB292_299.out; have hnc74 := NB299_292.out; obtain ⟨hcz75_0, hcz75_1, hcz75_2, hcz75_3, hcz75_4⟩ := zc5 BK292.out; obtain ⟨hfz75_0, hfz75_1, hfz75_2, hfz75_3, hfz75_4⟩ := zf BK292.out))
                 refine bodyPost_ret (results_ct rfl _ _ gb292 99 #[.int .i64 0, .int .i64 0, .slice none 0 0, .slice none 0 0, .int .i64 0] (0, 0) _ rfl (by (repeat refine zL ?_); refine blk_put (cs := #[.int .i64 0, .int .i64 0, .slice none 0 0, .slice none 0 0, .int .i64 0]) ?_ 4 _ rfl; (repeat refine zL ?_); refine blk_put (cs := #[.int .i64 0, .int .i64 0, .slice none 0 0, .slice none 0 0, .int .i64 0]) ?_ 3 _ rfl; (repeat refine zL ?_); refine blk_put (cs := #[.int .i64 0, .int .i64 0, .slice none 0 0, .slice none 0 0, .int .i64 0]) ?_ 2 _ rfl; (repeat refine zL ?_); refine blk_put (cs := #[.int .i64 0, .int .i64 0, .slice none 0 0, .slice none 0 0, .int .i64 0]) ?_ 1 _ rfl; (repeat refine zL ?_); refine blk_put (cs := #[.int .i64 0, .int .i64 0, .slice none 0 0, .slice none 0 0, .int .i64 0]) ?_ 0 _ rfl; (repeat refine zL ?_); exact BK292.out) Try.underlying99 rfl (by kernel_rfl)) rfl ?_
                 exact ⟨_, _, zE, zN, zN, zH⟩
               ·rw [if_neg c56] at H
                have c56b0 : (x6_43 == (l0.length : Int)) = false := beq_eq_false_iff_ne.mpr c56
                have c56b1 : (x6_43 != (l0.length : Int)) = true := bne_iff_ne.mpr c56
                simp only [Option.some.injEq, Prod.mk.injEq] at H
                obtain ⟨rfl, rfl, rfl, rfl, rfl, rfl⟩ := H
                have hnb76 := NB292_295.out
                have hnc76 := NB295_292.out
                have hnb77 := NB292_299.out
                have hnc77 := NB299_292.out
                obtain ⟨hcz78_0, hcz78_1, hcz78_2, hcz78_3, hcz78_4⟩ := zc5 BK292.out
                obtain ⟨hfz78_0, hfz78_1, hfz78_2, hfz78_3, hfz78_4⟩ := zf BK292.out
                (try (go_wp2; rw [rounds_succ]))
                go_wp2
                refine bodyPost_ret (results_ct rfl _ _ gb292 99 #[.int .i64 0, .int .i64 0, .slice none 0 0, .slice none 0 0, .int .i64 0] (0, 0) _ rfl (by (repeat refine zL ?_); refine blk_put (cs := #[.int .i64 0, .int .i64 0, .slice none 0 0, .slice none 0 0, .int .i64 0]) ?_ 4 _ rfl; (repeat refine zL ?_); refine blk_put (cs := #[.int .i64 0, .int .i64 0, .slice none 0 0, .slice none 0 0, .int .i64 0]) ?_ 3 _ rfl; (repeat refine zL ?_); refine blk_put (cs := #[.int .i64 0, .int .i64 0, .slice none 0 0, .slice none 0 0, .int .i64 0]) ?_ 2 _ rfl; (repeat refine zL ?_); refine blk_put (cs := #[.int .i64 0, .int .i64 0, .slice none 0 0, .slice none 0 0, .int .i64 0]) ?_ 1 _ rfl; (repeat refine zL ?_); refine blk_put (cs := #[.int .i64 0, .int .i64 0, .slice none 0 0, .slice none 0 0, .int .i64 0]) ?_ 0 _ rfl; (repeat refine zL ?_); exact BK292.out) Try.underlying99 rfl (by kernel_rfl)) rfl ?_
                exact ⟨_, _, zE, zN, zN, zH⟩
              ·replace c55 := Bool.eq_false_iff.mpr c55
               subst c55
               replace H : (some (0, 0, ([] : List Int), ([] : List Int), 0, false)) = some (r1, r2, r3, r4, r5, r6) := by rw [if_neg (show ¬ (false = true) by decide)] at H; exact H
               simp only [Option.some.injEq, Prod.mk.injEq] at H
               obtain ⟨rfl, rfl, rfl, rfl, rfl, rfl⟩ := H
               have hnb79 := NB292_295.out
               have hnc79 := NB295_292.out
               have hnb80 := NB292_299.out
               have hnc80 := NB299_292.out
               obtain ⟨hcz81_0, hcz81_1, hcz81_2, hcz81_3, hcz81_4⟩ := zc5 BK292.out
               obtain ⟨hfz81_0, hfz81_1, hfz81_2, hfz81_3, hfz81_4⟩ := zf BK292.out
               (try (go_wp2; rw [rounds_succ]))
               go_wp2
               refine bodyPost_ret (results_ct rfl _ _ gb292 99 #[.int .i64 0, .int .i64 0, .slice none 0 0, .slice none 0 0, .int .i64 0] (0, 0) _ rfl (by (repeat refine zL ?_); refine blk_put (cs := #[.int .i64 0, .int .i64 0, .slice none 0 0, .slice none 0 0, .int .i64 0]) ?_ 4 _ rfl; (repeat refine zL ?_); refine blk_put (cs := #[.int .i64 0, .int .i64 0, .slice none 0 0, .slice none 0 0, .int .i64 0]) ?_ 3 _ rfl; (repeat refine zL ?_); refine blk_put (cs := #[.int .i64 0, .int .i64 0, .slice none 0 0, .slice none 0 0, .int .i64 0]) ?_ 2 _ rfl; (repeat refine zL ?_); refine blk_put (cs := #[.int .i64 0, .int .i64 0, .slice none 0 0, .slice none 0 0, .int .i64 0]) ?_ 1 _ rfl; (repeat refine zL ?_); refine blk_put (cs := #[.int .i64 0, .int .i64 0, .slice none 0 0, .slice none 0 0, .int .i64 0]) ?_ 0 _ rfl; (repeat refine zL ?_); exact BK292.out) Try.underlying99 rfl (by kernel_rfl)) rfl ?_
               exact ⟨_, _, zE, zN, zN, zH⟩
        ·replace c27 := Bool.eq_false_iff.mpr c27
         subst c27
         replace H : (some (0, 0, ([] : List Int), ([] : List Int), 0, false)) = some (r1, r2, r3, r4, r5, r6) := by rw [if_neg (show ¬ (false = true) by decide)] at H; exact H
         simp only [Option.some.injEq, Prod.mk.injEq] at H
         obtain ⟨rfl, rfl, rfl, rfl, rfl, rfl⟩ := H
         have hnb82 := NB292_295.out
         have hnc82 := NB295_292.out
         have hnb83 := NB292_299.out
         have hnc83 := NB299_292.out
         obtain ⟨hcz84_0, hcz84_1, hcz84_2, hcz84_3, hcz84_4⟩ := zc5 BK292.out
         obtain ⟨hfz84_0, hfz84_1, hfz84_2, hfz84_3, hfz84_4⟩ := zf BK292.out
         (try (go_wp2; rw [rounds_succ]))
         go_wp2
         refine bodyPost_ret (results_ct rfl _ _ gb292 99 #[.int .i64 0, .int .i64 0, .slice none 0 0, .slice none 0 0, .int .i64 0] (0, 0) _ rfl (by (repeat refine zL ?_); refine blk_put (cs := #[.int .i64 0, .int .i64 0, .slice none 0 0, .slice none 0 0, .int .i64 0]) ?_ 4 _ rfl; (repeat refine zL ?_); refine blk_put (cs := #[.int .i64 0, .int .i64 0, .slice none 0 0, .slice none 0 0, .int .i64 0]) ?_ 3 _ rfl; (repeat refine zL ?_); refine blk_put (cs := #[.int .i64 0, .int .i64 0, .slice none 0 0, .slice none 0 0, .int .i64 0]) ?_ 2 _ rfl; (repeat refine zL ?_); refine blk_put (cs := #[.int .i64 0, .int .i64 0, .slice none 0 0, .slice none 0 0, .int .i64 0]) ?_ 1 _ rfl; (repeat refine zL ?_); refine blk_put (cs := #[.int .i64 0, .int .i64 0, .slice none 0 0, .slice none 0 0, .int .i64 0]) ?_ 0 _ rfl; (repeat refine zL ?_); exact BK292.out) Try.underlying99 rfl (by kernel_rfl)) rfl ?_
         exact ⟨_, _, zE, zN, zN, zH⟩
   ·rw [if_neg c6] at H
    exact absurd H (by simp)
  ·rw [if_neg c5] at H
   exact absurd H (by simp)

end Go.Proofs.Ytabicblkdgpogaa.QFnExactPutEvent
