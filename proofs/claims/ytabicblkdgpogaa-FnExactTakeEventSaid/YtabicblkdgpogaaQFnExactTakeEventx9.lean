-- Made by this session's program (wip/tools/myprint.py) out of the translation; Lean checks it.
import Derived.Test.YtabicblkdgpogaaQFnExactTakeEventx0
import Derived.Test.YtabicblkdgpogaaQFnExactTakeEventx2
import Derived.Test.YtabicblkdgpogaaQFnExactTakeEventx7
import Derived.Test.YtabicblkdgpogaaQFnExactTakeEventx8
namespace Go.Proofs.Ytabicblkdgpogaa.QFnExactTakeEvent
open Go.RowKit Go.Proofs.YtabicblkdgpogaaW.PrintWords Go.Proofs.YtabicblkdgpogaaW.PrintLast Go.Proofs.YtabicblkdgpogaaW.PrintMore
attribute [local go_sem] max2_int min2_int max_two min_two max_three min_three max_four min_four   -- for this text's walks alone
set_option linter.unusedVariables false
set_option linter.unusedSimpArgs false

/-! ### spec_TakeEvent: function 44 -/
def spec_TakeEvent.j0 : Nat → Bool → Int → Int → List Int → Option (Int × Int × Int × Int × List Int × Bool)
 | 0, _, _, _, _ => none
 | k + 1, x16, x203000, x203001, x203002 => if x16 = true then (some (0, 0, 0, 0, ([] : List Int), false)) else ((spec_TakeNumber.f k x203002 1).bind fun bt205 => (if bt205.2.2 = true then (if 0 < (x203002.length : Int) then (if 0 ≤ bt205.2.1 then (if bt205.2.1 ≤ (x203002.length : Int) then ((spec_l01Bytes.f k (x203002.drop (bt205.2.1 : Int).toNat)).bind fun t210 => ((spec_EventOk.f k (wrap64 (rd x203002 0)) x203000 x203001 bt205.1 t210).bind fun t214 => (if t214 = true then (some (wrap64 (rd x203002 0), x203000, x203001, bt205.1, t210, true)) else (some (0, 0, 0, 0, ([] : List Int), false))))) else (none)) else (none)) else (none)) else (some (0, 0, 0, 0, ([] : List Int), false))))
def spec_TakeEvent.f (k : Nat) (a0_0 : Int) (a0_1 : Int) (l0_2 : List Int) : Option (Int × Int × Int × Int × List Int × Bool) := (spec_FrameOk.f a0_0 a0_1 l0_2).bind fun t204 => (if t204 = true then (spec_TakeEvent.j0 k (decide ((l0_2.length : Int) < 2)) a0_0 a0_1 l0_2) else (spec_TakeEvent.j0 k true a0_0 a0_1 l0_2))
theorem spec_TakeEvent.mono_l : ∀ k, (∀ y0 y1 y2 y3, LeO (spec_TakeEvent.j0 k y0 y1 y2 y3) (spec_TakeEvent.j0 (k + 1) y0 y1 y2 y3))
 | 0 => fun _ _ _ _ r h => by simp [spec_TakeEvent.j0] at h
 | k + 1 => by
  have ih0 := spec_TakeEvent.mono_l k
  ·intro y0 y1 y2 y3
   unfold spec_TakeEvent.j0
   repeat' first
   | (with_reducible exact ih0 _ _ _ _)
   | (with_reducible exact spec_EventOk.mono _ _ _ _ _ _)
   | (with_reducible exact spec_TakeNumber.mono _ _ _)
   | (with_reducible exact spec_l01Bytes.mono _ _)
   | (with_reducible exact LeO.refl _)
   | (with_reducible exact LeO.none _)
   | (with_reducible refine LeO.ite ?_ ?_)
   | (with_reducible refine LeO.bind ?_ (fun _ => ?_))
   | exact ih0 _ _ _ _
   | exact spec_EventOk.mono _ _ _ _ _ _
   | exact spec_TakeNumber.mono _ _ _
   | exact spec_l01Bytes.mono _ _
   | exact LeO.none _
   | refine LeO.ite ?_ ?_
   | refine LeO.bind ?_ (fun _ => ?_)
theorem spec_TakeEvent.mono : ∀ a0 a1 a2 k, LeO (spec_TakeEvent.f k a0 a1 a2) (spec_TakeEvent.f (k + 1) a0 a1 a2) := by
 intro a0 a1 a2 k
 have ih0 := spec_TakeEvent.mono_l k
 unfold spec_TakeEvent.f
 repeat' first
   | (with_reducible exact ih0 _ _ _ _)
   | (with_reducible exact spec_EventOk.mono _ _ _ _ _ _)
   | (with_reducible exact spec_TakeNumber.mono _ _ _)
   | (with_reducible exact spec_l01Bytes.mono _ _)
   | (with_reducible exact LeO.refl _)
   | (with_reducible exact LeO.none _)
   | (with_reducible refine LeO.ite ?_ ?_)
   | (with_reducible refine LeO.bind ?_ (fun _ => ?_))
   | exact ih0 _ _ _ _
   | exact spec_EventOk.mono _ _ _ _ _ _
   | exact spec_TakeNumber.mono _ _ _
   | exact spec_l01Bytes.mono _ _
   | exact LeO.none _
   | refine LeO.ite ?_ ?_
   | refine LeO.bind ?_ (fun _ => ?_)
def spec_TakeEvent.T6 : Bool × List (List Nat × List Nat) := (true, [([], []), ([0], [0]), ([1], [1]), ([2], [2]), ([3], [3]), ([], []), ([5], [5]), ([], []), ([7], [7]), ([], []), ([], []), ([10], [10]), ([], []), ([11, 12], [11, 12]), ([13], [13]), ([4, 6, 8, 9, 14], [4, 6, 8, 9, 14]), ([], []), ([16, 15, 14, 0, 1, 2, 3, 4, 5, 6, 7, 8, 9, 10, 11, 12, 13, 14, 15, 16], [15, 16])])
def spec_TakeEvent.B6 : List Nat := [0, 1, 3, 7, 15, 0, 32, 0, 128, 0, 0, 1024, 0, 7168, 15360, 32767, 0, 131071]
theorem spec_TakeEvent.tab6 : rtab .any (opsOf Try.f44 6) = spec_TakeEvent.T6 := by kernel_rfl
theorem spec_TakeEvent.bits6 : waitsOk spec_TakeEvent.T6.2 spec_TakeEvent.B6 = true := by kernel_rfl
set_option maxHeartbeats 8000000 in
set_option maxRecDepth 100000 in
theorem spec_TakeEvent.calls (k : Nat) (a0_0 : Int) (a0_1 : Int) (A0_2 : Option Addr) (c0_2 : Nat) (l0_2 : List Int) (r1 : Int) (r2 : Int) (r3 : Int) (r4 : Int) (r5 : List Int) (r6 : Bool) (w : World) (hr0_2 : Kd.C (Kd.int .u8) w A0_2 l0_2.length l0_2) (hc0_2 : l0_2.length ≤ c0_2) (h : spec_TakeEvent.f k a0_0 a0_1 l0_2 = some (r1, r2, r3, r4, r5, r6)) :
  Calls Try.prog 44 #[.agg #[.int .i64 a0_0, .int .i64 a0_1, .slice A0_2 l0_2.length c0_2]] w fun e w' => ∃ v4_ : Value, e = .returned (.tuple #[.agg #[.int .i64 r1, .int .i64 r2, .int .i64 r3, .int .i64 r4, v4_], .bool r6]) ∧ Kd.R (Kd.int .u8) 5 w' w.heap.size (fun _ => True) v4_ r5 ∧ Below w.heap.size w w' := by
 have hu62 := Try.underlying62
 have hu44 := Try.underlying44
 have HR0_2 := Aside0.mk hr0_2
 have HC0_2 := Aside0.mk hc0_2
 clear hr0_2 hc0_2
 have HB := Aside0.mk (Below.refl w.heap.size w)
 have H : ((spec_FrameOk.f a0_0 a0_1 l0_2).bind fun t204 => (if t204 = true then (spec_TakeEvent.j0 k (decide ((l0_2.length : Int) < 2)) a0_0 a0_1 l0_2) else (spec_TakeEvent.j0 k true a0_0 a0_1 l0_2))) = some (r1, r2, r3, r4, r5, r6) := h
 clear h
 have HC2 := Aside0.mk H
 clear H
 go_enter Try.func44, Try.ntmps44
 go_upto_region 1 with (first | ((with_reducible refine gate_dst (N := 1) rfl ?_); (try (refine gate_guard (by rfl) ?_; dsimp only)); refine box_event ?hg (N := 1) ?hd (cs := #[.int .i64 a0_0, .int .i64 a0_1, .slice A0_2 l0_2.length c0_2]) (t := 62) ?hr ?_; (case hd => rfl); (case hg => rfl); (case hr => first | (go_simp; done) | (go_simp; rfl)); intro gb202 hg w3 hbox hb; have n0_ := Aside0.mk (below_step zH hb); have n1_ := Aside0.mk (hbox); have n2_ := Aside0.mk ((by rw [hg]; exact (below_size zH) : w.heap.size ≤ gb202)); have n3_ := Aside0.mk ((by rw [hg]; exact (below_size zH) : w.heap.size ≤ gb202)); clear HB; have HB := n0_; have BK202 := n1_; have GW202 := n2_; have GE202 := n3_; clear n0_ n1_ n2_ n3_; clear hb hbox hg) | ((with_reducible refine gate_dst (N := 2) rfl ?_); (try (refine gate_guard (by rfl) ?_; dsimp only)); refine box_event ?hg (N := 2) ?hd (cs := #[.int .i64 0, .int .i64 0, .int .i64 0, .int .i64 0, .slice none 0 0]) (t := 44) ?hr ?_; (case hd => rfl); (case hg => rfl); (case hr => first | (go_simp; done) | (go_simp; rfl)); intro gb203 hg w4 hbox hb; have n0_ := Aside0.mk (blk_below (g := gb202) (o := .cells #[.int .i64 a0_0, .int .i64 a0_1, .slice A0_2 l0_2.length c0_2] 62 (0, 0)) (zB BK202.out) hb); have n1_ := Aside0.mk (below_step zH hb); have n2_ := Aside0.mk (hbox); have n3_ := Aside0.mk ((by rw [hg]; exact (below_size zH) : w.heap.size ≤ gb203)); have n4_ := Aside0.mk ((by rw [hg]; exact (below_size zH) : w.heap.size ≤ gb203)); have n5_ := Aside0.mk ((by rw [hg]; exact Nat.ne_of_lt (blk_lt (g := gb202) (o := .cells #[.int .i64 a0_0, .int .i64 a0_1, .slice A0_2 l0_2.length c0_2] 62 (0, 0)) (zB BK202.out)) : gb202 ≠ gb203)); have n6_ := Aside0.mk ((by rw [hg]; exact Nat.ne_of_gt (blk_lt (g := gb202) (o := .cells #[.int .i64 a0_0, .int .i64 a0_1, .slice A0_2 l0_2.length c0_2] 62 (0, 0)) (zB BK202.out)) : gb203 ≠ gb202)); clear BK202; clear HB; have BK202 := n0_; have HB := n1_; have BK203 := n2_; have GW203 := n3_; have GE203 := n4_; have NB202_203 := n5_; have NB203_202 := n6_; clear n0_ n1_ n2_ n3_ n4_ n5_ n6_; clear hb hbox hg))
 (try simp only [Act.put, List.setIfInBounds_toArray, List.set_cons_zero, List.set_cons_succ])
 go_cut [16] (fun v16 wc => ∃ (kq : Nat) (x16_1 : Bool), v16 = .bool x16_1 ∧ Aside0 (spec_TakeEvent.j0 kq x16_1 a0_0 a0_1 l0_2 = some (r1, r2, r3, r4, r5, r6)) ∧ Aside0 (kq ≤ k) ∧ Aside0 (wc.heap[gb202]? = some (.cells #[.int .i64 a0_0, .int .i64 a0_1, (.slice A0_2 l0_2.length c0_2)] 62 (0, 0))) ∧ Aside0 (wc.heap[gb203]? = some (.cells #[.int .i64 0, .int .i64 0, .int .i64 0, .int .i64 0, (.slice none 0 0)] 44 (0, 0))) ∧ Aside0 (Below w.heap.size w wc))
 case first =>
  have H := HC2.out
  clear HC2
  replace H := Option.bind_eq_some_iff.mp H
  obtain ⟨t204, A50, H⟩ := H
  replace H : (if t204 = true then (spec_TakeEvent.j0 k (decide ((l0_2.length : Int) < 2)) a0_0 a0_1 l0_2) else (spec_TakeEvent.j0 k true a0_0 a0_1 l0_2)) = some (r1, r2, r3, r4, r5, r6) := H
  have A5 := Aside0.mk A50
  clear A50
  by_cases c6 : t204 = true
  ·subst c6
   replace H : (spec_TakeEvent.j0 k (decide ((l0_2.length : Int) < 2)) a0_0 a0_1 l0_2) = some (r1, r2, r3, r4, r5, r6) := by rw [if_pos rfl] at H; exact H
   have H' := Aside0.mk H
   clear H
   have hnb7 := NB202_203.out
   have hnc7 := NB203_202.out
   obtain ⟨hcz8_0, hcz8_1, hcz8_2⟩ := zc3 BK202.out
   obtain ⟨hfz8_0, hfz8_1, hfz8_2, _, _⟩ := zf BK202.out
   go_wp2_with (first | ((with_reducible refine gate_callee (f := 104) rfl ?_); refine goesL_ (some 9) rfl rfl Try.func104 (by kernel_rfl) rfl #[.agg #[.int .i64 a0_0, .int .i64 a0_1, .slice A0_2 l0_2.length c0_2]] rfl zM ?_; (with_reducible refine (spec_FrameOk.calls a0_0 a0_1 _ _ l0_2 true _ ?side1 ?side2 A5.out).mono ?_); (case side1 => exact zC (Kd.C_below HR0_2.out HB.out)); (case side2 => exact HC0_2.out); rintro e w9 ⟨rfl, hb⟩; refine ⟨_, rfl, ?_⟩; have n0_ := Aside0.mk (blk_below (g := gb202) (o := .cells #[.int .i64 a0_0, .int .i64 a0_1, .slice A0_2 l0_2.length c0_2] 62 (0, 0)) (zB BK202.out) hb); have n1_ := Aside0.mk (blk_below (g := gb203) (o := .cells #[.int .i64 0, .int .i64 0, .int .i64 0, .int .i64 0, .slice none 0 0] 44 (0, 0)) (zB BK203.out) hb); have n2_ := Aside0.mk (below_step zH hb); clear BK202; clear BK203; clear HB; have BK202 := n0_; have BK203 := n1_; have HB := n2_; clear n0_ n1_ n2_; (try clear hb); (try clear hb2); (try clear hk); (try clear hi); obtain ⟨hcz10_0, hcz10_1, hcz10_2⟩ := zc3 BK202.out; obtain ⟨hfz10_0, hfz10_1, hfz10_2, _, _⟩ := zf BK202.out))
   go_meet
   case rel => exact ⟨_, (decide ((l0_2.length : Int) < 2)), zF, H', ⟨by first | omega | exact Nat.le_refl _⟩, ⟨zB BK202.out⟩, ⟨zB BK203.out⟩, ⟨zH⟩⟩
  ·replace c6 := Bool.eq_false_iff.mpr c6
   subst c6
   replace H : (spec_TakeEvent.j0 k true a0_0 a0_1 l0_2) = some (r1, r2, r3, r4, r5, r6) := by rw [if_neg (show ¬ (false = true) by decide)] at H; exact H
   have H' := Aside0.mk H
   clear H
   have hnb11 := NB202_203.out
   have hnc11 := NB203_202.out
   obtain ⟨hcz12_0, hcz12_1, hcz12_2⟩ := zc3 BK202.out
   obtain ⟨hfz12_0, hfz12_1, hfz12_2, _, _⟩ := zf BK202.out
   go_wp2_with (first | ((with_reducible refine gate_callee (f := 104) rfl ?_); refine goesL_ (some 9) rfl rfl Try.func104 (by kernel_rfl) rfl #[.agg #[.int .i64 a0_0, .int .i64 a0_1, .slice A0_2 l0_2.length c0_2]] rfl zM ?_; (with_reducible refine (spec_FrameOk.calls a0_0 a0_1 _ _ l0_2 false _ ?side1 ?side2 A5.out).mono ?_); (case side1 => exact zC (Kd.C_below HR0_2.out HB.out)); (case side2 => exact HC0_2.out); rintro e w13 ⟨rfl, hb⟩; refine ⟨_, rfl, ?_⟩; have n0_ := Aside0.mk (blk_below (g := gb202) (o := .cells #[.int .i64 a0_0, .int .i64 a0_1, .slice A0_2 l0_2.length c0_2] 62 (0, 0)) (zB BK202.out) hb); have n1_ := Aside0.mk (blk_below (g := gb203) (o := .cells #[.int .i64 0, .int .i64 0, .int .i64 0, .int .i64 0, .slice none 0 0] 44 (0, 0)) (zB BK203.out) hb); have n2_ := Aside0.mk (below_step zH hb); clear BK202; clear BK203; clear HB; have BK202 := n0_; have BK203 := n1_; have HB := n2_; clear n0_ n1_ n2_; (try clear hb); (try clear hb2); (try clear hk); (try clear hi)))
   go_meet
   case rel => exact ⟨_, (true), zF, H', ⟨by first | omega | exact Nat.le_refl _⟩, ⟨zB BK202.out⟩, ⟨zB BK203.out⟩, ⟨zH⟩⟩
 case rest =>
  clear HC2
  (try clear c1);(try clear p2);(try clear c4);(try clear c6);(try clear c7);(try clear c10);(try clear c11);(try clear hcz10_0);(try clear hcz10_1);(try clear hcz10_2);(try clear hcz12_0);(try clear hcz12_1);(try clear hcz12_2);(try clear hcz8_0);(try clear hcz8_1);(try clear hcz8_2);(try clear hfz10_0);(try clear hfz10_1);(try clear hfz10_2);(try clear hfz12_0);(try clear hfz12_1);(try clear hfz12_2);(try clear hfz8_0);(try clear hfz8_1);(try clear hfz8_2)
  obtain ⟨kq, x16_1, rfl, HA, HJ1, BK202, BK203, HB⟩ := hcut
  cases kq with
  | zero => exact absurd HA.out (by simp [spec_TakeEvent.j0])
  | succ kj1 =>
   have H := HA.out
   clear HA
   simp only [spec_TakeEvent.j0] at H
   by_cases c14 : x16_1 = true
   ·subst c14
    replace H : (some (0, 0, 0, 0, ([] : List Int), false)) = some (r1, r2, r3, r4, r5, r6) := by rw [if_pos rfl] at H; exact H
    simp only [Option.some.injEq, Prod.mk.injEq] at H
    obtain ⟨rfl, rfl, rfl, rfl, rfl, rfl⟩ := H
    have hnb15 := NB203_202.out
    have hnc15 := NB202_203.out
    obtain ⟨hcz16_0, hcz16_1, hcz16_2, hcz16_3, hcz16_4⟩ := zc5 BK203.out
    obtain ⟨hfz16_0, hfz16_1, hfz16_2, hfz16_3, hfz16_4⟩ := zf BK203.out
    go_wp2
    refine bodyPost_ret (results_ct rfl _ _ gb203 44 #[.int .i64 0, .int .i64 0, .int .i64 0, .int .i64 0, .slice none 0 0] (0, 0) _ rfl (by (repeat refine zL ?_); refine blk_put (cs := #[.int .i64 0, .int .i64 0, .int .i64 0, .int .i64 0, .slice none 0 0]) ?_ 4 _ rfl; (repeat refine zL ?_); refine blk_put (cs := #[.int .i64 0, .int .i64 0, .int .i64 0, .int .i64 0, .slice none 0 0]) ?_ 3 _ rfl; (repeat refine zL ?_); refine blk_put (cs := #[.int .i64 0, .int .i64 0, .int .i64 0, .int .i64 0, .slice none 0 0]) ?_ 2 _ rfl; (repeat refine zL ?_); refine blk_put (cs := #[.int .i64 0, .int .i64 0, .int .i64 0, .int .i64 0, .slice none 0 0]) ?_ 1 _ rfl; (repeat refine zL ?_); refine blk_put (cs := #[.int .i64 0, .int .i64 0, .int .i64 0, .int .i64 0, .slice none 0 0]) ?_ 0 _ rfl; (repeat refine zL ?_); exact BK203.out) Try.underlying44 rfl (by kernel_rfl)) rfl ?_
    exact ⟨.slice none 0 0, zE, by first | exact Kd.R_nil _ _ _ _ _ | exact Kd.R_nil _ _ _ w.heap.size _ | exact Kd.N_nil _ _ _ _ _ | exact Kd.V_nil _ _ _ _ _ | exact Kd.Q_nil _ _ _ _ _ | exact Kd.S_nil _ _ _ _ _, zH⟩
   ·replace c14 := Bool.eq_false_iff.mpr c14
    subst c14
    replace H : ((spec_TakeNumber.f kj1 l0_2 1).bind fun bt205 => (if bt205.2.2 = true then (if 0 < (l0_2.length : Int) then (if 0 ≤ bt205.2.1 then (if bt205.2.1 ≤ (l0_2.length : Int) then ((spec_l01Bytes.f kj1 (l0_2.drop (bt205.2.1 : Int).toNat)).bind fun t210 => ((spec_EventOk.f kj1 (wrap64 (rd l0_2 0)) a0_0 a0_1 bt205.1 t210).bind fun t214 => (if t214 = true then (some (wrap64 (rd l0_2 0), a0_0, a0_1, bt205.1, t210, true)) else (some (0, 0, 0, 0, ([] : List Int), false))))) else (none)) else (none)) else (none)) else (some (0, 0, 0, 0, ([] : List Int), false)))) = some (r1, r2, r3, r4, r5, r6) := by rw [if_neg (show ¬ (false = true) by decide)] at H; exact H
    replace H := Option.bind_eq_some_iff.mp H
    obtain ⟨⟨t205, t206, t207⟩, A170, H⟩ := H
    replace H : (if t207 = true then (if 0 < (l0_2.length : Int) then (if 0 ≤ t206 then (if t206 ≤ (l0_2.length : Int) then ((spec_l01Bytes.f kj1 (l0_2.drop (t206 : Int).toNat)).bind fun t210 => ((spec_EventOk.f kj1 (wrap64 (rd l0_2 0)) a0_0 a0_1 t205 t210).bind fun t214 => (if t214 = true then (some (wrap64 (rd l0_2 0), a0_0, a0_1, t205, t210, true)) else (some (0, 0, 0, 0, ([] : List Int), false))))) else (none)) else (none)) else (none)) else (some (0, 0, 0, 0, ([] : List Int), false))) = some (r1, r2, r3, r4, r5, r6) := H
    have A17 := Aside0.mk A170
    clear A170
    by_cases c18 : t207 = true
    ·subst c18
     replace H : (if 0 < (l0_2.length : Int) then (if 0 ≤ t206 then (if t206 ≤ (l0_2.length : Int) then ((spec_l01Bytes.f kj1 (l0_2.drop (t206 : Int).toNat)).bind fun t210 => ((spec_EventOk.f kj1 (wrap64 (rd l0_2 0)) a0_0 a0_1 t205 t210).bind fun t214 => (if t214 = true then (some (wrap64 (rd l0_2 0), a0_0, a0_1, t205, t210, true)) else (some (0, 0, 0, 0, ([] : List Int), false))))) else (none)) else (none)) else (none)) = some (r1, r2, r3, r4, r5, r6) := by rw [if_pos rfl] at H; exact H
     by_cases c19 : 0 < (l0_2.length : Int)
     ·rw [if_pos c19] at H
      have c19b0 : decide (0 < (l0_2.length : Int)) = true := decide_eq_true c19
      have c19b1 : decide (0 < l0_2.length) = true := decide_eq_true (by omega)
      clear c19
      by_cases c20 : 0 ≤ t206
      ·rw [if_pos c20] at H
       have c20b0 := eq_true c20
       have c20b1 : decide (0 ≤ t206) = true := decide_eq_true c20
       clear c20
       by_cases c21 : t206 ≤ (l0_2.length : Int)
       ·rw [if_pos c21] at H
        have c21b0 := eq_true c21
        have c21b1 : decide (t206 ≤ (l0_2.length : Int)) = true := decide_eq_true c21
        clear c21
        replace H := Option.bind_eq_some_iff.mp H
        obtain ⟨t210, A220, H⟩ := H
        replace H : ((spec_EventOk.f kj1 (wrap64 (rd l0_2 0)) a0_0 a0_1 t205 t210).bind fun t214 => (if t214 = true then (some (wrap64 (rd l0_2 0), a0_0, a0_1, t205, t210, true)) else (some (0, 0, 0, 0, ([] : List Int), false)))) = some (r1, r2, r3, r4, r5, r6) := H
        have A22 := Aside0.mk A220
        clear A220
        replace H := Option.bind_eq_some_iff.mp H
        obtain ⟨t214, A230, H⟩ := H
        replace H : (if t214 = true then (some (wrap64 (rd l0_2 0), a0_0, a0_1, t205, t210, true)) else (some (0, 0, 0, 0, ([] : List Int), false))) = some (r1, r2, r3, r4, r5, r6) := H
        have A23 := Aside0.mk A230
        clear A230
        by_cases c24 : t214 = true
        ·subst c24
         replace H : (some (wrap64 (rd l0_2 0), a0_0, a0_1, t205, t210, true)) = some (r1, r2, r3, r4, r5, r6) := by rw [if_pos rfl] at H; exact H
         simp only [Option.some.injEq, Prod.mk.injEq] at H
         obtain ⟨rfl, rfl, rfl, rfl, rfl, rfl⟩ := H
         have hnb25 := NB202_203.out
         have hnc25 := NB203_202.out
         obtain ⟨hcz26_0, hcz26_1, hcz26_2⟩ := zc3 BK202.out
         obtain ⟨hfz26_0, hfz26_1, hfz26_2, _, _⟩ := zf BK202.out
         try go_wp2_with (first | ((with_reducible refine gate_callee (f := 105) rfl ?_); refine goesL_ (some 21) rfl rfl Try.func105 (by kernel_rfl) rfl #[.slice A0_2 l0_2.length c0_2, .int .i64 1] rfl zM ?_; (with_reducible refine (spec_TakeNumber.calls kj1 _ _ l0_2 1 t205 t206 true _ ?side1 ?side2 A17.out).mono ?_); (case side1 => exact zC (Kd.C_below HR0_2.out HB.out)); (case side2 => exact HC0_2.out); rintro e w27 ⟨rfl, hb⟩; refine ⟨_, rfl, ?_⟩; have n0_ := Aside0.mk (blk_below (g := gb202) (o := .cells #[.int .i64 a0_0, .int .i64 a0_1, .slice A0_2 l0_2.length c0_2] 62 (0, 0)) (zB BK202.out) hb); have n1_ := Aside0.mk (blk_below (g := gb203) (o := .cells #[.int .i64 0, .int .i64 0, .int .i64 0, .int .i64 0, .slice none 0 0] 44 (0, 0)) (zB BK203.out) hb); have n2_ := Aside0.mk (below_step zH hb); clear BK202; clear BK203; clear HB; have BK202 := n0_; have BK203 := n1_; have HB := n2_; clear n0_ n1_ n2_; (try clear hb); (try clear hb2); (try clear hk); (try clear hi)))
         have n0_ := Aside0.mk (blk_drew BK202.out)
         have n1_ := Aside0.mk (blk_drew BK203.out)
         have n2_ := Aside0.mk (below_drew1 HB.out)
         clear BK202
         clear BK203
         clear HB
         have BK202 := n0_
         have BK203 := n1_
         have HB := n2_
         clear n0_ n1_ n2_
         have p208 : 0 ≤ (0 : Int) := (by omega)
         have q208 : 0 < (l0_2.length : Int) := zD
         obtain ⟨ad208, e208, hx208_0⟩ := Kd.at_int HR0_2.out 0 p208 q208
         have hw208_0 := hx208_0
         (try rw [show ((0 : Int)).toNat = 0 from rfl] at hw208_0)
         (try rw [show 0 * 1 = 0 from rfl] at hw208_0)
         (try rw [Addr.add_zero'] at hw208_0)
         cases e208
         have qi208 : (0 < l0_2.length) = True := eq_true (by omega)
         (try rw [show ((0 : Int)).toNat = 0 from rfl] at hx208_0)
         (try rw [Addr.add_zero'] at hx208_0)
         replace hx208_0 := (HB.out.cell (World.block_lt_of_cell? w _ hx208_0)).trans hx208_0
         replace p208 := eq_true p208
         replace q208 := eq_true q208
         obtain ⟨i029, hi029, _, hsz29, _⟩ := info_parts info5
         obtain ⟨A29, hcut29, hA29, hC29⟩ := print_drop_of (P := Try.prog) (Value.int .u8) 0 39 5 .i64 Try.underlying39 hi029 hsz29 (some ad208) c0_2 l0_2 t206 zD zD HC0_2.out
         have HR209 := Aside0.mk (Kd.C_of_reads (h1 := fun _ => rfl) (hA29 _ (Kd.reads_of_C HR0_2.out)))
         have HC209 := Aside0.mk hC29
         clear hA29 hC29 hi029 hsz29
         refine start_ (n := 18) (S := fun w' => w'.cell? ⟨gb202, 0, none⟩ = some (.int .i64 a0_0) ∧ w'.cell? ⟨gb202, 1, none⟩ = some (.int .i64 a0_1) ∧ w'.cell? ⟨gb202, 2, none⟩ = some (.slice (some ad208) l0_2.length c0_2) ∧ w'.cell? ad208 = some (.int .u8 (rd l0_2 0))) (ds := []) #[false, false, false, false, false, false, false, false, false, false, false, false, false, false, false, false, false, false] (by kernel_rfl) rfl rfl ⟨(blk_cell BK202.out 0).trans rfl, (blk_cell BK202.out 1).trans rfl, (blk_cell BK202.out 2).trans rfl, ((HB.out.cell (World.block_lt_of_cell? w _ hw208_0)).trans hw208_0)⟩ (fun hHeld => ?_); refine with_tabW spec_TakeEvent.tab6 spec_TakeEvent.bits6 (fun HT_ HW_ => ?_)
         generalize w27.drew = w28 at BK202 BK203 HB HR209 hx208_0 hHeld ⊢
         refine pure_ (i := 0) (N := some 28) (v := ?_) (a' := ?_) #[true, false, false, false, false, false, false, false, false, false, false, false, false, false, false, false, false, false] rfl rfl (any_of HT_.out (by kernel_rfl)) (fun _ _ _ h => h) (Or.inl ⟨by rfl, ?_⟩) ?_ ?_
         rotate_left;(focus intro w';go_simp;with_reducible rfl);rotate_left;(focus simp only [Act.put, List.setIfInBounds_toArray, List.set_cons_zero, List.set_cons_succ, i64_w, i32_w];rfl)
         refine pure_ (i := 5) (N := some 33) (v := ?_) (a' := ?_) #[true, false, false, false, false, true, false, false, false, false, false, false, false, false, false, false, false, false] rfl rfl (any_of HT_.out (by kernel_rfl)) (fun _ _ _ h => h) (Or.inl ⟨by rfl, ?_⟩) ?_ ?_
         rotate_left;(focus intro w';go_simp;with_reducible rfl);rotate_left;(focus simp only [Act.put, List.setIfInBounds_toArray, List.set_cons_zero, List.set_cons_succ, i64_w, i32_w];rfl)
         refine pure_ (i := 7) (N := some 35) (v := ?_) (a' := ?_) #[true, false, false, false, false, true, false, true, false, false, false, false, false, false, false, false, false, false] rfl rfl (any_of HT_.out (by kernel_rfl)) (fun _ _ _ h => h) (Or.inl ⟨by rfl, ?_⟩) ?_ ?_
         rotate_left;(focus intro w';go_simp;with_reducible rfl);rotate_left;(focus simp only [Act.put, List.setIfInBounds_toArray, List.set_cons_zero, List.set_cons_succ, i64_w, i32_w];rfl)
         refine pure_ (i := 9) (N := some 37) (v := ?_) (a' := ?_) #[true, false, false, false, false, true, false, true, false, true, false, false, false, false, false, false, false, false] rfl rfl (any_of HT_.out (by kernel_rfl)) (fun _ _ _ h => h) (Or.inl ⟨by rfl, ?_⟩) ?_ ?_
         rotate_left;(focus intro w';go_simp;with_reducible rfl);rotate_left;(focus simp only [Act.put, List.setIfInBounds_toArray, List.set_cons_zero, List.set_cons_succ, i64_w, i32_w];rfl)
         refine pure_ (i := 10) (N := some 38) (v := ?_) (a' := ?_) #[true, false, false, false, false, true, false, true, false, true, true, false, false, false, false, false, false, false] rfl rfl (any_of HT_.out (by kernel_rfl)) (fun _ _ _ h => h) (Or.inl ⟨by rfl, ?_⟩) ?_ ?_
         rotate_left;(focus intro w';go_simp;with_reducible rfl);rotate_left;(focus simp only [Act.put, List.setIfInBounds_toArray, List.set_cons_zero, List.set_cons_succ, i64_w, i32_w];rfl)
         refine pure_ (i := 12) (N := some 40) (v := ?_) (a' := ?_) #[true, false, false, false, false, true, false, true, false, true, true, false, true, false, false, false, false, false] rfl rfl (any_of HT_.out (by kernel_rfl)) (fun _ _ _ h => h) (Or.inl ⟨by rfl, ?_⟩) ?_ ?_
         rotate_left;(focus intro w';go_simp;with_reducible rfl);rotate_left;(focus simp only [Act.put, List.setIfInBounds_toArray, List.set_cons_zero, List.set_cons_succ, i64_w, i32_w];rfl)
         refine take_ (i := 1) (N := some 29) (v := ?_) (a' := ?_) #[true, true, false, false, false, true, false, true, false, true, true, false, true, false, false, false, false, false] rfl rfl (take_ofW HT_.out HW_.out (by kernel_rfl)) (fun _ _ _ h => h) (Or.inl ⟨by rfl, ?_⟩) hHeld ?_ ?_
         rotate_left
         ·rintro w' ⟨s0, s1, s2, s3⟩
          go_simp
          with_reducible rfl
         rotate_left
         ·simp only [Act.put, List.setIfInBounds_toArray, List.set_cons_zero, List.set_cons_succ, i64_w, i32_w]
          rfl
         refine pure_ (i := 2) (N := some 30) (v := ?_) (a' := ?_) #[true, true, true, false, false, true, false, true, false, true, true, false, true, false, false, false, false, false] rfl rfl (any_of HT_.out (by kernel_rfl)) (fun _ _ _ h => h) (Or.inl ⟨by rfl, ?_⟩) ?_ ?_
         rotate_left;(focus intro w';go_simp;with_reducible rfl);rotate_left;(focus simp only [Act.put, List.setIfInBounds_toArray, List.set_cons_zero, List.set_cons_succ, i64_w, i32_w];rfl)
         refine take_ (i := 3) (N := some 31) (v := ?_) (a' := ?_) #[true, true, true, true, false, true, false, true, false, true, true, false, true, false, false, false, false, false] rfl rfl (take_ofW HT_.out HW_.out (by kernel_rfl)) (fun _ _ _ h => h) (Or.inl ⟨by rfl, ?_⟩) hHeld ?_ ?_
         rotate_left
         ·rintro w' ⟨s0, s1, s2, s3⟩
          go_simp
          with_reducible rfl
         rotate_left
         ·simp only [Act.put, List.setIfInBounds_toArray, List.set_cons_zero, List.set_cons_succ, i64_w, i32_w]
          rfl
         refine pure_ (i := 4) (N := some 32) (v := ?_) (a' := ?_) #[true, true, true, true, true, true, false, true, false, true, true, false, true, false, false, false, false, false] rfl rfl (any_of HT_.out (by kernel_rfl)) (fun _ _ _ h => h) (Or.inl ⟨by rfl, ?_⟩) ?_ ?_
         rotate_left;(focus intro w';go_simp;with_reducible rfl);rotate_left;(focus simp only [Act.put, List.setIfInBounds_toArray, List.set_cons_zero, List.set_cons_succ, i64_w, i32_w];rfl)
         refine take_ (i := 6) (N := some 34) (v := ?_) (a' := ?_) #[true, true, true, true, true, true, true, true, false, true, true, false, true, false, false, false, false, false] rfl rfl (take_ofW HT_.out HW_.out (by kernel_rfl)) (fun _ _ _ h => h) (Or.inl ⟨by rfl, ?_⟩) hHeld ?_ ?_
         rotate_left
         ·rintro w' ⟨s0, s1, s2, s3⟩
          go_simp
          with_reducible rfl
         rotate_left
         ·simp only [Act.put, List.setIfInBounds_toArray, List.set_cons_zero, List.set_cons_succ, i64_w, i32_w]
          rfl
         refine take_ (i := 8) (N := some 36) (v := ?_) (a' := ?_) #[true, true, true, true, true, true, true, true, true, true, true, false, true, false, false, false, false, false] rfl rfl (take_ofW HT_.out HW_.out (by kernel_rfl)) (fun _ _ _ h => h) (Or.inl ⟨by rfl, ?_⟩) hHeld ?_ ?_
         rotate_left
         ·rintro w' ⟨s0, s1, s2, s3⟩
          go_simp
          with_reducible rfl
         rotate_left
         ·simp only [Act.put, List.setIfInBounds_toArray, List.set_cons_zero, List.set_cons_succ, i64_w, i32_w]
          rfl
         refine take_ (i := 11) (N := some 39) (v := ?_) (a' := ?_) #[true, true, true, true, true, true, true, true, true, true, true, true, true, false, false, false, false, false] rfl rfl (take_ofW HT_.out HW_.out (by kernel_rfl)) (fun _ _ _ h => h) (Or.inl ⟨by rfl, ?_⟩) hHeld ?_ ?_
         rotate_left
         ·rintro w' ⟨s0, s1, s2, s3⟩
          go_simp
          with_reducible rfl
         rotate_left
         ·simp only [Act.put, List.setIfInBounds_toArray, List.set_cons_zero, List.set_cons_succ, i64_w, i32_w]
          rfl
         refine pure_ (i := 13) (N := some 41) (v := ?_) (a' := ?_) #[true, true, true, true, true, true, true, true, true, true, true, true, true, true, false, false, false, false] rfl rfl (any_of HT_.out (by kernel_rfl)) (fun _ _ _ h => h) (Or.inl ⟨by rfl, ?_⟩) ?_ ?_
         rotate_left;(focus intro w';go_simp;with_reducible rfl);rotate_left;(focus simp only [Act.put, List.setIfInBounds_toArray, List.set_cons_zero, List.set_cons_succ, i64_w, i32_w];rfl)
         refine join_ (σ := Value × Nat) 1 #[true, true, true, true, true, true, true, true, true, true, true, true, true, true, true, true, true, false] (fun s_ => [(42, s_.1), (7, .pointer (some ⟨s_.2, 0, none⟩)), (43, .agg #[.int .i64 (wrap64 (rd l0_2 0)), .int .i64 a0_0, .int .i64 a0_1, .int .i64 t205, s_.1])]) (fun s_ w' => (w'.cell? ⟨gb202, 0, none⟩ = some (.int .i64 a0_0) ∧ w'.cell? ⟨gb202, 1, none⟩ = some (.int .i64 a0_1) ∧ w'.cell? ⟨gb202, 2, none⟩ = some (.slice (some ad208) l0_2.length c0_2) ∧ w'.cell? ad208 = some (.int .u8 (rd l0_2 0))) ∧ (Kd.R (Kd.int .u8) 5 w' w.heap.size (fun _ => True) s_.1 t210) ∧ (w'.heap[gb202]? = some (.cells #[.int .i64 a0_0, .int .i64 a0_1, .slice (some ad208) l0_2.length c0_2] 62 (0, 0))) ∧ (w'.heap[gb203]? = some (.cells #[.int .i64 0, .int .i64 0, .int .i64 0, .int .i64 0, .slice none 0 0] 44 (0, 0))) ∧ (w'.heap[s_.2]? = some (.cells #[.int .i64 0, .int .i64 0, .int .i64 0, .int .i64 0, .slice none 0 0] 44 (0, 0))) ∧ (w.heap.size ≤ s_.2) ∧ (w.heap.size ≤ s_.2) ∧ (gb202 ≠ s_.2) ∧ (s_.2 ≠ gb202) ∧ (gb203 ≠ s_.2) ∧ (s_.2 ≠ gb203) ∧ (Below w.heap.size w w')) ?_ ?_
         rotate_left
         ·intro hCont
          refine two_ (i := 14) (j := 16) (Ni := some 42) (Nj := some 7) #[true, true, true, true, true, true, true, true, true, true, true, true, true, true, true, false, false, false] #[true, true, true, true, true, true, true, true, true, true, true, true, true, true, false, false, true, false] rfl rfl rfl rfl (two_of HT_.out (by kernel_rfl)) (by decide) (by decide) (fun K hK => ?_) (fun K hK => ?_)
          ·skip
           refine goes_ Try.func106 (by kernel_rfl) rfl #[.slice A29 (l0_2.drop (t206 : Int).toNat).length (c0_2 - t206.toNat)] (by rfl) rfl rfl (by (try simp only [List.map_toArray, List.map_cons, List.map_nil]); first | done | (rw [show (l0_2.drop (t206 : Int).toNat).length = (l0_2.length - t206.toNat) from List.length_drop] <;> rfl) | rfl | (simp only [List.length_drop, List.length_take]; rfl)) ?_
           with_reducible refine (spec_l01Bytes.calls kj1 _ _ (l0_2.drop (t206 : Int).toNat) t210 _ ?side1 ?side2 A22.out).mono ?_
           (case side1 => exact zC (Kd.C_below HR209.out HB.out))
           (case side2 => exact HC209.out)
           rintro e w30 ⟨v211, rfl, ho0, hb⟩
           refine ⟨_, rfl, ?_⟩
           have n0_ := Aside0.mk (Kd.R_lower ho0 (below_size zH))
           have n1_ := Aside0.mk (blk_below (g := gb202) (o := .cells #[.int .i64 a0_0, .int .i64 a0_1, .slice (some ad208) l0_2.length c0_2] 62 (0, 0)) (zB BK202.out) hb)
           have n2_ := Aside0.mk (blk_below (g := gb203) (o := .cells #[.int .i64 0, .int .i64 0, .int .i64 0, .int .i64 0, .slice none 0 0] 44 (0, 0)) (zB BK203.out) hb)
           have n3_ := Aside0.mk (below_step zH hb)
           clear BK202
           clear BK203
           clear HB
           have HO212 := n0_
           have BK202 := n1_
           have BK203 := n2_
           have HB := n3_
           clear n0_ n1_ n2_ n3_
           (try clear hb)
           (try clear hb2)
           (try clear hk)
           (try clear hi)
           (try clear ho0)
           obtain ⟨Ao31, co31, eo31⟩ := Kd.R_slice HO212.out
           (first | subst eo31 | (injection eo31 with f1_ f2_ f3_; have f4_ := f1_.symm; have f5_ := f3_.symm; clear f1_ f2_ f3_; subst f4_; subst f5_))
           refine hK.out _ _ ⟨(blk_cell BK202.out 0).trans rfl, (blk_cell BK202.out 1).trans rfl, (blk_cell BK202.out 2).trans rfl, ((HB.out.cell (World.block_lt_of_cell? w _ hw208_0)).trans hw208_0)⟩ (fun hHeld => ?_)
           clear hK K
           refine norm_ (a' := ?_) ?_ ?_
           rotate_left
           ·show Act.put _ (some 42) _ = _
            simp only [Act.put, List.setIfInBounds_toArray, List.set_cons_zero, List.set_cons_succ, i64_w, i32_w]
            rfl
           refine pure_ (i := 15) (N := some 43) (v := ?_) (a' := ?_) #[true, true, true, true, true, true, true, true, true, true, true, true, true, true, true, true, false, false] rfl rfl (any_of HT_.out (by kernel_rfl)) (fun _ _ _ h => h) (Or.inl ⟨by rfl, ?_⟩) ?_ ?_
           rotate_left;(focus intro w';go_simp;with_reducible rfl);rotate_left;(focus simp only [Act.put, List.setIfInBounds_toArray, List.set_cons_zero, List.set_cons_succ, i64_w, i32_w];rfl)
           refine one_ (i := 16) (N := some 7) #[true, true, true, true, true, true, true, true, true, true, true, true, true, true, true, true, true, false] rfl rfl (one_of HT_.out (by kernel_rfl)) (by decide) (fun K hK => ?_)
           refine box_step ?hg (N := 7) ?hd (cs := #[.int .i64 0, .int .i64 0, .int .i64 0, .int .i64 0, .slice none 0 0]) (t := 44) ?hr ?_; (case hd => rfl); (case hg => rfl); (case hr => first | (go_simp; done) | (go_simp; rfl))
           intro gb213 hg w32 hbox hb
           have n0_ := Aside0.mk (Kd.R_below (zR HO212.out) hb)
           have n1_ := Aside0.mk (blk_below (g := gb202) (o := .cells #[.int .i64 a0_0, .int .i64 a0_1, .slice (some ad208) l0_2.length c0_2] 62 (0, 0)) (zB BK202.out) hb)
           have n2_ := Aside0.mk (blk_below (g := gb203) (o := .cells #[.int .i64 0, .int .i64 0, .int .i64 0, .int .i64 0, .slice none 0 0] 44 (0, 0)) (zB BK203.out) hb)
           have n3_ := Aside0.mk (below_step zH hb)
           have n4_ := Aside0.mk (hbox)
           have n5_ := Aside0.mk ((by rw [hg]; exact (below_size zH) : w.heap.size ≤ gb213))
           have n6_ := Aside0.mk ((by rw [hg]; exact (below_size zH) : w.heap.size ≤ gb213))
           have n7_ := Aside0.mk ((by rw [hg]; exact Nat.ne_of_lt (blk_lt (g := gb202) (o := .cells #[.int .i64 a0_0, .int .i64 a0_1, .slice (some ad208) l0_2.length c0_2] 62 (0, 0)) (zB BK202.out)) : gb202 ≠ gb213))
           have n8_ := Aside0.mk ((by rw [hg]; exact Nat.ne_of_gt (blk_lt (g := gb202) (o := .cells #[.int .i64 a0_0, .int .i64 a0_1, .slice (some ad208) l0_2.length c0_2] 62 (0, 0)) (zB BK202.out)) : gb213 ≠ gb202))
           have n9_ := Aside0.mk ((by rw [hg]; exact Nat.ne_of_lt (blk_lt (g := gb203) (o := .cells #[.int .i64 0, .int .i64 0, .int .i64 0, .int .i64 0, .slice none 0 0] 44 (0, 0)) (zB BK203.out)) : gb203 ≠ gb213))
           have n10_ := Aside0.mk ((by rw [hg]; exact Nat.ne_of_gt (blk_lt (g := gb203) (o := .cells #[.int .i64 0, .int .i64 0, .int .i64 0, .int .i64 0, .slice none 0 0] 44 (0, 0)) (zB BK203.out)) : gb213 ≠ gb203))
           clear HO212
           clear BK202
           clear BK203
           clear HB
           have HO212 := n0_
           have BK202 := n1_
           have BK203 := n2_
           have HB := n3_
           have BK213 := n4_
           have GW213 := n5_
           have GE213 := n6_
           have NB202_213 := n7_
           have NB213_202 := n8_
           have NB203_213 := n9_
           have NB213_203 := n10_
           clear n0_ n1_ n2_ n3_ n4_ n5_ n6_ n7_ n8_ n9_ n10_
           clear hb hbox hg
           refine hK.out _ _ ⟨(blk_cell BK202.out 0).trans rfl, (blk_cell BK202.out 1).trans rfl, (blk_cell BK202.out 2).trans rfl, ((HB.out.cell (World.block_lt_of_cell? w _ hw208_0)).trans hw208_0)⟩ (fun hHeld => ?_)
           clear hK K
           refine norm_ (a' := ?_) ?_ ?_
           rotate_left
           ·show Act.put _ (some 7) _ = _
            simp only [Act.put, List.setIfInBounds_toArray, List.set_cons_zero, List.set_cons_succ, i64_w, i32_w]
            rfl
           exact norm_ (by simp only [putAll, Act.put, List.setIfInBounds_toArray, List.set_cons_zero, List.set_cons_succ]) (hCont (.slice Ao31 t210.length co31, gb213) _ ⟨hHeld, (zR HO212.out), (zB BK202.out), (zB BK203.out), (zB BK213.out), GW213.out, GE213.out, NB202_213.out, NB213_202.out, NB203_213.out, NB213_203.out, zH⟩)
          ·skip
           refine box_step ?hg (N := 7) ?hd (cs := #[.int .i64 0, .int .i64 0, .int .i64 0, .int .i64 0, .slice none 0 0]) (t := 44) ?hr ?_; (case hd => rfl); (case hg => rfl); (case hr => first | (go_simp; done) | (go_simp; rfl))
           intro gb213 hg w30 hbox hb
           have n0_ := Aside0.mk (blk_below (g := gb202) (o := .cells #[.int .i64 a0_0, .int .i64 a0_1, .slice (some ad208) l0_2.length c0_2] 62 (0, 0)) (zB BK202.out) hb)
           have n1_ := Aside0.mk (blk_below (g := gb203) (o := .cells #[.int .i64 0, .int .i64 0, .int .i64 0, .int .i64 0, .slice none 0 0] 44 (0, 0)) (zB BK203.out) hb)
           have n2_ := Aside0.mk (below_step zH hb)
           have n3_ := Aside0.mk (hbox)
           have n4_ := Aside0.mk ((by rw [hg]; exact (below_size zH) : w.heap.size ≤ gb213))
           have n5_ := Aside0.mk ((by rw [hg]; exact (below_size zH) : w.heap.size ≤ gb213))
           have n6_ := Aside0.mk ((by rw [hg]; exact Nat.ne_of_lt (blk_lt (g := gb202) (o := .cells #[.int .i64 a0_0, .int .i64 a0_1, .slice (some ad208) l0_2.length c0_2] 62 (0, 0)) (zB BK202.out)) : gb202 ≠ gb213))
           have n7_ := Aside0.mk ((by rw [hg]; exact Nat.ne_of_gt (blk_lt (g := gb202) (o := .cells #[.int .i64 a0_0, .int .i64 a0_1, .slice (some ad208) l0_2.length c0_2] 62 (0, 0)) (zB BK202.out)) : gb213 ≠ gb202))
           have n8_ := Aside0.mk ((by rw [hg]; exact Nat.ne_of_lt (blk_lt (g := gb203) (o := .cells #[.int .i64 0, .int .i64 0, .int .i64 0, .int .i64 0, .slice none 0 0] 44 (0, 0)) (zB BK203.out)) : gb203 ≠ gb213))
           have n9_ := Aside0.mk ((by rw [hg]; exact Nat.ne_of_gt (blk_lt (g := gb203) (o := .cells #[.int .i64 0, .int .i64 0, .int .i64 0, .int .i64 0, .slice none 0 0] 44 (0, 0)) (zB BK203.out)) : gb213 ≠ gb203))
           clear BK202
           clear BK203
           clear HB
           have BK202 := n0_
           have BK203 := n1_
           have HB := n2_
           have BK213 := n3_
           have GW213 := n4_
           have GE213 := n5_
           have NB202_213 := n6_
           have NB213_202 := n7_
           have NB203_213 := n8_
           have NB213_203 := n9_
           clear n0_ n1_ n2_ n3_ n4_ n5_ n6_ n7_ n8_ n9_
           clear hb hbox hg
           refine hK.out _ _ ⟨(blk_cell BK202.out 0).trans rfl, (blk_cell BK202.out 1).trans rfl, (blk_cell BK202.out 2).trans rfl, ((HB.out.cell (World.block_lt_of_cell? w _ hw208_0)).trans hw208_0)⟩ (fun hHeld => ?_)
           clear hK K
           refine norm_ (a' := ?_) ?_ ?_
           rotate_left
           ·show Act.put _ (some 7) _ = _
            simp only [Act.put, List.setIfInBounds_toArray, List.set_cons_zero, List.set_cons_succ, i64_w, i32_w]
            rfl
           refine one_ (i := 14) (N := some 42) #[true, true, true, true, true, true, true, true, true, true, true, true, true, true, true, false, true, false] rfl rfl (one_of HT_.out (by kernel_rfl)) (by decide) (fun K hK => ?_)
           refine goes_ Try.func106 (by kernel_rfl) rfl #[.slice A29 (l0_2.drop (t206 : Int).toNat).length (c0_2 - t206.toNat)] (by rfl) rfl rfl (by (try simp only [List.map_toArray, List.map_cons, List.map_nil]); first | done | (rw [show (l0_2.drop (t206 : Int).toNat).length = (l0_2.length - t206.toNat) from List.length_drop] <;> rfl) | rfl | (simp only [List.length_drop, List.length_take]; rfl)) ?_
           with_reducible refine (spec_l01Bytes.calls kj1 _ _ (l0_2.drop (t206 : Int).toNat) t210 _ ?side1 ?side2 A22.out).mono ?_
           (case side1 => exact zC (Kd.C_below HR209.out HB.out))
           (case side2 => exact HC209.out)
           rintro e w31 ⟨v211, rfl, ho0, hb⟩
           refine ⟨_, rfl, ?_⟩
           have n0_ := Aside0.mk (Kd.R_lower ho0 (below_size zH))
           have n1_ := Aside0.mk (blk_below (g := gb202) (o := .cells #[.int .i64 a0_0, .int .i64 a0_1, .slice (some ad208) l0_2.length c0_2] 62 (0, 0)) (zB BK202.out) hb)
           have n2_ := Aside0.mk (blk_below (g := gb203) (o := .cells #[.int .i64 0, .int .i64 0, .int .i64 0, .int .i64 0, .slice none 0 0] 44 (0, 0)) (zB BK203.out) hb)
           have n3_ := Aside0.mk (blk_below (g := gb213) (o := .cells #[.int .i64 0, .int .i64 0, .int .i64 0, .int .i64 0, .slice none 0 0] 44 (0, 0)) (zB BK213.out) hb)
           have n4_ := Aside0.mk (below_step zH hb)
           clear BK202
           clear BK203
           clear BK213
           clear HB
           have HO212 := n0_
           have BK202 := n1_
           have BK203 := n2_
           have BK213 := n3_
           have HB := n4_
           clear n0_ n1_ n2_ n3_ n4_
           (try clear hb)
           (try clear hb2)
           (try clear hk)
           (try clear hi)
           (try clear ho0)
           obtain ⟨Ao32, co32, eo32⟩ := Kd.R_slice HO212.out
           (first | subst eo32 | (injection eo32 with f1_ f2_ f3_; have f4_ := f1_.symm; have f5_ := f3_.symm; clear f1_ f2_ f3_; subst f4_; subst f5_))
           refine hK.out _ _ ⟨(blk_cell BK202.out 0).trans rfl, (blk_cell BK202.out 1).trans rfl, (blk_cell BK202.out 2).trans rfl, ((HB.out.cell (World.block_lt_of_cell? w _ hw208_0)).trans hw208_0)⟩ (fun hHeld => ?_)
           clear hK K
           refine norm_ (a' := ?_) ?_ ?_
           rotate_left
           ·show Act.put _ (some 42) _ = _
            simp only [Act.put, List.setIfInBounds_toArray, List.set_cons_zero, List.set_cons_succ, i64_w, i32_w]
            rfl
           refine pure_ (i := 15) (N := some 43) (v := ?_) (a' := ?_) #[true, true, true, true, true, true, true, true, true, true, true, true, true, true, true, true, true, false] rfl rfl (any_of HT_.out (by kernel_rfl)) (fun _ _ _ h => h) (Or.inl ⟨by rfl, ?_⟩) ?_ ?_
           rotate_left;(focus intro w';go_simp;with_reducible rfl);rotate_left;(focus simp only [Act.put, List.setIfInBounds_toArray, List.set_cons_zero, List.set_cons_succ, i64_w, i32_w];rfl)
           exact norm_ (by simp only [putAll, Act.put, List.setIfInBounds_toArray, List.set_cons_zero, List.set_cons_succ]) (hCont (.slice Ao32 t210.length co32, gb213) _ ⟨hHeld, (zR HO212.out), (zB BK202.out), (zB BK203.out), (zB BK213.out), GW213.out, GE213.out, NB202_213.out, NB213_202.out, NB203_213.out, NB213_203.out, zH⟩)
         rintro ⟨v211, gb213⟩ w33 ⟨hS_, h0_, h1_, h2_, h3_, h4_, h5_, h6_, h7_, h8_, h9_, h10_⟩
         have n0_ : Aside0 (Kd.R (Kd.int .u8) 5 w33 w.heap.size (fun _ => True) v211 t210) := ⟨h0_⟩
         have n1_ : Aside0 (w33.heap[gb202]? = some (.cells #[.int .i64 a0_0, .int .i64 a0_1, .slice (some ad208) l0_2.length c0_2] 62 (0, 0))) := ⟨h1_⟩
         have n2_ : Aside0 (w33.heap[gb203]? = some (.cells #[.int .i64 0, .int .i64 0, .int .i64 0, .int .i64 0, .slice none 0 0] 44 (0, 0))) := ⟨h2_⟩
         have n3_ : Aside0 (w33.heap[gb213]? = some (.cells #[.int .i64 0, .int .i64 0, .int .i64 0, .int .i64 0, .slice none 0 0] 44 (0, 0))) := ⟨h3_⟩
         have n4_ : Aside0 (w.heap.size ≤ gb213) := ⟨h4_⟩
         have n5_ : Aside0 (w.heap.size ≤ gb213) := ⟨h5_⟩
         have n6_ : Aside0 (gb202 ≠ gb213) := ⟨h6_⟩
         have n7_ : Aside0 (gb213 ≠ gb202) := ⟨h7_⟩
         have n8_ : Aside0 (gb203 ≠ gb213) := ⟨h8_⟩
         have n9_ : Aside0 (gb213 ≠ gb203) := ⟨h9_⟩
         have n10_ : Aside0 (Below w.heap.size w w33) := ⟨h10_⟩
         clear BK202
         clear BK203
         clear HB
         clear h0_ h1_ h2_ h3_ h4_ h5_ h6_ h7_ h8_ h9_ h10_
         have HO212 := n0_
         have BK202 := n1_
         have BK203 := n2_
         have BK213 := n3_
         have GW213 := n4_
         have GE213 := n5_
         have NB202_213 := n6_
         have NB213_202 := n7_
         have NB203_213 := n8_
         have NB213_203 := n9_
         have HB := n10_
         clear n0_ n1_ n2_ n3_ n4_ n5_ n6_ n7_ n8_ n9_ n10_
         have hHeld : w33.cell? ⟨gb202, 0, none⟩ = some (.int .i64 a0_0) ∧ w33.cell? ⟨gb202, 1, none⟩ = some (.int .i64 a0_1) ∧ w33.cell? ⟨gb202, 2, none⟩ = some (.slice (some ad208) l0_2.length c0_2) ∧ w33.cell? ad208 = some (.int .u8 (rd l0_2 0)) := hS_
         obtain ⟨Ao34, co34, eo34⟩ := Kd.R_slice HO212.out
         (first | subst eo34 | (injection eo34 with f1_ f2_ f3_; have f4_ := f1_.symm; have f5_ := f3_.symm; clear f1_ f2_ f3_; subst f4_; subst f5_))
         refine norm_ (a' := ?_) ?_ ?_
         rotate_left
         ·simp only [putAll, Act.put, List.setIfInBounds_toArray, List.set_cons_zero, List.set_cons_succ]
          rfl
         refine one_ (i := 17) (N := none) #[true, true, true, true, true, true, true, true, true, true, true, true, true, true, true, true, true, true] rfl rfl (one_of HT_.out (by kernel_rfl)) (by decide) (fun K hK => ?_)
         have hs35 : w33.cell? ⟨gb213, 0, none⟩ = some (.int .i64 0) := (blk_cell BK213.out 0).trans rfl
         have hfs35 := blk_frozen BK213.out 0
         have hns35_0 := NB202_213.out
         have hns35_1 := NB203_213.out
         have hms35_0 := NB213_202.out
         have hms35_1 := NB213_203.out
         have hs36 : w33.cell? ⟨gb213, 1, none⟩ = some (.int .i64 0) := (blk_cell BK213.out 1).trans rfl
         have hfs36 := blk_frozen BK213.out 1
         have hns36_0 := NB202_213.out
         have hns36_1 := NB203_213.out
         have hms36_0 := NB213_202.out
         have hms36_1 := NB213_203.out
         have hs37 : w33.cell? ⟨gb213, 2, none⟩ = some (.int .i64 0) := (blk_cell BK213.out 2).trans rfl
         have hfs37 := blk_frozen BK213.out 2
         have hns37_0 := NB202_213.out
         have hns37_1 := NB203_213.out
         have hms37_0 := NB213_202.out
         have hms37_1 := NB213_203.out
         have hs38 : w33.cell? ⟨gb213, 3, none⟩ = some (.int .i64 0) := (blk_cell BK213.out 3).trans rfl
         have hfs38 := blk_frozen BK213.out 3
         have hns38_0 := NB202_213.out
         have hns38_1 := NB203_213.out
         have hms38_0 := NB213_202.out
         have hms38_1 := NB213_203.out
         have hs39 : w33.cell? ⟨gb213, 4, none⟩ = some (.slice none 0 0) := (blk_cell BK213.out 4).trans rfl
         have hfs39 := blk_frozen BK213.out 4
         have hns39_0 := NB202_213.out
         have hns39_1 := NB203_213.out
         have hms39_0 := NB213_202.out
         have hms39_1 := NB213_203.out
         refine skip_ (w1 := ?_) (by rfl) rfl ?_ ?_
         rotate_left
         ·go_simp
          rfl
         refine hK.out _ _ ⟨((cell_far (p := ⟨gb213, _, none⟩) NB202_213.out _).trans (((cell_far (p := ⟨gb213, _, none⟩) NB202_213.out _).trans (((cell_far (p := ⟨gb213, _, none⟩) NB202_213.out _).trans (((cell_far (p := ⟨gb213, _, none⟩) NB202_213.out _).trans (((cell_far (p := ⟨gb213, _, none⟩) NB202_213.out _).trans (hHeld.1)))))))))), ((cell_far (p := ⟨gb213, _, none⟩) NB202_213.out _).trans (((cell_far (p := ⟨gb213, _, none⟩) NB202_213.out _).trans (((cell_far (p := ⟨gb213, _, none⟩) NB202_213.out _).trans (((cell_far (p := ⟨gb213, _, none⟩) NB202_213.out _).trans (((cell_far (p := ⟨gb213, _, none⟩) NB202_213.out _).trans (hHeld.2.1)))))))))), ((cell_far (p := ⟨gb213, _, none⟩) NB202_213.out _).trans (((cell_far (p := ⟨gb213, _, none⟩) NB202_213.out _).trans (((cell_far (p := ⟨gb213, _, none⟩) NB202_213.out _).trans (((cell_far (p := ⟨gb213, _, none⟩) NB202_213.out _).trans (((cell_far (p := ⟨gb213, _, none⟩) NB202_213.out _).trans (hHeld.2.2.1)))))))))), ((cell_far (p := ⟨gb213, _, none⟩) (zO hw208_0 GW213.out) _).trans (((cell_far (p := ⟨gb213, _, none⟩) (zO hw208_0 GW213.out) _).trans (((cell_far (p := ⟨gb213, _, none⟩) (zO hw208_0 GW213.out) _).trans (((cell_far (p := ⟨gb213, _, none⟩) (zO hw208_0 GW213.out) _).trans (((cell_far (p := ⟨gb213, _, none⟩) (zO hw208_0 GW213.out) _).trans (hHeld.2.2.2))))))))))⟩ (fun hHeld => ?_)
         clear hK K
         refine done_ (done_of HT_.out (by kernel_rfl)) ?_
         have hnb40 := NB213_202.out
         have hnc40 := NB202_213.out
         have hnb41 := NB213_203.out
         have hnc41 := NB203_213.out
         obtain ⟨hcz42_0, hcz42_1, hcz42_2, hcz42_3, hcz42_4⟩ := zc5 BK213.out
         obtain ⟨hfz42_0, hfz42_1, hfz42_2, hfz42_3, hfz42_4⟩ := zf BK213.out
         try go_wp2_with (first | ((with_reducible refine gate_callee (f := 28) rfl ?_); refine goesL_ (some 45) rfl rfl Try.func28 (by kernel_rfl) rfl #[.agg #[.int .i64 (wrap64 (rd l0_2 0)), .int .i64 a0_0, .int .i64 a0_1, .int .i64 t205, .slice Ao34 t210.length co34]] rfl zM ?_; (with_reducible refine (spec_EventOk.calls kj1 (wrap64 (rd l0_2 0)) a0_0 a0_1 t205 _ _ t210 true _ ?side1 ?side2 A23.out).mono ?_); (case side1 => refine (Kd.R_reads' (e := 5) (base := w.heap.size) (ok := fun k_ => True) (n := t210.length) (c := co34) ?_).2.2; exact (by (with_reducible repeat (first | apply Kd.R_alloc | apply Kd.R_drewN | apply Kd.R_drew)); exact (Kd.R_mono (Kd.R_far (p := ⟨gb213, 4, none⟩) (Kd.R_far (p := ⟨gb213, 3, none⟩) (Kd.R_far (p := ⟨gb213, 2, none⟩) (Kd.R_far (p := ⟨gb213, 1, none⟩) (Kd.R_far (p := ⟨gb213, 0, none⟩) (Kd.R_types HO212.out BK213.out (by decide)) (fun _ hk => hk.2) (.int .i64 (wrap64 (rd l0_2 0)))) (fun _ hk => hk.2) (.int .i64 a0_0)) (fun _ hk => hk.2) (.int .i64 a0_1)) (fun _ hk => hk.2) (.int .i64 t205)) (fun _ hk => hk.2) (.slice Ao34 t210.length co34)) (fun _ h_ => h_.1)))); (case side2 => exact (Kd.R_reads' HO212.out).2.1); rintro e w43 ⟨rfl, hb⟩; refine ⟨_, rfl, ?_⟩; have n0_ := Aside0.mk (Kd.R_below (by (with_reducible repeat (first | apply Kd.R_alloc | apply Kd.R_drewN | apply Kd.R_drew)); exact (Kd.R_mono (Kd.R_far (p := ⟨gb213, 4, none⟩) (Kd.R_far (p := ⟨gb213, 3, none⟩) (Kd.R_far (p := ⟨gb213, 2, none⟩) (Kd.R_far (p := ⟨gb213, 1, none⟩) (Kd.R_far (p := ⟨gb213, 0, none⟩) (Kd.R_types HO212.out BK213.out (by decide)) (fun _ hk => hk.2) (.int .i64 (wrap64 (rd l0_2 0)))) (fun _ hk => hk.2) (.int .i64 a0_0)) (fun _ hk => hk.2) (.int .i64 a0_1)) (fun _ hk => hk.2) (.int .i64 t205)) (fun _ hk => hk.2) (.slice Ao34 t210.length co34)) (fun _ h_ => h_.1))) hb); have n1_ := Aside0.mk (blk_below (g := gb202) (o := .cells #[.int .i64 a0_0, .int .i64 a0_1, .slice (some ad208) l0_2.length c0_2] 62 (0, 0)) (by (repeat refine zL ?_); refine blk_far ?_ NB202_213.out _; (repeat refine zL ?_); refine blk_far ?_ NB202_213.out _; (repeat refine zL ?_); refine blk_far ?_ NB202_213.out _; (repeat refine zL ?_); refine blk_far ?_ NB202_213.out _; (repeat refine zL ?_); refine blk_far ?_ NB202_213.out _; (repeat refine zL ?_); exact BK202.out) hb); have n2_ := Aside0.mk (blk_below (g := gb203) (o := .cells #[.int .i64 0, .int .i64 0, .int .i64 0, .int .i64 0, .slice none 0 0] 44 (0, 0)) (by (repeat refine zL ?_); refine blk_far ?_ NB203_213.out _; (repeat refine zL ?_); refine blk_far ?_ NB203_213.out _; (repeat refine zL ?_); refine blk_far ?_ NB203_213.out _; (repeat refine zL ?_); refine blk_far ?_ NB203_213.out _; (repeat refine zL ?_); refine blk_far ?_ NB203_213.out _; (repeat refine zL ?_); exact BK203.out) hb); have n3_ := Aside0.mk (blk_below (g := gb213) (o := .cells #[.int .i64 (wrap64 (rd l0_2 0)), .int .i64 a0_0, .int .i64 a0_1, .int .i64 t205, .slice Ao34 t210.length co34] 44 (0, 0)) (by (repeat refine zL ?_); refine blk_put (cs := #[.int .i64 (wrap64 (rd l0_2 0)), .int .i64 a0_0, .int .i64 a0_1, .int .i64 t205, .slice none 0 0]) ?_ 4 _ rfl; (repeat refine zL ?_); refine blk_put (cs := #[.int .i64 (wrap64 (rd l0_2 0)), .int .i64 a0_0, .int .i64 a0_1, .int .i64 0, .slice none 0 0]) ?_ 3 _ rfl; (repeat refine zL ?_); refine blk_put (cs := #[.int .i64 (wrap64 (rd l0_2 0)), .int .i64 a0_0, .int .i64 0, .int .i64 0, .slice none 0 0]) ?_ 2 _ rfl; (repeat refine zL ?_); refine blk_put (cs := #[.int .i64 (wrap64 (rd l0_2 0)), .int .i64 0, .int .i64 0, .int .i64 0, .slice none 0 0]) ?_ 1 _ rfl; (repeat refine zL ?_); refine blk_put (cs := #[.int .i64 0, .int .i64 0, .int .i64 0, .int .i64 0, .slice none 0 0]) ?_ 0 _ rfl; (repeat refine zL ?_); exact BK213.out) hb); have n4_ := Aside0.mk (below_step zH hb); clear HO212; clear BK202; clear BK203; clear BK213; clear HB; have HO212 := n0_; have BK202 := n1_; have BK203 := n2_; have BK213 := n3_; have HB := n4_; clear n0_ n1_ n2_ n3_ n4_; (try clear hb); (try clear hb2); (try clear hk); (try clear hi); obtain ⟨hcz44_0, hcz44_1, hcz44_2, hcz44_3, hcz44_4⟩ := zc5 BK213.out; obtain ⟨hfz44_0, hfz44_1, hfz44_2, hfz44_3, hfz44_4⟩ := zf BK213.out; obtain ⟨hcz45_0, hcz45_1, hcz45_2, hcz45_3, hcz45_4⟩ := zc5 BK203.out; obtain ⟨hfz45_0, hfz45_1, hfz45_2, hfz45_3, hfz45_4⟩ := zf BK203.out))
         refine bodyPost_ret (results_ct rfl _ _ gb203 44 #[.int .i64 (wrap64 (rd l0_2 0)), .int .i64 a0_0, .int .i64 a0_1, .int .i64 t205, .slice Ao34 t210.length co34] (0, 0) _ rfl (by (repeat refine zL ?_); refine blk_put (cs := #[.int .i64 (wrap64 (rd l0_2 0)), .int .i64 a0_0, .int .i64 a0_1, .int .i64 t205, .slice none 0 0]) ?_ 4 _ rfl; (repeat refine zL ?_); refine blk_put (cs := #[.int .i64 (wrap64 (rd l0_2 0)), .int .i64 a0_0, .int .i64 a0_1, .int .i64 0, .slice none 0 0]) ?_ 3 _ rfl; (repeat refine zL ?_); refine blk_put (cs := #[.int .i64 (wrap64 (rd l0_2 0)), .int .i64 a0_0, .int .i64 0, .int .i64 0, .slice none 0 0]) ?_ 2 _ rfl; (repeat refine zL ?_); refine blk_put (cs := #[.int .i64 (wrap64 (rd l0_2 0)), .int .i64 0, .int .i64 0, .int .i64 0, .slice none 0 0]) ?_ 1 _ rfl; (repeat refine zL ?_); refine blk_put (cs := #[.int .i64 0, .int .i64 0, .int .i64 0, .int .i64 0, .slice none 0 0]) ?_ 0 _ rfl; (repeat refine zL ?_); exact BK203.out) Try.underlying44 rfl (by kernel_rfl)) rfl ?_
         exact ⟨_, zE, by (with_reducible repeat (first | apply Kd.R_alloc | apply Kd.R_drewN | apply Kd.R_drew)); exact Kd.R_mono (Kd.R_far (p := ⟨gb203, 4, none⟩) (Kd.R_far (p := ⟨gb203, 3, none⟩) (Kd.R_far (p := ⟨gb203, 2, none⟩) (Kd.R_far (p := ⟨gb203, 1, none⟩) (Kd.R_far (p := ⟨gb203, 0, none⟩) (Kd.R_types HO212.out BK203.out (by decide)) (fun _ hk => hk.2) (.int .i64 (wrap64 (rd l0_2 0)))) (fun _ hk => hk.2) (.int .i64 a0_0)) (fun _ hk => hk.2) (.int .i64 a0_1)) (fun _ hk => hk.2) (.int .i64 t205)) (fun _ hk => hk.2) (.slice Ao34 t210.length co34)) (fun _ hk => trivial), zH⟩
        ·replace c24 := Bool.eq_false_iff.mpr c24
         subst c24
         replace H : (some (0, 0, 0, 0, ([] : List Int), false)) = some (r1, r2, r3, r4, r5, r6) := by rw [if_neg (show ¬ (false = true) by decide)] at H; exact H
         simp only [Option.some.injEq, Prod.mk.injEq] at H
         obtain ⟨rfl, rfl, rfl, rfl, rfl, rfl⟩ := H
         have hnb46 := NB202_203.out
         have hnc46 := NB203_202.out
         obtain ⟨hcz47_0, hcz47_1, hcz47_2⟩ := zc3 BK202.out
         obtain ⟨hfz47_0, hfz47_1, hfz47_2, _, _⟩ := zf BK202.out
         try go_wp2_with (first | ((with_reducible refine gate_callee (f := 105) rfl ?_); refine goesL_ (some 21) rfl rfl Try.func105 (by kernel_rfl) rfl #[.slice A0_2 l0_2.length c0_2, .int .i64 1] rfl zM ?_; (with_reducible refine (spec_TakeNumber.calls kj1 _ _ l0_2 1 t205 t206 true _ ?side1 ?side2 A17.out).mono ?_); (case side1 => exact zC (Kd.C_below HR0_2.out HB.out)); (case side2 => exact HC0_2.out); rintro e w48 ⟨rfl, hb⟩; refine ⟨_, rfl, ?_⟩; have n0_ := Aside0.mk (blk_below (g := gb202) (o := .cells #[.int .i64 a0_0, .int .i64 a0_1, .slice A0_2 l0_2.length c0_2] 62 (0, 0)) (zB BK202.out) hb); have n1_ := Aside0.mk (blk_below (g := gb203) (o := .cells #[.int .i64 0, .int .i64 0, .int .i64 0, .int .i64 0, .slice none 0 0] 44 (0, 0)) (zB BK203.out) hb); have n2_ := Aside0.mk (below_step zH hb); clear BK202; clear BK203; clear HB; have BK202 := n0_; have BK203 := n1_; have HB := n2_; clear n0_ n1_ n2_; (try clear hb); (try clear hb2); (try clear hk); (try clear hi)))
         have n0_ := Aside0.mk (blk_drew BK202.out)
         have n1_ := Aside0.mk (blk_drew BK203.out)
         have n2_ := Aside0.mk (below_drew1 HB.out)
         clear BK202
         clear BK203
         clear HB
         have BK202 := n0_
         have BK203 := n1_
         have HB := n2_
         clear n0_ n1_ n2_
         have p208 : 0 ≤ (0 : Int) := (by omega)
         have q208 : 0 < (l0_2.length : Int) := zD
         obtain ⟨ad208, e208, hx208_0⟩ := Kd.at_int HR0_2.out 0 p208 q208
         have hw208_0 := hx208_0
         (try rw [show ((0 : Int)).toNat = 0 from rfl] at hw208_0)
         (try rw [show 0 * 1 = 0 from rfl] at hw208_0)
         (try rw [Addr.add_zero'] at hw208_0)
         cases e208
         have qi208 : (0 < l0_2.length) = True := eq_true (by omega)
         (try rw [show ((0 : Int)).toNat = 0 from rfl] at hx208_0)
         (try rw [Addr.add_zero'] at hx208_0)
         replace hx208_0 := (HB.out.cell (World.block_lt_of_cell? w _ hx208_0)).trans hx208_0
         replace p208 := eq_true p208
         replace q208 := eq_true q208
         obtain ⟨i050, hi050, _, hsz50, _⟩ := info_parts info5
         obtain ⟨A50, hcut50, hA50, hC50⟩ := print_drop_of (P := Try.prog) (Value.int .u8) 0 39 5 .i64 Try.underlying39 hi050 hsz50 (some ad208) c0_2 l0_2 t206 zD zD HC0_2.out
         have HR209 := Aside0.mk (Kd.C_of_reads (h1 := fun _ => rfl) (hA50 _ (Kd.reads_of_C HR0_2.out)))
         have HC209 := Aside0.mk hC50
         clear hA50 hC50 hi050 hsz50
         refine start_ (n := 18) (S := fun w' => w'.cell? ⟨gb202, 0, none⟩ = some (.int .i64 a0_0) ∧ w'.cell? ⟨gb202, 1, none⟩ = some (.int .i64 a0_1) ∧ w'.cell? ⟨gb202, 2, none⟩ = some (.slice (some ad208) l0_2.length c0_2) ∧ w'.cell? ad208 = some (.int .u8 (rd l0_2 0))) (ds := []) #[false, false, false, false, false, false, false, false, false, false, false, false, false, false, false, false, false, false] (by kernel_rfl) rfl rfl ⟨(blk_cell BK202.out 0).trans rfl, (blk_cell BK202.out 1).trans rfl, (blk_cell BK202.out 2).trans rfl, ((HB.out.cell (World.block_lt_of_cell? w _ hw208_0)).trans hw208_0)⟩ (fun hHeld => ?_); refine with_tabW spec_TakeEvent.tab6 spec_TakeEvent.bits6 (fun HT_ HW_ => ?_)
         generalize w48.drew = w49 at BK202 BK203 HB HR209 hx208_0 hHeld ⊢
         refine pure_ (i := 0) (N := some 28) (v := ?_) (a' := ?_) #[true, false, false, false, false, false, false, false, false, false, false, false, false, false, false, false, false, false] rfl rfl (any_of HT_.out (by kernel_rfl)) (fun _ _ _ h => h) (Or.inl ⟨by rfl, ?_⟩) ?_ ?_
         rotate_left;(focus intro w';go_simp;with_reducible rfl);rotate_left;(focus simp only [Act.put, List.setIfInBounds_toArray, List.set_cons_zero, List.set_cons_succ, i64_w, i32_w];rfl)
         refine pure_ (i := 5) (N := some 33) (v := ?_) (a' := ?_) #[true, false, false, false, false, true, false, false, false, false, false, false, false, false, false, false, false, false] rfl rfl (any_of HT_.out (by kernel_rfl)) (fun _ _ _ h => h) (Or.inl ⟨by rfl, ?_⟩) ?_ ?_
         rotate_left;(focus intro w';go_simp;with_reducible rfl);rotate_left;(focus simp only [Act.put, List.setIfInBounds_toArray, List.set_cons_zero, List.set_cons_succ, i64_w, i32_w];rfl)
         refine pure_ (i := 7) (N := some 35) (v := ?_) (a' := ?_) #[true, false, false, false, false, true, false, true, false, false, false, false, false, false, false, false, false, false] rfl rfl (any_of HT_.out (by kernel_rfl)) (fun _ _ _ h => h) (Or.inl ⟨by rfl, ?_⟩) ?_ ?_
         rotate_left;(focus intro w';go_simp;with_reducible rfl);rotate_left;(focus simp only [Act.put, List.setIfInBounds_toArray, List.set_cons_zero, List.set_cons_succ, i64_w, i32_w];rfl)
         refine pure_ (i := 9) (N := some 37) (v := ?_) (a' := ?_) #[true, false, false, false, false, true, false, true, false, true, false, false, false, false, false, false, false, false] rfl rfl (any_of HT_.out (by kernel_rfl)) (fun _ _ _ h => h) (Or.inl ⟨by rfl, ?_⟩) ?_ ?_
         rotate_left;(focus intro w';go_simp;with_reducible rfl);rotate_left;(focus simp only [Act.put, List.setIfInBounds_toArray, List.set_cons_zero, List.set_cons_succ, i64_w, i32_w];rfl)
         refine pure_ (i := 10) (N := some 38) (v := ?_) (a' := ?_) #[true, false, false, false, false, true, false, true, false, true, true, false, false, false, false, false, false, false] rfl rfl (any_of HT_.out (by kernel_rfl)) (fun _ _ _ h => h) (Or.inl ⟨by rfl, ?_⟩) ?_ ?_
         rotate_left;(focus intro w';go_simp;with_reducible rfl);rotate_left;(focus simp only [Act.put, List.setIfInBounds_toArray, List.set_cons_zero, List.set_cons_succ, i64_w, i32_w];rfl)
         refine pure_ (i := 12) (N := some 40) (v := ?_) (a' := ?_) #[true, false, false, false, false, true, false, true, false, true, true, false, true, false, false, false, false, false] rfl rfl (any_of HT_.out (by kernel_rfl)) (fun _ _ _ h => h) (Or.inl ⟨by rfl, ?_⟩) ?_ ?_
         rotate_left;(focus intro w';go_simp;with_reducible rfl);rotate_left;(focus simp only [Act.put, List.setIfInBounds_toArray, List.set_cons_zero, List.set_cons_succ, i64_w, i32_w];rfl)
         refine take_ (i := 1) (N := some 29) (v := ?_) (a' := ?_) #[true, true, false, false, false, true, false, true, false, true, true, false, true, false, false, false, false, false] rfl rfl (take_ofW HT_.out HW_.out (by kernel_rfl)) (fun _ _ _ h => h) (Or.inl ⟨by rfl, ?_⟩) hHeld ?_ ?_
         rotate_left
         ·rintro w' ⟨s0, s1, s2, s3⟩
          go_simp
          with_reducible rfl
         rotate_left
         ·simp only [Act.put, List.setIfInBounds_toArray, List.set_cons_zero, List.set_cons_succ, i64_w, i32_w]
          rfl
         refine pure_ (i := 2) (N := some 30) (v := ?_) (a' := ?_) #[true, true, true, false, false, true, false, true, false, true, true, false, true, false, false, false, false, false] rfl rfl (any_of HT_.out (by kernel_rfl)) (fun _ _ _ h => h) (Or.inl ⟨by rfl, ?_⟩) ?_ ?_
         rotate_left;(focus intro w';go_simp;with_reducible rfl);rotate_left;(focus simp only [Act.put, List.setIfInBounds_toArray, List.set_cons_zero, List.set_cons_succ, i64_w, i32_w];rfl)
         refine take_ (i := 3) (N := some 31) (v := ?_) (a' := ?_) #[true, true, true, true, false, true, false, true, false, true, true, false, true, false, false, false, false, false] rfl rfl (take_ofW HT_.out HW_.out (by kernel_rfl)) (fun _ _ _ h => h) (Or.inl ⟨by rfl, ?_⟩) hHeld ?_ ?_
         rotate_left
         ·rintro w' ⟨s0, s1, s2, s3⟩
          go_simp
          with_reducible rfl
         rotate_left
         ·simp only [Act.put, List.setIfInBounds_toArray, List.set_cons_zero, List.set_cons_succ, i64_w, i32_w]
          rfl
         refine pure_ (i := 4) (N := some 32) (v := ?_) (a' := ?_) #[true, true, true, true, true, true, false, true, false, true, true, false, true, false, false, false, false, false] rfl rfl (any_of HT_.out (by kernel_rfl)) (fun _ _ _ h => h) (Or.inl ⟨by rfl, ?_⟩) ?_ ?_
         rotate_left;(focus intro w';go_simp;with_reducible rfl);rotate_left;(focus simp only [Act.put, List.setIfInBounds_toArray, List.set_cons_zero, List.set_cons_succ, i64_w, i32_w];rfl)
         refine take_ (i := 6) (N := some 34) (v := ?_) (a' := ?_) #[true, true, true, true, true, true, true, true, false, true, true, false, true, false, false, false, false, false] rfl rfl (take_ofW HT_.out HW_.out (by kernel_rfl)) (fun _ _ _ h => h) (Or.inl ⟨by rfl, ?_⟩) hHeld ?_ ?_
         rotate_left
         ·rintro w' ⟨s0, s1, s2, s3⟩
          go_simp
          with_reducible rfl
         rotate_left
         ·simp only [Act.put, List.setIfInBounds_toArray, List.set_cons_zero, List.set_cons_succ, i64_w, i32_w]
          rfl
         refine take_ (i := 8) (N := some 36) (v := ?_) (a' := ?_) #[true, true, true, true, true, true, true, true, true, true, true, false, true, false, false, false, false, false] rfl rfl (take_ofW HT_.out HW_.out (by kernel_rfl)) (fun _ _ _ h => h) (Or.inl ⟨by rfl, ?_⟩) hHeld ?_ ?_
         rotate_left
         ·rintro w' ⟨s0, s1, s2, s3⟩
          go_simp
          with_reducible rfl
         rotate_left
         ·simp only [Act.put, List.setIfInBounds_toArray, List.set_cons_zero, List.set_cons_succ, i64_w, i32_w]
          rfl
         refine take_ (i := 11) (N := some 39) (v := ?_) (a' := ?_) #[true, true, true, true, true, true, true, true, true, true, true, true, true, false, false, false, false, false] rfl rfl (take_ofW HT_.out HW_.out (by kernel_rfl)) (fun _ _ _ h => h) (Or.inl ⟨by rfl, ?_⟩) hHeld ?_ ?_
         rotate_left
         ·rintro w' ⟨s0, s1, s2, s3⟩
          go_simp
          with_reducible rfl
         rotate_left
         ·simp only [Act.put, List.setIfInBounds_toArray, List.set_cons_zero, List.set_cons_succ, i64_w, i32_w]
          rfl
         refine pure_ (i := 13) (N := some 41) (v := ?_) (a' := ?_) #[true, true, true, true, true, true, true, true, true, true, true, true, true, true, false, false, false, false] rfl rfl (any_of HT_.out (by kernel_rfl)) (fun _ _ _ h => h) (Or.inl ⟨by rfl, ?_⟩) ?_ ?_
         rotate_left;(focus intro w';go_simp;with_reducible rfl);rotate_left;(focus simp only [Act.put, List.setIfInBounds_toArray, List.set_cons_zero, List.set_cons_succ, i64_w, i32_w];rfl)
         refine join_ (σ := Value × Nat) 1 #[true, true, true, true, true, true, true, true, true, true, true, true, true, true, true, true, true, false] (fun s_ => [(42, s_.1), (7, .pointer (some ⟨s_.2, 0, none⟩)), (43, .agg #[.int .i64 (wrap64 (rd l0_2 0)), .int .i64 a0_0, .int .i64 a0_1, .int .i64 t205, s_.1])]) (fun s_ w' => (w'.cell? ⟨gb202, 0, none⟩ = some (.int .i64 a0_0) ∧ w'.cell? ⟨gb202, 1, none⟩ = some (.int .i64 a0_1) ∧ w'.cell? ⟨gb202, 2, none⟩ = some (.slice (some ad208) l0_2.length c0_2) ∧ w'.cell? ad208 = some (.int .u8 (rd l0_2 0))) ∧ (Kd.R (Kd.int .u8) 5 w' w.heap.size (fun _ => True) s_.1 t210) ∧ (w'.heap[gb202]? = some (.cells #[.int .i64 a0_0, .int .i64 a0_1, .slice (some ad208) l0_2.length c0_2] 62 (0, 0))) ∧ (w'.heap[gb203]? = some (.cells #[.int .i64 0, .int .i64 0, .int .i64 0, .int .i64 0, .slice none 0 0] 44 (0, 0))) ∧ (w'.heap[s_.2]? = some (.cells #[.int .i64 0, .int .i64 0, .int .i64 0, .int .i64 0, .slice none 0 0] 44 (0, 0))) ∧ (w.heap.size ≤ s_.2) ∧ (w.heap.size ≤ s_.2) ∧ (gb202 ≠ s_.2) ∧ (s_.2 ≠ gb202) ∧ (gb203 ≠ s_.2) ∧ (s_.2 ≠ gb203) ∧ (Below w.heap.size w w')) ?_ ?_
         rotate_left
         ·intro hCont
          refine two_ (i := 14) (j := 16) (Ni := some 42) (Nj := some 7) #[true, true, true, true, true, true, true, true, true, true, true, true, true, true, true, false, false, false] #[true, true, true, true, true, true, true, true, true, true, true, true, true, true, false, false, true, false] rfl rfl rfl rfl (two_of HT_.out (by kernel_rfl)) (by decide) (by decide) (fun K hK => ?_) (fun K hK => ?_)
          ·skip
           refine goes_ Try.func106 (by kernel_rfl) rfl #[.slice A50 (l0_2.drop (t206 : Int).toNat).length (c0_2 - t206.toNat)] (by rfl) rfl rfl (by (try simp only [List.map_toArray, List.map_cons, List.map_nil]); first | done | (rw [show (l0_2.drop (t206 : Int).toNat).length = (l0_2.length - t206.toNat) from List.length_drop] <;> rfl) | rfl | (simp only [List.length_drop, List.length_take]; rfl)) ?_
           with_reducible refine (spec_l01Bytes.calls kj1 _ _ (l0_2.drop (t206 : Int).toNat) t210 _ ?side1 ?side2 A22.out).mono ?_
           (case side1 => exact zC (Kd.C_below HR209.out HB.out))
           (case side2 => exact HC209.out)
           rintro e w51 ⟨v211, rfl, ho0, hb⟩
           refine ⟨_, rfl, ?_⟩
           have n0_ := Aside0.mk (Kd.R_lower ho0 (below_size zH))
           have n1_ := Aside0.mk (blk_below (g := gb202) (o := .cells #[.int .i64 a0_0, .int .i64 a0_1, .slice (some ad208) l0_2.length c0_2] 62 (0, 0)) (zB BK202.out) hb)
           have n2_ := Aside0.mk (blk_below (g := gb203) (o := .cells #[.int .i64 0, .int .i64 0, .int .i64 0, .int .i64 0, .slice none 0 0] 44 (0, 0)) (zB BK203.out) hb)
           have n3_ := Aside0.mk (below_step zH hb)
           clear BK202
           clear BK203
           clear HB
           have HO212 := n0_
           have BK202 := n1_
           have BK203 := n2_
           have HB := n3_
           clear n0_ n1_ n2_ n3_
           (try clear hb)
           (try clear hb2)
           (try clear hk)
           (try clear hi)
           (try clear ho0)
           obtain ⟨Ao52, co52, eo52⟩ := Kd.R_slice HO212.out
           (first | subst eo52 | (injection eo52 with f1_ f2_ f3_; have f4_ := f1_.symm; have f5_ := f3_.symm; clear f1_ f2_ f3_; subst f4_; subst f5_))
           refine hK.out _ _ ⟨(blk_cell BK202.out 0).trans rfl, (blk_cell BK202.out 1).trans rfl, (blk_cell BK202.out 2).trans rfl, ((HB.out.cell (World.block_lt_of_cell? w _ hw208_0)).trans hw208_0)⟩ (fun hHeld => ?_)
           clear hK K
           refine norm_ (a' := ?_) ?_ ?_
           rotate_left
           ·show Act.put _ (some 42) _ = _
            simp only [Act.put, List.setIfInBounds_toArray, List.set_cons_zero, List.set_cons_succ, i64_w, i32_w]
            rfl
           refine pure_ (i := 15) (N := some 43) (v := ?_) (a' := ?_) #[true, true, true, true, true, true, true, true, true, true, true, true, true, true, true, true, false, false] rfl rfl (any_of HT_.out (by kernel_rfl)) (fun _ _ _ h => h) (Or.inl ⟨by rfl, ?_⟩) ?_ ?_
           rotate_left;(focus intro w';go_simp;with_reducible rfl);rotate_left;(focus simp only [Act.put, List.setIfInBounds_toArray, List.set_cons_zero, List.set_cons_succ, i64_w, i32_w];rfl)
           refine one_ (i := 16) (N := some 7) #[true, true, true, true, true, true, true, true, true, true, true, true, true, true, true, true, true, false] rfl rfl (one_of HT_.out (by kernel_rfl)) (by decide) (fun K hK => ?_)
           refine box_step ?hg (N := 7) ?hd (cs := #[.int .i64 0, .int .i64 0, .int .i64 0, .int .i64 0, .slice none 0 0]) (t := 44) ?hr ?_; (case hd => rfl); (case hg => rfl); (case hr => first | (go_simp; done) | (go_simp; rfl))
           intro gb213 hg w53 hbox hb
           have n0_ := Aside0.mk (Kd.R_below (zR HO212.out) hb)
           have n1_ := Aside0.mk (blk_below (g := gb202) (o := .cells #[.int .i64 a0_0, .int .i64 a0_1, .slice (some ad208) l0_2.length c0_2] 62 (0, 0)) (zB BK202.out) hb)
           have n2_ := Aside0.mk (blk_below (g := gb203) (o := .cells #[.int .i64 0, .int .i64 0, .int .i64 0, .int .i64 0, .slice none 0 0] 44 (0, 0)) (zB BK203.out) hb)
           have n3_ := Aside0.mk (below_step zH hb)
           have n4_ := Aside0.mk (hbox)
           have n5_ := Aside0.mk ((by rw [hg]; exact (below_size zH) : w.heap.size ≤ gb213))
           have n6_ := Aside0.mk ((by rw [hg]; exact (below_size zH) : w.heap.size ≤ gb213))
           have n7_ := Aside0.mk ((by rw [hg]; exact Nat.ne_of_lt (blk_lt (g := gb202) (o := .cells #[.int .i64 a0_0, .int .i64 a0_1, .slice (some ad208) l0_2.length c0_2] 62 (0, 0)) (zB BK202.out)) : gb202 ≠ gb213))
           have n8_ := Aside0.mk ((by rw [hg]; exact Nat.ne_of_gt (blk_lt (g := gb202) (o := .cells #[.int .i64 a0_0, .int .i64 a0_1, .slice (some ad208) l0_2.length c0_2] 62 (0, 0)) (zB BK202.out)) : gb213 ≠ gb202))
           have n9_ := Aside0.mk ((by rw [hg]; exact Nat.ne_of_lt (blk_lt (g := gb203) (o := .cells #[.int .i64 0, .int .i64 0, .int .i64 0, .int .i64 0, .slice none 0 0] 44 (0, 0)) (zB BK203.out)) : gb203 ≠ gb213))
           have n10_ := Aside0.mk ((by rw [hg]; exact Nat.ne_of_gt (blk_lt (g := gb203) (o := .cells #[.int .i64 0, .int .i64 0, .int .i64 0, .int .i64 0, .slice none 0 0] 44 (0, 0)) (zB BK203.out)) : gb213 ≠ gb203))
           clear HO212
           clear BK202
           clear BK203
           clear HB
           have HO212 := n0_
           have BK202 := n1_
           have BK203 := n2_
           have HB := n3_
           have BK213 := n4_
           have GW213 := n5_
           have GE213 := n6_
           have NB202_213 := n7_
           have NB213_202 := n8_
           have NB203_213 := n9_
           have NB213_203 := n10_
           clear n0_ n1_ n2_ n3_ n4_ n5_ n6_ n7_ n8_ n9_ n10_
           clear hb hbox hg
           refine hK.out _ _ ⟨(blk_cell BK202.out 0).trans rfl, (blk_cell BK202.out 1).trans rfl, (blk_cell BK202.out 2).trans rfl, ((HB.out.cell (World.block_lt_of_cell? w _ hw208_0)).trans hw208_0)⟩ (fun hHeld => ?_)
           clear hK K
           refine norm_ (a' := ?_) ?_ ?_
           rotate_left
           ·show Act.put _ (some 7) _ = _
            simp only [Act.put, List.setIfInBounds_toArray, List.set_cons_zero, List.set_cons_succ, i64_w, i32_w]
            rfl
           exact norm_ (by simp only [putAll, Act.put, List.setIfInBounds_toArray, List.set_cons_zero, List.set_cons_succ]) (hCont (.slice Ao52 t210.length co52, gb213) _ ⟨hHeld, (zR HO212.out), (zB BK202.out), (zB BK203.out), (zB BK213.out), GW213.out, GE213.out, NB202_213.out, NB213_202.out, NB203_213.out, NB213_203.out, zH⟩)
          ·skip
           refine box_step ?hg (N := 7) ?hd (cs := #[.int .i64 0, .int .i64 0, .int .i64 0, .int .i64 0, .slice none 0 0]) (t := 44) ?hr ?_; (case hd => rfl); (case hg => rfl); (case hr => first | (go_simp; done) | (go_simp; rfl))
           intro gb213 hg w51 hbox hb
           have n0_ := Aside0.mk (blk_below (g := gb202) (o := .cells #[.int .i64 a0_0, .int .i64 a0_1, .slice (some ad208) l0_2.length c0_2] 62 (0, 0)) (zB BK202.out) hb)
           have n1_ := Aside0.mk (blk_below (g := gb203) (o := .cells #[.int .i64 0, .int .i64 0, .int .i64 0, .int .i64 0, .slice none 0 0] 44 (0, 0)) (zB BK203.out) hb)
           have n2_ := Aside0.mk (below_step zH hb)
           have n3_ := Aside0.mk (hbox)
           have n4_ := Aside0.mk ((by rw [hg]; exact (below_size zH) : w.heap.size ≤ gb213))
           have n5_ := Aside0.mk ((by rw [hg]; exact (below_size zH) : w.heap.size ≤ gb213))
           have n6_ := Aside0.mk ((by rw [hg]; exact Nat.ne_of_lt (blk_lt (g := gb202) (o := .cells #[.int .i64 a0_0, .int .i64 a0_1, .slice (some ad208) l0_2.length c0_2] 62 (0, 0)) (zB BK202.out)) : gb202 ≠ gb213))
           have n7_ := Aside0.mk ((by rw [hg]; exact Nat.ne_of_gt (blk_lt (g := gb202) (o := .cells #[.int .i64 a0_0, .int .i64 a0_1, .slice (some ad208) l0_2.length c0_2] 62 (0, 0)) (zB BK202.out)) : gb213 ≠ gb202))
           have n8_ := Aside0.mk ((by rw [hg]; exact Nat.ne_of_lt (blk_lt (g := gb203) (o := .cells #[.int .i64 0, .int .i64 0, .int .i64 0, .int .i64 0, .slice none 0 0] 44 (0, 0)) (zB BK203.out)) : gb203 ≠ gb213))
           have n9_ := Aside0.mk ((by rw [hg]; exact Nat.ne_of_gt (blk_lt (g := gb203) (o := .cells #[.int .i64 0, .int .i64 0, .int .i64 0, .int .i64 0, .slice none 0 0] 44 (0, 0)) (zB BK203.out)) : gb213 ≠ gb203))
           clear BK202
           clear BK203
           clear HB
           have BK202 := n0_
           have BK203 := n1_
           have HB := n2_
           have BK213 := n3_
           have GW213 := n4_
           have GE213 := n5_
           have NB202_213 := n6_
           have NB213_202 := n7_
           have NB203_213 := n8_
           have NB213_203 := n9_
           clear n0_ n1_ n2_ n3_ n4_ n5_ n6_ n7_ n8_ n9_
           clear hb hbox hg
           refine hK.out _ _ ⟨(blk_cell BK202.out 0).trans rfl, (blk_cell BK202.out 1).trans rfl, (blk_cell BK202.out 2).trans rfl, ((HB.out.cell (World.block_lt_of_cell? w _ hw208_0)).trans hw208_0)⟩ (fun hHeld => ?_)
           clear hK K
           refine norm_ (a' := ?_) ?_ ?_
           rotate_left
           ·show Act.put _ (some 7) _ = _
            simp only [Act.put, List.setIfInBounds_toArray, List.set_cons_zero, List.set_cons_succ, i64_w, i32_w]
            rfl
           refine one_ (i := 14) (N := some 42) #[true, true, true, true, true, true, true, true, true, true, true, true, true, true, true, false, true, false] rfl rfl (one_of HT_.out (by kernel_rfl)) (by decide) (fun K hK => ?_)
           refine goes_ Try.func106 (by kernel_rfl) rfl #[.slice A50 (l0_2.drop (t206 : Int).toNat).length (c0_2 - t206.toNat)] (by rfl) rfl rfl (by (try simp only [List.map_toArray, List.map_cons, List.map_nil]); first | done | (rw [show (l0_2.drop (t206 : Int).toNat).length = (l0_2.length - t206.toNat) from List.length_drop] <;> rfl) | rfl | (simp only [List.length_drop, List.length_take]; rfl)) ?_
           with_reducible refine (spec_l01Bytes.calls kj1 _ _ (l0_2.drop (t206 : Int).toNat) t210 _ ?side1 ?side2 A22.out).mono ?_
           (case side1 => exact zC (Kd.C_below HR209.out HB.out))
           (case side2 => exact HC209.out)
           rintro e w52 ⟨v211, rfl, ho0, hb⟩
           refine ⟨_, rfl, ?_⟩
           have n0_ := Aside0.mk (Kd.R_lower ho0 (below_size zH))
           have n1_ := Aside0.mk (blk_below (g := gb202) (o := .cells #[.int .i64 a0_0, .int .i64 a0_1, .slice (some ad208) l0_2.length c0_2] 62 (0, 0)) (zB BK202.out) hb)
           have n2_ := Aside0.mk (blk_below (g := gb203) (o := .cells #[.int .i64 0, .int .i64 0, .int .i64 0, .int .i64 0, .slice none 0 0] 44 (0, 0)) (zB BK203.out) hb)
           have n3_ := Aside0.mk (blk_below (g := gb213) (o := .cells #[.int .i64 0, .int .i64 0, .int .i64 0, .int .i64 0, .slice none 0 0] 44 (0, 0)) (zB BK213.out) hb)
           have n4_ := Aside0.mk (below_step zH hb)
           clear BK202
           clear BK203
           clear BK213
           clear HB
           have HO212 := n0_
           have BK202 := n1_
           have BK203 := n2_
           have BK213 := n3_
           have HB := n4_
           clear n0_ n1_ n2_ n3_ n4_
           (try clear hb)
           (try clear hb2)
           (try clear hk)
           (try clear hi)
           (try clear ho0)
           obtain ⟨Ao53, co53, eo53⟩ := Kd.R_slice HO212.out
           (first | subst eo53 | (injection eo53 with f1_ f2_ f3_; have f4_ := f1_.symm; have f5_ := f3_.symm; clear f1_ f2_ f3_; subst f4_; subst f5_))
           refine hK.out _ _ ⟨(blk_cell BK202.out 0).trans rfl, (blk_cell BK202.out 1).trans rfl, (blk_cell BK202.out 2).trans rfl, ((HB.out.cell (World.block_lt_of_cell? w _ hw208_0)).trans hw208_0)⟩ (fun hHeld => ?_)
           clear hK K
           refine norm_ (a' := ?_) ?_ ?_
           rotate_left
           ·show Act.put _ (some 42) _ = _
            simp only [Act.put, List.setIfInBounds_toArray, List.set_cons_zero, List.set_cons_succ, i64_w, i32_w]
            rfl
           refine pure_ (i := 15) (N := some 43) (v := ?_) (a' := ?_) #[true, true, true, true, true, true, true, true, true, true, true, true, true, true, true, true, true, false] rfl rfl (any_of HT_.out (by kernel_rfl)) (fun _ _ _ h => h) (Or.inl ⟨by rfl, ?_⟩) ?_ ?_
           rotate_left;(focus intro w';go_simp;with_reducible rfl);rotate_left;(focus simp only [Act.put, List.setIfInBounds_toArray, List.set_cons_zero, List.set_cons_succ, i64_w, i32_w];rfl)
           exact norm_ (by simp only [putAll, Act.put, List.setIfInBounds_toArray, List.set_cons_zero, List.set_cons_succ]) (hCont (.slice Ao53 t210.length co53, gb213) _ ⟨hHeld, (zR HO212.out), (zB BK202.out), (zB BK203.out), (zB BK213.out), GW213.out, GE213.out, NB202_213.out, NB213_202.out, NB203_213.out, NB213_203.out, zH⟩)
         rintro ⟨v211, gb213⟩ w54 ⟨hS_, h0_, h1_, h2_, h3_, h4_, h5_, h6_, h7_, h8_, h9_, h10_⟩
         have n0_ : Aside0 (Kd.R (Kd.int .u8) 5 w54 w.heap.size (fun _ => True) v211 t210) := ⟨h0_⟩
         have n1_ : Aside0 (w54.heap[gb202]? = some (.cells #[.int .i64 a0_0, .int .i64 a0_1, .slice (some ad208) l0_2.length c0_2] 62 (0, 0))) := ⟨h1_⟩
         have n2_ : Aside0 (w54.heap[gb203]? = some (.cells #[.int .i64 0, .int .i64 0, .int .i64 0, .int .i64 0, .slice none 0 0] 44 (0, 0))) := ⟨h2_⟩
         have n3_ : Aside0 (w54.heap[gb213]? = some (.cells #[.int .i64 0, .int .i64 0, .int .i64 0, .int .i64 0, .slice none 0 0] 44 (0, 0))) := ⟨h3_⟩
         have n4_ : Aside0 (w.heap.size ≤ gb213) := ⟨h4_⟩
         have n5_ : Aside0 (w.heap.size ≤ gb213) := ⟨h5_⟩
         have n6_ : Aside0 (gb202 ≠ gb213) := ⟨h6_⟩
         have n7_ : Aside0 (gb213 ≠ gb202) := ⟨h7_⟩
         have n8_ : Aside0 (gb203 ≠ gb213) := ⟨h8_⟩
         have n9_ : Aside0 (gb213 ≠ gb203) := ⟨h9_⟩
         have n10_ : Aside0 (Below w.heap.size w w54) := ⟨h10_⟩
         clear BK202
         clear BK203
         clear HB
         clear h0_ h1_ h2_ h3_ h4_ h5_ h6_ h7_ h8_ h9_ h10_
         have HO212 := n0_
         have BK202 := n1_
         have BK203 := n2_
         have BK213 := n3_
         have GW213 := n4_
         have GE213 := n5_
         have NB202_213 := n6_
         have NB213_202 := n7_
         have NB203_213 := n8_
         have NB213_203 := n9_
         have HB := n10_
         clear n0_ n1_ n2_ n3_ n4_ n5_ n6_ n7_ n8_ n9_ n10_
         have hHeld : w54.cell? ⟨gb202, 0, none⟩ = some (.int .i64 a0_0) ∧ w54.cell? ⟨gb202, 1, none⟩ = some (.int .i64 a0_1) ∧ w54.cell? ⟨gb202, 2, none⟩ = some (.slice (some ad208) l0_2.length c0_2) ∧ w54.cell? ad208 = some (.int .u8 (rd l0_2 0)) := hS_
         obtain ⟨Ao55, co55, eo55⟩ := Kd.R_slice HO212.out
         (first | subst eo55 | (injection eo55 with f1_ f2_ f3_; have f4_ := f1_.symm; have f5_ := f3_.symm; clear f1_ f2_ f3_; subst f4_; subst f5_))
         refine norm_ (a' := ?_) ?_ ?_
         rotate_left
         ·simp only [putAll, Act.put, List.setIfInBounds_toArray, List.set_cons_zero, List.set_cons_succ]
          rfl
         refine one_ (i := 17) (N := none) #[true, true, true, true, true, true, true, true, true, true, true, true, true, true, true, true, true, true] rfl rfl (one_of HT_.out (by kernel_rfl)) (by decide) (fun K hK => ?_)
         have hs56 : w54.cell? ⟨gb213, 0, none⟩ = some (.int .i64 0) := (blk_cell BK213.out 0).trans rfl
         have hfs56 := blk_frozen BK213.out 0
         have hns56_0 := NB202_213.out
         have hns56_1 := NB203_213.out
         have hms56_0 := NB213_202.out
         have hms56_1 := NB213_203.out
         have hs57 : w54.cell? ⟨gb213, 1, none⟩ = some (.int .i64 0) := (blk_cell BK213.out 1).trans rfl
         have hfs57 := blk_frozen BK213.out 1
         have hns57_0 := NB202_213.out
         have hns57_1 := NB203_213.out
         have hms57_0 := NB213_202.out
         have hms57_1 := NB213_203.out
         have hs58 : w54.cell? ⟨gb213, 2, none⟩ = some (.int .i64 0) := (blk_cell BK213.out 2).trans rfl
         have hfs58 := blk_frozen BK213.out 2
         have hns58_0 := NB202_213.out
         have hns58_1 := NB203_213.out
         have hms58_0 := NB213_202.out
         have hms58_1 := NB213_203.out
         have hs59 : w54.cell? ⟨gb213, 3, none⟩ = some (.int .i64 0) := (blk_cell BK213.out 3).trans rfl
         have hfs59 := blk_frozen BK213.out 3
         have hns59_0 := NB202_213.out
         have hns59_1 := NB203_213.out
         have hms59_0 := NB213_202.out
         have hms59_1 := NB213_203.out
         have hs60 : w54.cell? ⟨gb213, 4, none⟩ = some (.slice none 0 0) := (blk_cell BK213.out 4).trans rfl
         have hfs60 := blk_frozen BK213.out 4
         have hns60_0 := NB202_213.out
         have hns60_1 := NB203_213.out
         have hms60_0 := NB213_202.out
         have hms60_1 := NB213_203.out
         refine skip_ (w1 := ?_) (by rfl) rfl ?_ ?_
         rotate_left
         ·go_simp
          rfl
         refine hK.out _ _ ⟨((cell_far (p := ⟨gb213, _, none⟩) NB202_213.out _).trans (((cell_far (p := ⟨gb213, _, none⟩) NB202_213.out _).trans (((cell_far (p := ⟨gb213, _, none⟩) NB202_213.out _).trans (((cell_far (p := ⟨gb213, _, none⟩) NB202_213.out _).trans (((cell_far (p := ⟨gb213, _, none⟩) NB202_213.out _).trans (hHeld.1)))))))))), ((cell_far (p := ⟨gb213, _, none⟩) NB202_213.out _).trans (((cell_far (p := ⟨gb213, _, none⟩) NB202_213.out _).trans (((cell_far (p := ⟨gb213, _, none⟩) NB202_213.out _).trans (((cell_far (p := ⟨gb213, _, none⟩) NB202_213.out _).trans (((cell_far (p := ⟨gb213, _, none⟩) NB202_213.out _).trans (hHeld.2.1)))))))))), ((cell_far (p := ⟨gb213, _, none⟩) NB202_213.out _).trans (((cell_far (p := ⟨gb213, _, none⟩) NB202_213.out _).trans (((cell_far (p := ⟨gb213, _, none⟩) NB202_213.out _).trans (((cell_far (p := ⟨gb213, _, none⟩) NB202_213.out _).trans (((cell_far (p := ⟨gb213, _, none⟩) NB202_213.out _).trans (hHeld.2.2.1)))))))))), ((cell_far (p := ⟨gb213, _, none⟩) (zO hw208_0 GW213.out) _).trans (((cell_far (p := ⟨gb213, _, none⟩) (zO hw208_0 GW213.out) _).trans (((cell_far (p := ⟨gb213, _, none⟩) (zO hw208_0 GW213.out) _).trans (((cell_far (p := ⟨gb213, _, none⟩) (zO hw208_0 GW213.out) _).trans (((cell_far (p := ⟨gb213, _, none⟩) (zO hw208_0 GW213.out) _).trans (hHeld.2.2.2))))))))))⟩ (fun hHeld => ?_)
         clear hK K
         refine done_ (done_of HT_.out (by kernel_rfl)) ?_
         have hnb61 := NB213_202.out
         have hnc61 := NB202_213.out
         have hnb62 := NB213_203.out
         have hnc62 := NB203_213.out
         obtain ⟨hcz63_0, hcz63_1, hcz63_2, hcz63_3, hcz63_4⟩ := zc5 BK213.out
         obtain ⟨hfz63_0, hfz63_1, hfz63_2, hfz63_3, hfz63_4⟩ := zf BK213.out
         try go_wp2_with (first | ((with_reducible refine gate_callee (f := 28) rfl ?_); refine goesL_ (some 45) rfl rfl Try.func28 (by kernel_rfl) rfl #[.agg #[.int .i64 (wrap64 (rd l0_2 0)), .int .i64 a0_0, .int .i64 a0_1, .int .i64 t205, .slice Ao55 t210.length co55]] rfl zM ?_; (with_reducible refine (spec_EventOk.calls kj1 (wrap64 (rd l0_2 0)) a0_0 a0_1 t205 _ _ t210 false _ ?side1 ?side2 A23.out).mono ?_); (case side1 => refine (Kd.R_reads' (e := 5) (base := w.heap.size) (ok := fun k_ => True) (n := t210.length) (c := co55) ?_).2.2; exact (by (with_reducible repeat (first | apply Kd.R_alloc | apply Kd.R_drewN | apply Kd.R_drew)); exact (Kd.R_mono (Kd.R_far (p := ⟨gb213, 4, none⟩) (Kd.R_far (p := ⟨gb213, 3, none⟩) (Kd.R_far (p := ⟨gb213, 2, none⟩) (Kd.R_far (p := ⟨gb213, 1, none⟩) (Kd.R_far (p := ⟨gb213, 0, none⟩) (Kd.R_types HO212.out BK213.out (by decide)) (fun _ hk => hk.2) (.int .i64 (wrap64 (rd l0_2 0)))) (fun _ hk => hk.2) (.int .i64 a0_0)) (fun _ hk => hk.2) (.int .i64 a0_1)) (fun _ hk => hk.2) (.int .i64 t205)) (fun _ hk => hk.2) (.slice Ao55 t210.length co55)) (fun _ h_ => h_.1)))); (case side2 => exact (Kd.R_reads' HO212.out).2.1); rintro e w64 ⟨rfl, hb⟩; refine ⟨_, rfl, ?_⟩; have n0_ := Aside0.mk (Kd.R_below (by (with_reducible repeat (first | apply Kd.R_alloc | apply Kd.R_drewN | apply Kd.R_drew)); exact (Kd.R_mono (Kd.R_far (p := ⟨gb213, 4, none⟩) (Kd.R_far (p := ⟨gb213, 3, none⟩) (Kd.R_far (p := ⟨gb213, 2, none⟩) (Kd.R_far (p := ⟨gb213, 1, none⟩) (Kd.R_far (p := ⟨gb213, 0, none⟩) (Kd.R_types HO212.out BK213.out (by decide)) (fun _ hk => hk.2) (.int .i64 (wrap64 (rd l0_2 0)))) (fun _ hk => hk.2) (.int .i64 a0_0)) (fun _ hk => hk.2) (.int .i64 a0_1)) (fun _ hk => hk.2) (.int .i64 t205)) (fun _ hk => hk.2) (.slice Ao55 t210.length co55)) (fun _ h_ => h_.1))) hb); have n1_ := Aside0.mk (blk_below (g := gb202) (o := .cells #[.int .i64 a0_0, .int .i64 a0_1, .slice (some ad208) l0_2.length c0_2] 62 (0, 0)) (by (repeat refine zL ?_); refine blk_far ?_ NB202_213.out _; (repeat refine zL ?_); refine blk_far ?_ NB202_213.out _; (repeat refine zL ?_); refine blk_far ?_ NB202_213.out _; (repeat refine zL ?_); refine blk_far ?_ NB202_213.out _; (repeat refine zL ?_); refine blk_far ?_ NB202_213.out _; (repeat refine zL ?_); exact BK202.out) hb); have n2_ := Aside0.mk (blk_below (g := gb203) (o := .cells #[.int .i64 0, .int .i64 0, .int .i64 0, .int .i64 0, .slice none 0 0] 44 (0, 0)) (by (repeat refine zL ?_); refine blk_far ?_ NB203_213.out _; (repeat refine zL ?_); refine blk_far ?_ NB203_213.out _; (repeat refine zL ?_); refine blk_far ?_ NB203_213.out _; (repeat refine zL ?_); refine blk_far ?_ NB203_213.out _; (repeat refine zL ?_); refine blk_far ?_ NB203_213.out _; (repeat refine zL ?_); exact BK203.out) hb); have n3_ := Aside0.mk (blk_below (g := gb213) (o := .cells #[.int .i64 (wrap64 (rd l0_2 0)), .int .i64 a0_0, .int .i64 a0_1, .int .i64 t205, .slice Ao55 t210.length co55] 44 (0, 0)) (by (repeat refine zL ?_); refine blk_put (cs := #[.int .i64 (wrap64 (rd l0_2 0)), .int .i64 a0_0, .int .i64 a0_1, .int .i64 t205, .slice none 0 0]) ?_ 4 _ rfl; (repeat refine zL ?_); refine blk_put (cs := #[.int .i64 (wrap64 (rd l0_2 0)), .int .i64 a0_0, .int .i64 a0_1, .int .i64 0, .slice none 0 0]) ?_ 3 _ rfl; (repeat refine zL ?_); refine blk_put (cs := #[.int .i64 (wrap64 (rd l0_2 0)), .int .i64 a0_0, .int .i64 0, .int .i64 0, .slice none 0 0]) ?_ 2 _ rfl; (repeat refine zL ?_); refine blk_put (cs := #[.int .i64 (wrap64 (rd l0_2 0)), .int .i64 0, .int .i64 0, .int .i64 0, .slice none 0 0]) ?_ 1 _ rfl; (repeat refine zL ?_); refine blk_put (cs := #[.int .i64 0, .int .i64 0, .int .i64 0, .int .i64 0, .slice none 0 0]) ?_ 0 _ rfl; (repeat refine zL ?_); exact BK213.out) hb); have n4_ := Aside0.mk (below_step zH hb); clear HO212; clear BK202; clear BK203; clear BK213; clear HB; have HO212 := n0_; have BK202 := n1_; have BK203 := n2_; have BK213 := n3_; have HB := n4_; clear n0_ n1_ n2_ n3_ n4_; (try clear hb); (try clear hb2); (try clear hk); (try clear hi); obtain ⟨hcz65_0, hcz65_1, hcz65_2, hcz65_3, hcz65_4⟩ := zc5 BK203.out; obtain ⟨hfz65_0, hfz65_1, hfz65_2, hfz65_3, hfz65_4⟩ := zf BK203.out))
         refine bodyPost_ret (results_ct rfl _ _ gb203 44 #[.int .i64 0, .int .i64 0, .int .i64 0, .int .i64 0, .slice none 0 0] (0, 0) _ rfl (by (repeat refine zL ?_); refine blk_put (cs := #[.int .i64 0, .int .i64 0, .int .i64 0, .int .i64 0, .slice none 0 0]) ?_ 4 _ rfl; (repeat refine zL ?_); refine blk_put (cs := #[.int .i64 0, .int .i64 0, .int .i64 0, .int .i64 0, .slice none 0 0]) ?_ 3 _ rfl; (repeat refine zL ?_); refine blk_put (cs := #[.int .i64 0, .int .i64 0, .int .i64 0, .int .i64 0, .slice none 0 0]) ?_ 2 _ rfl; (repeat refine zL ?_); refine blk_put (cs := #[.int .i64 0, .int .i64 0, .int .i64 0, .int .i64 0, .slice none 0 0]) ?_ 1 _ rfl; (repeat refine zL ?_); refine blk_put (cs := #[.int .i64 0, .int .i64 0, .int .i64 0, .int .i64 0, .slice none 0 0]) ?_ 0 _ rfl; (repeat refine zL ?_); exact BK203.out) Try.underlying44 rfl (by kernel_rfl)) rfl ?_
         exact ⟨.slice none 0 0, zE, by first | exact Kd.R_nil _ _ _ _ _ | exact Kd.R_nil _ _ _ w.heap.size _ | exact Kd.N_nil _ _ _ _ _ | exact Kd.V_nil _ _ _ _ _ | exact Kd.Q_nil _ _ _ _ _ | exact Kd.S_nil _ _ _ _ _, zH⟩
       ·rw [if_neg c21] at H
        exact absurd H (by simp)
      ·rw [if_neg c20] at H
       exact absurd H (by simp)
     ·rw [if_neg c19] at H
      exact absurd H (by simp)
    ·replace c18 := Bool.eq_false_iff.mpr c18
     subst c18
     replace H : (some (0, 0, 0, 0, ([] : List Int), false)) = some (r1, r2, r3, r4, r5, r6) := by rw [if_neg (show ¬ (false = true) by decide)] at H; exact H
     simp only [Option.some.injEq, Prod.mk.injEq] at H
     obtain ⟨rfl, rfl, rfl, rfl, rfl, rfl⟩ := H
     have hnb66 := NB202_203.out
     have hnc66 := NB203_202.out
     obtain ⟨hcz67_0, hcz67_1, hcz67_2⟩ := zc3 BK202.out
     obtain ⟨hfz67_0, hfz67_1, hfz67_2, _, _⟩ := zf BK202.out
     go_wp2_with (first | ((with_reducible refine gate_callee (f := 105) rfl ?_); refine goesL_ (some 21) rfl rfl Try.func105 (by kernel_rfl) rfl #[.slice A0_2 l0_2.length c0_2, .int .i64 1] rfl zM ?_; (with_reducible refine (spec_TakeNumber.calls kj1 _ _ l0_2 1 t205 t206 false _ ?side1 ?side2 A17.out).mono ?_); (case side1 => exact zC (Kd.C_below HR0_2.out HB.out)); (case side2 => exact HC0_2.out); rintro e w68 ⟨rfl, hb⟩; refine ⟨_, rfl, ?_⟩; have n0_ := Aside0.mk (blk_below (g := gb202) (o := .cells #[.int .i64 a0_0, .int .i64 a0_1, .slice A0_2 l0_2.length c0_2] 62 (0, 0)) (zB BK202.out) hb); have n1_ := Aside0.mk (blk_below (g := gb203) (o := .cells #[.int .i64 0, .int .i64 0, .int .i64 0, .int .i64 0, .slice none 0 0] 44 (0, 0)) (zB BK203.out) hb); have n2_ := Aside0.mk (below_step zH hb); clear BK202; clear BK203; clear HB; have BK202 := n0_; have BK203 := n1_; have HB := n2_; clear n0_ n1_ n2_; (try clear hb); (try clear hb2); (try clear hk); (try clear hi); obtain ⟨hcz69_0, hcz69_1, hcz69_2, hcz69_3, hcz69_4⟩ := zc5 BK203.out; obtain ⟨hfz69_0, hfz69_1, hfz69_2, hfz69_3, hfz69_4⟩ := zf BK203.out))
     refine bodyPost_ret (results_ct rfl _ _ gb203 44 #[.int .i64 0, .int .i64 0, .int .i64 0, .int .i64 0, .slice none 0 0] (0, 0) _ rfl (by (repeat refine zL ?_); refine blk_put (cs := #[.int .i64 0, .int .i64 0, .int .i64 0, .int .i64 0, .slice none 0 0]) ?_ 4 _ rfl; (repeat refine zL ?_); refine blk_put (cs := #[.int .i64 0, .int .i64 0, .int .i64 0, .int .i64 0, .slice none 0 0]) ?_ 3 _ rfl; (repeat refine zL ?_); refine blk_put (cs := #[.int .i64 0, .int .i64 0, .int .i64 0, .int .i64 0, .slice none 0 0]) ?_ 2 _ rfl; (repeat refine zL ?_); refine blk_put (cs := #[.int .i64 0, .int .i64 0, .int .i64 0, .int .i64 0, .slice none 0 0]) ?_ 1 _ rfl; (repeat refine zL ?_); refine blk_put (cs := #[.int .i64 0, .int .i64 0, .int .i64 0, .int .i64 0, .slice none 0 0]) ?_ 0 _ rfl; (repeat refine zL ?_); exact BK203.out) Try.underlying44 rfl (by kernel_rfl)) rfl ?_
     exact ⟨.slice none 0 0, zE, by first | exact Kd.R_nil _ _ _ _ _ | exact Kd.R_nil _ _ _ w.heap.size _ | exact Kd.N_nil _ _ _ _ _ | exact Kd.V_nil _ _ _ _ _ | exact Kd.Q_nil _ _ _ _ _ | exact Kd.S_nil _ _ _ _ _, zH⟩

end Go.Proofs.Ytabicblkdgpogaa.QFnExactTakeEvent
