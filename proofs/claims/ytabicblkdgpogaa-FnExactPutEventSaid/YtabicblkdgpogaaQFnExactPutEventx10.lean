-- Made by this session's program (wip/tools/myprint.py) out of the translation; Lean checks it.
import Derived.Test.YtabicblkdgpogaaQFnExactPutEventx0
import Derived.Test.YtabicblkdgpogaaQFnExactPutEventx1
import Derived.Test.YtabicblkdgpogaaQFnExactPutEventx7
import Derived.Test.YtabicblkdgpogaaQFnExactPutEventx8
import Derived.Test.YtabicblkdgpogaaQFnExactPutEventx9
namespace Go.Proofs.Ytabicblkdgpogaa.QFnExactPutEvent
open Go.RowKit Go.Proofs.YtabicblkdgpogaaW.PrintWords Go.Proofs.YtabicblkdgpogaaW.PrintLast Go.Proofs.YtabicblkdgpogaaW.PrintMore
attribute [local go_sem] max2_int min2_int max_two min_two max_three min_three max_four min_four   -- for this text's walks alone
set_option linter.unusedVariables false
set_option linter.unusedSimpArgs false

/-! ### spec_PutEvent: function 51 -/
def spec_PutEvent.f (k : Nat) (a0_0 : Int) (a0_1 : Int) (a0_2 : Int) (a0_3 : Int) (l0_4 : List Int) : Option (List Int) := (spec_EventOk.f k a0_0 a0_1 a0_2 a0_3 l0_4).bind fun t265 => (if t265 = true then ((spec_PutNumber.f k a0_3).bind fun t269 => ((spec_l01Join.f k (([(a0_0) % 256] : List Int)) t269).bind fun t272 => ((spec_l01Join.f k t272 l0_4).bind fun t275 => ((spec_EncodeFrame.f k a0_1 a0_2 t275).bind fun t278 => (some t278))))) else (some ([] : List Int)))
theorem spec_PutEvent.mono : ∀ a0 a1 a2 a3 a4 k, LeO (spec_PutEvent.f k a0 a1 a2 a3 a4) (spec_PutEvent.f (k + 1) a0 a1 a2 a3 a4) := by
 intro a0 a1 a2 a3 a4 k
 unfold spec_PutEvent.f
 repeat' first
   | (with_reducible exact spec_EncodeFrame.mono _ _ _ _)
   | (with_reducible exact spec_EventOk.mono _ _ _ _ _ _)
   | (with_reducible exact spec_PutNumber.mono _ _)
   | (with_reducible exact spec_l01Join.mono _ _ _)
   | (with_reducible exact LeO.refl _)
   | (with_reducible exact LeO.none _)
   | (with_reducible refine LeO.ite ?_ ?_)
   | (with_reducible refine LeO.bind ?_ (fun _ => ?_))
   | exact spec_EncodeFrame.mono _ _ _ _
   | exact spec_EventOk.mono _ _ _ _ _ _
   | exact spec_PutNumber.mono _ _
   | exact spec_l01Join.mono _ _ _
   | exact LeO.none _
   | refine LeO.ite ?_ ?_
   | refine LeO.bind ?_ (fun _ => ?_)
def spec_PutEvent.T3 : Bool × List (List Nat × List Nat) := (true, [([], []), ([0], [0]), ([1], [1]), ([2], [2]), ([], []), ([4], [4]), ([5], [5]), ([3, 6, 6], [3, 6]), ([], []), ([8], [8]), ([7, 9, 7], [7, 9]), ([10, 10, 0, 1, 2, 3, 4, 5, 6, 7, 8, 9, 10], [10])])
def spec_PutEvent.B3 : List Nat := [0, 1, 3, 7, 0, 16, 48, 127, 0, 256, 1023, 2047]
theorem spec_PutEvent.tab3 : rtab .any (opsOf Try.f51 3) = spec_PutEvent.T3 := by kernel_rfl
theorem spec_PutEvent.bits3 : waitsOk spec_PutEvent.T3.2 spec_PutEvent.B3 = true := by kernel_rfl
set_option maxHeartbeats 8000000 in
set_option maxRecDepth 100000 in
theorem spec_PutEvent.calls (k : Nat) (a0_0 : Int) (a0_1 : Int) (a0_2 : Int) (a0_3 : Int) (A0_4 : Option Addr) (c0_4 : Nat) (l0_4 : List Int) (r : List Int) (w : World) (hr0_4 : Kd.C (Kd.int .u8) w A0_4 l0_4.length l0_4) (hc0_4 : l0_4.length ≤ c0_4) (h : spec_PutEvent.f k a0_0 a0_1 a0_2 a0_3 l0_4 = some r) :
  Calls Try.prog 51 #[.agg #[.int .i64 a0_0, .int .i64 a0_1, .int .i64 a0_2, .int .i64 a0_3, .slice A0_4 l0_4.length c0_4]] w fun e w' => ∃ v0_ : Value, e = .returned (v0_) ∧ Kd.R (Kd.int .u8) 5 w' w.heap.size (fun _ => True) v0_ r ∧ Below w.heap.size w w' := by
 have hu44 := Try.underlying44
 have hu62 := Try.underlying62
 have HR0_4 := Aside0.mk hr0_4
 have HC0_4 := Aside0.mk hc0_4
 clear hr0_4 hc0_4
 have HB := Aside0.mk (Below.refl w.heap.size w)
 have H : ((spec_EventOk.f k a0_0 a0_1 a0_2 a0_3 l0_4).bind fun t265 => (if t265 = true then ((spec_PutNumber.f k a0_3).bind fun t269 => ((spec_l01Join.f k (([(a0_0) % 256] : List Int)) t269).bind fun t272 => ((spec_l01Join.f k t272 l0_4).bind fun t275 => ((spec_EncodeFrame.f k a0_1 a0_2 t275).bind fun t278 => (some t278))))) else (some ([] : List Int)))) = some r := h
 clear h
 replace H := Option.bind_eq_some_iff.mp H
 obtain ⟨t265, A20, H⟩ := H
 replace H : (if t265 = true then ((spec_PutNumber.f k a0_3).bind fun t269 => ((spec_l01Join.f k (([(a0_0) % 256] : List Int)) t269).bind fun t272 => ((spec_l01Join.f k t272 l0_4).bind fun t275 => ((spec_EncodeFrame.f k a0_1 a0_2 t275).bind fun t278 => (some t278))))) else (some ([] : List Int))) = some r := H
 have A2 := Aside0.mk A20
 clear A20
 by_cases c3 : t265 = true
 ·subst c3
  replace H : ((spec_PutNumber.f k a0_3).bind fun t269 => ((spec_l01Join.f k (([(a0_0) % 256] : List Int)) t269).bind fun t272 => ((spec_l01Join.f k t272 l0_4).bind fun t275 => ((spec_EncodeFrame.f k a0_1 a0_2 t275).bind fun t278 => (some t278))))) = some r := by rw [if_pos rfl] at H; exact H
  obtain ⟨y266, hy266⟩ : ∃ y_ : List Int, y_ = (([(a0_0) % 256] : List Int)) := ⟨_, rfl⟩
  replace H : ((spec_PutNumber.f k a0_3).bind fun t269 => ((spec_l01Join.f k y266 t269).bind fun t272 => ((spec_l01Join.f k t272 l0_4).bind fun t275 => ((spec_EncodeFrame.f k a0_1 a0_2 t275).bind fun t278 => (some t278))))) = some r := by first | (rw [hy266]; with_reducible exact H) | (have H2_ := (Option.bind_some _ _).symm.trans H; rw [hy266]; with_reducible exact H2_) | (have H2_ := (Option.bind_some _ _).symm.trans H; with_reducible exact H2_) | with_reducible exact H | (rw [hy266]; exact H) | exact H
  have Ny266 := Aside0.mk hy266
  clear hy266
  replace H := Option.bind_eq_some_iff.mp H
  obtain ⟨t269, A40, H⟩ := H
  replace H : ((spec_l01Join.f k y266 t269).bind fun t272 => ((spec_l01Join.f k t272 l0_4).bind fun t275 => ((spec_EncodeFrame.f k a0_1 a0_2 t275).bind fun t278 => (some t278)))) = some r := H
  have A4 := Aside0.mk A40
  clear A40
  replace H := Option.bind_eq_some_iff.mp H
  obtain ⟨t272, A50, H⟩ := H
  replace H : ((spec_l01Join.f k t272 l0_4).bind fun t275 => ((spec_EncodeFrame.f k a0_1 a0_2 t275).bind fun t278 => (some t278))) = some r := H
  have A5 := Aside0.mk A50
  clear A50
  replace H := Option.bind_eq_some_iff.mp H
  obtain ⟨t275, A60, H⟩ := H
  replace H : ((spec_EncodeFrame.f k a0_1 a0_2 t275).bind fun t278 => (some t278)) = some r := H
  have A6 := Aside0.mk A60
  clear A60
  replace H := Option.bind_eq_some_iff.mp H
  obtain ⟨t278, A70, H⟩ := H
  replace H : (some t278) = some r := H
  have A7 := Aside0.mk A70
  clear A70
  obtain rfl := Option.some.inj H
  go_enter Try.func51, Try.ntmps51
  try go_wp2_with (first | ((with_reducible refine gate_dst (N := 1) rfl ?_); refine box_event ?hg (N := 1) ?hd (cs := #[.int .i64 a0_0, .int .i64 a0_1, .int .i64 a0_2, .int .i64 a0_3, .slice A0_4 l0_4.length c0_4]) (t := 44) ?hr ?_; (case hd => rfl); (case hg => rfl); (case hr => first | (go_simp; done) | (go_simp; rfl)); intro gb264 hg w8 hbox hb; have n0_ := Aside0.mk (below_step zH hb); have n1_ := Aside0.mk (hbox); have n2_ := Aside0.mk ((by rw [hg]; exact (below_size zH) : w.heap.size ≤ gb264)); have n3_ := Aside0.mk ((by rw [hg]; exact (below_size zH) : w.heap.size ≤ gb264)); clear HB; have HB := n0_; have BK264 := n1_; have GW264 := n2_; have GE264 := n3_; clear n0_ n1_ n2_ n3_; clear hb hbox hg; obtain ⟨hcz9_0, hcz9_1, hcz9_2, hcz9_3, hcz9_4⟩ := zc5 BK264.out; obtain ⟨hfz9_0, hfz9_1, hfz9_2, hfz9_3, hfz9_4⟩ := zf BK264.out) | ((with_reducible refine gate_callee (f := 28) rfl ?_); refine goesL_ (some 5) rfl rfl Try.func28 (by kernel_rfl) rfl #[.agg #[.int .i64 a0_0, .int .i64 a0_1, .int .i64 a0_2, .int .i64 a0_3, .slice A0_4 l0_4.length c0_4]] rfl zM ?_; (with_reducible refine (spec_EventOk.calls k a0_0 a0_1 a0_2 a0_3 _ _ l0_4 true _ ?side1 ?side2 A2.out).mono ?_); (case side1 => exact zC (Kd.C_below HR0_4.out HB.out)); (case side2 => exact HC0_4.out); rintro e w10 ⟨rfl, hb⟩; refine ⟨_, rfl, ?_⟩; have n0_ := Aside0.mk (blk_below (g := gb264) (o := .cells #[.int .i64 a0_0, .int .i64 a0_1, .int .i64 a0_2, .int .i64 a0_3, .slice A0_4 l0_4.length c0_4] 44 (0, 0)) (zB BK264.out) hb); have n1_ := Aside0.mk (below_step zH hb); clear BK264; clear HB; have BK264 := n0_; have HB := n1_; clear n0_ n1_; (try clear hb); (try clear hb2); (try clear hk); (try clear hi)))
  have n0_ := Aside0.mk (blk_drew BK264.out)
  have n1_ := Aside0.mk (below_drew1 HB.out)
  clear BK264
  clear HB
  have BK264 := n0_
  have HB := n1_
  clear n0_ n1_
  refine start_ (n := 12) (S := fun w' => True) (ds := []) #[false, false, false, false, false, false, false, false, false, false, false, false] (by kernel_rfl) rfl rfl trivial (fun hHeld => ?_); refine with_tabW spec_PutEvent.tab3 spec_PutEvent.bits3 (fun HT_ HW_ => ?_)
  generalize w10.drew = w11 at BK264 HB hHeld ⊢
  refine pure_ (i := 0) (N := some 7) (v := ?_) (a' := ?_) #[true, false, false, false, false, false, false, false, false, false, false, false] rfl rfl (any_of HT_.out (by kernel_rfl)) (fun _ _ _ h => h) (Or.inl ⟨by rfl, ?_⟩) ?_ ?_
  rotate_left;(focus intro w';go_simp;with_reducible rfl);rotate_left;(focus simp only [Act.put, List.setIfInBounds_toArray, List.set_cons_zero, List.set_cons_succ, i64_w, i32_w];rfl)
  refine pure_ (i := 4) (N := some 11) (v := ?_) (a' := ?_) #[true, false, false, false, true, false, false, false, false, false, false, false] rfl rfl (any_of HT_.out (by kernel_rfl)) (fun _ _ _ h => h) (Or.inl ⟨by rfl, ?_⟩) ?_ ?_
  rotate_left;(focus intro w';go_simp;with_reducible rfl);rotate_left;(focus simp only [Act.put, List.setIfInBounds_toArray, List.set_cons_zero, List.set_cons_succ, i64_w, i32_w];rfl)
  refine pure_ (i := 8) (N := some 15) (v := ?_) (a' := ?_) #[true, false, false, false, true, false, false, false, true, false, false, false] rfl rfl (any_of HT_.out (by kernel_rfl)) (fun _ _ _ h => h) (Or.inl ⟨by rfl, ?_⟩) ?_ ?_
  rotate_left;(focus intro w';go_simp;with_reducible rfl);rotate_left;(focus simp only [Act.put, List.setIfInBounds_toArray, List.set_cons_zero, List.set_cons_succ, i64_w, i32_w];rfl)
  refine inv_at [1, 2, 3, 5, 6, 7, 9, 10, 11] (fun a0_ b a w' => ∃ (v267 : Value) (v270 : Value) (v273 : Value) (v276 : Value) (m11_ : Value), a = putSel a0_ b [(1, 8, .int .i64 a0_0), (2, 9, .int .u8 ((a0_0) % 256)), (3, 10, v267), (5, 12, .int .i64 a0_3), (6, 13, v270), (7, 14, v273), (9, 16, .slice A0_4 l0_4.length c0_4), (10, 17, v276), (11, 3, m11_)] ∧ (w'.heap[gb264]? = some (.cells #[.int .i64 a0_0, .int .i64 a0_1, .int .i64 a0_2, .int .i64 a0_3, .slice A0_4 l0_4.length c0_4] 44 (0, 0))) ∧ (Below w.heap.size w w') ∧ (b 3 = true → Kd.R (Kd.int .u8) 5 w' w.heap.size (fun _ => True) v267 y266) ∧ (b 6 = true → Kd.R (Kd.int .u8) 5 w' w.heap.size (fun _ => True) v270 t269) ∧ (b 7 = true → Kd.R (Kd.int .u8) 5 w' w.heap.size (fun _ => True) v273 t272) ∧ (b 10 = true → Kd.R (Kd.int .u8) 5 w' w.heap.size (fun _ => True) v276 t275) ∧ (b 11 = true → (m11_ : Value) = v276)) HT_.out HW_.out (by kernel_rfl) (by kernel_rfl) ?_ ?_ ?_
  ·exact ⟨.bool false, .bool false, .bool false, .bool false, .bool false, by simp only [putSel, Bool.false_eq_true, if_false], BK264.out, HB.out, fun h_ => absurd h_ (by decide), fun h_ => absurd h_ (by decide), fun h_ => absurd h_ (by decide), fun h_ => absurd h_ (by decide), fun h_ => absurd h_ (by decide)⟩
  ·skip
   clear BK264 HB
   refine steps_cons ?_ ?_
   ·rintro b a w' ⟨v267, v270, v273, v276, m11_, ha, Q_BK264, Q_HB, Q_HO268, Q_HO271, Q_HO274, Q_HO277, Q_X11_⟩ hb_ hon hoff
    refine ⟨_, rfl, fun K hK => ?_⟩
    have e7 : a.tmps[7]? = some (.pointer (some ⟨gb264, 0, none⟩)) := by rw [ha]; exact (putSel_off rfl).trans rfl
    replace ha := Aside0.mk ha
    have BK264 := Aside0.mk Q_BK264
    have HB := Aside0.mk Q_HB
    have hc0_ : w'.cell? ⟨gb264, 0, none⟩ = some (.int .i64 a0_0) := (blk_cell BK264.out 0).trans rfl
    have hc1_ : w'.cell? ⟨gb264, 1, none⟩ = some (.int .i64 a0_1) := (blk_cell BK264.out 1).trans rfl
    have hc2_ : w'.cell? ⟨gb264, 2, none⟩ = some (.int .i64 a0_2) := (blk_cell BK264.out 2).trans rfl
    have hc3_ : w'.cell? ⟨gb264, 3, none⟩ = some (.int .i64 a0_3) := (blk_cell BK264.out 3).trans rfl
    have hc4_ : w'.cell? ⟨gb264, 4, none⟩ = some (.slice A0_4 l0_4.length c0_4) := (blk_cell BK264.out 4).trans rfl
    refine value_ (w1 := w') (v := .int .i64 a0_0) (by rfl) rfl ?_ ?_
    ·go_simp
     (try simp only [i64_w])
     try rfl
    refine hK.out _ _ ⟨v267, v270, v273, v276, m11_, (by rw [ha.out]; exact putSel_upk 0 hb_ rfl rfl rfl), Q_BK264, Q_HB, fun h0_ => absurd ((hoff 3 (by kernel_rfl)).symm.trans h0_) (by decide), Q_HO271, fun h0_ => absurd ((hoff 7 (by kernel_rfl)).symm.trans h0_) (by decide), fun h0_ => absurd ((hoff 10 (by kernel_rfl)).symm.trans h0_) (by decide), fun h0_ => absurd ((hoff 11 (by kernel_rfl)).symm.trans h0_) (by decide)⟩
   refine steps_cons ?_ ?_
   ·rintro b a w' ⟨v267, v270, v273, v276, m11_, ha, Q_BK264, Q_HB, Q_HO268, Q_HO271, Q_HO274, Q_HO277, Q_X11_⟩ hb_ hon hoff
    refine ⟨_, rfl, fun K hK => ?_⟩
    have e8 : a.tmps[8]? = some (.int .i64 a0_0) := by rw [ha]; exact putSel_on (e := (1, 8, .int .i64 a0_0)) 0 rfl rfl (hon 1 (by kernel_rfl)) rfl
    replace ha := Aside0.mk ha
    have BK264 := Aside0.mk Q_BK264
    have HB := Aside0.mk Q_HB
    refine value_ (w1 := w') (v := .int .u8 ((a0_0) % 256)) (by rfl) rfl ?_ ?_
    ·go_simp
     (try simp only [i64_w])
     try rfl
    refine hK.out _ _ ⟨v267, v270, v273, v276, m11_, (by rw [ha.out]; exact putSel_upk 1 hb_ rfl rfl rfl), Q_BK264, Q_HB, fun h0_ => absurd ((hoff 3 (by kernel_rfl)).symm.trans h0_) (by decide), Q_HO271, fun h0_ => absurd ((hoff 7 (by kernel_rfl)).symm.trans h0_) (by decide), fun h0_ => absurd ((hoff 10 (by kernel_rfl)).symm.trans h0_) (by decide), fun h0_ => absurd ((hoff 11 (by kernel_rfl)).symm.trans h0_) (by decide)⟩
   refine steps_cons ?_ ?_
   ·rintro b a w' ⟨v267, v270, v273, v276, m11_, ha, Q_BK264, Q_HB, Q_HO268, Q_HO271, Q_HO274, Q_HO277, Q_X11_⟩ hb_ hon hoff
    refine ⟨_, rfl, fun K hK => ?_⟩
    have e9 : a.tmps[9]? = some (.int .u8 ((a0_0) % 256)) := by rw [ha]; exact putSel_on (e := (2, 9, .int .u8 ((a0_0) % 256))) 1 rfl rfl (hon 2 (by kernel_rfl)) rfl
    replace ha := Aside0.mk ha
    have BK264 := Aside0.mk Q_BK264
    have HB := Aside0.mk Q_HB
    refine Kd.R_lit_step (Kd.int .u8) _ 5 ?hg (N := 10) ?hd (xs := ([(a0_0) % 256] : List Int)) (inner := [.int .u8 ((a0_0) % 256)]) (ok := fun _ => True) (okp := fun _ => True) ?hr ?hp (fun _ hk => hk) trivial (Below.refl _ _) (Nat.le_refl _) (by simp) ?_; (case hd => rfl); (case hg => rfl); (case hr => first | (go_simp; done) | (go_simp; rfl)); (case hp => exact (Reps.one (show Kd.M (Kd.int .u8) _ _ _ ((a0_0) % 256) [.int .u8 ((a0_0) % 256)] from rfl) (Reps.none _ _)))
    intro v267 w12 ho13 hb hg_ hnew_
    clear hg_ hnew_
    (first | rw [← Ny266.out] at ho13 | (simp only [Int.reduceToNat] at ho13; rw [← Ny266.out] at ho13))
    have n0_ := Aside0.mk (Kd.R_lower ho13 (below_size zH))
    have n1_ := Aside0.mk (blk_below (g := gb264) (o := .cells #[.int .i64 a0_0, .int .i64 a0_1, .int .i64 a0_2, .int .i64 a0_3, .slice A0_4 l0_4.length c0_4] 44 (0, 0)) (zB BK264.out) hb)
    have n2_ := Aside0.mk (below_step zH hb)
    have z_HO271 := fun (h0_ : b 6 = true) => (show Kd.R (Kd.int .u8) 5 w12 w.heap.size (fun _ => True) v270 t269 from by first | exact (Kd.R_elder' (by (with_reducible repeat (first | apply Kd.R_alloc | apply Kd.R_drewN | apply Kd.R_drew)); exact (Q_HO271 h0_)) (Kd.R_base ho13) hb) | exact Kd.R_mono (Kd.R_elder' (by (with_reducible repeat (first | apply Kd.R_alloc | apply Kd.R_drewN | apply Kd.R_drew)); exact (Q_HO271 h0_)) (Kd.R_base ho13) hb) (fun _ h_ => by first | trivial | exact h_ | exact h_.1))
    clear BK264
    clear HB
    have HO268 := n0_
    have BK264 := n1_
    have HB := n2_
    clear n0_ n1_ n2_
    clear hb ho13
    refine hK.out _ _ ⟨v267, v270, v273, v276, m11_, (by rw [ha.out]; exact putSel_upk 2 hb_ rfl rfl rfl), (zB BK264.out), zH, fun _ => (by (with_reducible repeat (first | apply Kd.R_alloc | apply Kd.R_drewN | apply Kd.R_drew)); first | exact HO268.out | exact Kd.R_mono HO268.out (fun _ _ => trivial)), z_HO271, fun h0_ => absurd ((hoff 7 (by kernel_rfl)).symm.trans h0_) (by decide), fun h0_ => absurd ((hoff 10 (by kernel_rfl)).symm.trans h0_) (by decide), fun h0_ => absurd ((hoff 11 (by kernel_rfl)).symm.trans h0_) (by decide)⟩
   refine steps_cons ?_ ?_
   ·rintro b a w' ⟨v267, v270, v273, v276, m11_, ha, Q_BK264, Q_HB, Q_HO268, Q_HO271, Q_HO274, Q_HO277, Q_X11_⟩ hb_ hon hoff
    refine ⟨_, rfl, fun K hK => ?_⟩
    have e11 : a.tmps[11]? = some (.pointer (some ⟨gb264, 3, none⟩)) := by rw [ha]; exact (putSel_off rfl).trans rfl
    replace ha := Aside0.mk ha
    have BK264 := Aside0.mk Q_BK264
    have HB := Aside0.mk Q_HB
    have hc0_ : w'.cell? ⟨gb264, 0, none⟩ = some (.int .i64 a0_0) := (blk_cell BK264.out 0).trans rfl
    have hc1_ : w'.cell? ⟨gb264, 1, none⟩ = some (.int .i64 a0_1) := (blk_cell BK264.out 1).trans rfl
    have hc2_ : w'.cell? ⟨gb264, 2, none⟩ = some (.int .i64 a0_2) := (blk_cell BK264.out 2).trans rfl
    have hc3_ : w'.cell? ⟨gb264, 3, none⟩ = some (.int .i64 a0_3) := (blk_cell BK264.out 3).trans rfl
    have hc4_ : w'.cell? ⟨gb264, 4, none⟩ = some (.slice A0_4 l0_4.length c0_4) := (blk_cell BK264.out 4).trans rfl
    refine value_ (w1 := w') (v := .int .i64 a0_3) (by rfl) rfl ?_ ?_
    ·go_simp
     (try simp only [i64_w])
     try rfl
    refine hK.out _ _ ⟨v267, v270, v273, v276, m11_, (by rw [ha.out]; exact putSel_upk 3 hb_ rfl rfl rfl), Q_BK264, Q_HB, Q_HO268, fun h0_ => absurd ((hoff 6 (by kernel_rfl)).symm.trans h0_) (by decide), fun h0_ => absurd ((hoff 7 (by kernel_rfl)).symm.trans h0_) (by decide), fun h0_ => absurd ((hoff 10 (by kernel_rfl)).symm.trans h0_) (by decide), fun h0_ => absurd ((hoff 11 (by kernel_rfl)).symm.trans h0_) (by decide)⟩
   refine steps_cons ?_ ?_
   ·rintro b a w' ⟨v267, v270, v273, v276, m11_, ha, Q_BK264, Q_HB, Q_HO268, Q_HO271, Q_HO274, Q_HO277, Q_X11_⟩ hb_ hon hoff
    refine ⟨_, rfl, fun K hK => ?_⟩
    have e12 : a.tmps[12]? = some (.int .i64 a0_3) := by rw [ha]; exact putSel_on (e := (5, 12, .int .i64 a0_3)) 3 rfl rfl (hon 5 (by kernel_rfl)) rfl
    replace ha := Aside0.mk ha
    have BK264 := Aside0.mk Q_BK264
    have HB := Aside0.mk Q_HB
    refine goes_ Try.func109 (by kernel_rfl) rfl #[.int .i64 a0_3] (by rfl) rfl rfl (by first | (simp only [List.map_toArray, List.map_cons, List.map_nil, Act.eval, Array.getD_eq_getD_getElem?, Option.getD_some, e12]; done) | (simp only [List.map_toArray, List.map_cons, List.map_nil, Act.eval, Array.getD_eq_getD_getElem?, Option.getD_some, e12]; rfl)) ?_
    with_reducible refine (spec_PutNumber.calls k a0_3 t269 _ A4.out).mono ?_
    rintro e w12 ⟨v270, rfl, ho0, hb⟩
    refine ⟨_, rfl, ?_⟩
    have n0_ := Aside0.mk (Kd.R_lower ho0 (below_size zH))
    have n1_ := Aside0.mk (blk_below (g := gb264) (o := .cells #[.int .i64 a0_0, .int .i64 a0_1, .int .i64 a0_2, .int .i64 a0_3, .slice A0_4 l0_4.length c0_4] 44 (0, 0)) (zB BK264.out) hb)
    have n2_ := Aside0.mk (below_step zH hb)
    have z_HO268 := fun (h0_ : b 3 = true) => (show Kd.R (Kd.int .u8) 5 w12 w.heap.size (fun _ => True) v267 y266 from by first | exact (Kd.R_elder' (by (with_reducible repeat (first | apply Kd.R_alloc | apply Kd.R_drewN | apply Kd.R_drew)); exact (Q_HO268 h0_)) (Kd.R_base ho0) hb) | exact Kd.R_mono (Kd.R_elder' (by (with_reducible repeat (first | apply Kd.R_alloc | apply Kd.R_drewN | apply Kd.R_drew)); exact (Q_HO268 h0_)) (Kd.R_base ho0) hb) (fun _ h_ => by first | trivial | exact h_ | exact h_.1))
    clear BK264
    clear HB
    have HO271 := n0_
    have BK264 := n1_
    have HB := n2_
    clear n0_ n1_ n2_
    (try clear hb)
    (try clear hb2)
    (try clear hk)
    (try clear hi)
    (try clear ho0)
    refine hK.out _ _ ⟨v267, v270, v273, v276, m11_, (by rw [ha.out]; exact putSel_upk 4 hb_ rfl rfl rfl), (zB BK264.out), zH, z_HO268, fun _ => (by (with_reducible repeat (first | apply Kd.R_alloc | apply Kd.R_drewN | apply Kd.R_drew)); first | exact HO271.out | exact Kd.R_mono HO271.out (fun _ _ => trivial)), fun h0_ => absurd ((hoff 7 (by kernel_rfl)).symm.trans h0_) (by decide), fun h0_ => absurd ((hoff 10 (by kernel_rfl)).symm.trans h0_) (by decide), fun h0_ => absurd ((hoff 11 (by kernel_rfl)).symm.trans h0_) (by decide)⟩
   refine steps_cons ?_ ?_
   ·rintro b a w' ⟨v267, v270, v273, v276, m11_, ha, Q_BK264, Q_HB, Q_HO268, Q_HO271, Q_HO274, Q_HO277, Q_X11_⟩ hb_ hon hoff
    refine ⟨_, rfl, fun K hK => ?_⟩
    have e10 : a.tmps[10]? = some (v267) := by rw [ha]; exact putSel_on (e := (3, 10, v267)) 2 rfl rfl (hon 3 (by kernel_rfl)) rfl
    have e13 : a.tmps[13]? = some (v270) := by rw [ha]; exact putSel_on (e := (6, 13, v270)) 4 rfl rfl (hon 6 (by kernel_rfl)) rfl
    replace ha := Aside0.mk ha
    have BK264 := Aside0.mk Q_BK264
    have HB := Aside0.mk Q_HB
    have HO268 := Aside0.mk (Q_HO268 (hon 3 (by kernel_rfl)))
    have HO271 := Aside0.mk (Q_HO271 (hon 6 (by kernel_rfl)))
    obtain ⟨Ao16, co16, eo16⟩ := Kd.R_slice HO268.out
    (first | subst eo16 | (injection eo16 with f1_ f2_ f3_; have f4_ := f1_.symm; have f5_ := f3_.symm; clear f1_ f2_ f3_; subst f4_; subst f5_))
    obtain ⟨Ao17, co17, eo17⟩ := Kd.R_slice HO271.out
    (first | subst eo17 | (injection eo17 with f1_ f2_ f3_; have f4_ := f1_.symm; have f5_ := f3_.symm; clear f1_ f2_ f3_; subst f4_; subst f5_))
    refine goes_ Try.func108 (by kernel_rfl) rfl #[.slice Ao16 y266.length co16, .slice Ao17 t269.length co17] (by rfl) rfl rfl (by first | (simp only [List.map_toArray, List.map_cons, List.map_nil, Act.eval, Array.getD_eq_getD_getElem?, Option.getD_some, e10, e13]; done) | (simp only [List.map_toArray, List.map_cons, List.map_nil, Act.eval, Array.getD_eq_getD_getElem?, Option.getD_some, e10, e13]; rfl)) ?_
    with_reducible refine (spec_l01Join.calls k _ _ y266 _ _ t269 t272 _ ?side1 ?side2 ?side3 ?side4 A5.out).mono ?_
    (case side1 => exact zC ((Kd.R_reads' HO268.out).2.2))
    (case side2 => exact (Kd.R_reads' HO268.out).2.1)
    (case side3 => exact zC ((Kd.R_reads' HO271.out).2.2))
    (case side4 => exact (Kd.R_reads' HO271.out).2.1)
    rintro e w18 ⟨v273, rfl, ho0, hb⟩
    refine ⟨_, rfl, ?_⟩
    have n0_ := Aside0.mk (Kd.R_elder' (zR HO268.out) (Kd.R_base ho0) hb)
    have n1_ := Aside0.mk (Kd.R_elder' (zR HO271.out) (Kd.R_base ho0) hb)
    have n2_ := Aside0.mk (Kd.R_lower (Kd.R_new' (Kd.R_new' ho0 (Kd.R_lt (zR HO268.out))) (Kd.R_lt (zR HO271.out))) (below_size zH))
    have n3_ := Aside0.mk (blk_below (g := gb264) (o := .cells #[.int .i64 a0_0, .int .i64 a0_1, .int .i64 a0_2, .int .i64 a0_3, .slice A0_4 l0_4.length c0_4] 44 (0, 0)) (zB BK264.out) hb)
    have n4_ := Aside0.mk (below_step zH hb)
    clear HO268
    clear HO271
    clear BK264
    clear HB
    have HO268 := n0_
    have HO271 := n1_
    have HO274 := n2_
    have BK264 := n3_
    have HB := n4_
    clear n0_ n1_ n2_ n3_ n4_
    (try clear hb)
    (try clear hb2)
    (try clear hk)
    (try clear hi)
    (try clear ho0)
    refine hK.out _ _ ⟨.slice Ao16 y266.length co16, .slice Ao17 t269.length co17, v273, v276, m11_, (by rw [ha.out]; exact putSel_upk 5 hb_ rfl rfl rfl), (zB BK264.out), zH, fun _ => (by (with_reducible repeat (first | apply Kd.R_alloc | apply Kd.R_drewN | apply Kd.R_drew)); first | exact HO268.out | exact Kd.R_mono HO268.out (fun _ _ => trivial)), fun _ => (by (with_reducible repeat (first | apply Kd.R_alloc | apply Kd.R_drewN | apply Kd.R_drew)); first | exact HO271.out | exact Kd.R_mono HO271.out (fun _ _ => trivial)), fun _ => (by (with_reducible repeat (first | apply Kd.R_alloc | apply Kd.R_drewN | apply Kd.R_drew)); first | exact Kd.R_mono HO274.out (fun _ hk => ⟨hk.1.2, hk.2⟩) | exact Kd.R_mono HO274.out (fun _ _ => trivial)), fun h0_ => absurd ((hoff 10 (by kernel_rfl)).symm.trans h0_) (by decide), fun h0_ => absurd ((hoff 11 (by kernel_rfl)).symm.trans h0_) (by decide)⟩
   refine steps_cons ?_ ?_
   ·rintro b a w' ⟨v267, v270, v273, v276, m11_, ha, Q_BK264, Q_HB, Q_HO268, Q_HO271, Q_HO274, Q_HO277, Q_X11_⟩ hb_ hon hoff
    refine ⟨_, rfl, fun K hK => ?_⟩
    have e15 : a.tmps[15]? = some (.pointer (some ⟨gb264, 4, none⟩)) := by rw [ha]; exact (putSel_off rfl).trans rfl
    replace ha := Aside0.mk ha
    have BK264 := Aside0.mk Q_BK264
    have HB := Aside0.mk Q_HB
    have hc0_ : w'.cell? ⟨gb264, 0, none⟩ = some (.int .i64 a0_0) := (blk_cell BK264.out 0).trans rfl
    have hc1_ : w'.cell? ⟨gb264, 1, none⟩ = some (.int .i64 a0_1) := (blk_cell BK264.out 1).trans rfl
    have hc2_ : w'.cell? ⟨gb264, 2, none⟩ = some (.int .i64 a0_2) := (blk_cell BK264.out 2).trans rfl
    have hc3_ : w'.cell? ⟨gb264, 3, none⟩ = some (.int .i64 a0_3) := (blk_cell BK264.out 3).trans rfl
    have hc4_ : w'.cell? ⟨gb264, 4, none⟩ = some (.slice A0_4 l0_4.length c0_4) := (blk_cell BK264.out 4).trans rfl
    refine value_ (w1 := w') (v := .slice A0_4 l0_4.length c0_4) (by rfl) rfl ?_ ?_
    ·go_simp
     (try simp only [i64_w])
     try rfl
    refine hK.out _ _ ⟨v267, v270, v273, v276, m11_, (by rw [ha.out]; exact putSel_upk 6 hb_ rfl rfl rfl), Q_BK264, Q_HB, Q_HO268, Q_HO271, Q_HO274, fun h0_ => absurd ((hoff 10 (by kernel_rfl)).symm.trans h0_) (by decide), fun h0_ => absurd ((hoff 11 (by kernel_rfl)).symm.trans h0_) (by decide)⟩
   refine steps_cons ?_ ?_
   ·rintro b a w' ⟨v267, v270, v273, v276, m11_, ha, Q_BK264, Q_HB, Q_HO268, Q_HO271, Q_HO274, Q_HO277, Q_X11_⟩ hb_ hon hoff
    refine ⟨_, rfl, fun K hK => ?_⟩
    have e14 : a.tmps[14]? = some (v273) := by rw [ha]; exact putSel_on (e := (7, 14, v273)) 5 rfl rfl (hon 7 (by kernel_rfl)) rfl
    have e16 : a.tmps[16]? = some (.slice A0_4 l0_4.length c0_4) := by rw [ha]; exact putSel_on (e := (9, 16, .slice A0_4 l0_4.length c0_4)) 6 rfl rfl (hon 9 (by kernel_rfl)) rfl
    replace ha := Aside0.mk ha
    have BK264 := Aside0.mk Q_BK264
    have HB := Aside0.mk Q_HB
    have HO268 := Aside0.mk (Q_HO268 (hon 3 (by kernel_rfl)))
    have HO271 := Aside0.mk (Q_HO271 (hon 6 (by kernel_rfl)))
    have HO274 := Aside0.mk (Q_HO274 (hon 7 (by kernel_rfl)))
    obtain ⟨Ao19, co19, eo19⟩ := Kd.R_slice HO274.out
    (first | subst eo19 | (injection eo19 with f1_ f2_ f3_; have f4_ := f1_.symm; have f5_ := f3_.symm; clear f1_ f2_ f3_; subst f4_; subst f5_))
    refine goes_ Try.func108 (by kernel_rfl) rfl #[.slice Ao19 t272.length co19, .slice A0_4 l0_4.length c0_4] (by rfl) rfl rfl (by first | (simp only [List.map_toArray, List.map_cons, List.map_nil, Act.eval, Array.getD_eq_getD_getElem?, Option.getD_some, e14, e16]; done) | (simp only [List.map_toArray, List.map_cons, List.map_nil, Act.eval, Array.getD_eq_getD_getElem?, Option.getD_some, e14, e16]; rfl)) ?_
    with_reducible refine (spec_l01Join.calls k _ _ t272 _ _ l0_4 t275 _ ?side1 ?side2 ?side3 ?side4 A6.out).mono ?_
    (case side1 => exact zC ((Kd.R_reads' HO274.out).2.2))
    (case side2 => exact (Kd.R_reads' HO274.out).2.1)
    (case side3 => exact zC (Kd.C_below HR0_4.out HB.out))
    (case side4 => exact HC0_4.out)
    rintro e w20 ⟨v276, rfl, ho0, hb⟩
    refine ⟨_, rfl, ?_⟩
    have n0_ := Aside0.mk (Kd.R_elder' (zR HO268.out) (Kd.R_base ho0) hb)
    have n1_ := Aside0.mk (Kd.R_elder' (zR HO271.out) (Kd.R_base ho0) hb)
    have n2_ := Aside0.mk (Kd.R_elder' (zR HO274.out) (Kd.R_base ho0) hb)
    have n3_ := Aside0.mk (Kd.R_lower (Kd.R_new' (Kd.R_new' (Kd.R_new' ho0 (Kd.R_lt (zR HO268.out))) (Kd.R_lt (zR HO271.out))) (Kd.R_lt (zR HO274.out))) (below_size zH))
    have n4_ := Aside0.mk (blk_below (g := gb264) (o := .cells #[.int .i64 a0_0, .int .i64 a0_1, .int .i64 a0_2, .int .i64 a0_3, .slice A0_4 l0_4.length c0_4] 44 (0, 0)) (zB BK264.out) hb)
    have n5_ := Aside0.mk (below_step zH hb)
    clear HO268
    clear HO271
    clear HO274
    clear BK264
    clear HB
    have HO268 := n0_
    have HO271 := n1_
    have HO274 := n2_
    have HO277 := n3_
    have BK264 := n4_
    have HB := n5_
    clear n0_ n1_ n2_ n3_ n4_ n5_
    (try clear hb)
    (try clear hb2)
    (try clear hk)
    (try clear hi)
    (try clear ho0)
    refine hK.out _ _ ⟨v267, v270, .slice Ao19 t272.length co19, v276, m11_, (by rw [ha.out]; exact putSel_upk 7 hb_ rfl rfl rfl), (zB BK264.out), zH, fun _ => (by (with_reducible repeat (first | apply Kd.R_alloc | apply Kd.R_drewN | apply Kd.R_drew)); first | exact Kd.R_mono HO268.out (fun _ hk => ⟨hk.1.1, ⟨hk.1.2, hk.2⟩⟩) | exact Kd.R_mono HO268.out (fun _ _ => trivial)), fun _ => (by (with_reducible repeat (first | apply Kd.R_alloc | apply Kd.R_drewN | apply Kd.R_drew)); first | exact Kd.R_mono HO271.out (fun _ hk => ⟨hk.1.1, ⟨hk.1.2, hk.2⟩⟩) | exact Kd.R_mono HO271.out (fun _ _ => trivial)), fun _ => (by (with_reducible repeat (first | apply Kd.R_alloc | apply Kd.R_drewN | apply Kd.R_drew)); first | exact Kd.R_mono HO274.out (fun _ hk => ⟨hk.1.1, ⟨hk.1.2, hk.2⟩⟩) | exact Kd.R_mono HO274.out (fun _ _ => trivial)), fun _ => (by (with_reducible repeat (first | apply Kd.R_alloc | apply Kd.R_drewN | apply Kd.R_drew)); first | exact Kd.R_mono HO277.out (fun _ hk => ⟨hk.1.1.2, ⟨hk.1.2, hk.2⟩⟩) | exact Kd.R_mono HO277.out (fun _ _ => trivial)), fun h0_ => absurd ((hoff 11 (by kernel_rfl)).symm.trans h0_) (by decide)⟩
   refine steps_cons ?_ ?_
   ·rintro b a w' ⟨v267, v270, v273, v276, m11_, ha, Q_BK264, Q_HB, Q_HO268, Q_HO271, Q_HO274, Q_HO277, Q_X11_⟩ hb_ hon hoff
    refine ⟨_, rfl, fun K hK => ?_⟩
    have e17 : a.tmps[17]? = some (v276) := by rw [ha]; exact putSel_on (e := (10, 17, v276)) 7 rfl rfl (hon 10 (by kernel_rfl)) rfl
    replace ha := Aside0.mk ha
    have BK264 := Aside0.mk Q_BK264
    have HB := Aside0.mk Q_HB
    have HO268 := Aside0.mk (Q_HO268 (hon 3 (by kernel_rfl)))
    have HO271 := Aside0.mk (Q_HO271 (hon 6 (by kernel_rfl)))
    have HO274 := Aside0.mk (Q_HO274 (hon 7 (by kernel_rfl)))
    have HO277 := Aside0.mk (Q_HO277 (hon 10 (by kernel_rfl)))
    refine value_ (w1 := w') (v := v276) (by rfl) rfl ?_ ?_
    ·go_simp
     (try simp only [i64_w])
     try rfl
    refine hK.out _ _ ⟨v267, v270, v273, v276, (v276), (by rw [ha.out]; exact putSel_upk 8 hb_ rfl rfl rfl), Q_BK264, Q_HB, Q_HO268, Q_HO271, Q_HO274, Q_HO277, fun _ => rfl⟩
   exact steps_nil
  rintro b a w20 hall ⟨v267, v270, v273, v276, m11_, ha, Q_BK264, Q_HB, Q_HO268, Q_HO271, Q_HO274, Q_HO277, Q_X11_⟩
  clear BK264 HB
  have hb1_ := hall 1 (by kernel_rfl)
  have hb2_ := hall 2 (by kernel_rfl)
  have hb3_ := hall 3 (by kernel_rfl)
  have hb5_ := hall 5 (by kernel_rfl)
  have hb6_ := hall 6 (by kernel_rfl)
  have hb7_ := hall 7 (by kernel_rfl)
  have hb9_ := hall 9 (by kernel_rfl)
  have hb10_ := hall 10 (by kernel_rfl)
  have hb11_ := hall 11 (by kernel_rfl)
  subst ha
  obtain rfl := Q_X11_ hb11_
  simp only [putSel, hb1_, hb2_, hb3_, hb5_, hb6_, hb7_, hb9_, hb10_, hb11_, if_true, Act.put, List.setIfInBounds_toArray, List.set_cons_zero, List.set_cons_succ]
  have BK264 := Aside0.mk Q_BK264
  clear Q_BK264
  have HB := Aside0.mk Q_HB
  clear Q_HB
  have HO268 := Aside0.mk (Q_HO268 hb3_)
  clear Q_HO268
  have HO271 := Aside0.mk (Q_HO271 hb6_)
  clear Q_HO271
  have HO274 := Aside0.mk (Q_HO274 hb7_)
  clear Q_HO274
  have HO277 := Aside0.mk (Q_HO277 hb10_)
  clear Q_HO277
  clear hall hb1_ hb2_ hb3_ hb5_ hb6_ hb7_ hb9_ hb10_ hb11_
  obtain ⟨hcz21_0, hcz21_1, hcz21_2, hcz21_3, hcz21_4⟩ := zc5 BK264.out
  obtain ⟨hfz21_0, hfz21_1, hfz21_2, hfz21_3, hfz21_4⟩ := zf BK264.out
  obtain ⟨Ao22, co22, eo22⟩ := Kd.R_slice HO277.out
  subst eo22
  try go_wp2_with (first | ((with_reducible refine gate_callee (f := 110) rfl ?_); refine goesL_ (some 24) rfl rfl Try.func110 (by kernel_rfl) rfl #[.agg #[.int .i64 a0_1, .int .i64 a0_2, .slice Ao22 t275.length co22]] rfl zM ?_; (with_reducible refine (spec_EncodeFrame.calls k a0_1 a0_2 _ _ t275 t278 _ ?side1 ?side2 A7.out).mono ?_); (case side1 => exact zC ((Kd.R_reads' HO277.out).2.2)); (case side2 => exact (Kd.R_reads' HO277.out).2.1); rintro e w23 ⟨v279, rfl, ho0, hb⟩; refine ⟨_, rfl, ?_⟩; have n0_ := Aside0.mk (Kd.R_elder' (zR HO268.out) (Kd.R_base ho0) hb); have n1_ := Aside0.mk (Kd.R_elder' (zR HO271.out) (Kd.R_base ho0) hb); have n2_ := Aside0.mk (Kd.R_elder' (zR HO274.out) (Kd.R_base ho0) hb); have n3_ := Aside0.mk (Kd.R_elder' (zR HO277.out) (Kd.R_base ho0) hb); have n4_ := Aside0.mk (Kd.R_lower (Kd.R_new' (Kd.R_new' (Kd.R_new' (Kd.R_new' ho0 (Kd.R_lt (zR HO268.out))) (Kd.R_lt (zR HO271.out))) (Kd.R_lt (zR HO274.out))) (Kd.R_lt (zR HO277.out))) (below_size zH)); have n5_ := Aside0.mk (blk_below (g := gb264) (o := .cells #[.int .i64 a0_0, .int .i64 a0_1, .int .i64 a0_2, .int .i64 a0_3, .slice A0_4 l0_4.length c0_4] 44 (0, 0)) (zB BK264.out) hb); have n6_ := Aside0.mk (below_step zH hb); clear HO268; clear HO271; clear HO274; clear HO277; clear BK264; clear HB; have HO268 := n0_; have HO271 := n1_; have HO274 := n2_; have HO277 := n3_; have HO280 := n4_; have BK264 := n5_; have HB := n6_; clear n0_ n1_ n2_ n3_ n4_ n5_ n6_; (try clear hb); (try clear hb2); (try clear hk); (try clear hi); (try clear ho0)))
  go_ret
  exact ⟨_, zE, by (with_reducible repeat (first | apply Kd.R_alloc | apply Kd.R_drewN | apply Kd.R_drew)); exact Kd.R_mono HO280.out (fun _ hk => trivial), zH⟩
 ·replace c3 := Bool.eq_false_iff.mpr c3
  subst c3
  replace H : (some ([] : List Int)) = some r := by rw [if_neg (show ¬ (false = true) by decide)] at H; exact H
  obtain rfl := Option.some.inj H
  go_enter Try.func51, Try.ntmps51
  go_wp2_with (first | ((with_reducible refine gate_dst (N := 1) rfl ?_); refine box_event ?hg (N := 1) ?hd (cs := #[.int .i64 a0_0, .int .i64 a0_1, .int .i64 a0_2, .int .i64 a0_3, .slice A0_4 l0_4.length c0_4]) (t := 44) ?hr ?_; (case hd => rfl); (case hg => rfl); (case hr => first | (go_simp; done) | (go_simp; rfl)); intro gb264 hg w24 hbox hb; have n0_ := Aside0.mk (below_step zH hb); have n1_ := Aside0.mk (hbox); have n2_ := Aside0.mk ((by rw [hg]; exact (below_size zH) : w.heap.size ≤ gb264)); have n3_ := Aside0.mk ((by rw [hg]; exact (below_size zH) : w.heap.size ≤ gb264)); clear HB; have HB := n0_; have BK264 := n1_; have GW264 := n2_; have GE264 := n3_; clear n0_ n1_ n2_ n3_; clear hb hbox hg; obtain ⟨hcz25_0, hcz25_1, hcz25_2, hcz25_3, hcz25_4⟩ := zc5 BK264.out; obtain ⟨hfz25_0, hfz25_1, hfz25_2, hfz25_3, hfz25_4⟩ := zf BK264.out) | ((with_reducible refine gate_callee (f := 28) rfl ?_); refine goesL_ (some 5) rfl rfl Try.func28 (by kernel_rfl) rfl #[.agg #[.int .i64 a0_0, .int .i64 a0_1, .int .i64 a0_2, .int .i64 a0_3, .slice A0_4 l0_4.length c0_4]] rfl zM ?_; (with_reducible refine (spec_EventOk.calls k a0_0 a0_1 a0_2 a0_3 _ _ l0_4 false _ ?side1 ?side2 A2.out).mono ?_); (case side1 => exact zC (Kd.C_below HR0_4.out HB.out)); (case side2 => exact HC0_4.out); rintro e w26 ⟨rfl, hb⟩; refine ⟨_, rfl, ?_⟩; have n0_ := Aside0.mk (blk_below (g := gb264) (o := .cells #[.int .i64 a0_0, .int .i64 a0_1, .int .i64 a0_2, .int .i64 a0_3, .slice A0_4 l0_4.length c0_4] 44 (0, 0)) (zB BK264.out) hb); have n1_ := Aside0.mk (below_step zH hb); clear BK264; clear HB; have BK264 := n0_; have HB := n1_; clear n0_ n1_; (try clear hb); (try clear hb2); (try clear hk); (try clear hi)))
  go_ret
  exact ⟨.slice none 0 0, zE, by first | exact Kd.R_nil _ _ _ _ _ | exact Kd.R_nil _ _ _ w.heap.size _ | exact Kd.N_nil _ _ _ _ _ | exact Kd.V_nil _ _ _ _ _ | exact Kd.Q_nil _ _ _ _ _ | exact Kd.S_nil _ _ _ _ _, zH⟩

/-! ### impl_takeNumber: function 148 -/
mutual
def impl_takeNumber.l0 : Nat → List Int → Int → Int → Int → Option (Int × Int × Bool)
 | 0, _, _, _, _ => none
 | k + 1, x0, x1, x7, x8 => if x8 < 7 then (impl_takeNumber.j1 k x0 x1 x7 x8 (decide ((wrap64 (x1 + x8)) < (x0.length : Int)))) else (impl_takeNumber.j1 k x0 x1 x7 x8 false)
def impl_takeNumber.j1 : Nat → List Int → Int → Int → Int → Bool → Option (Int × Int × Bool)
 | 0, _, _, _, _, _ => none
 | k + 1, x0, x1, x7, x8, x22 => if x22 = true then (if 0 ≤ (wrap64 (x1 + x8)) then (if (wrap64 (x1 + x8)) < (x0.length : Int) then (if 0 ≤ (wrap64 (7 * x8)) then (if (wrap64 (rd x0 (wrap64 (x1 + x8)))) ≥ 128 then (impl_takeNumber.l0 k x0 x1 (Go.bits .or .i64 x7 (shl .i64 (Int.tmod (wrap64 (rd x0 (wrap64 (x1 + x8)))) 128) (wrap64 (7 * x8)))) (wrap64 (x8 + 1))) else (if (Int.tmod (Go.bits .or .i64 x7 (shl .i64 (Int.tmod (wrap64 (rd x0 (wrap64 (x1 + x8)))) 128) (wrap64 (7 * x8)))) 2) = 1 then (if (wrap64 (rd x0 (wrap64 (x1 + x8)))) = 0 then (if x8 > 0 then (some (0, 0, false)) else (if (wrap64 (Int.tdiv (wrap64 (-(wrap64 ((Go.bits .or .i64 x7 (shl .i64 (Int.tmod (wrap64 (rd x0 (wrap64 (x1 + x8)))) 128) (wrap64 (7 * x8)))) + 1)))) 2)) < (-1099511627776) then (some (0, 0, false)) else (if (wrap64 (Int.tdiv (wrap64 (-(wrap64 ((Go.bits .or .i64 x7 (shl .i64 (Int.tmod (wrap64 (rd x0 (wrap64 (x1 + x8)))) 128) (wrap64 (7 * x8)))) + 1)))) 2)) > 1099511627776 then (some (0, 0, false)) else (some (wrap64 (Int.tdiv (wrap64 (-(wrap64 ((Go.bits .or .i64 x7 (shl .i64 (Int.tmod (wrap64 (rd x0 (wrap64 (x1 + x8)))) 128) (wrap64 (7 * x8)))) + 1)))) 2), wrap64 ((wrap64 (x1 + x8)) + 1), true))))) else (if (wrap64 (Int.tdiv (wrap64 (-(wrap64 ((Go.bits .or .i64 x7 (shl .i64 (Int.tmod (wrap64 (rd x0 (wrap64 (x1 + x8)))) 128) (wrap64 (7 * x8)))) + 1)))) 2)) < (-1099511627776) then (some (0, 0, false)) else (if (wrap64 (Int.tdiv (wrap64 (-(wrap64 ((Go.bits .or .i64 x7 (shl .i64 (Int.tmod (wrap64 (rd x0 (wrap64 (x1 + x8)))) 128) (wrap64 (7 * x8)))) + 1)))) 2)) > 1099511627776 then (some (0, 0, false)) else (some (wrap64 (Int.tdiv (wrap64 (-(wrap64 ((Go.bits .or .i64 x7 (shl .i64 (Int.tmod (wrap64 (rd x0 (wrap64 (x1 + x8)))) 128) (wrap64 (7 * x8)))) + 1)))) 2), wrap64 ((wrap64 (x1 + x8)) + 1), true))))) else (if (wrap64 (rd x0 (wrap64 (x1 + x8)))) = 0 then (if x8 > 0 then (some (0, 0, false)) else (if (wrap64 (Int.tdiv (Go.bits .or .i64 x7 (shl .i64 (Int.tmod (wrap64 (rd x0 (wrap64 (x1 + x8)))) 128) (wrap64 (7 * x8)))) 2)) < (-1099511627776) then (some (0, 0, false)) else (if (wrap64 (Int.tdiv (Go.bits .or .i64 x7 (shl .i64 (Int.tmod (wrap64 (rd x0 (wrap64 (x1 + x8)))) 128) (wrap64 (7 * x8)))) 2)) > 1099511627776 then (some (0, 0, false)) else (some (wrap64 (Int.tdiv (Go.bits .or .i64 x7 (shl .i64 (Int.tmod (wrap64 (rd x0 (wrap64 (x1 + x8)))) 128) (wrap64 (7 * x8)))) 2), wrap64 ((wrap64 (x1 + x8)) + 1), true))))) else (if (wrap64 (Int.tdiv (Go.bits .or .i64 x7 (shl .i64 (Int.tmod (wrap64 (rd x0 (wrap64 (x1 + x8)))) 128) (wrap64 (7 * x8)))) 2)) < (-1099511627776) then (some (0, 0, false)) else (if (wrap64 (Int.tdiv (Go.bits .or .i64 x7 (shl .i64 (Int.tmod (wrap64 (rd x0 (wrap64 (x1 + x8)))) 128) (wrap64 (7 * x8)))) 2)) > 1099511627776 then (some (0, 0, false)) else (some (wrap64 (Int.tdiv (Go.bits .or .i64 x7 (shl .i64 (Int.tmod (wrap64 (rd x0 (wrap64 (x1 + x8)))) 128) (wrap64 (7 * x8)))) 2), wrap64 ((wrap64 (x1 + x8)) + 1), true))))))) else (none)) else (none)) else (none)) else (some (0, 0, false))
end
def impl_takeNumber.f (k : Nat) (l0 : List Int) (a1 : Int) : Option (Int × Int × Bool) := if a1 < 0 then (some (0, 0, false)) else (impl_takeNumber.l0 k l0 a1 0 0)
theorem impl_takeNumber.mono_l : ∀ k, (∀ y0 y1 y2 y3, LeO (impl_takeNumber.l0 k y0 y1 y2 y3) (impl_takeNumber.l0 (k + 1) y0 y1 y2 y3)) ∧ (∀ y0 y1 y2 y3 y4, LeO (impl_takeNumber.j1 k y0 y1 y2 y3 y4) (impl_takeNumber.j1 (k + 1) y0 y1 y2 y3 y4))
 | 0 => ⟨fun _ _ _ _ r h => by simp [impl_takeNumber.l0] at h, fun _ _ _ _ _ r h => by simp [impl_takeNumber.j1] at h⟩
 | k + 1 => by
  obtain ⟨ih0, ih1⟩ := impl_takeNumber.mono_l k
  refine ⟨?_, ?_⟩
  ·intro y0 y1 y2 y3
   unfold impl_takeNumber.l0
   repeat' first
   | (with_reducible exact ih0 _ _ _ _)
   | (with_reducible exact ih1 _ _ _ _ _)
   | (with_reducible exact LeO.refl _)
   | (with_reducible exact LeO.none _)
   | (with_reducible refine LeO.ite ?_ ?_)
   | (with_reducible refine LeO.bind ?_ (fun _ => ?_))
   | exact ih0 _ _ _ _
   | exact ih1 _ _ _ _ _
   | exact LeO.none _
   | refine LeO.ite ?_ ?_
   | refine LeO.bind ?_ (fun _ => ?_)
  ·intro y0 y1 y2 y3 y4
   unfold impl_takeNumber.j1
   repeat' first
   | (with_reducible exact ih0 _ _ _ _)
   | (with_reducible exact ih1 _ _ _ _ _)
   | (with_reducible exact LeO.refl _)
   | (with_reducible exact LeO.none _)
   | (with_reducible refine LeO.ite ?_ ?_)
   | (with_reducible refine LeO.bind ?_ (fun _ => ?_))
   | exact ih0 _ _ _ _
   | exact ih1 _ _ _ _ _
   | exact LeO.none _
   | refine LeO.ite ?_ ?_
   | refine LeO.bind ?_ (fun _ => ?_)
theorem impl_takeNumber.mono : ∀ a0 a1 k, LeO (impl_takeNumber.f k a0 a1) (impl_takeNumber.f (k + 1) a0 a1) := by
 intro a0 a1 k
 obtain ⟨ih0, ih1⟩ := impl_takeNumber.mono_l k
 unfold impl_takeNumber.f
 repeat' first
   | (with_reducible exact ih0 _ _ _ _)
   | (with_reducible exact ih1 _ _ _ _ _)
   | (with_reducible exact LeO.refl _)
   | (with_reducible exact LeO.none _)
   | (with_reducible refine LeO.ite ?_ ?_)
   | (with_reducible refine LeO.bind ?_ (fun _ => ?_))
   | exact ih0 _ _ _ _
   | exact ih1 _ _ _ _ _
   | exact LeO.none _
   | refine LeO.ite ?_ ?_
   | refine LeO.bind ?_ (fun _ => ?_)
set_option maxHeartbeats 8000000 in
set_option maxRecDepth 100000 in
theorem impl_takeNumber.calls (k : Nat) (A0 : Option Addr) (c0 : Nat) (l0 : List Int) (a1 : Int) (r1 : Int) (r2 : Int) (r3 : Bool) (w : World) (hr0 : Kd.C (Kd.int .u8) w A0 l0.length l0) (hc0 : l0.length ≤ c0) (h : impl_takeNumber.f k l0 a1 = some (r1, r2, r3)) :
  Calls Try.prog 148 #[.slice A0 l0.length c0, .int .i64 a1] w fun e w' => e = .returned (.tuple #[.int .i64 r1, .int .i64 r2, .bool r3]) ∧ Drawn0 w w' := by
 have HR0 := Aside0.mk hr0
 have HC0 := Aside0.mk hc0
 clear hr0 hc0
 have H : (if a1 < 0 then (some (0, 0, false)) else (impl_takeNumber.l0 k l0 a1 0 0)) = some (r1, r2, r3) := h
 clear h
 by_cases c3 : a1 < 0
 ·rw [if_pos c3] at H
  have c3b0 : decide (a1 < 0) = true := decide_eq_true c3
  clear c3
  simp only [Option.some.injEq, Prod.mk.injEq] at H
  obtain ⟨rfl, rfl, rfl⟩ := H
  go_enter Try.func148, Try.ntmps148
  go_wp2
  go_ret3
  exact ⟨zF, by repeat (first | exact Drawn0.refl _ | apply Drawn0.step)⟩
 ·rw [if_neg c3] at H
  have c3b0 : decide (a1 < 0) = false := decide_eq_false c3
  clear c3
  have H' := Aside0.mk H
  clear H
  go_enter Try.func148, Try.ntmps148
  go_wp2
  go_loopg [7, 8] k (fun kq v7 v8 w' => ∃ (x7_1 : Int) (x8_1 : Int), v7 = .int .i64 x7_1 ∧ v8 = .int .i64 x8_1 ∧ Aside0 (impl_takeNumber.l0 kq l0 a1 x7_1 x8_1 = some (r1, r2, r3)) ∧ Aside0 (kq ≤ k) ∧ Drawn0 w w')
  case atStart => exact ⟨(0), (0), zF, zF, H', ⟨Nat.le_refl _⟩, by repeat (first | exact Drawn0.refl _ | apply Drawn0.step)⟩
  case round =>
   clear H'
   (try clear c1);(try clear p2);(try clear c3);(try clear c3b0)
   obtain ⟨x7_1, x8_1, rfl, rfl, HA, HK1, ⟨m1, rfl⟩⟩ := hrel
   cases gk with
   | zero => exact absurd HA.out (by simp [impl_takeNumber.l0])
   | succ k1 =>
    have H := HA.out
    clear HA
    simp only [impl_takeNumber.l0] at H
    have HC4 := Aside0.mk H
    clear H
    go_upto_region 5 with (fail)
    go_cut [22] (fun v22 wc => ∃ (kq : Nat) (x22_3 : Bool), v22 = .bool x22_3 ∧ Aside0 (impl_takeNumber.j1 kq l0 a1 x7_1 x8_1 x22_3 = some (r1, r2, r3)) ∧ Aside0 (kq ≤ k1) ∧ Drawn0 w wc)
    case first =>
     have H := HC4.out
     clear HC4
     by_cases c5 : x8_1 < 7
     ·rw [if_pos c5] at H
      have c5b0 : decide (x8_1 < 7) = true := decide_eq_true c5
      clear c5
      (first | rw [c5b0] | (simp only [i64_w, i32_w]; rw [c5b0]) | skip)
      have H' := Aside0.mk H
      clear H
      go_wp2
      go_meet
      case rel => exact ⟨_, (decide ((wrap64 (a1 + x8_1)) < (l0.length : Int))), zF, H', ⟨by have := HK1.out; first | omega | exact Nat.le_refl _⟩, by repeat (first | exact Drawn0.refl _ | apply Drawn0.step)⟩
     ·rw [if_neg c5] at H
      have c5b0 : decide (x8_1 < 7) = false := decide_eq_false c5
      clear c5
      (first | rw [c5b0] | (simp only [i64_w, i32_w]; rw [c5b0]) | skip)
      have H' := Aside0.mk H
      clear H
      go_wp2
      go_meet
      case rel => exact ⟨_, (false), zF, H', ⟨by have := HK1.out; first | omega | exact Nat.le_refl _⟩, by repeat (first | exact Drawn0.refl _ | apply Drawn0.step)⟩
    case rest =>
     clear HC4
     (try clear c1);(try clear p2);(try clear c3);(try clear c3b0);(try clear c5);(try clear c5b0);(try clear p2)
     obtain ⟨kq, x22_3, rfl, HA, HJ3, ⟨mc3, rfl⟩⟩ := hcut
     cases kq with
     | zero => exact absurd HA.out (by simp [impl_takeNumber.j1])
     | succ kj3 =>
      have H := HA.out
      clear HA
      simp only [impl_takeNumber.j1] at H
      by_cases c6 : x22_3 = true
      ·subst c6
       replace H : (if 0 ≤ (wrap64 (a1 + x8_1)) then (if (wrap64 (a1 + x8_1)) < (l0.length : Int) then (if 0 ≤ (wrap64 (7 * x8_1)) then (if (wrap64 (rd l0 (wrap64 (a1 + x8_1)))) ≥ 128 then (impl_takeNumber.l0 kj3 l0 a1 (Go.bits .or .i64 x7_1 (shl .i64 (Int.tmod (wrap64 (rd l0 (wrap64 (a1 + x8_1)))) 128) (wrap64 (7 * x8_1)))) (wrap64 (x8_1 + 1))) else (if (Int.tmod (Go.bits .or .i64 x7_1 (shl .i64 (Int.tmod (wrap64 (rd l0 (wrap64 (a1 + x8_1)))) 128) (wrap64 (7 * x8_1)))) 2) = 1 then (if (wrap64 (rd l0 (wrap64 (a1 + x8_1)))) = 0 then (if x8_1 > 0 then (some (0, 0, false)) else (if (wrap64 (Int.tdiv (wrap64 (-(wrap64 ((Go.bits .or .i64 x7_1 (shl .i64 (Int.tmod (wrap64 (rd l0 (wrap64 (a1 + x8_1)))) 128) (wrap64 (7 * x8_1)))) + 1)))) 2)) < (-1099511627776) then (some (0, 0, false)) else (if (wrap64 (Int.tdiv (wrap64 (-(wrap64 ((Go.bits .or .i64 x7_1 (shl .i64 (Int.tmod (wrap64 (rd l0 (wrap64 (a1 + x8_1)))) 128) (wrap64 (7 * x8_1)))) + 1)))) 2)) > 1099511627776 then (some (0, 0, false)) else (some (wrap64 (Int.tdiv (wrap64 (-(wrap64 ((Go.bits .or .i64 x7_1 (shl .i64 (Int.tmod (wrap64 (rd l0 (wrap64 (a1 + x8_1)))) 128) (wrap64 (7 * x8_1)))) + 1)))) 2), wrap64 ((wrap64 (a1 + x8_1)) + 1), true))))) else (if (wrap64 (Int.tdiv (wrap64 (-(wrap64 ((Go.bits .or .i64 x7_1 (shl .i64 (Int.tmod (wrap64 (rd l0 (wrap64 (a1 + x8_1)))) 128) (wrap64 (7 * x8_1)))) + 1)))) 2)) < (-1099511627776) then (some (0, 0, false)) else (if (wrap64 (Int.tdiv (wrap64 (-(wrap64 ((Go.bits .or .i64 x7_1 (shl .i64 (Int.tmod (wrap64 (rd l0 (wrap64 (a1 + x8_1)))) 128) (wrap64 (7 * x8_1)))) + 1)))) 2)) > 1099511627776 then (some (0, 0, false)) else (some (wrap64 (Int.tdiv (wrap64 (-(wrap64 ((Go.bits .or .i64 x7_1 (shl .i64 (Int.tmod (wrap64 (rd l0 (wrap64 (a1 + x8_1)))) 128) (wrap64 (7 * x8_1)))) + 1)))) 2), wrap64 ((wrap64 (a1 + x8_1)) + 1), true))))) else (if (wrap64 (rd l0 (wrap64 (a1 + x8_1)))) = 0 then (if x8_1 > 0 then (some (0, 0, false)) else (if (wrap64 (Int.tdiv (Go.bits .or .i64 x7_1 (shl .i64 (Int.tmod (wrap64 (rd l0 (wrap64 (a1 + x8_1)))) 128) (wrap64 (7 * x8_1)))) 2)) < (-1099511627776) then (some (0, 0, false)) else (if (wrap64 (Int.tdiv (Go.bits .or .i64 x7_1 (shl .i64 (Int.tmod (wrap64 (rd l0 (wrap64 (a1 + x8_1)))) 128) (wrap64 (7 * x8_1)))) 2)) > 1099511627776 then (some (0, 0, false)) else (some (wrap64 (Int.tdiv (Go.bits .or .i64 x7_1 (shl .i64 (Int.tmod (wrap64 (rd l0 (wrap64 (a1 + x8_1)))) 128) (wrap64 (7 * x8_1)))) 2), wrap64 ((wrap64 (a1 + x8_1)) + 1), true))))) else (if (wrap64 (Int.tdiv (Go.bits .or .i64 x7_1 (shl .i64 (Int.tmod (wrap64 (rd l0 (wrap64 (a1 + x8_1)))) 128) (wrap64 (7 * x8_1)))) 2)) < (-1099511627776) then (some (0, 0, false)) else (if (wrap64 (Int.tdiv (Go.bits .or .i64 x7_1 (shl .i64 (Int.tmod (wrap64 (rd l0 (wrap64 (a1 + x8_1)))) 128) (wrap64 (7 * x8_1)))) 2)) > 1099511627776 then (some (0, 0, false)) else (some (wrap64 (Int.tdiv (Go.bits .or .i64 x7_1 (shl .i64 (Int.tmod (wrap64 (rd l0 (wrap64 (a1 + x8_1)))) 128) (wrap64 (7 * x8_1)))) 2), wrap64 ((wrap64 (a1 + x8_1)) + 1), true))))))) else (none)) else (none)) else (none)) = some (r1, r2, r3) := by rw [if_pos rfl] at H; exact H
       obtain ⟨ji7, hji7⟩ : ∃ j_ : Int, (wrap64 (a1 + x8_1)) = j_ := ⟨_, rfl⟩
       replace H : (if 0 ≤ (ji7) then (if (ji7) < (l0.length : Int) then (if 0 ≤ (wrap64 (7 * x8_1)) then (if (wrap64 (rd l0 (ji7))) ≥ 128 then (impl_takeNumber.l0 kj3 l0 a1 (Go.bits .or .i64 x7_1 (shl .i64 (Int.tmod (wrap64 (rd l0 (ji7))) 128) (wrap64 (7 * x8_1)))) (wrap64 (x8_1 + 1))) else (if (Int.tmod (Go.bits .or .i64 x7_1 (shl .i64 (Int.tmod (wrap64 (rd l0 (ji7))) 128) (wrap64 (7 * x8_1)))) 2) = 1 then (if (wrap64 (rd l0 (ji7))) = 0 then (if x8_1 > 0 then (some (0, 0, false)) else (if (wrap64 (Int.tdiv (wrap64 (-(wrap64 ((Go.bits .or .i64 x7_1 (shl .i64 (Int.tmod (wrap64 (rd l0 (ji7))) 128) (wrap64 (7 * x8_1)))) + 1)))) 2)) < (-1099511627776) then (some (0, 0, false)) else (if (wrap64 (Int.tdiv (wrap64 (-(wrap64 ((Go.bits .or .i64 x7_1 (shl .i64 (Int.tmod (wrap64 (rd l0 (ji7))) 128) (wrap64 (7 * x8_1)))) + 1)))) 2)) > 1099511627776 then (some (0, 0, false)) else (some (wrap64 (Int.tdiv (wrap64 (-(wrap64 ((Go.bits .or .i64 x7_1 (shl .i64 (Int.tmod (wrap64 (rd l0 (ji7))) 128) (wrap64 (7 * x8_1)))) + 1)))) 2), wrap64 ((ji7) + 1), true))))) else (if (wrap64 (Int.tdiv (wrap64 (-(wrap64 ((Go.bits .or .i64 x7_1 (shl .i64 (Int.tmod (wrap64 (rd l0 (ji7))) 128) (wrap64 (7 * x8_1)))) + 1)))) 2)) < (-1099511627776) then (some (0, 0, false)) else (if (wrap64 (Int.tdiv (wrap64 (-(wrap64 ((Go.bits .or .i64 x7_1 (shl .i64 (Int.tmod (wrap64 (rd l0 (ji7))) 128) (wrap64 (7 * x8_1)))) + 1)))) 2)) > 1099511627776 then (some (0, 0, false)) else (some (wrap64 (Int.tdiv (wrap64 (-(wrap64 ((Go.bits .or .i64 x7_1 (shl .i64 (Int.tmod (wrap64 (rd l0 (ji7))) 128) (wrap64 (7 * x8_1)))) + 1)))) 2), wrap64 ((ji7) + 1), true))))) else (if (wrap64 (rd l0 (ji7))) = 0 then (if x8_1 > 0 then (some (0, 0, false)) else (if (wrap64 (Int.tdiv (Go.bits .or .i64 x7_1 (shl .i64 (Int.tmod (wrap64 (rd l0 (ji7))) 128) (wrap64 (7 * x8_1)))) 2)) < (-1099511627776) then (some (0, 0, false)) else (if (wrap64 (Int.tdiv (Go.bits .or .i64 x7_1 (shl .i64 (Int.tmod (wrap64 (rd l0 (ji7))) 128) (wrap64 (7 * x8_1)))) 2)) > 1099511627776 then (some (0, 0, false)) else (some (wrap64 (Int.tdiv (Go.bits .or .i64 x7_1 (shl .i64 (Int.tmod (wrap64 (rd l0 (ji7))) 128) (wrap64 (7 * x8_1)))) 2), wrap64 ((ji7) + 1), true))))) else (if (wrap64 (Int.tdiv (Go.bits .or .i64 x7_1 (shl .i64 (Int.tmod (wrap64 (rd l0 (ji7))) 128) (wrap64 (7 * x8_1)))) 2)) < (-1099511627776) then (some (0, 0, false)) else (if (wrap64 (Int.tdiv (Go.bits .or .i64 x7_1 (shl .i64 (Int.tmod (wrap64 (rd l0 (ji7))) 128) (wrap64 (7 * x8_1)))) 2)) > 1099511627776 then (some (0, 0, false)) else (some (wrap64 (Int.tdiv (Go.bits .or .i64 x7_1 (shl .i64 (Int.tmod (wrap64 (rd l0 (ji7))) 128) (wrap64 (7 * x8_1)))) 2), wrap64 ((ji7) + 1), true))))))) else (none)) else (none)) else (none)) = some (r1, r2, r3) := by first | (rw [hji7] at H; exact H) | (simp only [hji7] at H ⊢; exact H)
       have hji7w : (IntKind.i64.wrap (a1 + x8_1)) = ji7 := (i64_w _).trans hji7
       by_cases c8 : 0 ≤ (ji7)
       ·rw [if_pos c8] at H
        have c8b0 : decide (0 ≤ (ji7)) = true := decide_eq_true c8
        clear c8
        by_cases c9 : (ji7) < (l0.length : Int)
        ·rw [if_pos c9] at H
         have c9b0 : decide ((ji7) < (l0.length : Int)) = true := decide_eq_true c9
         clear c9
         obtain ⟨ji10, hji10⟩ : ∃ j_ : Int, (wrap64 (7 * x8_1)) = j_ := ⟨_, rfl⟩
         replace H : (if 0 ≤ (ji10) then (if (wrap64 (rd l0 (ji7))) ≥ 128 then (impl_takeNumber.l0 kj3 l0 a1 (Go.bits .or .i64 x7_1 (shl .i64 (Int.tmod (wrap64 (rd l0 (ji7))) 128) (ji10))) (wrap64 (x8_1 + 1))) else (if (Int.tmod (Go.bits .or .i64 x7_1 (shl .i64 (Int.tmod (wrap64 (rd l0 (ji7))) 128) (ji10))) 2) = 1 then (if (wrap64 (rd l0 (ji7))) = 0 then (if x8_1 > 0 then (some (0, 0, false)) else (if (wrap64 (Int.tdiv (wrap64 (-(wrap64 ((Go.bits .or .i64 x7_1 (shl .i64 (Int.tmod (wrap64 (rd l0 (ji7))) 128) (ji10))) + 1)))) 2)) < (-1099511627776) then (some (0, 0, false)) else (if (wrap64 (Int.tdiv (wrap64 (-(wrap64 ((Go.bits .or .i64 x7_1 (shl .i64 (Int.tmod (wrap64 (rd l0 (ji7))) 128) (ji10))) + 1)))) 2)) > 1099511627776 then (some (0, 0, false)) else (some (wrap64 (Int.tdiv (wrap64 (-(wrap64 ((Go.bits .or .i64 x7_1 (shl .i64 (Int.tmod (wrap64 (rd l0 (ji7))) 128) (ji10))) + 1)))) 2), wrap64 ((ji7) + 1), true))))) else (if (wrap64 (Int.tdiv (wrap64 (-(wrap64 ((Go.bits .or .i64 x7_1 (shl .i64 (Int.tmod (wrap64 (rd l0 (ji7))) 128) (ji10))) + 1)))) 2)) < (-1099511627776) then (some (0, 0, false)) else (if (wrap64 (Int.tdiv (wrap64 (-(wrap64 ((Go.bits .or .i64 x7_1 (shl .i64 (Int.tmod (wrap64 (rd l0 (ji7))) 128) (ji10))) + 1)))) 2)) > 1099511627776 then (some (0, 0, false)) else (some (wrap64 (Int.tdiv (wrap64 (-(wrap64 ((Go.bits .or .i64 x7_1 (shl .i64 (Int.tmod (wrap64 (rd l0 (ji7))) 128) (ji10))) + 1)))) 2), wrap64 ((ji7) + 1), true))))) else (if (wrap64 (rd l0 (ji7))) = 0 then (if x8_1 > 0 then (some (0, 0, false)) else (if (wrap64 (Int.tdiv (Go.bits .or .i64 x7_1 (shl .i64 (Int.tmod (wrap64 (rd l0 (ji7))) 128) (ji10))) 2)) < (-1099511627776) then (some (0, 0, false)) else (if (wrap64 (Int.tdiv (Go.bits .or .i64 x7_1 (shl .i64 (Int.tmod (wrap64 (rd l0 (ji7))) 128) (ji10))) 2)) > 1099511627776 then (some (0, 0, false)) else (some (wrap64 (Int.tdiv (Go.bits .or .i64 x7_1 (shl .i64 (Int.tmod (wrap64 (rd l0 (ji7))) 128) (ji10))) 2), wrap64 ((ji7) + 1), true))))) else (if (wrap64 (Int.tdiv (Go.bits .or .i64 x7_1 (shl .i64 (Int.tmod (wrap64 (rd l0 (ji7))) 128) (ji10))) 2)) < (-1099511627776) then (some (0, 0, false)) else (if (wrap64 (Int.tdiv (Go.bits .or .i64 x7_1 (shl .i64 (Int.tmod (wrap64 (rd l0 (ji7))) 128) (ji10))) 2)) > 1099511627776 then (some (0, 0, false)) else (some (wrap64 (Int.tdiv (Go.bits .or .i64 x7_1 (shl .i64 (Int.tmod (wrap64 (rd l0 (ji7))) 128) (ji10))) 2), wrap64 ((ji7) + 1), true))))))) else (none)) = some (r1, r2, r3) := by first | (rw [hji10] at H; exact H) | (simp only [hji10] at H ⊢; exact H)
         have hji10w : (IntKind.i64.wrap (7 * x8_1)) = ji10 := (i64_w _).trans hji10
         by_cases c11 : 0 ≤ (ji10)
         ·rw [if_pos c11] at H
          have c11b0 := eq_true c11
          have c11b1 : decide (0 ≤ (ji10)) = true := decide_eq_true c11
          clear c11
          obtain ⟨ji12, hji12⟩ : ∃ j_ : Int, (shl .i64 (Int.tmod (wrap64 (rd l0 (ji7))) 128) (ji10)) = j_ := ⟨_, rfl⟩
          replace H : (if (wrap64 (rd l0 (ji7))) ≥ 128 then (impl_takeNumber.l0 kj3 l0 a1 (Go.bits .or .i64 x7_1 (ji12)) (wrap64 (x8_1 + 1))) else (if (Int.tmod (Go.bits .or .i64 x7_1 (ji12)) 2) = 1 then (if (wrap64 (rd l0 (ji7))) = 0 then (if x8_1 > 0 then (some (0, 0, false)) else (if (wrap64 (Int.tdiv (wrap64 (-(wrap64 ((Go.bits .or .i64 x7_1 (ji12)) + 1)))) 2)) < (-1099511627776) then (some (0, 0, false)) else (if (wrap64 (Int.tdiv (wrap64 (-(wrap64 ((Go.bits .or .i64 x7_1 (ji12)) + 1)))) 2)) > 1099511627776 then (some (0, 0, false)) else (some (wrap64 (Int.tdiv (wrap64 (-(wrap64 ((Go.bits .or .i64 x7_1 (ji12)) + 1)))) 2), wrap64 ((ji7) + 1), true))))) else (if (wrap64 (Int.tdiv (wrap64 (-(wrap64 ((Go.bits .or .i64 x7_1 (ji12)) + 1)))) 2)) < (-1099511627776) then (some (0, 0, false)) else (if (wrap64 (Int.tdiv (wrap64 (-(wrap64 ((Go.bits .or .i64 x7_1 (ji12)) + 1)))) 2)) > 1099511627776 then (some (0, 0, false)) else (some (wrap64 (Int.tdiv (wrap64 (-(wrap64 ((Go.bits .or .i64 x7_1 (ji12)) + 1)))) 2), wrap64 ((ji7) + 1), true))))) else (if (wrap64 (rd l0 (ji7))) = 0 then (if x8_1 > 0 then (some (0, 0, false)) else (if (wrap64 (Int.tdiv (Go.bits .or .i64 x7_1 (ji12)) 2)) < (-1099511627776) then (some (0, 0, false)) else (if (wrap64 (Int.tdiv (Go.bits .or .i64 x7_1 (ji12)) 2)) > 1099511627776 then (some (0, 0, false)) else (some (wrap64 (Int.tdiv (Go.bits .or .i64 x7_1 (ji12)) 2), wrap64 ((ji7) + 1), true))))) else (if (wrap64 (Int.tdiv (Go.bits .or .i64 x7_1 (ji12)) 2)) < (-1099511627776) then (some (0, 0, false)) else (if (wrap64 (Int.tdiv (Go.bits .or .i64 x7_1 (ji12)) 2)) > 1099511627776 then (some (0, 0, false)) else (some (wrap64 (Int.tdiv (Go.bits .or .i64 x7_1 (ji12)) 2), wrap64 ((ji7) + 1), true))))))) = some (r1, r2, r3) := by first | (rw [hji12] at H; exact H) | (simp only [hji12] at H ⊢; exact H)
          have hji12_ : (IntKind.i64.wrap ((Int.tmod (wrap64 (rd l0 (ji7))) 128) * 2 ^ min (ji10).toNat 64)) = ji12 := hji12
          have hji12z : (ji10) ≤ 64 → (IntKind.i64.wrap ((Int.tmod (wrap64 (rd l0 (ji7))) 128) * 2 ^ (ji10).toNat)) = ji12 := shl_small hji12
          have hji12y : (wrap64 ((Int.tmod (wrap64 (rd l0 (ji7))) 128) * 2 ^ min (ji10).toNat 64)) = ji12 := (i64_w _).symm.trans hji12_
          have hji12x : (ji10) ≤ 64 → (wrap64 ((Int.tmod (wrap64 (rd l0 (ji7))) 128) * 2 ^ (ji10).toNat)) = ji12 := fun h_ => (i64_w _).symm.trans (hji12z h_)
          by_cases c13 : (wrap64 (rd l0 (ji7))) ≥ 128
          ·rw [if_pos c13] at H
           have c13b0 : decide (128 ≤ (wrap64 (rd l0 (ji7)))) = true := decide_eq_true c13
           clear c13
           have H' := Aside0.mk H
           clear H
           have p281 : 0 ≤ ((ji7) : Int) := zD
           have q281 : (ji7) < (l0.length : Int) := zD
           obtain ⟨ad281, e281, hx281_0⟩ := Kd.at_int HR0.out (ji7) p281 q281
           cases e281
           replace p281 := eq_true p281
           replace q281 := eq_true q281
           go_wp2
           go_roundg kj3
           case measure => have := HK1.out; have := HJ3.out; omega
           case rel => exact ⟨(Go.bits .or .i64 x7_1 (ji12)), (wrap64 (x8_1 + 1)), (by first | rfl | (simp; done) | (simp only [← hji12] <;> (first | rfl | simp)) | (simp [*]; done)), zF, H', ⟨by have := HK1.out; have := HJ3.out; omega⟩, by repeat (first | exact Drawn0.refl _ | apply Drawn0.step)⟩
          ·rw [if_neg c13] at H
           have c13b0 : decide (128 ≤ (wrap64 (rd l0 (ji7)))) = false := decide_eq_false c13
           clear c13
           by_cases c14 : (Int.tmod (Go.bits .or .i64 x7_1 (ji12)) 2) = 1
           ·rw [if_pos c14] at H
            have c14b0 : ((Int.tmod (Go.bits .or .i64 x7_1 (ji12)) 2) == 1) = true := beq_iff_eq.mpr c14
            have c14b1 : ((Int.tmod (Go.bits .or .i64 x7_1 (ji12)) 2) != 1) = false := bne_eq_false_iff_eq.mpr c14
            clear c14
            by_cases c15 : (wrap64 (rd l0 (ji7))) = 0
            ·rw [if_pos c15] at H
             have c15b0 : ((wrap64 (rd l0 (ji7))) == 0) = true := beq_iff_eq.mpr c15
             have c15b1 : ((wrap64 (rd l0 (ji7))) != 0) = false := bne_eq_false_iff_eq.mpr c15
             clear c15
             by_cases c16 : x8_1 > 0
             ·rw [if_pos c16] at H
              have c16b0 : decide (0 < x8_1) = true := decide_eq_true c16
              clear c16
              simp only [Option.some.injEq, Prod.mk.injEq] at H
              obtain ⟨rfl, rfl, rfl⟩ := H
              have p281 : 0 ≤ ((ji7) : Int) := zD
              have q281 : (ji7) < (l0.length : Int) := zD
              obtain ⟨ad281, e281, hx281_0⟩ := Kd.at_int HR0.out (ji7) p281 q281
              cases e281
              replace p281 := eq_true p281
              replace q281 := eq_true q281
              go_wp2
              go_ret3
              exact ⟨by first | rfl | (simp; done) | (simp only [← hji7, ← hji10, ← hji12] <;> (first | rfl | simp)) | (simp [*]; done), by repeat (first | exact Drawn0.refl _ | apply Drawn0.step)⟩
             ·rw [if_neg c16] at H
              have c16b0 : decide (0 < x8_1) = false := decide_eq_false c16
              clear c16
              by_cases c17 : (wrap64 (Int.tdiv (wrap64 (-(wrap64 ((Go.bits .or .i64 x7_1 (ji12)) + 1)))) 2)) < (-1099511627776)
              ·rw [if_pos c17] at H
               have c17b0 : decide ((wrap64 (Int.tdiv (wrap64 (-(wrap64 ((Go.bits .or .i64 x7_1 (ji12)) + 1)))) 2)) < (-1099511627776)) = true := decide_eq_true c17
               clear c17
               simp only [Option.some.injEq, Prod.mk.injEq] at H
               obtain ⟨rfl, rfl, rfl⟩ := H
               have p281 : 0 ≤ ((ji7) : Int) := zD
               have q281 : (ji7) < (l0.length : Int) := zD
               obtain ⟨ad281, e281, hx281_0⟩ := Kd.at_int HR0.out (ji7) p281 q281
               cases e281
               replace p281 := eq_true p281
               replace q281 := eq_true q281
               go_wp2
               go_ret3
               exact ⟨by first | rfl | (simp; done) | (simp only [← hji7, ← hji10, ← hji12] <;> (first | rfl | simp)) | (simp [*]; done), by repeat (first | exact Drawn0.refl _ | apply Drawn0.step)⟩
              ·rw [if_neg c17] at H
               have c17b0 : decide ((wrap64 (Int.tdiv (wrap64 (-(wrap64 ((Go.bits .or .i64 x7_1 (ji12)) + 1)))) 2)) < (-1099511627776)) = false := decide_eq_false c17
               clear c17
               by_cases c18 : (wrap64 (Int.tdiv (wrap64 (-(wrap64 ((Go.bits .or .i64 x7_1 (ji12)) + 1)))) 2)) > 1099511627776
               ·rw [if_pos c18] at H
                have c18b0 : decide (1099511627776 < (wrap64 (Int.tdiv (wrap64 (-(wrap64 ((Go.bits .or .i64 x7_1 (ji12)) + 1)))) 2))) = true := decide_eq_true c18
                clear c18
                simp only [Option.some.injEq, Prod.mk.injEq] at H
                obtain ⟨rfl, rfl, rfl⟩ := H
                have p281 : 0 ≤ ((ji7) : Int) := zD
                have q281 : (ji7) < (l0.length : Int) := zD
                obtain ⟨ad281, e281, hx281_0⟩ := Kd.at_int HR0.out (ji7) p281 q281
                cases e281
                replace p281 := eq_true p281
                replace q281 := eq_true q281
                go_wp2
                go_ret3
                exact ⟨by first | rfl | (simp; done) | (simp only [← hji7, ← hji10, ← hji12] <;> (first | rfl | simp)) | (simp [*]; done), by repeat (first | exact Drawn0.refl _ | apply Drawn0.step)⟩
               ·rw [if_neg c18] at H
                have c18b0 : decide (1099511627776 < (wrap64 (Int.tdiv (wrap64 (-(wrap64 ((Go.bits .or .i64 x7_1 (ji12)) + 1)))) 2))) = false := decide_eq_false c18
                clear c18
                simp only [Option.some.injEq, Prod.mk.injEq] at H
                obtain ⟨rfl, rfl, rfl⟩ := H
                have p281 : 0 ≤ ((ji7) : Int) := zD
                have q281 : (ji7) < (l0.length : Int) := zD
                obtain ⟨ad281, e281, hx281_0⟩ := Kd.at_int HR0.out (ji7) p281 q281
                cases e281
                replace p281 := eq_true p281
                replace q281 := eq_true q281
                go_wp2
                go_ret3
                exact ⟨by first | rfl | (simp; done) | (simp only [← hji7, ← hji10, ← hji12] <;> (first | rfl | simp)) | (simp [*]; done), by repeat (first | exact Drawn0.refl _ | apply Drawn0.step)⟩
            ·rw [if_neg c15] at H
             have c15b0 : ((wrap64 (rd l0 (ji7))) == 0) = false := beq_eq_false_iff_ne.mpr c15
             have c15b1 : ((wrap64 (rd l0 (ji7))) != 0) = true := bne_iff_ne.mpr c15
             by_cases c19 : (wrap64 (Int.tdiv (wrap64 (-(wrap64 ((Go.bits .or .i64 x7_1 (ji12)) + 1)))) 2)) < (-1099511627776)
             ·rw [if_pos c19] at H
              have c19b0 : decide ((wrap64 (Int.tdiv (wrap64 (-(wrap64 ((Go.bits .or .i64 x7_1 (ji12)) + 1)))) 2)) < (-1099511627776)) = true := decide_eq_true c19
              clear c19
              simp only [Option.some.injEq, Prod.mk.injEq] at H
              obtain ⟨rfl, rfl, rfl⟩ := H
              have p281 : 0 ≤ ((ji7) : Int) := zD
              have q281 : (ji7) < (l0.length : Int) := zD
              obtain ⟨ad281, e281, hx281_0⟩ := Kd.at_int HR0.out (ji7) p281 q281
              cases e281
              replace p281 := eq_true p281
              replace q281 := eq_true q281
              go_wp2
              go_ret3
              exact ⟨by first | rfl | (simp; done) | (simp only [← hji7, ← hji10, ← hji12] <;> (first | rfl | simp)) | (simp [*]; done), by repeat (first | exact Drawn0.refl _ | apply Drawn0.step)⟩
             ·rw [if_neg c19] at H
              have c19b0 : decide ((wrap64 (Int.tdiv (wrap64 (-(wrap64 ((Go.bits .or .i64 x7_1 (ji12)) + 1)))) 2)) < (-1099511627776)) = false := decide_eq_false c19
              clear c19
              by_cases c20 : (wrap64 (Int.tdiv (wrap64 (-(wrap64 ((Go.bits .or .i64 x7_1 (ji12)) + 1)))) 2)) > 1099511627776
              ·rw [if_pos c20] at H
               have c20b0 : decide (1099511627776 < (wrap64 (Int.tdiv (wrap64 (-(wrap64 ((Go.bits .or .i64 x7_1 (ji12)) + 1)))) 2))) = true := decide_eq_true c20
               clear c20
               simp only [Option.some.injEq, Prod.mk.injEq] at H
               obtain ⟨rfl, rfl, rfl⟩ := H
               have p281 : 0 ≤ ((ji7) : Int) := zD
               have q281 : (ji7) < (l0.length : Int) := zD
               obtain ⟨ad281, e281, hx281_0⟩ := Kd.at_int HR0.out (ji7) p281 q281
               cases e281
               replace p281 := eq_true p281
               replace q281 := eq_true q281
               go_wp2
               go_ret3
               exact ⟨by first | rfl | (simp; done) | (simp only [← hji7, ← hji10, ← hji12] <;> (first | rfl | simp)) | (simp [*]; done), by repeat (first | exact Drawn0.refl _ | apply Drawn0.step)⟩
              ·rw [if_neg c20] at H
               have c20b0 : decide (1099511627776 < (wrap64 (Int.tdiv (wrap64 (-(wrap64 ((Go.bits .or .i64 x7_1 (ji12)) + 1)))) 2))) = false := decide_eq_false c20
               clear c20
               simp only [Option.some.injEq, Prod.mk.injEq] at H
               obtain ⟨rfl, rfl, rfl⟩ := H
               have p281 : 0 ≤ ((ji7) : Int) := zD
               have q281 : (ji7) < (l0.length : Int) := zD
               obtain ⟨ad281, e281, hx281_0⟩ := Kd.at_int HR0.out (ji7) p281 q281
               cases e281
               replace p281 := eq_true p281
               replace q281 := eq_true q281
               go_wp2
               go_ret3
               exact ⟨by first | rfl | (simp; done) | (simp only [← hji7, ← hji10, ← hji12] <;> (first | rfl | simp)) | (simp [*]; done), by repeat (first | exact Drawn0.refl _ | apply Drawn0.step)⟩
           ·rw [if_neg c14] at H
            have c14b0 : ((Int.tmod (Go.bits .or .i64 x7_1 (ji12)) 2) == 1) = false := beq_eq_false_iff_ne.mpr c14
            have c14b1 : ((Int.tmod (Go.bits .or .i64 x7_1 (ji12)) 2) != 1) = true := bne_iff_ne.mpr c14
            by_cases c21 : (wrap64 (rd l0 (ji7))) = 0
            ·rw [if_pos c21] at H
             have c21b0 : ((wrap64 (rd l0 (ji7))) == 0) = true := beq_iff_eq.mpr c21
             have c21b1 : ((wrap64 (rd l0 (ji7))) != 0) = false := bne_eq_false_iff_eq.mpr c21
             clear c21
             by_cases c22 : x8_1 > 0
             ·rw [if_pos c22] at H
              have c22b0 : decide (0 < x8_1) = true := decide_eq_true c22
              clear c22
              simp only [Option.some.injEq, Prod.mk.injEq] at H
              obtain ⟨rfl, rfl, rfl⟩ := H
              have p281 : 0 ≤ ((ji7) : Int) := zD
              have q281 : (ji7) < (l0.length : Int) := zD
              obtain ⟨ad281, e281, hx281_0⟩ := Kd.at_int HR0.out (ji7) p281 q281
              cases e281
              replace p281 := eq_true p281
              replace q281 := eq_true q281
              go_wp2
              go_ret3
              exact ⟨by first | rfl | (simp; done) | (simp only [← hji7, ← hji10, ← hji12] <;> (first | rfl | simp)) | (simp [*]; done), by repeat (first | exact Drawn0.refl _ | apply Drawn0.step)⟩
             ·rw [if_neg c22] at H
              have c22b0 : decide (0 < x8_1) = false := decide_eq_false c22
              clear c22
              by_cases c23 : (wrap64 (Int.tdiv (Go.bits .or .i64 x7_1 (ji12)) 2)) < (-1099511627776)
              ·rw [if_pos c23] at H
               have c23b0 : decide ((wrap64 (Int.tdiv (Go.bits .or .i64 x7_1 (ji12)) 2)) < (-1099511627776)) = true := decide_eq_true c23
               clear c23
               simp only [Option.some.injEq, Prod.mk.injEq] at H
               obtain ⟨rfl, rfl, rfl⟩ := H
               have p281 : 0 ≤ ((ji7) : Int) := zD
               have q281 : (ji7) < (l0.length : Int) := zD
               obtain ⟨ad281, e281, hx281_0⟩ := Kd.at_int HR0.out (ji7) p281 q281
               cases e281
               replace p281 := eq_true p281
               replace q281 := eq_true q281
               go_wp2
               go_ret3
               exact ⟨by first | rfl | (simp; done) | (simp only [← hji7, ← hji10, ← hji12] <;> (first | rfl | simp)) | (simp [*]; done), by repeat (first | exact Drawn0.refl _ | apply Drawn0.step)⟩
              ·rw [if_neg c23] at H
               have c23b0 : decide ((wrap64 (Int.tdiv (Go.bits .or .i64 x7_1 (ji12)) 2)) < (-1099511627776)) = false := decide_eq_false c23
               clear c23
               by_cases c24 : (wrap64 (Int.tdiv (Go.bits .or .i64 x7_1 (ji12)) 2)) > 1099511627776
               ·rw [if_pos c24] at H
                have c24b0 : decide (1099511627776 < (wrap64 (Int.tdiv (Go.bits .or .i64 x7_1 (ji12)) 2))) = true := decide_eq_true c24
                clear c24
                simp only [Option.some.injEq, Prod.mk.injEq] at H
                obtain ⟨rfl, rfl, rfl⟩ := H
                have p281 : 0 ≤ ((ji7) : Int) := zD
                have q281 : (ji7) < (l0.length : Int) := zD
                obtain ⟨ad281, e281, hx281_0⟩ := Kd.at_int HR0.out (ji7) p281 q281
                cases e281
                replace p281 := eq_true p281
                replace q281 := eq_true q281
                go_wp2
                go_ret3
                exact ⟨by first | rfl | (simp; done) | (simp only [← hji7, ← hji10, ← hji12] <;> (first | rfl | simp)) | (simp [*]; done), by repeat (first | exact Drawn0.refl _ | apply Drawn0.step)⟩
               ·rw [if_neg c24] at H
                have c24b0 : decide (1099511627776 < (wrap64 (Int.tdiv (Go.bits .or .i64 x7_1 (ji12)) 2))) = false := decide_eq_false c24
                clear c24
                simp only [Option.some.injEq, Prod.mk.injEq] at H
                obtain ⟨rfl, rfl, rfl⟩ := H
                have p281 : 0 ≤ ((ji7) : Int) := zD
                have q281 : (ji7) < (l0.length : Int) := zD
                obtain ⟨ad281, e281, hx281_0⟩ := Kd.at_int HR0.out (ji7) p281 q281
                cases e281
                replace p281 := eq_true p281
                replace q281 := eq_true q281
                go_wp2
                go_ret3
                exact ⟨by first | rfl | (simp; done) | (simp only [← hji7, ← hji10, ← hji12] <;> (first | rfl | simp)) | (simp [*]; done), by repeat (first | exact Drawn0.refl _ | apply Drawn0.step)⟩
            ·rw [if_neg c21] at H
             have c21b0 : ((wrap64 (rd l0 (ji7))) == 0) = false := beq_eq_false_iff_ne.mpr c21
             have c21b1 : ((wrap64 (rd l0 (ji7))) != 0) = true := bne_iff_ne.mpr c21
             by_cases c25 : (wrap64 (Int.tdiv (Go.bits .or .i64 x7_1 (ji12)) 2)) < (-1099511627776)
             ·rw [if_pos c25] at H
              have c25b0 : decide ((wrap64 (Int.tdiv (Go.bits .or .i64 x7_1 (ji12)) 2)) < (-1099511627776)) = true := decide_eq_true c25
              clear c25
              simp only [Option.some.injEq, Prod.mk.injEq] at H
              obtain ⟨rfl, rfl, rfl⟩ := H
              have p281 : 0 ≤ ((ji7) : Int) := zD
              have q281 : (ji7) < (l0.length : Int) := zD
              obtain ⟨ad281, e281, hx281_0⟩ := Kd.at_int HR0.out (ji7) p281 q281
              cases e281
              replace p281 := eq_true p281
              replace q281 := eq_true q281
              go_wp2
              go_ret3
              exact ⟨by first | rfl | (simp; done) | (simp only [← hji7, ← hji10, ← hji12] <;> (first | rfl | simp)) | (simp [*]; done), by repeat (first | exact Drawn0.refl _ | apply Drawn0.step)⟩
             ·rw [if_neg c25] at H
              have c25b0 : decide ((wrap64 (Int.tdiv (Go.bits .or .i64 x7_1 (ji12)) 2)) < (-1099511627776)) = false := decide_eq_false c25
              clear c25
              by_cases c26 : (wrap64 (Int.tdiv (Go.bits .or .i64 x7_1 (ji12)) 2)) > 1099511627776
              ·rw [if_pos c26] at H
               have c26b0 : decide (1099511627776 < (wrap64 (Int.tdiv (Go.bits .or .i64 x7_1 (ji12)) 2))) = true := decide_eq_true c26
               clear c26
               simp only [Option.some.injEq, Prod.mk.injEq] at H
               obtain ⟨rfl, rfl, rfl⟩ := H
               have p281 : 0 ≤ ((ji7) : Int) := zD
               have q281 : (ji7) < (l0.length : Int) := zD
               obtain ⟨ad281, e281, hx281_0⟩ := Kd.at_int HR0.out (ji7) p281 q281
               cases e281
               replace p281 := eq_true p281
               replace q281 := eq_true q281
               go_wp2
               go_ret3
               exact ⟨by first | rfl | (simp; done) | (simp only [← hji7, ← hji10, ← hji12] <;> (first | rfl | simp)) | (simp [*]; done), by repeat (first | exact Drawn0.refl _ | apply Drawn0.step)⟩
              ·rw [if_neg c26] at H
               have c26b0 : decide (1099511627776 < (wrap64 (Int.tdiv (Go.bits .or .i64 x7_1 (ji12)) 2))) = false := decide_eq_false c26
               clear c26
               simp only [Option.some.injEq, Prod.mk.injEq] at H
               obtain ⟨rfl, rfl, rfl⟩ := H
               have p281 : 0 ≤ ((ji7) : Int) := zD
               have q281 : (ji7) < (l0.length : Int) := zD
               obtain ⟨ad281, e281, hx281_0⟩ := Kd.at_int HR0.out (ji7) p281 q281
               cases e281
               replace p281 := eq_true p281
               replace q281 := eq_true q281
               go_wp2
               go_ret3
               exact ⟨by first | rfl | (simp; done) | (simp only [← hji7, ← hji10, ← hji12] <;> (first | rfl | simp)) | (simp [*]; done), by repeat (first | exact Drawn0.refl _ | apply Drawn0.step)⟩
         ·rw [if_neg c11] at H
          exact absurd H (by simp)
        ·rw [if_neg c9] at H
         exact absurd H (by simp)
       ·rw [if_neg c8] at H
        exact absurd H (by simp)
      ·replace c6 := Bool.eq_false_iff.mpr c6
       subst c6
       replace H : (some (0, 0, false)) = some (r1, r2, r3) := by rw [if_neg (show ¬ (false = true) by decide)] at H; exact H
       simp only [Option.some.injEq, Prod.mk.injEq] at H
       obtain ⟨rfl, rfl, rfl⟩ := H
       go_wp2
       go_ret3
       exact ⟨zF, by repeat (first | exact Drawn0.refl _ | apply Drawn0.step)⟩

end Go.Proofs.Ytabicblkdgpogaa.QFnExactPutEvent
