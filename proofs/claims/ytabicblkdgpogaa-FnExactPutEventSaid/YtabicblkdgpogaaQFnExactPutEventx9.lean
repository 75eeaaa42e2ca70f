-- Made by this session's program (wip/tools/myprint.py) out of the translation; Lean checks it.
import Derived.Test.YtabicblkdgpogaaQFnExactPutEventx0
import Derived.Test.YtabicblkdgpogaaQFnExactPutEventx8
namespace Go.Proofs.Ytabicblkdgpogaa.QFnExactPutEvent
open Go.RowKit Go.Proofs.YtabicblkdgpogaaW.PrintWords Go.Proofs.YtabicblkdgpogaaW.PrintLast Go.Proofs.YtabicblkdgpogaaW.PrintMore
attribute [local go_sem] max2_int min2_int max_two min_two max_three min_three max_four min_four   -- for this text's walks alone
set_option linter.unusedVariables false
set_option linter.unusedSimpArgs false

/-! ### spec_EncodeFrame: function 110 -/
def spec_EncodeFrame.f (k : Nat) (a0_0 : Int) (a0_1 : Int) (l0_2 : List Int) : Option (List Int) := (spec_FrameOk.f a0_0 a0_1 l0_2).bind fun t232 => (if t232 = true then ((spec_l11Wide.f k a0_1 4).bind fun t236 => ((spec_l01Join.f k (([(a0_0) % 256] : List Int)) t236).bind fun t239 => ((spec_l11Wide.f k (l0_2.length : Int) 2).bind fun t242 => ((spec_l01Join.f k t239 t242).bind fun t245 => ((spec_l01Join.f k t245 l0_2).bind fun t248 => ((spec_l01Join.f k (([199, 77] : List Int)) t248).bind fun t254 => ((spec_CheckSum.f k t248).bind fun t257 => ((spec_l11Wide.f k t257 4).bind fun t258 => ((spec_l01Join.f k t254 t258).bind fun t261 => (some t261)))))))))) else (some ([] : List Int)))
theorem spec_EncodeFrame.mono : ∀ a0 a1 a2 k, LeO (spec_EncodeFrame.f k a0 a1 a2) (spec_EncodeFrame.f (k + 1) a0 a1 a2) := by
 intro a0 a1 a2 k
 unfold spec_EncodeFrame.f
 repeat' first
   | (with_reducible exact spec_CheckSum.mono _ _)
   | (with_reducible exact spec_l01Join.mono _ _ _)
   | (with_reducible exact spec_l11Wide.mono _ _ _)
   | (with_reducible exact LeO.refl _)
   | (with_reducible exact LeO.none _)
   | (with_reducible refine LeO.ite ?_ ?_)
   | (with_reducible refine LeO.bind ?_ (fun _ => ?_))
   | exact spec_CheckSum.mono _ _
   | exact spec_l01Join.mono _ _ _
   | exact spec_l11Wide.mono _ _ _
   | exact LeO.none _
   | refine LeO.ite ?_ ?_
   | refine LeO.bind ?_ (fun _ => ?_)
def spec_EncodeFrame.T3 : Bool × List (List Nat × List Nat) := (true, [([], []), ([0], [0]), ([1], [1]), ([2], [2]), ([], []), ([4], [4]), ([5], [5]), ([3, 6, 6], [3, 6]), ([7, 7, 0, 1, 2, 3, 4, 5, 6, 7], [7])])
def spec_EncodeFrame.B3 : List Nat := [0, 1, 3, 7, 0, 16, 48, 127, 255]
theorem spec_EncodeFrame.tab3 : rtab .any (opsOf Try.f110 3) = spec_EncodeFrame.T3 := by kernel_rfl
theorem spec_EncodeFrame.bits3 : waitsOk spec_EncodeFrame.T3.2 spec_EncodeFrame.B3 = true := by kernel_rfl
def spec_EncodeFrame.T4 : Bool × List (List Nat × List Nat) := (true, [([], []), ([], []), ([1], [1]), ([2], [2]), ([3], [3]), ([0, 4, 4], [0, 4]), ([], []), ([6], [6]), ([5, 7, 5], [5, 7]), ([8, 8, 0, 1, 2, 3, 4, 5, 6, 7, 8], [0, 8])])
def spec_EncodeFrame.B4 : List Nat := [0, 0, 2, 6, 14, 31, 0, 64, 255, 511]
theorem spec_EncodeFrame.tab4 : rtab .any (opsOf Try.f110 4) = spec_EncodeFrame.T4 := by kernel_rfl
theorem spec_EncodeFrame.bits4 : waitsOk spec_EncodeFrame.T4.2 spec_EncodeFrame.B4 = true := by kernel_rfl
set_option maxHeartbeats 8000000 in
set_option maxRecDepth 100000 in
theorem spec_EncodeFrame.calls (k : Nat) (a0_0 : Int) (a0_1 : Int) (A0_2 : Option Addr) (c0_2 : Nat) (l0_2 : List Int) (r : List Int) (w : World) (hr0_2 : Kd.C (Kd.int .u8) w A0_2 l0_2.length l0_2) (hc0_2 : l0_2.length ≤ c0_2) (h : spec_EncodeFrame.f k a0_0 a0_1 l0_2 = some r) :
  Calls Try.prog 110 #[.agg #[.int .i64 a0_0, .int .i64 a0_1, .slice A0_2 l0_2.length c0_2]] w fun e w' => ∃ v0_ : Value, e = .returned (v0_) ∧ Kd.R (Kd.int .u8) 5 w' w.heap.size (fun _ => True) v0_ r ∧ Below w.heap.size w w' := by
 have hu62 := Try.underlying62
 have HR0_2 := Aside0.mk hr0_2
 have HC0_2 := Aside0.mk hc0_2
 clear hr0_2 hc0_2
 have HB := Aside0.mk (Below.refl w.heap.size w)
 have H : ((spec_FrameOk.f a0_0 a0_1 l0_2).bind fun t232 => (if t232 = true then ((spec_l11Wide.f k a0_1 4).bind fun t236 => ((spec_l01Join.f k (([(a0_0) % 256] : List Int)) t236).bind fun t239 => ((spec_l11Wide.f k (l0_2.length : Int) 2).bind fun t242 => ((spec_l01Join.f k t239 t242).bind fun t245 => ((spec_l01Join.f k t245 l0_2).bind fun t248 => ((spec_l01Join.f k (([199, 77] : List Int)) t248).bind fun t254 => ((spec_CheckSum.f k t248).bind fun t257 => ((spec_l11Wide.f k t257 4).bind fun t258 => ((spec_l01Join.f k t254 t258).bind fun t261 => (some t261)))))))))) else (some ([] : List Int)))) = some r := h
 clear h
 replace H := Option.bind_eq_some_iff.mp H
 obtain ⟨t232, A20, H⟩ := H
 replace H : (if t232 = true then ((spec_l11Wide.f k a0_1 4).bind fun t236 => ((spec_l01Join.f k (([(a0_0) % 256] : List Int)) t236).bind fun t239 => ((spec_l11Wide.f k (l0_2.length : Int) 2).bind fun t242 => ((spec_l01Join.f k t239 t242).bind fun t245 => ((spec_l01Join.f k t245 l0_2).bind fun t248 => ((spec_l01Join.f k (([199, 77] : List Int)) t248).bind fun t254 => ((spec_CheckSum.f k t248).bind fun t257 => ((spec_l11Wide.f k t257 4).bind fun t258 => ((spec_l01Join.f k t254 t258).bind fun t261 => (some t261)))))))))) else (some ([] : List Int))) = some r := H
 have A2 := Aside0.mk A20
 clear A20
 by_cases c3 : t232 = true
 ·subst c3
  replace H : ((spec_l11Wide.f k a0_1 4).bind fun t236 => ((spec_l01Join.f k (([(a0_0) % 256] : List Int)) t236).bind fun t239 => ((spec_l11Wide.f k (l0_2.length : Int) 2).bind fun t242 => ((spec_l01Join.f k t239 t242).bind fun t245 => ((spec_l01Join.f k t245 l0_2).bind fun t248 => ((spec_l01Join.f k (([199, 77] : List Int)) t248).bind fun t254 => ((spec_CheckSum.f k t248).bind fun t257 => ((spec_l11Wide.f k t257 4).bind fun t258 => ((spec_l01Join.f k t254 t258).bind fun t261 => (some t261)))))))))) = some r := by rw [if_pos rfl] at H; exact H
  obtain ⟨y233, hy233⟩ : ∃ y_ : List Int, y_ = (([(a0_0) % 256] : List Int)) := ⟨_, rfl⟩
  replace H : ((spec_l11Wide.f k a0_1 4).bind fun t236 => ((spec_l01Join.f k y233 t236).bind fun t239 => ((spec_l11Wide.f k (l0_2.length : Int) 2).bind fun t242 => ((spec_l01Join.f k t239 t242).bind fun t245 => ((spec_l01Join.f k t245 l0_2).bind fun t248 => ((spec_l01Join.f k (([199, 77] : List Int)) t248).bind fun t254 => ((spec_CheckSum.f k t248).bind fun t257 => ((spec_l11Wide.f k t257 4).bind fun t258 => ((spec_l01Join.f k t254 t258).bind fun t261 => (some t261)))))))))) = some r := by first | (rw [hy233]; with_reducible exact H) | (have H2_ := (Option.bind_some _ _).symm.trans H; rw [hy233]; with_reducible exact H2_) | (have H2_ := (Option.bind_some _ _).symm.trans H; with_reducible exact H2_) | with_reducible exact H | (rw [hy233]; exact H) | exact H
  have Ny233 := Aside0.mk hy233
  clear hy233
  replace H := Option.bind_eq_some_iff.mp H
  obtain ⟨t236, A40, H⟩ := H
  replace H : ((spec_l01Join.f k y233 t236).bind fun t239 => ((spec_l11Wide.f k (l0_2.length : Int) 2).bind fun t242 => ((spec_l01Join.f k t239 t242).bind fun t245 => ((spec_l01Join.f k t245 l0_2).bind fun t248 => ((spec_l01Join.f k (([199, 77] : List Int)) t248).bind fun t254 => ((spec_CheckSum.f k t248).bind fun t257 => ((spec_l11Wide.f k t257 4).bind fun t258 => ((spec_l01Join.f k t254 t258).bind fun t261 => (some t261))))))))) = some r := H
  have A4 := Aside0.mk A40
  clear A40
  replace H := Option.bind_eq_some_iff.mp H
  obtain ⟨t239, A50, H⟩ := H
  replace H : ((spec_l11Wide.f k (l0_2.length : Int) 2).bind fun t242 => ((spec_l01Join.f k t239 t242).bind fun t245 => ((spec_l01Join.f k t245 l0_2).bind fun t248 => ((spec_l01Join.f k (([199, 77] : List Int)) t248).bind fun t254 => ((spec_CheckSum.f k t248).bind fun t257 => ((spec_l11Wide.f k t257 4).bind fun t258 => ((spec_l01Join.f k t254 t258).bind fun t261 => (some t261)))))))) = some r := H
  have A5 := Aside0.mk A50
  clear A50
  replace H := Option.bind_eq_some_iff.mp H
  obtain ⟨t242, A60, H⟩ := H
  replace H : ((spec_l01Join.f k t239 t242).bind fun t245 => ((spec_l01Join.f k t245 l0_2).bind fun t248 => ((spec_l01Join.f k (([199, 77] : List Int)) t248).bind fun t254 => ((spec_CheckSum.f k t248).bind fun t257 => ((spec_l11Wide.f k t257 4).bind fun t258 => ((spec_l01Join.f k t254 t258).bind fun t261 => (some t261))))))) = some r := H
  have A6 := Aside0.mk A60
  clear A60
  replace H := Option.bind_eq_some_iff.mp H
  obtain ⟨t245, A70, H⟩ := H
  replace H : ((spec_l01Join.f k t245 l0_2).bind fun t248 => ((spec_l01Join.f k (([199, 77] : List Int)) t248).bind fun t254 => ((spec_CheckSum.f k t248).bind fun t257 => ((spec_l11Wide.f k t257 4).bind fun t258 => ((spec_l01Join.f k t254 t258).bind fun t261 => (some t261)))))) = some r := H
  have A7 := Aside0.mk A70
  clear A70
  replace H := Option.bind_eq_some_iff.mp H
  obtain ⟨t248, A80, H⟩ := H
  replace H : ((spec_l01Join.f k (([199, 77] : List Int)) t248).bind fun t254 => ((spec_CheckSum.f k t248).bind fun t257 => ((spec_l11Wide.f k t257 4).bind fun t258 => ((spec_l01Join.f k t254 t258).bind fun t261 => (some t261))))) = some r := H
  have A8 := Aside0.mk A80
  clear A80
  obtain ⟨y251, hy251⟩ : ∃ y_ : List Int, y_ = (([199, 77] : List Int)) := ⟨_, rfl⟩
  replace H : ((spec_l01Join.f k y251 t248).bind fun t254 => ((spec_CheckSum.f k t248).bind fun t257 => ((spec_l11Wide.f k t257 4).bind fun t258 => ((spec_l01Join.f k t254 t258).bind fun t261 => (some t261))))) = some r := by first | (rw [hy251]; with_reducible exact H) | (have H2_ := (Option.bind_some _ _).symm.trans H; rw [hy251]; with_reducible exact H2_) | (have H2_ := (Option.bind_some _ _).symm.trans H; with_reducible exact H2_) | with_reducible exact H | (rw [hy251]; exact H) | exact H
  have Ny251 := Aside0.mk hy251
  clear hy251
  replace H := Option.bind_eq_some_iff.mp H
  obtain ⟨t254, A90, H⟩ := H
  replace H : ((spec_CheckSum.f k t248).bind fun t257 => ((spec_l11Wide.f k t257 4).bind fun t258 => ((spec_l01Join.f k t254 t258).bind fun t261 => (some t261)))) = some r := H
  have A9 := Aside0.mk A90
  clear A90
  replace H := Option.bind_eq_some_iff.mp H
  obtain ⟨t257, A100, H⟩ := H
  replace H : ((spec_l11Wide.f k t257 4).bind fun t258 => ((spec_l01Join.f k t254 t258).bind fun t261 => (some t261))) = some r := H
  have A10 := Aside0.mk A100
  clear A100
  replace H := Option.bind_eq_some_iff.mp H
  obtain ⟨t258, A110, H⟩ := H
  replace H : ((spec_l01Join.f k t254 t258).bind fun t261 => (some t261)) = some r := H
  have A11 := Aside0.mk A110
  clear A110
  replace H := Option.bind_eq_some_iff.mp H
  obtain ⟨t261, A120, H⟩ := H
  replace H : (some t261) = some r := H
  have A12 := Aside0.mk A120
  clear A120
  obtain rfl := Option.some.inj H
  go_enter Try.func110, Try.ntmps110
  try go_wp2_with (first | ((with_reducible refine gate_dst (N := 1) rfl ?_); refine box_event ?hg (N := 1) ?hd (cs := #[.int .i64 a0_0, .int .i64 a0_1, .slice A0_2 l0_2.length c0_2]) (t := 62) ?hr ?_; (case hd => rfl); (case hg => rfl); (case hr => first | (go_simp; done) | (go_simp; rfl)); intro gb231 hg w13 hbox hb; have n0_ := Aside0.mk (below_step zH hb); have n1_ := Aside0.mk (hbox); have n2_ := Aside0.mk ((by rw [hg]; exact (below_size zH) : w.heap.size ≤ gb231)); have n3_ := Aside0.mk ((by rw [hg]; exact (below_size zH) : w.heap.size ≤ gb231)); clear HB; have HB := n0_; have BK231 := n1_; have GW231 := n2_; have GE231 := n3_; clear n0_ n1_ n2_ n3_; clear hb hbox hg; obtain ⟨hcz14_0, hcz14_1, hcz14_2⟩ := zc3 BK231.out; obtain ⟨hfz14_0, hfz14_1, hfz14_2, _, _⟩ := zf BK231.out) | ((with_reducible refine gate_callee (f := 104) rfl ?_); refine goesL_ (some 5) rfl rfl Try.func104 (by kernel_rfl) rfl #[.agg #[.int .i64 a0_0, .int .i64 a0_1, .slice A0_2 l0_2.length c0_2]] rfl zM ?_; (with_reducible refine (spec_FrameOk.calls a0_0 a0_1 _ _ l0_2 true _ ?side1 ?side2 A2.out).mono ?_); (case side1 => exact zC (Kd.C_below HR0_2.out HB.out)); (case side2 => exact HC0_2.out); rintro e w15 ⟨rfl, hb⟩; refine ⟨_, rfl, ?_⟩; have n0_ := Aside0.mk (blk_below (g := gb231) (o := .cells #[.int .i64 a0_0, .int .i64 a0_1, .slice A0_2 l0_2.length c0_2] 62 (0, 0)) (zB BK231.out) hb); have n1_ := Aside0.mk (below_step zH hb); clear BK231; clear HB; have BK231 := n0_; have HB := n1_; clear n0_ n1_; (try clear hb); (try clear hb2); (try clear hk); (try clear hi)))
  have n0_ := Aside0.mk (blk_drew BK231.out)
  have n1_ := Aside0.mk (below_drew1 HB.out)
  clear BK231
  clear HB
  have BK231 := n0_
  have HB := n1_
  clear n0_ n1_
  refine start_ (n := 9) (S := fun w' => True) (ds := []) #[false, false, false, false, false, false, false, false, false] (by kernel_rfl) rfl rfl trivial (fun hHeld => ?_); refine with_tabW spec_EncodeFrame.tab3 spec_EncodeFrame.bits3 (fun HT_ HW_ => ?_)
  generalize w15.drew = w16 at BK231 HB hHeld ⊢
  refine pure_ (i := 0) (N := some 7) (v := ?_) (a' := ?_) #[true, false, false, false, false, false, false, false, false] rfl rfl (any_of HT_.out (by kernel_rfl)) (fun _ _ _ h => h) (Or.inl ⟨by rfl, ?_⟩) ?_ ?_
  rotate_left;(focus intro w';go_simp;with_reducible rfl);rotate_left;(focus simp only [Act.put, List.setIfInBounds_toArray, List.set_cons_zero, List.set_cons_succ, i64_w, i32_w];rfl)
  refine pure_ (i := 4) (N := some 11) (v := ?_) (a' := ?_) #[true, false, false, false, true, false, false, false, false] rfl rfl (any_of HT_.out (by kernel_rfl)) (fun _ _ _ h => h) (Or.inl ⟨by rfl, ?_⟩) ?_ ?_
  rotate_left;(focus intro w';go_simp;with_reducible rfl);rotate_left;(focus simp only [Act.put, List.setIfInBounds_toArray, List.set_cons_zero, List.set_cons_succ, i64_w, i32_w];rfl)
  refine inv_at [1, 2, 3, 5, 6, 7, 8] (fun a0_ b a w' => ∃ (v234 : Value) (v237 : Value) (v240 : Value) (m8_ : Value), a = putSel a0_ b [(1, 8, .int .i64 a0_0), (2, 9, .int .u8 ((a0_0) % 256)), (3, 10, v234), (5, 12, .int .i64 a0_1), (6, 13, v237), (7, 14, v240), (8, 3, m8_)] ∧ (w'.heap[gb231]? = some (.cells #[.int .i64 a0_0, .int .i64 a0_1, .slice A0_2 l0_2.length c0_2] 62 (0, 0))) ∧ (Below w.heap.size w w') ∧ (b 3 = true → Kd.R (Kd.int .u8) 5 w' w.heap.size (fun _ => True) v234 y233) ∧ (b 6 = true → Kd.R (Kd.int .u8) 5 w' w.heap.size (fun _ => True) v237 t236) ∧ (b 7 = true → Kd.R (Kd.int .u8) 5 w' w.heap.size (fun _ => True) v240 t239) ∧ (b 8 = true → (m8_ : Value) = v240)) HT_.out HW_.out (by kernel_rfl) (by kernel_rfl) ?_ ?_ ?_
  ·exact ⟨.bool false, .bool false, .bool false, .bool false, by simp only [putSel, Bool.false_eq_true, if_false], BK231.out, HB.out, fun h_ => absurd h_ (by decide), fun h_ => absurd h_ (by decide), fun h_ => absurd h_ (by decide), fun h_ => absurd h_ (by decide)⟩
  ·skip
   clear BK231 HB
   refine steps_cons ?_ ?_
   ·rintro b a w' ⟨v234, v237, v240, m8_, ha, Q_BK231, Q_HB, Q_HO235, Q_HO238, Q_HO241, Q_X8_⟩ hb_ hon hoff
    refine ⟨_, rfl, fun K hK => ?_⟩
    have e7 : a.tmps[7]? = some (.pointer (some ⟨gb231, 0, none⟩)) := by rw [ha]; exact (putSel_off rfl).trans rfl
    replace ha := Aside0.mk ha
    have BK231 := Aside0.mk Q_BK231
    have HB := Aside0.mk Q_HB
    have hc0_ : w'.cell? ⟨gb231, 0, none⟩ = some (.int .i64 a0_0) := (blk_cell BK231.out 0).trans rfl
    have hc1_ : w'.cell? ⟨gb231, 1, none⟩ = some (.int .i64 a0_1) := (blk_cell BK231.out 1).trans rfl
    have hc2_ : w'.cell? ⟨gb231, 2, none⟩ = some (.slice A0_2 l0_2.length c0_2) := (blk_cell BK231.out 2).trans rfl
    refine value_ (w1 := w') (v := .int .i64 a0_0) (by rfl) rfl ?_ ?_
    ·go_simp
     (try simp only [i64_w])
     try rfl
    refine hK.out _ _ ⟨v234, v237, v240, m8_, (by rw [ha.out]; exact putSel_upk 0 hb_ rfl rfl rfl), Q_BK231, Q_HB, fun h0_ => absurd ((hoff 3 (by kernel_rfl)).symm.trans h0_) (by decide), Q_HO238, fun h0_ => absurd ((hoff 7 (by kernel_rfl)).symm.trans h0_) (by decide), fun h0_ => absurd ((hoff 8 (by kernel_rfl)).symm.trans h0_) (by decide)⟩
   refine steps_cons ?_ ?_
   ·rintro b a w' ⟨v234, v237, v240, m8_, ha, Q_BK231, Q_HB, Q_HO235, Q_HO238, Q_HO241, Q_X8_⟩ hb_ hon hoff
    refine ⟨_, rfl, fun K hK => ?_⟩
    have e8 : a.tmps[8]? = some (.int .i64 a0_0) := by rw [ha]; exact putSel_on (e := (1, 8, .int .i64 a0_0)) 0 rfl rfl (hon 1 (by kernel_rfl)) rfl
    replace ha := Aside0.mk ha
    have BK231 := Aside0.mk Q_BK231
    have HB := Aside0.mk Q_HB
    refine value_ (w1 := w') (v := .int .u8 ((a0_0) % 256)) (by rfl) rfl ?_ ?_
    ·go_simp
     (try simp only [i64_w])
     try rfl
    refine hK.out _ _ ⟨v234, v237, v240, m8_, (by rw [ha.out]; exact putSel_upk 1 hb_ rfl rfl rfl), Q_BK231, Q_HB, fun h0_ => absurd ((hoff 3 (by kernel_rfl)).symm.trans h0_) (by decide), Q_HO238, fun h0_ => absurd ((hoff 7 (by kernel_rfl)).symm.trans h0_) (by decide), fun h0_ => absurd ((hoff 8 (by kernel_rfl)).symm.trans h0_) (by decide)⟩
   refine steps_cons ?_ ?_
   ·rintro b a w' ⟨v234, v237, v240, m8_, ha, Q_BK231, Q_HB, Q_HO235, Q_HO238, Q_HO241, Q_X8_⟩ hb_ hon hoff
    refine ⟨_, rfl, fun K hK => ?_⟩
    have e9 : a.tmps[9]? = some (.int .u8 ((a0_0) % 256)) := by rw [ha]; exact putSel_on (e := (2, 9, .int .u8 ((a0_0) % 256))) 1 rfl rfl (hon 2 (by kernel_rfl)) rfl
    replace ha := Aside0.mk ha
    have BK231 := Aside0.mk Q_BK231
    have HB := Aside0.mk Q_HB
    refine Kd.R_lit_step (Kd.int .u8) _ 5 ?hg (N := 10) ?hd (xs := ([(a0_0) % 256] : List Int)) (inner := [.int .u8 ((a0_0) % 256)]) (ok := fun _ => True) (okp := fun _ => True) ?hr ?hp (fun _ hk => hk) trivial (Below.refl _ _) (Nat.le_refl _) (by simp) ?_; (case hd => rfl); (case hg => rfl); (case hr => first | (go_simp; done) | (go_simp; rfl)); (case hp => exact (Reps.one (show Kd.M (Kd.int .u8) _ _ _ ((a0_0) % 256) [.int .u8 ((a0_0) % 256)] from rfl) (Reps.none _ _)))
    intro v234 w17 ho18 hb hg_ hnew_
    clear hg_ hnew_
    (first | rw [← Ny233.out] at ho18 | (simp only [Int.reduceToNat] at ho18; rw [← Ny233.out] at ho18))
    have n0_ := Aside0.mk (Kd.R_lower ho18 (below_size zH))
    have n1_ := Aside0.mk (blk_below (g := gb231) (o := .cells #[.int .i64 a0_0, .int .i64 a0_1, .slice A0_2 l0_2.length c0_2] 62 (0, 0)) (zB BK231.out) hb)
    have n2_ := Aside0.mk (below_step zH hb)
    have z_HO238 := fun (h0_ : b 6 = true) => (show Kd.R (Kd.int .u8) 5 w17 w.heap.size (fun _ => True) v237 t236 from by first | exact (Kd.R_elder' (by (with_reducible repeat (first | apply Kd.R_alloc | apply Kd.R_drewN | apply Kd.R_drew)); exact (Q_HO238 h0_)) (Kd.R_base ho18) hb) | exact Kd.R_mono (Kd.R_elder' (by (with_reducible repeat (first | apply Kd.R_alloc | apply Kd.R_drewN | apply Kd.R_drew)); exact (Q_HO238 h0_)) (Kd.R_base ho18) hb) (fun _ h_ => by first | trivial | exact h_ | exact h_.1))
    clear BK231
    clear HB
    have HO235 := n0_
    have BK231 := n1_
    have HB := n2_
    clear n0_ n1_ n2_
    clear hb ho18
    refine hK.out _ _ ⟨v234, v237, v240, m8_, (by rw [ha.out]; exact putSel_upk 2 hb_ rfl rfl rfl), (zB BK231.out), zH, fun _ => (by (with_reducible repeat (first | apply Kd.R_alloc | apply Kd.R_drewN | apply Kd.R_drew)); first | exact HO235.out | exact Kd.R_mono HO235.out (fun _ _ => trivial)), z_HO238, fun h0_ => absurd ((hoff 7 (by kernel_rfl)).symm.trans h0_) (by decide), fun h0_ => absurd ((hoff 8 (by kernel_rfl)).symm.trans h0_) (by decide)⟩
   refine steps_cons ?_ ?_
   ·rintro b a w' ⟨v234, v237, v240, m8_, ha, Q_BK231, Q_HB, Q_HO235, Q_HO238, Q_HO241, Q_X8_⟩ hb_ hon hoff
    refine ⟨_, rfl, fun K hK => ?_⟩
    have e11 : a.tmps[11]? = some (.pointer (some ⟨gb231, 1, none⟩)) := by rw [ha]; exact (putSel_off rfl).trans rfl
    replace ha := Aside0.mk ha
    have BK231 := Aside0.mk Q_BK231
    have HB := Aside0.mk Q_HB
    have hc0_ : w'.cell? ⟨gb231, 0, none⟩ = some (.int .i64 a0_0) := (blk_cell BK231.out 0).trans rfl
    have hc1_ : w'.cell? ⟨gb231, 1, none⟩ = some (.int .i64 a0_1) := (blk_cell BK231.out 1).trans rfl
    have hc2_ : w'.cell? ⟨gb231, 2, none⟩ = some (.slice A0_2 l0_2.length c0_2) := (blk_cell BK231.out 2).trans rfl
    refine value_ (w1 := w') (v := .int .i64 a0_1) (by rfl) rfl ?_ ?_
    ·go_simp
     (try simp only [i64_w])
     try rfl
    refine hK.out _ _ ⟨v234, v237, v240, m8_, (by rw [ha.out]; exact putSel_upk 3 hb_ rfl rfl rfl), Q_BK231, Q_HB, Q_HO235, fun h0_ => absurd ((hoff 6 (by kernel_rfl)).symm.trans h0_) (by decide), fun h0_ => absurd ((hoff 7 (by kernel_rfl)).symm.trans h0_) (by decide), fun h0_ => absurd ((hoff 8 (by kernel_rfl)).symm.trans h0_) (by decide)⟩
   refine steps_cons ?_ ?_
   ·rintro b a w' ⟨v234, v237, v240, m8_, ha, Q_BK231, Q_HB, Q_HO235, Q_HO238, Q_HO241, Q_X8_⟩ hb_ hon hoff
    refine ⟨_, rfl, fun K hK => ?_⟩
    have e12 : a.tmps[12]? = some (.int .i64 a0_1) := by rw [ha]; exact putSel_on (e := (5, 12, .int .i64 a0_1)) 3 rfl rfl (hon 5 (by kernel_rfl)) rfl
    replace ha := Aside0.mk ha
    have BK231 := Aside0.mk Q_BK231
    have HB := Aside0.mk Q_HB
    refine goes_ Try.func150 (by kernel_rfl) rfl #[.int .i64 a0_1, .int .i64 4] (by rfl) rfl rfl (by first | (simp only [List.map_toArray, List.map_cons, List.map_nil, Act.eval, Array.getD_eq_getD_getElem?, Option.getD_some, e12]; done) | (simp only [List.map_toArray, List.map_cons, List.map_nil, Act.eval, Array.getD_eq_getD_getElem?, Option.getD_some, e12]; rfl)) ?_
    with_reducible refine (spec_l11Wide.calls k a0_1 4 t236 _ A4.out).mono ?_
    rintro e w17 ⟨v237, rfl, ho0, hb⟩
    refine ⟨_, rfl, ?_⟩
    have n0_ := Aside0.mk (Kd.R_lower ho0 (below_size zH))
    have n1_ := Aside0.mk (blk_below (g := gb231) (o := .cells #[.int .i64 a0_0, .int .i64 a0_1, .slice A0_2 l0_2.length c0_2] 62 (0, 0)) (zB BK231.out) hb)
    have n2_ := Aside0.mk (below_step zH hb)
    have z_HO235 := fun (h0_ : b 3 = true) => (show Kd.R (Kd.int .u8) 5 w17 w.heap.size (fun _ => True) v234 y233 from by first | exact (Kd.R_elder' (by (with_reducible repeat (first | apply Kd.R_alloc | apply Kd.R_drewN | apply Kd.R_drew)); exact (Q_HO235 h0_)) (Kd.R_base ho0) hb) | exact Kd.R_mono (Kd.R_elder' (by (with_reducible repeat (first | apply Kd.R_alloc | apply Kd.R_drewN | apply Kd.R_drew)); exact (Q_HO235 h0_)) (Kd.R_base ho0) hb) (fun _ h_ => by first | trivial | exact h_ | exact h_.1))
    clear BK231
    clear HB
    have HO238 := n0_
    have BK231 := n1_
    have HB := n2_
    clear n0_ n1_ n2_
    (try clear hb)
    (try clear hb2)
    (try clear hk)
    (try clear hi)
    (try clear ho0)
    refine hK.out _ _ ⟨v234, v237, v240, m8_, (by rw [ha.out]; exact putSel_upk 4 hb_ rfl rfl rfl), (zB BK231.out), zH, z_HO235, fun _ => (by (with_reducible repeat (first | apply Kd.R_alloc | apply Kd.R_drewN | apply Kd.R_drew)); first | exact HO238.out | exact Kd.R_mono HO238.out (fun _ _ => trivial)), fun h0_ => absurd ((hoff 7 (by kernel_rfl)).symm.trans h0_) (by decide), fun h0_ => absurd ((hoff 8 (by kernel_rfl)).symm.trans h0_) (by decide)⟩
   refine steps_cons ?_ ?_
   ·rintro b a w' ⟨v234, v237, v240, m8_, ha, Q_BK231, Q_HB, Q_HO235, Q_HO238, Q_HO241, Q_X8_⟩ hb_ hon hoff
    refine ⟨_, rfl, fun K hK => ?_⟩
    have e10 : a.tmps[10]? = some (v234) := by rw [ha]; exact putSel_on (e := (3, 10, v234)) 2 rfl rfl (hon 3 (by kernel_rfl)) rfl
    have e13 : a.tmps[13]? = some (v237) := by rw [ha]; exact putSel_on (e := (6, 13, v237)) 4 rfl rfl (hon 6 (by kernel_rfl)) rfl
    replace ha := Aside0.mk ha
    have BK231 := Aside0.mk Q_BK231
    have HB := Aside0.mk Q_HB
    have HO235 := Aside0.mk (Q_HO235 (hon 3 (by kernel_rfl)))
    have HO238 := Aside0.mk (Q_HO238 (hon 6 (by kernel_rfl)))
    obtain ⟨Ao21, co21, eo21⟩ := Kd.R_slice HO235.out
    (first | subst eo21 | (injection eo21 with f1_ f2_ f3_; have f4_ := f1_.symm; have f5_ := f3_.symm; clear f1_ f2_ f3_; subst f4_; subst f5_))
    obtain ⟨Ao22, co22, eo22⟩ := Kd.R_slice HO238.out
    (first | subst eo22 | (injection eo22 with f1_ f2_ f3_; have f4_ := f1_.symm; have f5_ := f3_.symm; clear f1_ f2_ f3_; subst f4_; subst f5_))
    refine goes_ Try.func108 (by kernel_rfl) rfl #[.slice Ao21 y233.length co21, .slice Ao22 t236.length co22] (by rfl) rfl rfl (by first | (simp only [List.map_toArray, List.map_cons, List.map_nil, Act.eval, Array.getD_eq_getD_getElem?, Option.getD_some, e10, e13]; done) | (simp only [List.map_toArray, List.map_cons, List.map_nil, Act.eval, Array.getD_eq_getD_getElem?, Option.getD_some, e10, e13]; rfl)) ?_
    with_reducible refine (spec_l01Join.calls k _ _ y233 _ _ t236 t239 _ ?side1 ?side2 ?side3 ?side4 A5.out).mono ?_
    (case side1 => exact zC ((Kd.R_reads' HO235.out).2.2))
    (case side2 => exact (Kd.R_reads' HO235.out).2.1)
    (case side3 => exact zC ((Kd.R_reads' HO238.out).2.2))
    (case side4 => exact (Kd.R_reads' HO238.out).2.1)
    rintro e w23 ⟨v240, rfl, ho0, hb⟩
    refine ⟨_, rfl, ?_⟩
    have n0_ := Aside0.mk (Kd.R_elder' (zR HO235.out) (Kd.R_base ho0) hb)
    have n1_ := Aside0.mk (Kd.R_elder' (zR HO238.out) (Kd.R_base ho0) hb)
    have n2_ := Aside0.mk (Kd.R_lower (Kd.R_new' (Kd.R_new' ho0 (Kd.R_lt (zR HO235.out))) (Kd.R_lt (zR HO238.out))) (below_size zH))
    have n3_ := Aside0.mk (blk_below (g := gb231) (o := .cells #[.int .i64 a0_0, .int .i64 a0_1, .slice A0_2 l0_2.length c0_2] 62 (0, 0)) (zB BK231.out) hb)
    have n4_ := Aside0.mk (below_step zH hb)
    clear HO235
    clear HO238
    clear BK231
    clear HB
    have HO235 := n0_
    have HO238 := n1_
    have HO241 := n2_
    have BK231 := n3_
    have HB := n4_
    clear n0_ n1_ n2_ n3_ n4_
    (try clear hb)
    (try clear hb2)
    (try clear hk)
    (try clear hi)
    (try clear ho0)
    refine hK.out _ _ ⟨.slice Ao21 y233.length co21, .slice Ao22 t236.length co22, v240, m8_, (by rw [ha.out]; exact putSel_upk 5 hb_ rfl rfl rfl), (zB BK231.out), zH, fun _ => (by (with_reducible repeat (first | apply Kd.R_alloc | apply Kd.R_drewN | apply Kd.R_drew)); first | exact HO235.out | exact Kd.R_mono HO235.out (fun _ _ => trivial)), fun _ => (by (with_reducible repeat (first | apply Kd.R_alloc | apply Kd.R_drewN | apply Kd.R_drew)); first | exact HO238.out | exact Kd.R_mono HO238.out (fun _ _ => trivial)), fun _ => (by (with_reducible repeat (first | apply Kd.R_alloc | apply Kd.R_drewN | apply Kd.R_drew)); first | exact Kd.R_mono HO241.out (fun _ hk => ⟨hk.1.2, hk.2⟩) | exact Kd.R_mono HO241.out (fun _ _ => trivial)), fun h0_ => absurd ((hoff 8 (by kernel_rfl)).symm.trans h0_) (by decide)⟩
   refine steps_cons ?_ ?_
   ·rintro b a w' ⟨v234, v237, v240, m8_, ha, Q_BK231, Q_HB, Q_HO235, Q_HO238, Q_HO241, Q_X8_⟩ hb_ hon hoff
    refine ⟨_, rfl, fun K hK => ?_⟩
    have e14 : a.tmps[14]? = some (v240) := by rw [ha]; exact putSel_on (e := (7, 14, v240)) 5 rfl rfl (hon 7 (by kernel_rfl)) rfl
    replace ha := Aside0.mk ha
    have BK231 := Aside0.mk Q_BK231
    have HB := Aside0.mk Q_HB
    have HO235 := Aside0.mk (Q_HO235 (hon 3 (by kernel_rfl)))
    have HO238 := Aside0.mk (Q_HO238 (hon 6 (by kernel_rfl)))
    have HO241 := Aside0.mk (Q_HO241 (hon 7 (by kernel_rfl)))
    refine value_ (w1 := w') (v := v240) (by rfl) rfl ?_ ?_
    ·go_simp
     (try simp only [i64_w])
     try rfl
    refine hK.out _ _ ⟨v234, v237, v240, (v240), (by rw [ha.out]; exact putSel_upk 6 hb_ rfl rfl rfl), Q_BK231, Q_HB, Q_HO235, Q_HO238, Q_HO241, fun _ => rfl⟩
   exact steps_nil
  rintro b a w23 hall ⟨v234, v237, v240, m8_, ha, Q_BK231, Q_HB, Q_HO235, Q_HO238, Q_HO241, Q_X8_⟩
  clear BK231 HB
  have hb1_ := hall 1 (by kernel_rfl)
  have hb2_ := hall 2 (by kernel_rfl)
  have hb3_ := hall 3 (by kernel_rfl)
  have hb5_ := hall 5 (by kernel_rfl)
  have hb6_ := hall 6 (by kernel_rfl)
  have hb7_ := hall 7 (by kernel_rfl)
  have hb8_ := hall 8 (by kernel_rfl)
  subst ha
  obtain rfl := Q_X8_ hb8_
  simp only [putSel, hb1_, hb2_, hb3_, hb5_, hb6_, hb7_, hb8_, if_true, Act.put, List.setIfInBounds_toArray, List.set_cons_zero, List.set_cons_succ]
  have BK231 := Aside0.mk Q_BK231
  clear Q_BK231
  have HB := Aside0.mk Q_HB
  clear Q_HB
  have HO235 := Aside0.mk (Q_HO235 hb3_)
  clear Q_HO235
  have HO238 := Aside0.mk (Q_HO238 hb6_)
  clear Q_HO238
  have HO241 := Aside0.mk (Q_HO241 hb7_)
  clear Q_HO241
  clear hall hb1_ hb2_ hb3_ hb5_ hb6_ hb7_ hb8_
  try go_wp2
  have n0_ := Aside0.mk (Kd.R_drew HO235.out)
  have n1_ := Aside0.mk (Kd.R_drew HO238.out)
  have n2_ := Aside0.mk (Kd.R_drew HO241.out)
  have n3_ := Aside0.mk (blk_drew BK231.out)
  have n4_ := Aside0.mk (below_drew1 HB.out)
  clear HO235
  clear HO238
  clear HO241
  clear BK231
  clear HB
  have HO235 := n0_
  have HO238 := n1_
  have HO241 := n2_
  have BK231 := n3_
  have HB := n4_
  clear n0_ n1_ n2_ n3_ n4_
  refine start_ (n := 10) (S := fun w' => w'.cell? ⟨gb231, 0, none⟩ = some (.int .i64 a0_0) ∧ w'.cell? ⟨gb231, 1, none⟩ = some (.int .i64 a0_1) ∧ w'.cell? ⟨gb231, 2, none⟩ = some (.slice A0_2 l0_2.length c0_2)) (ds := []) #[false, false, false, false, false, false, false, false, false, false] (by kernel_rfl) rfl rfl ⟨(blk_cell BK231.out 0).trans rfl, (blk_cell BK231.out 1).trans rfl, (blk_cell BK231.out 2).trans rfl⟩ (fun hHeld => ?_); refine with_tabW spec_EncodeFrame.tab4 spec_EncodeFrame.bits4 (fun HT_ HW_ => ?_)
  generalize w23.drew = w24 at HO235 HO238 HO241 BK231 HB hHeld ⊢
  refine pure_ (i := 0) (N := some 15) (v := ?_) (a' := ?_) #[true, false, false, false, false, false, false, false, false, false] rfl rfl (any_of HT_.out (by kernel_rfl)) (fun _ _ _ h => h) (Or.inl ⟨by rfl, ?_⟩) ?_ ?_
  rotate_left;(focus intro w';go_simp;with_reducible rfl);rotate_left;(focus simp only [Act.put, List.setIfInBounds_toArray, List.set_cons_zero, List.set_cons_succ, i64_w, i32_w];rfl)
  refine pure_ (i := 1) (N := some 16) (v := ?_) (a' := ?_) #[true, true, false, false, false, false, false, false, false, false] rfl rfl (any_of HT_.out (by kernel_rfl)) (fun _ _ _ h => h) (Or.inl ⟨by rfl, ?_⟩) ?_ ?_
  rotate_left;(focus intro w';go_simp;with_reducible rfl);rotate_left;(focus simp only [Act.put, List.setIfInBounds_toArray, List.set_cons_zero, List.set_cons_succ, i64_w, i32_w];rfl)
  refine pure_ (i := 6) (N := some 21) (v := ?_) (a' := ?_) #[true, true, false, false, false, false, true, false, false, false] rfl rfl (any_of HT_.out (by kernel_rfl)) (fun _ _ _ h => h) (Or.inl ⟨by rfl, ?_⟩) ?_ ?_
  rotate_left;(focus intro w';go_simp;with_reducible rfl);rotate_left;(focus simp only [Act.put, List.setIfInBounds_toArray, List.set_cons_zero, List.set_cons_succ, i64_w, i32_w];rfl)
  refine take_ (i := 2) (N := some 17) (v := ?_) (a' := ?_) #[true, true, true, false, false, false, true, false, false, false] rfl rfl (take_ofW HT_.out HW_.out (by kernel_rfl)) (fun _ _ _ h => h) (Or.inl ⟨by rfl, ?_⟩) hHeld ?_ ?_
  rotate_left
  ·rintro w' ⟨s0, s1, s2⟩
   go_simp
   with_reducible rfl
  rotate_left
  ·simp only [Act.put, List.setIfInBounds_toArray, List.set_cons_zero, List.set_cons_succ, i64_w, i32_w]
   rfl
  refine pure_ (i := 3) (N := some 18) (v := ?_) (a' := ?_) #[true, true, true, true, false, false, true, false, false, false] rfl rfl (any_of HT_.out (by kernel_rfl)) (fun _ _ _ h => h) (Or.inl ⟨by rfl, ?_⟩) ?_ ?_
  rotate_left;(focus intro w';go_simp;with_reducible rfl);rotate_left;(focus simp only [Act.put, List.setIfInBounds_toArray, List.set_cons_zero, List.set_cons_succ, i64_w, i32_w];rfl)
  refine take_ (i := 7) (N := some 22) (v := ?_) (a' := ?_) #[true, true, true, true, false, false, true, true, false, false] rfl rfl (take_ofW HT_.out HW_.out (by kernel_rfl)) (fun _ _ _ h => h) (Or.inl ⟨by rfl, ?_⟩) hHeld ?_ ?_
  rotate_left
  ·rintro w' ⟨s0, s1, s2⟩
   go_simp
   with_reducible rfl
  rotate_left
  ·simp only [Act.put, List.setIfInBounds_toArray, List.set_cons_zero, List.set_cons_succ, i64_w, i32_w]
   rfl
  refine one_ (i := 4) (N := some 19) #[true, true, true, true, true, false, true, true, false, false] rfl rfl (one_of HT_.out (by kernel_rfl)) (by decide) (fun K hK => ?_)
  refine goes_ Try.func150 (by kernel_rfl) rfl #[.int .i64 (l0_2.length : Int), .int .i64 2] (by rfl) rfl rfl zM ?_
  with_reducible refine (spec_l11Wide.calls k (l0_2.length : Int) 2 t242 _ A6.out).mono ?_
  rintro e w25 ⟨v243, rfl, ho0, hb⟩
  refine ⟨_, rfl, ?_⟩
  have n0_ := Aside0.mk (Kd.R_elder' (zR HO235.out) (Kd.R_base ho0) hb)
  have n1_ := Aside0.mk (Kd.R_elder' (zR HO238.out) (Kd.R_base ho0) hb)
  have n2_ := Aside0.mk (Kd.R_elder' (zR HO241.out) (Kd.R_base ho0) hb)
  have n3_ := Aside0.mk (Kd.R_lower (Kd.R_new' (Kd.R_new' (Kd.R_new' ho0 (Kd.R_lt (zR HO235.out))) (Kd.R_lt (zR HO238.out))) (Kd.R_lt (zR HO241.out))) (below_size zH))
  have n4_ := Aside0.mk (blk_below (g := gb231) (o := .cells #[.int .i64 a0_0, .int .i64 a0_1, .slice A0_2 l0_2.length c0_2] 62 (0, 0)) (zB BK231.out) hb)
  have n5_ := Aside0.mk (below_step zH hb)
  clear HO235
  clear HO238
  clear HO241
  clear BK231
  clear HB
  have HO235 := n0_
  have HO238 := n1_
  have HO241 := n2_
  have HO244 := n3_
  have BK231 := n4_
  have HB := n5_
  clear n0_ n1_ n2_ n3_ n4_ n5_
  (try clear hb)
  (try clear hb2)
  (try clear hk)
  (try clear hi)
  (try clear ho0)
  obtain ⟨Ao26, co26, eo26⟩ := Kd.R_slice HO241.out
  (first | subst eo26 | (injection eo26 with f1_ f2_ f3_; have f4_ := f1_.symm; have f5_ := f3_.symm; clear f1_ f2_ f3_; subst f4_; subst f5_))
  obtain ⟨Ao27, co27, eo27⟩ := Kd.R_slice HO244.out
  (first | subst eo27 | (injection eo27 with f1_ f2_ f3_; have f4_ := f1_.symm; have f5_ := f3_.symm; clear f1_ f2_ f3_; subst f4_; subst f5_))
  refine hK.out _ _ ⟨(blk_cell BK231.out 0).trans rfl, (blk_cell BK231.out 1).trans rfl, (blk_cell BK231.out 2).trans rfl⟩ (fun hHeld => ?_)
  clear hK K
  refine norm_ (a' := ?_) ?_ ?_
  rotate_left
  ·show Act.put _ (some 19) _ = _
   simp only [Act.put, List.setIfInBounds_toArray, List.set_cons_zero, List.set_cons_succ, i64_w, i32_w]
   rfl
  refine one_ (i := 5) (N := some 20) #[true, true, true, true, true, true, true, true, false, false] rfl rfl (one_of HT_.out (by kernel_rfl)) (by decide) (fun K hK => ?_)
  refine goes_ Try.func108 (by kernel_rfl) rfl #[.slice Ao26 t239.length co26, .slice Ao27 t242.length co27] (by rfl) rfl rfl zM ?_
  with_reducible refine (spec_l01Join.calls k _ _ t239 _ _ t242 t245 _ ?side1 ?side2 ?side3 ?side4 A7.out).mono ?_
  (case side1 => exact zC ((Kd.R_reads' HO241.out).2.2))
  (case side2 => exact (Kd.R_reads' HO241.out).2.1)
  (case side3 => exact zC ((Kd.R_reads' HO244.out).2.2))
  (case side4 => exact (Kd.R_reads' HO244.out).2.1)
  rintro e w28 ⟨v246, rfl, ho0, hb⟩
  refine ⟨_, rfl, ?_⟩
  have n0_ := Aside0.mk (Kd.R_elder' (zR HO235.out) (Kd.R_base ho0) hb)
  have n1_ := Aside0.mk (Kd.R_elder' (zR HO238.out) (Kd.R_base ho0) hb)
  have n2_ := Aside0.mk (Kd.R_elder' (zR HO241.out) (Kd.R_base ho0) hb)
  have n3_ := Aside0.mk (Kd.R_elder' (zR HO244.out) (Kd.R_base ho0) hb)
  have n4_ := Aside0.mk (Kd.R_lower (Kd.R_new' (Kd.R_new' (Kd.R_new' (Kd.R_new' ho0 (Kd.R_lt (zR HO235.out))) (Kd.R_lt (zR HO238.out))) (Kd.R_lt (zR HO241.out))) (Kd.R_lt (zR HO244.out))) (below_size zH))
  have n5_ := Aside0.mk (blk_below (g := gb231) (o := .cells #[.int .i64 a0_0, .int .i64 a0_1, .slice A0_2 l0_2.length c0_2] 62 (0, 0)) (zB BK231.out) hb)
  have n6_ := Aside0.mk (below_step zH hb)
  clear HO235
  clear HO238
  clear HO241
  clear HO244
  clear BK231
  clear HB
  have HO235 := n0_
  have HO238 := n1_
  have HO241 := n2_
  have HO244 := n3_
  have HO247 := n4_
  have BK231 := n5_
  have HB := n6_
  clear n0_ n1_ n2_ n3_ n4_ n5_ n6_
  (try clear hb)
  (try clear hb2)
  (try clear hk)
  (try clear hi)
  (try clear ho0)
  obtain ⟨Ao29, co29, eo29⟩ := Kd.R_slice HO247.out
  (first | subst eo29 | (injection eo29 with f1_ f2_ f3_; have f4_ := f1_.symm; have f5_ := f3_.symm; clear f1_ f2_ f3_; subst f4_; subst f5_))
  refine hK.out _ _ ⟨(blk_cell BK231.out 0).trans rfl, (blk_cell BK231.out 1).trans rfl, (blk_cell BK231.out 2).trans rfl⟩ (fun hHeld => ?_)
  clear hK K
  refine norm_ (a' := ?_) ?_ ?_
  rotate_left
  ·show Act.put _ (some 20) _ = _
   simp only [Act.put, List.setIfInBounds_toArray, List.set_cons_zero, List.set_cons_succ, i64_w, i32_w]
   rfl
  refine one_ (i := 8) (N := some 23) #[true, true, true, true, true, true, true, true, true, false] rfl rfl (one_of HT_.out (by kernel_rfl)) (by decide) (fun K hK => ?_)
  refine goes_ Try.func108 (by kernel_rfl) rfl #[.slice Ao29 t245.length co29, .slice A0_2 l0_2.length c0_2] (by rfl) rfl rfl zM ?_
  with_reducible refine (spec_l01Join.calls k _ _ t245 _ _ l0_2 t248 _ ?side1 ?side2 ?side3 ?side4 A8.out).mono ?_
  (case side1 => exact zC ((Kd.R_reads' HO247.out).2.2))
  (case side2 => exact (Kd.R_reads' HO247.out).2.1)
  (case side3 => exact zC (Kd.C_below HR0_2.out HB.out))
  (case side4 => exact HC0_2.out)
  rintro e w30 ⟨v249, rfl, ho0, hb⟩
  refine ⟨_, rfl, ?_⟩
  have n0_ := Aside0.mk (Kd.R_elder' (zR HO235.out) (Kd.R_base ho0) hb)
  have n1_ := Aside0.mk (Kd.R_elder' (zR HO238.out) (Kd.R_base ho0) hb)
  have n2_ := Aside0.mk (Kd.R_elder' (zR HO241.out) (Kd.R_base ho0) hb)
  have n3_ := Aside0.mk (Kd.R_elder' (zR HO244.out) (Kd.R_base ho0) hb)
  have n4_ := Aside0.mk (Kd.R_elder' (zR HO247.out) (Kd.R_base ho0) hb)
  have n5_ := Aside0.mk (Kd.R_lower (Kd.R_new' (Kd.R_new' (Kd.R_new' (Kd.R_new' (Kd.R_new' ho0 (Kd.R_lt (zR HO235.out))) (Kd.R_lt (zR HO238.out))) (Kd.R_lt (zR HO241.out))) (Kd.R_lt (zR HO244.out))) (Kd.R_lt (zR HO247.out))) (below_size zH))
  have n6_ := Aside0.mk (blk_below (g := gb231) (o := .cells #[.int .i64 a0_0, .int .i64 a0_1, .slice A0_2 l0_2.length c0_2] 62 (0, 0)) (zB BK231.out) hb)
  have n7_ := Aside0.mk (below_step zH hb)
  clear HO235
  clear HO238
  clear HO241
  clear HO244
  clear HO247
  clear BK231
  clear HB
  have HO235 := n0_
  have HO238 := n1_
  have HO241 := n2_
  have HO244 := n3_
  have HO247 := n4_
  have HO250 := n5_
  have BK231 := n6_
  have HB := n7_
  clear n0_ n1_ n2_ n3_ n4_ n5_ n6_ n7_
  (try clear hb)
  (try clear hb2)
  (try clear hk)
  (try clear hi)
  (try clear ho0)
  refine hK.out _ _ ⟨(blk_cell BK231.out 0).trans rfl, (blk_cell BK231.out 1).trans rfl, (blk_cell BK231.out 2).trans rfl⟩ (fun hHeld => ?_)
  clear hK K
  refine norm_ (a' := ?_) ?_ ?_
  rotate_left
  ·show Act.put _ (some 23) _ = _
   simp only [Act.put, List.setIfInBounds_toArray, List.set_cons_zero, List.set_cons_succ, i64_w, i32_w]
   rfl
  refine pure_ (i := 9) (N := some 3) (v := ?_) (a' := ?_) #[true, true, true, true, true, true, true, true, true, true] rfl rfl (any_of HT_.out (by kernel_rfl)) (fun _ _ _ h => h) (Or.inl ⟨by rfl, ?_⟩) ?_ ?_
  rotate_left;(focus intro w';go_simp;with_reducible rfl);rotate_left;(focus simp only [Act.put, List.setIfInBounds_toArray, List.set_cons_zero, List.set_cons_succ, i64_w, i32_w];rfl)
  refine done_ (done_of HT_.out (by kernel_rfl)) ?_
  try go_wp2_with (first | ((with_reducible refine gate_dst (N := 24) rfl ?_); refine Kd.R_lit (Kd.int .u8) _ 5 ?hg (N := 24) ?hd (xs := ([199, 77] : List Int)) (inner := [.int .u8 199, .int .u8 77]) (ok := fun _ => True) (okp := fun _ => True) ?hr ?hp (fun _ hk => hk) trivial (Below.refl _ _) (Nat.le_refl _) (by simp) ?_; (case hd => rfl); (case hg => rfl); (case hr => first | (go_simp; done) | (go_simp; rfl)); (case hp => exact (Reps.one (show Kd.M (Kd.int .u8) _ _ _ 199 [.int .u8 199] from rfl) (Reps.one (show Kd.M (Kd.int .u8) _ _ _ 77 [.int .u8 77] from rfl) (Reps.none _ _)))); intro v252 w31 ho32 hb hg_ hnew_; clear hg_ hnew_; (first | rw [← Ny251.out] at ho32 | (simp only [Int.reduceToNat] at ho32; rw [← Ny251.out] at ho32)); have n0_ := Aside0.mk (Kd.R_elder' (zR HO235.out) (Kd.R_base ho32) hb); have n1_ := Aside0.mk (Kd.R_elder' (zR HO238.out) (Kd.R_base ho32) hb); have n2_ := Aside0.mk (Kd.R_elder' (zR HO241.out) (Kd.R_base ho32) hb); have n3_ := Aside0.mk (Kd.R_elder' (zR HO244.out) (Kd.R_base ho32) hb); have n4_ := Aside0.mk (Kd.R_elder' (zR HO247.out) (Kd.R_base ho32) hb); have n5_ := Aside0.mk (Kd.R_elder' (zR HO250.out) (Kd.R_base ho32) hb); have n6_ := Aside0.mk (Kd.R_lower (Kd.R_new' (Kd.R_new' (Kd.R_new' (Kd.R_new' (Kd.R_new' (Kd.R_new' ho32 (Kd.R_lt (zR HO235.out))) (Kd.R_lt (zR HO238.out))) (Kd.R_lt (zR HO241.out))) (Kd.R_lt (zR HO244.out))) (Kd.R_lt (zR HO247.out))) (Kd.R_lt (zR HO250.out))) (below_size zH)); have n7_ := Aside0.mk (blk_below (g := gb231) (o := .cells #[.int .i64 a0_0, .int .i64 a0_1, .slice A0_2 l0_2.length c0_2] 62 (0, 0)) (zB BK231.out) hb); have n8_ := Aside0.mk (below_step zH hb); clear HO235; clear HO238; clear HO241; clear HO244; clear HO247; clear HO250; clear BK231; clear HB; have HO235 := n0_; have HO238 := n1_; have HO241 := n2_; have HO244 := n3_; have HO247 := n4_; have HO250 := n5_; have HO253 := n6_; have BK231 := n7_; have HB := n8_; clear n0_ n1_ n2_ n3_ n4_ n5_ n6_ n7_ n8_; clear hb ho32; obtain ⟨Ao33, co33, eo33⟩ := Kd.R_slice HO253.out; subst eo33; obtain ⟨Ao34, co34, eo34⟩ := Kd.R_slice HO250.out; subst eo34) | ((with_reducible refine gate_callee (f := 108) rfl ?_); refine goesL_ (some 26) rfl rfl Try.func108 (by kernel_rfl) rfl #[.slice Ao33 y251.length co33, .slice Ao34 t248.length co34] rfl zM ?_; (with_reducible refine (spec_l01Join.calls k _ _ y251 _ _ t248 t254 _ ?side1 ?side2 ?side3 ?side4 A9.out).mono ?_); (case side1 => exact zC ((Kd.R_reads' HO253.out).2.2)); (case side2 => exact (Kd.R_reads' HO253.out).2.1); (case side3 => exact zC ((Kd.R_reads' HO250.out).2.2)); (case side4 => exact (Kd.R_reads' HO250.out).2.1); rintro e w35 ⟨v255, rfl, ho0, hb⟩; refine ⟨_, rfl, ?_⟩; have n0_ := Aside0.mk (Kd.R_elder' (zR HO235.out) (Kd.R_base ho0) hb); have n1_ := Aside0.mk (Kd.R_elder' (zR HO238.out) (Kd.R_base ho0) hb); have n2_ := Aside0.mk (Kd.R_elder' (zR HO241.out) (Kd.R_base ho0) hb); have n3_ := Aside0.mk (Kd.R_elder' (zR HO244.out) (Kd.R_base ho0) hb); have n4_ := Aside0.mk (Kd.R_elder' (zR HO247.out) (Kd.R_base ho0) hb); have n5_ := Aside0.mk (Kd.R_elder' (zR HO250.out) (Kd.R_base ho0) hb); have n6_ := Aside0.mk (Kd.R_elder' (zR HO253.out) (Kd.R_base ho0) hb); have n7_ := Aside0.mk (Kd.R_lower (Kd.R_new' (Kd.R_new' (Kd.R_new' (Kd.R_new' (Kd.R_new' (Kd.R_new' (Kd.R_new' ho0 (Kd.R_lt (zR HO235.out))) (Kd.R_lt (zR HO238.out))) (Kd.R_lt (zR HO241.out))) (Kd.R_lt (zR HO244.out))) (Kd.R_lt (zR HO247.out))) (Kd.R_lt (zR HO250.out))) (Kd.R_lt (zR HO253.out))) (below_size zH)); have n8_ := Aside0.mk (blk_below (g := gb231) (o := .cells #[.int .i64 a0_0, .int .i64 a0_1, .slice A0_2 l0_2.length c0_2] 62 (0, 0)) (zB BK231.out) hb); have n9_ := Aside0.mk (below_step zH hb); clear HO235; clear HO238; clear HO241; clear HO244; clear HO247; clear HO250; clear HO253; clear BK231; clear HB; have HO235 := n0_; have HO238 := n1_; have HO241 := n2_; have HO244 := n3_; have HO247 := n4_; have HO250 := n5_; have HO253 := n6_; have HO256 := n7_; have BK231 := n8_; have HB := n9_; clear n0_ n1_ n2_ n3_ n4_ n5_ n6_ n7_ n8_ n9_; (try clear hb); (try clear hb2); (try clear hk); (try clear hi); (try clear ho0)) | ((with_reducible refine gate_callee (f := 151) rfl ?_); refine goesL_ (some 28) rfl rfl Try.func151 (by kernel_rfl) rfl #[.slice Ao34 t248.length co34] rfl zM ?_; (with_reducible refine (spec_CheckSum.calls k _ _ t248 t257 _ ?side1 ?side2 A10.out).mono ?_); (case side1 => exact zC ((Kd.R_reads' HO250.out).2.2)); (case side2 => exact (Kd.R_reads' HO250.out).2.1); rintro e w' ⟨rfl, ⟨nd, rfl⟩⟩; refine ⟨_, rfl, ?_⟩) | ((with_reducible refine gate_callee (f := 150) rfl ?_); refine goesL_ (some 29) rfl rfl Try.func150 (by kernel_rfl) rfl #[.int .i64 t257, .int .i64 4] rfl zM ?_; (with_reducible refine (spec_l11Wide.calls k t257 4 t258 _ A11.out).mono ?_); rintro e w36 ⟨v259, rfl, ho0, hb⟩; refine ⟨_, rfl, ?_⟩; have n0_ := Aside0.mk (Kd.R_elder' (zR HO235.out) (Kd.R_base ho0) hb); have n1_ := Aside0.mk (Kd.R_elder' (zR HO238.out) (Kd.R_base ho0) hb); have n2_ := Aside0.mk (Kd.R_elder' (zR HO241.out) (Kd.R_base ho0) hb); have n3_ := Aside0.mk (Kd.R_elder' (zR HO244.out) (Kd.R_base ho0) hb); have n4_ := Aside0.mk (Kd.R_elder' (zR HO247.out) (Kd.R_base ho0) hb); have n5_ := Aside0.mk (Kd.R_elder' (zR HO250.out) (Kd.R_base ho0) hb); have n6_ := Aside0.mk (Kd.R_elder' (zR HO253.out) (Kd.R_base ho0) hb); have n7_ := Aside0.mk (Kd.R_elder' (zR HO256.out) (Kd.R_base ho0) hb); have n8_ := Aside0.mk (Kd.R_lower (Kd.R_new' (Kd.R_new' (Kd.R_new' (Kd.R_new' (Kd.R_new' (Kd.R_new' (Kd.R_new' (Kd.R_new' ho0 (Kd.R_lt (zR HO235.out))) (Kd.R_lt (zR HO238.out))) (Kd.R_lt (zR HO241.out))) (Kd.R_lt (zR HO244.out))) (Kd.R_lt (zR HO247.out))) (Kd.R_lt (zR HO250.out))) (Kd.R_lt (zR HO253.out))) (Kd.R_lt (zR HO256.out))) (below_size zH)); have n9_ := Aside0.mk (blk_below (g := gb231) (o := .cells #[.int .i64 a0_0, .int .i64 a0_1, .slice A0_2 l0_2.length c0_2] 62 (0, 0)) (zB BK231.out) hb); have n10_ := Aside0.mk (below_step zH hb); clear HO235; clear HO238; clear HO241; clear HO244; clear HO247; clear HO250; clear HO253; clear HO256; clear BK231; clear HB; have HO235 := n0_; have HO238 := n1_; have HO241 := n2_; have HO244 := n3_; have HO247 := n4_; have HO250 := n5_; have HO253 := n6_; have HO256 := n7_; have HO260 := n8_; have BK231 := n9_; have HB := n10_; clear n0_ n1_ n2_ n3_ n4_ n5_ n6_ n7_ n8_ n9_ n10_; (try clear hb); (try clear hb2); (try clear hk); (try clear hi); (try clear ho0); obtain ⟨Ao37, co37, eo37⟩ := Kd.R_slice HO256.out; subst eo37; obtain ⟨Ao38, co38, eo38⟩ := Kd.R_slice HO260.out; subst eo38) | ((with_reducible refine gate_callee (f := 108) rfl ?_); refine goesL_ (some 30) rfl rfl Try.func108 (by kernel_rfl) rfl #[.slice Ao37 t254.length co37, .slice Ao38 t258.length co38] rfl zM ?_; (with_reducible refine (spec_l01Join.calls k _ _ t254 _ _ t258 t261 _ ?side1 ?side2 ?side3 ?side4 A12.out).mono ?_); (case side1 => exact zC ((Kd.R_reads' HO256.out).2.2)); (case side2 => exact (Kd.R_reads' HO256.out).2.1); (case side3 => exact zC ((Kd.R_reads' HO260.out).2.2)); (case side4 => exact (Kd.R_reads' HO260.out).2.1); rintro e w39 ⟨v262, rfl, ho0, hb⟩; refine ⟨_, rfl, ?_⟩; have n0_ := Aside0.mk (Kd.R_elder' (zR HO235.out) (Kd.R_base ho0) hb); have n1_ := Aside0.mk (Kd.R_elder' (zR HO238.out) (Kd.R_base ho0) hb); have n2_ := Aside0.mk (Kd.R_elder' (zR HO241.out) (Kd.R_base ho0) hb); have n3_ := Aside0.mk (Kd.R_elder' (zR HO244.out) (Kd.R_base ho0) hb); have n4_ := Aside0.mk (Kd.R_elder' (zR HO247.out) (Kd.R_base ho0) hb); have n5_ := Aside0.mk (Kd.R_elder' (zR HO250.out) (Kd.R_base ho0) hb); have n6_ := Aside0.mk (Kd.R_elder' (zR HO253.out) (Kd.R_base ho0) hb); have n7_ := Aside0.mk (Kd.R_elder' (zR HO256.out) (Kd.R_base ho0) hb); have n8_ := Aside0.mk (Kd.R_elder' (zR HO260.out) (Kd.R_base ho0) hb); have n9_ := Aside0.mk (Kd.R_lower (Kd.R_new' (Kd.R_new' (Kd.R_new' (Kd.R_new' (Kd.R_new' (Kd.R_new' (Kd.R_new' (Kd.R_new' (Kd.R_new' ho0 (Kd.R_lt (zR HO235.out))) (Kd.R_lt (zR HO238.out))) (Kd.R_lt (zR HO241.out))) (Kd.R_lt (zR HO244.out))) (Kd.R_lt (zR HO247.out))) (Kd.R_lt (zR HO250.out))) (Kd.R_lt (zR HO253.out))) (Kd.R_lt (zR HO256.out))) (Kd.R_lt (zR HO260.out))) (below_size zH)); have n10_ := Aside0.mk (blk_below (g := gb231) (o := .cells #[.int .i64 a0_0, .int .i64 a0_1, .slice A0_2 l0_2.length c0_2] 62 (0, 0)) (zB BK231.out) hb); have n11_ := Aside0.mk (below_step zH hb); clear HO235; clear HO238; clear HO241; clear HO244; clear HO247; clear HO250; clear HO253; clear HO256; clear HO260; clear BK231; clear HB; have HO235 := n0_; have HO238 := n1_; have HO241 := n2_; have HO244 := n3_; have HO247 := n4_; have HO250 := n5_; have HO253 := n6_; have HO256 := n7_; have HO260 := n8_; have HO263 := n9_; have BK231 := n10_; have HB := n11_; clear n0_ n1_ n2_ n3_ n4_ n5_ n6_ n7_ n8_ n9_ n10_ n11_; (try clear hb); (try clear hb2); (try clear hk); (try clear hi); (try clear ho0)))
  go_ret
  exact ⟨_, zE, by (with_reducible repeat (first | apply Kd.R_alloc | apply Kd.R_drewN | apply Kd.R_drew)); exact Kd.R_mono HO263.out (fun _ hk => trivial), zH⟩
 ·replace c3 := Bool.eq_false_iff.mpr c3
  subst c3
  replace H : (some ([] : List Int)) = some r := by rw [if_neg (show ¬ (false = true) by decide)] at H; exact H
  obtain rfl := Option.some.inj H
  go_enter Try.func110, Try.ntmps110
  go_wp2_with (first | ((with_reducible refine gate_dst (N := 1) rfl ?_); refine box_event ?hg (N := 1) ?hd (cs := #[.int .i64 a0_0, .int .i64 a0_1, .slice A0_2 l0_2.length c0_2]) (t := 62) ?hr ?_; (case hd => rfl); (case hg => rfl); (case hr => first | (go_simp; done) | (go_simp; rfl)); intro gb231 hg w40 hbox hb; have n0_ := Aside0.mk (below_step zH hb); have n1_ := Aside0.mk (hbox); have n2_ := Aside0.mk ((by rw [hg]; exact (below_size zH) : w.heap.size ≤ gb231)); have n3_ := Aside0.mk ((by rw [hg]; exact (below_size zH) : w.heap.size ≤ gb231)); clear HB; have HB := n0_; have BK231 := n1_; have GW231 := n2_; have GE231 := n3_; clear n0_ n1_ n2_ n3_; clear hb hbox hg; obtain ⟨hcz41_0, hcz41_1, hcz41_2⟩ := zc3 BK231.out; obtain ⟨hfz41_0, hfz41_1, hfz41_2, _, _⟩ := zf BK231.out) | ((with_reducible refine gate_callee (f := 104) rfl ?_); refine goesL_ (some 5) rfl rfl Try.func104 (by kernel_rfl) rfl #[.agg #[.int .i64 a0_0, .int .i64 a0_1, .slice A0_2 l0_2.length c0_2]] rfl zM ?_; (with_reducible refine (spec_FrameOk.calls a0_0 a0_1 _ _ l0_2 false _ ?side1 ?side2 A2.out).mono ?_); (case side1 => exact zC (Kd.C_below HR0_2.out HB.out)); (case side2 => exact HC0_2.out); rintro e w42 ⟨rfl, hb⟩; refine ⟨_, rfl, ?_⟩; have n0_ := Aside0.mk (blk_below (g := gb231) (o := .cells #[.int .i64 a0_0, .int .i64 a0_1, .slice A0_2 l0_2.length c0_2] 62 (0, 0)) (zB BK231.out) hb); have n1_ := Aside0.mk (below_step zH hb); clear BK231; clear HB; have BK231 := n0_; have HB := n1_; clear n0_ n1_; (try clear hb); (try clear hb2); (try clear hk); (try clear hi)))
  go_ret
  exact ⟨.slice none 0 0, zE, by first | exact Kd.R_nil _ _ _ _ _ | exact Kd.R_nil _ _ _ w.heap.size _ | exact Kd.N_nil _ _ _ _ _ | exact Kd.V_nil _ _ _ _ _ | exact Kd.Q_nil _ _ _ _ _ | exact Kd.S_nil _ _ _ _ _, zH⟩

end Go.Proofs.Ytabicblkdgpogaa.QFnExactPutEvent
