-- Made by this session's program (wip/tools/myprint.py) out of the translation; Lean checks it.
import Derived.Test.YtabicblkdgpogaaQFnExactPutEventx0
import Derived.Test.YtabicblkdgpogaaQFnExactPutEventx2
import Derived.Test.YtabicblkdgpogaaQFnExactPutEventx3
import Derived.Test.YtabicblkdgpogaaQFnExactPutEventx4
namespace Go.Proofs.Ytabicblkdgpogaa.QFnExactPutEvent
open Go.RowKit Go.Proofs.YtabicblkdgpogaaW.PrintWords Go.Proofs.YtabicblkdgpogaaW.PrintLast Go.Proofs.YtabicblkdgpogaaW.PrintMore
attribute [local go_sem] max2_int min2_int max_two min_two max_three min_three max_four min_four   -- for this text's walks alone
set_option linter.unusedVariables false
set_option linter.unusedSimpArgs false

/-! ### spec_DecodeJob: function 85 -/
def spec_DecodeJob.f (k : Nat) (l0 : List Int) : Option (Int × Int × List Int × List Int × Int × Bool) := if (l0.length : Int) < 2 then (some (0, 0, ([] : List Int), ([] : List Int), 0, false)) else (if 0 < (l0.length : Int) then (if 1 < (l0.length : Int) then ((spec_TakeNumber.f k l0 2).bind fun bt172 => (if bt172.2.2 = true then ((spec_l10TakeList.f k l0 bt172.2.1).bind fun bt175 => (if bt175.2.2 = true then ((spec_l10TakeList.f k l0 bt175.2.1).bind fun bt180 => (if bt180.2.2 = true then (if bt180.2.1 = (l0.length : Int) then ((spec_JobOk.f k (wrap64 (rd l0 0)) (wrap64 (rd l0 1)) bt175.1 bt180.1 bt172.1).bind fun t185 => (if t185 = true then (some (wrap64 (rd l0 0), wrap64 (rd l0 1), bt175.1, bt180.1, bt172.1, true)) else (some (0, 0, ([] : List Int), ([] : List Int), 0, false)))) else (some (0, 0, ([] : List Int), ([] : List Int), 0, false))) else (some (0, 0, ([] : List Int), ([] : List Int), 0, false)))) else (some (0, 0, ([] : List Int), ([] : List Int), 0, false)))) else (some (0, 0, ([] : List Int), ([] : List Int), 0, false)))) else (none)) else (none))
theorem spec_DecodeJob.mono : ∀ a0 k, LeO (spec_DecodeJob.f k a0) (spec_DecodeJob.f (k + 1) a0) := by
 intro a0 k
 unfold spec_DecodeJob.f
 repeat' first
   | (with_reducible exact spec_JobOk.mono _ _ _ _ _ _)
   | (with_reducible exact spec_TakeNumber.mono _ _ _)
   | (with_reducible exact spec_l10TakeList.mono _ _ _)
   | (with_reducible exact LeO.refl _)
   | (with_reducible exact LeO.none _)
   | (with_reducible refine LeO.ite ?_ ?_)
   | (with_reducible refine LeO.bind ?_ (fun _ => ?_))
   | exact spec_JobOk.mono _ _ _ _ _ _
   | exact spec_TakeNumber.mono _ _ _
   | exact spec_l10TakeList.mono _ _ _
   | exact LeO.none _
   | refine LeO.ite ?_ ?_
   | refine LeO.bind ?_ (fun _ => ?_)
def spec_DecodeJob.T3 : Bool × List (List Nat × List Nat) := (true, [([], []), ([0], [0]), ([1], [1]), ([2], [2]), ([], []), ([4], [4]), ([5], [5]), ([6], [6]), ([3, 7], [3, 7]), ([], []), ([9, 8, 0, 1, 2, 3, 4, 5, 6, 7, 8, 9], [8, 9])])
def spec_DecodeJob.B3 : List Nat := [0, 1, 3, 7, 0, 16, 48, 112, 255, 0, 1023]
theorem spec_DecodeJob.tab3 : rtab .any (opsOf Try.f85 3) = spec_DecodeJob.T3 := by kernel_rfl
theorem spec_DecodeJob.bits3 : waitsOk spec_DecodeJob.T3.2 spec_DecodeJob.B3 = true := by kernel_rfl
set_option maxHeartbeats 8000000 in
set_option maxRecDepth 100000 in
theorem spec_DecodeJob.calls (k : Nat) (A0 : Option Addr) (c0 : Nat) (l0 : List Int) (r1 : Int) (r2 : Int) (r3 : List Int) (r4 : List Int) (r5 : Int) (r6 : Bool) (w : World) (hr0 : Kd.C (Kd.int .u8) w A0 l0.length l0) (hc0 : l0.length ≤ c0) (h : spec_DecodeJob.f k l0 = some (r1, r2, r3, r4, r5, r6)) :
  Calls Try.prog 85 #[.slice A0 l0.length c0] w fun e w' => ∃ v2_ v3_ : Value, e = .returned (.tuple #[.agg #[.int .i64 r1, .int .i64 r2, v2_, v3_, .int .i64 r5], .bool r6]) ∧ Kd.R (Kd.int .i64) 3 w' w.heap.size (fun k_ => some k_ ≠ (v3_ : Value).ownBlock) v2_ r3 ∧ Kd.R (Kd.int .i64) 3 w' w.heap.size (fun k_ => some k_ ≠ (v2_ : Value).ownBlock) v3_ r4 ∧ Below w.heap.size w w' := by
 have hu99 := Try.underlying99
 have HR0 := Aside0.mk hr0
 have HC0 := Aside0.mk hc0
 clear hr0 hc0
 have HB := Aside0.mk (Below.refl w.heap.size w)
 have H : (if (l0.length : Int) < 2 then (some (0, 0, ([] : List Int), ([] : List Int), 0, false)) else (if 0 < (l0.length : Int) then (if 1 < (l0.length : Int) then ((spec_TakeNumber.f k l0 2).bind fun bt172 => (if bt172.2.2 = true then ((spec_l10TakeList.f k l0 bt172.2.1).bind fun bt175 => (if bt175.2.2 = true then ((spec_l10TakeList.f k l0 bt175.2.1).bind fun bt180 => (if bt180.2.2 = true then (if bt180.2.1 = (l0.length : Int) then ((spec_JobOk.f k (wrap64 (rd l0 0)) (wrap64 (rd l0 1)) bt175.1 bt180.1 bt172.1).bind fun t185 => (if t185 = true then (some (wrap64 (rd l0 0), wrap64 (rd l0 1), bt175.1, bt180.1, bt172.1, true)) else (some (0, 0, ([] : List Int), ([] : List Int), 0, false)))) else (some (0, 0, ([] : List Int), ([] : List Int), 0, false))) else (some (0, 0, ([] : List Int), ([] : List Int), 0, false)))) else (some (0, 0, ([] : List Int), ([] : List Int), 0, false)))) else (some (0, 0, ([] : List Int), ([] : List Int), 0, false)))) else (none)) else (none))) = some (r1, r2, r3, r4, r5, r6) := h
 clear h
 by_cases c2 : (l0.length : Int) < 2
 ·rw [if_pos c2] at H
  have c2b0 : decide ((l0.length : Int) < 2) = true := decide_eq_true c2
  have c2b1 : decide (l0.length < 2) = true := decide_eq_true (by omega)
  clear c2
  simp only [Option.some.injEq, Prod.mk.injEq] at H
  obtain ⟨rfl, rfl, rfl, rfl, rfl, rfl⟩ := H
  go_enter Try.func85, Try.ntmps85
  go_wp2_with (first | ((with_reducible refine gate_dst (N := 2) rfl ?_); (try (refine gate_guard (by rfl) ?_; dsimp only)); refine box_event ?hg (N := 2) ?hd (cs := #[.int .i64 0, .int .i64 0, .slice none 0 0, .slice none 0 0, .int .i64 0]) (t := 99) ?hr ?_; (case hd => rfl); (case hg => rfl); (case hr => first | (go_simp; done) | (go_simp; rfl)); intro gb168 hg w3 hbox hb; have n0_ := Aside0.mk (below_step zH hb); have n1_ := Aside0.mk (hbox); have n2_ := Aside0.mk ((by rw [hg]; exact (below_size zH) : w.heap.size ≤ gb168)); have n3_ := Aside0.mk ((by rw [hg]; exact (below_size zH) : w.heap.size ≤ gb168)); clear HB; have HB := n0_; have BK168 := n1_; have GW168 := n2_; have GE168 := n3_; clear n0_ n1_ n2_ n3_; clear hb hbox hg; obtain ⟨hcz4_0, hcz4_1, hcz4_2, hcz4_3, hcz4_4⟩ := zc5 BK168.out; obtain ⟨hfz4_0, hfz4_1, hfz4_2, hfz4_3, hfz4_4⟩ := zf BK168.out))
  refine bodyPost_ret (results_ct rfl _ _ gb168 99 #[.int .i64 0, .int .i64 0, .slice none 0 0, .slice none 0 0, .int .i64 0] (0, 0) _ rfl (by (repeat refine zL ?_); refine blk_put (cs := #[.int .i64 0, .int .i64 0, .slice none 0 0, .slice none 0 0, .int .i64 0]) ?_ 4 _ rfl; (repeat refine zL ?_); refine blk_put (cs := #[.int .i64 0, .int .i64 0, .slice none 0 0, .slice none 0 0, .int .i64 0]) ?_ 3 _ rfl; (repeat refine zL ?_); refine blk_put (cs := #[.int .i64 0, .int .i64 0, .slice none 0 0, .slice none 0 0, .int .i64 0]) ?_ 2 _ rfl; (repeat refine zL ?_); refine blk_put (cs := #[.int .i64 0, .int .i64 0, .slice none 0 0, .slice none 0 0, .int .i64 0]) ?_ 1 _ rfl; (repeat refine zL ?_); refine blk_put (cs := #[.int .i64 0, .int .i64 0, .slice none 0 0, .slice none 0 0, .int .i64 0]) ?_ 0 _ rfl; (repeat refine zL ?_); exact BK168.out) Try.underlying99 rfl (by kernel_rfl)) rfl ?_
  exact ⟨_, _, zE, zN, zN, zH⟩
 ·rw [if_neg c2] at H
  have c2b0 : decide ((l0.length : Int) < 2) = false := decide_eq_false c2
  have c2b1 : decide (l0.length < 2) = false := decide_eq_false (by omega)
  clear c2
  by_cases c5 : 0 < (l0.length : Int)
  ·rw [if_pos c5] at H
   have c5b0 : decide (0 < (l0.length : Int)) = true := decide_eq_true c5
   have c5b1 : decide (0 < l0.length) = true := decide_eq_true (by omega)
   clear c5
   by_cases c6 : 1 < (l0.length : Int)
   ·rw [if_pos c6] at H
    have c6b0 : decide (1 < (l0.length : Int)) = true := decide_eq_true c6
    have c6b1 : decide (1 < l0.length) = true := decide_eq_true (by omega)
    clear c6
    replace H := Option.bind_eq_some_iff.mp H
    obtain ⟨⟨t172, t173, t174⟩, A70, H⟩ := H
    replace H : (if t174 = true then ((spec_l10TakeList.f k l0 t173).bind fun bt175 => (if bt175.2.2 = true then ((spec_l10TakeList.f k l0 bt175.2.1).bind fun bt180 => (if bt180.2.2 = true then (if bt180.2.1 = (l0.length : Int) then ((spec_JobOk.f k (wrap64 (rd l0 0)) (wrap64 (rd l0 1)) bt175.1 bt180.1 t172).bind fun t185 => (if t185 = true then (some (wrap64 (rd l0 0), wrap64 (rd l0 1), bt175.1, bt180.1, t172, true)) else (some (0, 0, ([] : List Int), ([] : List Int), 0, false)))) else (some (0, 0, ([] : List Int), ([] : List Int), 0, false))) else (some (0, 0, ([] : List Int), ([] : List Int), 0, false)))) else (some (0, 0, ([] : List Int), ([] : List Int), 0, false)))) else (some (0, 0, ([] : List Int), ([] : List Int), 0, false))) = some (r1, r2, r3, r4, r5, r6) := H
    have A7 := Aside0.mk A70
    clear A70
    by_cases c8 : t174 = true
    ·subst c8
     replace H : ((spec_l10TakeList.f k l0 t173).bind fun bt175 => (if bt175.2.2 = true then ((spec_l10TakeList.f k l0 bt175.2.1).bind fun bt180 => (if bt180.2.2 = true then (if bt180.2.1 = (l0.length : Int) then ((spec_JobOk.f k (wrap64 (rd l0 0)) (wrap64 (rd l0 1)) bt175.1 bt180.1 t172).bind fun t185 => (if t185 = true then (some (wrap64 (rd l0 0), wrap64 (rd l0 1), bt175.1, bt180.1, t172, true)) else (some (0, 0, ([] : List Int), ([] : List Int), 0, false)))) else (some (0, 0, ([] : List Int), ([] : List Int), 0, false))) else (some (0, 0, ([] : List Int), ([] : List Int), 0, false)))) else (some (0, 0, ([] : List Int), ([] : List Int), 0, false)))) = some (r1, r2, r3, r4, r5, r6) := by rw [if_pos rfl] at H; exact H
     replace H := Option.bind_eq_some_iff.mp H
     obtain ⟨⟨t175, t176, t177⟩, A90, H⟩ := H
     replace H : (if t177 = true then ((spec_l10TakeList.f k l0 t176).bind fun bt180 => (if bt180.2.2 = true then (if bt180.2.1 = (l0.length : Int) then ((spec_JobOk.f k (wrap64 (rd l0 0)) (wrap64 (rd l0 1)) t175 bt180.1 t172).bind fun t185 => (if t185 = true then (some (wrap64 (rd l0 0), wrap64 (rd l0 1), t175, bt180.1, t172, true)) else (some (0, 0, ([] : List Int), ([] : List Int), 0, false)))) else (some (0, 0, ([] : List Int), ([] : List Int), 0, false))) else (some (0, 0, ([] : List Int), ([] : List Int), 0, false)))) else (some (0, 0, ([] : List Int), ([] : List Int), 0, false))) = some (r1, r2, r3, r4, r5, r6) := H
     have A9 := Aside0.mk A90
     clear A90
     by_cases c10 : t177 = true
     ·subst c10
      replace H : ((spec_l10TakeList.f k l0 t176).bind fun bt180 => (if bt180.2.2 = true then (if bt180.2.1 = (l0.length : Int) then ((spec_JobOk.f k (wrap64 (rd l0 0)) (wrap64 (rd l0 1)) t175 bt180.1 t172).bind fun t185 => (if t185 = true then (some (wrap64 (rd l0 0), wrap64 (rd l0 1), t175, bt180.1, t172, true)) else (some (0, 0, ([] : List Int), ([] : List Int), 0, false)))) else (some (0, 0, ([] : List Int), ([] : List Int), 0, false))) else (some (0, 0, ([] : List Int), ([] : List Int), 0, false)))) = some (r1, r2, r3, r4, r5, r6) := by rw [if_pos rfl] at H; exact H
      replace H := Option.bind_eq_some_iff.mp H
      obtain ⟨⟨t180, t181, t182⟩, A110, H⟩ := H
      replace H : (if t182 = true then (if t181 = (l0.length : Int) then ((spec_JobOk.f k (wrap64 (rd l0 0)) (wrap64 (rd l0 1)) t175 t180 t172).bind fun t185 => (if t185 = true then (some (wrap64 (rd l0 0), wrap64 (rd l0 1), t175, t180, t172, true)) else (some (0, 0, ([] : List Int), ([] : List Int), 0, false)))) else (some (0, 0, ([] : List Int), ([] : List Int), 0, false))) else (some (0, 0, ([] : List Int), ([] : List Int), 0, false))) = some (r1, r2, r3, r4, r5, r6) := H
      have A11 := Aside0.mk A110
      clear A110
      by_cases c12 : t182 = true
      ·subst c12
       replace H : (if t181 = (l0.length : Int) then ((spec_JobOk.f k (wrap64 (rd l0 0)) (wrap64 (rd l0 1)) t175 t180 t172).bind fun t185 => (if t185 = true then (some (wrap64 (rd l0 0), wrap64 (rd l0 1), t175, t180, t172, true)) else (some (0, 0, ([] : List Int), ([] : List Int), 0, false)))) else (some (0, 0, ([] : List Int), ([] : List Int), 0, false))) = some (r1, r2, r3, r4, r5, r6) := by rw [if_pos rfl] at H; exact H
       by_cases c13 : t181 = (l0.length : Int)
       ·rw [if_pos c13] at H
        have c13b0 : (t181 == (l0.length : Int)) = true := beq_iff_eq.mpr c13
        have c13b1 : (t181 != (l0.length : Int)) = false := bne_eq_false_iff_eq.mpr c13
        clear c13
        replace H := Option.bind_eq_some_iff.mp H
        obtain ⟨t185, A140, H⟩ := H
        replace H : (if t185 = true then (some (wrap64 (rd l0 0), wrap64 (rd l0 1), t175, t180, t172, true)) else (some (0, 0, ([] : List Int), ([] : List Int), 0, false))) = some (r1, r2, r3, r4, r5, r6) := H
        have A14 := Aside0.mk A140
        clear A140
        by_cases c15 : t185 = true
        ·subst c15
         replace H : (some (wrap64 (rd l0 0), wrap64 (rd l0 1), t175, t180, t172, true)) = some (r1, r2, r3, r4, r5, r6) := by rw [if_pos rfl] at H; exact H
         simp only [Option.some.injEq, Prod.mk.injEq] at H
         obtain ⟨rfl, rfl, rfl, rfl, rfl, rfl⟩ := H
         go_enter Try.func85, Try.ntmps85
         try go_wp2_with (first | ((with_reducible refine gate_dst (N := 2) rfl ?_); (try (refine gate_guard (by rfl) ?_; dsimp only)); refine box_event ?hg (N := 2) ?hd (cs := #[.int .i64 0, .int .i64 0, .slice none 0 0, .slice none 0 0, .int .i64 0]) (t := 99) ?hr ?_; (case hd => rfl); (case hg => rfl); (case hr => first | (go_simp; done) | (go_simp; rfl)); intro gb168 hg w16 hbox hb; have n0_ := Aside0.mk (below_step zH hb); have n1_ := Aside0.mk (hbox); have n2_ := Aside0.mk ((by rw [hg]; exact (below_size zH) : w.heap.size ≤ gb168)); have n3_ := Aside0.mk ((by rw [hg]; exact (below_size zH) : w.heap.size ≤ gb168)); clear HB; have HB := n0_; have BK168 := n1_; have GW168 := n2_; have GE168 := n3_; clear n0_ n1_ n2_ n3_; clear hb hbox hg))
         have n0_ := Aside0.mk (blk_drew BK168.out)
         have n1_ := Aside0.mk (below_drew1 HB.out)
         clear BK168
         clear HB
         have BK168 := n0_
         have HB := n1_
         clear n0_ n1_
         have p169 : 0 ≤ (0 : Int) := (by omega)
         have q169 : 0 < (l0.length : Int) := zD
         obtain ⟨ad169, e169, hx169_0⟩ := Kd.at_int HR0.out 0 p169 q169
         have hw169_0 := hx169_0
         (try rw [show ((0 : Int)).toNat = 0 from rfl] at hw169_0)
         (try rw [show 0 * 1 = 0 from rfl] at hw169_0)
         (try rw [Addr.add_zero'] at hw169_0)
         cases e169
         have qi169 : (0 < l0.length) = True := eq_true (by omega)
         (try rw [show ((0 : Int)).toNat = 0 from rfl] at hx169_0)
         (try rw [Addr.add_zero'] at hx169_0)
         replace hx169_0 := (HB.out.cell (World.block_lt_of_cell? w _ hx169_0)).trans hx169_0
         replace p169 := eq_true p169
         replace q169 := eq_true q169
         have p170 : 0 ≤ (1 : Int) := (by omega)
         have q170 : 1 < (l0.length : Int) := zD
         obtain ⟨ad170, e170, hx170_0⟩ := Kd.at_int HR0.out 1 p170 q170
         have hw170_0 := hx170_0
         (try rw [show ((1 : Int)).toNat = 1 from rfl] at hw170_0)
         (try rw [show 1 * 1 = 1 from rfl] at hw170_0)
         (try simp only [Nat.reduceMul, Nat.reduceEqDiff, Go.Addr.add, ↓reduceIte] at hw170_0)
         obtain rfl : ad169 = ad170 := (by injection e170)
         (try simp only [show (1 : Int).toNat = 1 from rfl, Nat.reduceMul, Nat.reduceEqDiff, Go.Addr.add, ↓reduceIte] at hx170_0)
         have qi170 : (1 < l0.length) = True := eq_true (by omega)
         (try rw [show ((1 : Int)).toNat = 1 from rfl] at hx170_0)
         replace hx170_0 := (HB.out.cell (World.block_lt_of_cell? w _ hx170_0)).trans hx170_0
         replace p170 := eq_true p170
         replace q170 := eq_true q170
         refine start_ (n := 11) (S := fun w' => w'.cell? ad169 = some (.int .u8 (rd l0 0)) ∧ w'.cell? ⟨ad169.block, ad169.off + 1, none⟩ = some (.int .u8 (rd l0 1))) (ds := []) #[false, false, false, false, false, false, false, false, false, false, false] (by kernel_rfl) rfl rfl ⟨((HB.out.cell (World.block_lt_of_cell? w _ hw169_0)).trans hw169_0), ((HB.out.cell (World.block_lt_of_cell? w _ hw170_0)).trans hw170_0)⟩ (fun hHeld => ?_); refine with_tabW spec_DecodeJob.tab3 spec_DecodeJob.bits3 (fun HT_ HW_ => ?_)
         generalize w16.drew = w17 at BK168 HB hx169_0 hx170_0 hHeld ⊢
         refine pure_ (i := 0) (N := some 12) (v := ?_) (a' := ?_) #[true, false, false, false, false, false, false, false, false, false, false] rfl rfl (any_of HT_.out (by kernel_rfl)) (fun _ _ _ h => h) (Or.inl ⟨by rfl, ?_⟩) ?_ ?_
         rotate_left;(focus intro w';go_simp;with_reducible rfl);rotate_left;(focus simp only [Act.put, List.setIfInBounds_toArray, List.set_cons_zero, List.set_cons_succ, i64_w, i32_w];rfl)
         refine pure_ (i := 1) (N := some 13) (v := ?_) (a' := ?_) #[true, true, false, false, false, false, false, false, false, false, false] rfl rfl (any_of HT_.out (by kernel_rfl)) (fun _ _ _ h => h) (Or.inl ⟨by rfl, ?_⟩) ?_ ?_
         rotate_left;(focus intro w';go_simp;with_reducible rfl);rotate_left;(focus simp only [Act.put, List.setIfInBounds_toArray, List.set_cons_zero, List.set_cons_succ, i64_w, i32_w];rfl)
         refine pure_ (i := 4) (N := some 16) (v := ?_) (a' := ?_) #[true, true, false, false, true, false, false, false, false, false, false] rfl rfl (any_of HT_.out (by kernel_rfl)) (fun _ _ _ h => h) (Or.inl ⟨by rfl, ?_⟩) ?_ ?_
         rotate_left;(focus intro w';go_simp;with_reducible rfl);rotate_left;(focus simp only [Act.put, List.setIfInBounds_toArray, List.set_cons_zero, List.set_cons_succ, i64_w, i32_w];rfl)
         refine pure_ (i := 5) (N := some 17) (v := ?_) (a' := ?_) #[true, true, false, false, true, true, false, false, false, false, false] rfl rfl (any_of HT_.out (by kernel_rfl)) (fun _ _ _ h => h) (Or.inl ⟨by rfl, ?_⟩) ?_ ?_
         rotate_left;(focus intro w';go_simp;with_reducible rfl);rotate_left;(focus simp only [Act.put, List.setIfInBounds_toArray, List.set_cons_zero, List.set_cons_succ, i64_w, i32_w];rfl)
         refine take_ (i := 2) (N := some 14) (v := ?_) (a' := ?_) #[true, true, true, false, true, true, false, false, false, false, false] rfl rfl (take_ofW HT_.out HW_.out (by kernel_rfl)) (fun _ _ _ h => h) (Or.inl ⟨by rfl, ?_⟩) hHeld ?_ ?_
         rotate_left
         ·rintro w' ⟨s0, s1⟩
          go_simp
          with_reducible rfl
         rotate_left
         ·simp only [Act.put, List.setIfInBounds_toArray, List.set_cons_zero, List.set_cons_succ, i64_w, i32_w]
          rfl
         refine pure_ (i := 3) (N := some 15) (v := ?_) (a' := ?_) #[true, true, true, true, true, true, false, false, false, false, false] rfl rfl (any_of HT_.out (by kernel_rfl)) (fun _ _ _ h => h) (Or.inl ⟨by rfl, ?_⟩) ?_ ?_
         rotate_left;(focus intro w';go_simp;with_reducible rfl);rotate_left;(focus simp only [Act.put, List.setIfInBounds_toArray, List.set_cons_zero, List.set_cons_succ, i64_w, i32_w];rfl)
         refine take_ (i := 6) (N := some 18) (v := ?_) (a' := ?_) #[true, true, true, true, true, true, true, false, false, false, false] rfl rfl (take_ofW HT_.out HW_.out (by kernel_rfl)) (fun _ _ _ h => h) (Or.inl ⟨by rfl, ?_⟩) hHeld ?_ ?_
         rotate_left
         ·rintro w' ⟨s0, s1⟩
          go_simp
          with_reducible rfl
         rotate_left
         ·simp only [Act.put, List.setIfInBounds_toArray, List.set_cons_zero, List.set_cons_succ, i64_w, i32_w]
          rfl
         refine pure_ (i := 7) (N := some 19) (v := ?_) (a' := ?_) #[true, true, true, true, true, true, true, true, false, false, false] rfl rfl (any_of HT_.out (by kernel_rfl)) (fun _ _ _ h => h) (Or.inl ⟨by rfl, ?_⟩) ?_ ?_
         rotate_left;(focus intro w';go_simp;with_reducible rfl);rotate_left;(focus simp only [Act.put, List.setIfInBounds_toArray, List.set_cons_zero, List.set_cons_succ, i64_w, i32_w];rfl)
         refine pure_ (i := 8) (N := some 20) (v := ?_) (a' := ?_) #[true, true, true, true, true, true, true, true, true, false, false] rfl rfl (any_of HT_.out (by kernel_rfl)) (fun _ _ _ h => h) (Or.inl ⟨by rfl, ?_⟩) ?_ ?_
         rotate_left;(focus intro w';go_simp;with_reducible rfl);rotate_left;(focus simp only [Act.put, List.setIfInBounds_toArray, List.set_cons_zero, List.set_cons_succ, i64_w, i32_w];rfl)
         refine one_ (i := 9) (N := some 4) #[true, true, true, true, true, true, true, true, true, true, false] rfl rfl (one_of HT_.out (by kernel_rfl)) (by decide) (fun K hK => ?_)
         refine box_step ?hg (N := 4) ?hd (cs := #[.int .i64 0, .int .i64 0, .slice none 0 0, .slice none 0 0, .int .i64 0]) (t := 99) ?hr ?_; (case hd => rfl); (case hg => rfl); (case hr => first | (go_simp; done) | (go_simp; rfl))
         intro gb171 hg w18 hbox hb
         have n0_ := Aside0.mk (blk_below (g := gb168) (o := .cells #[.int .i64 0, .int .i64 0, .slice none 0 0, .slice none 0 0, .int .i64 0] 99 (0, 0)) (zB BK168.out) hb)
         have n1_ := Aside0.mk (below_step zH hb)
         have n2_ := Aside0.mk (hbox)
         have n3_ := Aside0.mk ((by rw [hg]; exact (below_size zH) : w.heap.size ≤ gb171))
         have n4_ := Aside0.mk ((by rw [hg]; exact (below_size zH) : w.heap.size ≤ gb171))
         have n5_ := Aside0.mk ((by rw [hg]; exact Nat.ne_of_lt (blk_lt (g := gb168) (o := .cells #[.int .i64 0, .int .i64 0, .slice none 0 0, .slice none 0 0, .int .i64 0] 99 (0, 0)) (zB BK168.out)) : gb168 ≠ gb171))
         have n6_ := Aside0.mk ((by rw [hg]; exact Nat.ne_of_gt (blk_lt (g := gb168) (o := .cells #[.int .i64 0, .int .i64 0, .slice none 0 0, .slice none 0 0, .int .i64 0] 99 (0, 0)) (zB BK168.out)) : gb171 ≠ gb168))
         clear BK168
         clear HB
         have BK168 := n0_
         have HB := n1_
         have BK171 := n2_
         have GW171 := n3_
         have GE171 := n4_
         have NB168_171 := n5_
         have NB171_168 := n6_
         clear n0_ n1_ n2_ n3_ n4_ n5_ n6_
         clear hb hbox hg
         refine hK.out _ _ ⟨((HB.out.cell (World.block_lt_of_cell? w _ hw169_0)).trans hw169_0), ((HB.out.cell (World.block_lt_of_cell? w _ hw170_0)).trans hw170_0)⟩ (fun hHeld => ?_)
         clear hK K
         refine norm_ (a' := ?_) ?_ ?_
         rotate_left
         ·show Act.put _ (some 4) _ = _
          simp only [Act.put, List.setIfInBounds_toArray, List.set_cons_zero, List.set_cons_succ, i64_w, i32_w]
          rfl
         refine one_ (i := 10) (N := none) #[true, true, true, true, true, true, true, true, true, true, true] rfl rfl (one_of HT_.out (by kernel_rfl)) (by decide) (fun K hK => ?_)
         have hs19 : w18.cell? ⟨gb171, 0, none⟩ = some (.int .i64 0) := (blk_cell BK171.out 0).trans rfl
         have hfs19 := blk_frozen BK171.out 0
         have hns19_0 := NB168_171.out
         have hms19_0 := NB171_168.out
         have hs20 : w18.cell? ⟨gb171, 1, none⟩ = some (.int .i64 0) := (blk_cell BK171.out 1).trans rfl
         have hfs20 := blk_frozen BK171.out 1
         have hns20_0 := NB168_171.out
         have hms20_0 := NB171_168.out
         have hs21 : w18.cell? ⟨gb171, 2, none⟩ = some (.slice none 0 0) := (blk_cell BK171.out 2).trans rfl
         have hfs21 := blk_frozen BK171.out 2
         have hns21_0 := NB168_171.out
         have hms21_0 := NB171_168.out
         have hs22 : w18.cell? ⟨gb171, 3, none⟩ = some (.slice none 0 0) := (blk_cell BK171.out 3).trans rfl
         have hfs22 := blk_frozen BK171.out 3
         have hns22_0 := NB168_171.out
         have hms22_0 := NB171_168.out
         have hs23 : w18.cell? ⟨gb171, 4, none⟩ = some (.int .i64 0) := (blk_cell BK171.out 4).trans rfl
         have hfs23 := blk_frozen BK171.out 4
         have hns23_0 := NB168_171.out
         have hms23_0 := NB171_168.out
         refine skip_ (w1 := ?_) (by rfl) rfl ?_ ?_
         rotate_left
         ·go_simp
          rfl
         refine hK.out _ _ ⟨((cell_far (p := ⟨gb171, _, none⟩) (zO hw169_0 GW171.out) _).trans (((cell_far (p := ⟨gb171, _, none⟩) (zO hw169_0 GW171.out) _).trans (((cell_far (p := ⟨gb171, _, none⟩) (zO hw169_0 GW171.out) _).trans (((cell_far (p := ⟨gb171, _, none⟩) (zO hw169_0 GW171.out) _).trans (((cell_far (p := ⟨gb171, _, none⟩) (zO hw169_0 GW171.out) _).trans (hHeld.1)))))))))), ((cell_far (p := ⟨gb171, _, none⟩) (zO hw170_0 GW171.out) _).trans (((cell_far (p := ⟨gb171, _, none⟩) (zO hw170_0 GW171.out) _).trans (((cell_far (p := ⟨gb171, _, none⟩) (zO hw170_0 GW171.out) _).trans (((cell_far (p := ⟨gb171, _, none⟩) (zO hw170_0 GW171.out) _).trans (((cell_far (p := ⟨gb171, _, none⟩) (zO hw170_0 GW171.out) _).trans (hHeld.2))))))))))⟩ (fun hHeld => ?_)
         clear hK K
         refine done_ (done_of HT_.out (by kernel_rfl)) ?_
         try go_wp2_with (first | ((with_reducible refine gate_callee (f := 105) rfl ?_); refine goesL_ (some 23) rfl rfl Try.func105 (by kernel_rfl) rfl #[.slice (some ad169) l0.length c0, .int .i64 2] rfl zM ?_; (with_reducible refine (spec_TakeNumber.calls k _ _ l0 2 t172 t173 true _ ?side1 ?side2 A7.out).mono ?_); (case side1 => exact Kd.C_below HR0.out zH); (case side2 => exact HC0.out); rintro e w24 ⟨rfl, hb⟩; refine ⟨_, rfl, ?_⟩; have n0_ := Aside0.mk (blk_below (g := gb168) (o := .cells #[.int .i64 0, .int .i64 0, .slice none 0 0, .slice none 0 0, .int .i64 0] 99 (0, 0)) (by (repeat refine zL ?_); refine blk_far ?_ NB168_171.out _; (repeat refine zL ?_); refine blk_far ?_ NB168_171.out _; (repeat refine zL ?_); refine blk_far ?_ NB168_171.out _; (repeat refine zL ?_); refine blk_far ?_ NB168_171.out _; (repeat refine zL ?_); refine blk_far ?_ NB168_171.out _; (repeat refine zL ?_); exact BK168.out) hb); have n1_ := Aside0.mk (blk_below (g := gb171) (o := .cells #[.int .i64 (wrap64 (rd l0 0)), .int .i64 (wrap64 (rd l0 1)), .slice none 0 0, .slice none 0 0, .int .i64 0] 99 (0, 0)) (by (repeat refine zL ?_); refine blk_put (cs := #[.int .i64 (wrap64 (rd l0 0)), .int .i64 (wrap64 (rd l0 1)), .slice none 0 0, .slice none 0 0, .int .i64 0]) ?_ 4 _ rfl; (repeat refine zL ?_); refine blk_put (cs := #[.int .i64 (wrap64 (rd l0 0)), .int .i64 (wrap64 (rd l0 1)), .slice none 0 0, .slice none 0 0, .int .i64 0]) ?_ 3 _ rfl; (repeat refine zL ?_); refine blk_put (cs := #[.int .i64 (wrap64 (rd l0 0)), .int .i64 (wrap64 (rd l0 1)), .slice none 0 0, .slice none 0 0, .int .i64 0]) ?_ 2 _ rfl; (repeat refine zL ?_); refine blk_put (cs := #[.int .i64 (wrap64 (rd l0 0)), .int .i64 0, .slice none 0 0, .slice none 0 0, .int .i64 0]) ?_ 1 _ rfl; (repeat refine zL ?_); refine blk_put (cs := #[.int .i64 0, .int .i64 0, .slice none 0 0, .slice none 0 0, .int .i64 0]) ?_ 0 _ rfl; (repeat refine zL ?_); exact BK171.out) hb); have n2_ := Aside0.mk (below_step zH hb); clear BK168; clear BK171; clear HB; have BK168 := n0_; have BK171 := n1_; have HB := n2_; clear n0_ n1_ n2_; (try clear hb); (try clear hb2); (try clear hk); (try clear hi); have hnb25 := NB171_168.out; have hnc25 := NB168_171.out; obtain ⟨hcz26_0, hcz26_1, hcz26_2, hcz26_3, hcz26_4⟩ := zc5 BK171.out; obtain ⟨hfz26_0, hfz26_1, hfz26_2, hfz26_3, hfz26_4⟩ := zf BK171.out) | ((with_reducible refine gate_callee (f := 130) rfl ?_); refine goesL_ (some 35) rfl rfl Try.func130 (by kernel_rfl) rfl #[.slice (some ad169) l0.length c0, .int .i64 t173] rfl zM ?_; (with_reducible refine (spec_l10TakeList.calls k _ _ l0 t173 t175 t176 true _ ?side1 ?side2 A9.out).mono ?_); (case side1 => exact Kd.C_below HR0.out zH); (case side2 => exact HC0.out); rintro e w27 ⟨v178, rfl, ho0, hb⟩; refine ⟨_, rfl, ?_⟩; have n0_ := Aside0.mk (Kd.R_lower ho0 (below_size zH)); have n1_ := Aside0.mk (blk_below (g := gb168) (o := .cells #[.int .i64 0, .int .i64 0, .slice none 0 0, .slice none 0 0, .int .i64 0] 99 (0, 0)) (by (repeat refine zL ?_); refine blk_far ?_ NB168_171.out _; (repeat refine zL ?_); exact BK168.out) hb); have n2_ := Aside0.mk (blk_below (g := gb171) (o := .cells #[.int .i64 (wrap64 (rd l0 0)), .int .i64 (wrap64 (rd l0 1)), .slice none 0 0, .slice none 0 0, .int .i64 t172] 99 (0, 0)) (by (repeat refine zL ?_); refine blk_put (cs := #[.int .i64 (wrap64 (rd l0 0)), .int .i64 (wrap64 (rd l0 1)), .slice none 0 0, .slice none 0 0, .int .i64 0]) ?_ 4 _ rfl; (repeat refine zL ?_); exact BK171.out) hb); have n3_ := Aside0.mk (below_step zH hb); clear BK168; clear BK171; clear HB; have HO179 := n0_; have BK168 := n1_; have BK171 := n2_; have HB := n3_; clear n0_ n1_ n2_ n3_; (try clear hb); (try clear hb2); (try clear hk); (try clear hi); (try clear ho0); obtain ⟨Ao28, co28, eo28⟩ := Kd.R_slice HO179.out; subst eo28; obtain ⟨hcz29_0, hcz29_1, hcz29_2, hcz29_3, hcz29_4⟩ := zc5 BK171.out; obtain ⟨hfz29_0, hfz29_1, hfz29_2, hfz29_3, hfz29_4⟩ := zf BK171.out) | ((with_reducible refine gate_callee (f := 130) rfl ?_); refine goesL_ (some 46) rfl rfl Try.func130 (by kernel_rfl) rfl #[.slice (some ad169) l0.length c0, .int .i64 t176] rfl zM ?_; (with_reducible refine (spec_l10TakeList.calls k _ _ l0 t176 t180 t181 true _ ?side1 ?side2 A11.out).mono ?_); (case side1 => exact Kd.C_below HR0.out zH); (case side2 => exact HC0.out); rintro e w30 ⟨v183, rfl, ho0, hb⟩; refine ⟨_, rfl, ?_⟩; have n0_ := Aside0.mk (Kd.R_elder' (by (with_reducible repeat (first | apply Kd.R_alloc | apply Kd.R_drewN | apply Kd.R_drew)); exact (Kd.R_mono (Kd.R_far (p := ⟨gb171, 2, none⟩) (Kd.R_types HO179.out BK171.out (by decide)) (fun _ hk => hk.2) (.slice Ao28 t175.length co28)) (fun _ h_ => h_.1))) (Kd.R_base ho0) hb); have n1_ := Aside0.mk (Kd.R_lower (Kd.R_new' ho0 (Kd.R_lt (by (with_reducible repeat (first | apply Kd.R_alloc | apply Kd.R_drewN | apply Kd.R_drew)); exact (Kd.R_mono (Kd.R_far (p := ⟨gb171, 2, none⟩) (Kd.R_types HO179.out BK171.out (by decide)) (fun _ hk => hk.2) (.slice Ao28 t175.length co28)) (fun _ h_ => h_.1))))) (below_size zH)); have n2_ := Aside0.mk (blk_below (g := gb168) (o := .cells #[.int .i64 0, .int .i64 0, .slice none 0 0, .slice none 0 0, .int .i64 0] 99 (0, 0)) (by (repeat refine zL ?_); refine blk_far ?_ NB168_171.out _; (repeat refine zL ?_); exact BK168.out) hb); have n3_ := Aside0.mk (blk_below (g := gb171) (o := .cells #[.int .i64 (wrap64 (rd l0 0)), .int .i64 (wrap64 (rd l0 1)), .slice Ao28 t175.length co28, .slice none 0 0, .int .i64 t172] 99 (0, 0)) (by (repeat refine zL ?_); refine blk_put (cs := #[.int .i64 (wrap64 (rd l0 0)), .int .i64 (wrap64 (rd l0 1)), .slice none 0 0, .slice none 0 0, .int .i64 t172]) ?_ 2 _ rfl; (repeat refine zL ?_); exact BK171.out) hb); have n4_ := Aside0.mk (below_step zH hb); clear HO179; clear BK168; clear BK171; clear HB; have HO179 := n0_; have HO184 := n1_; have BK168 := n2_; have BK171 := n3_; have HB := n4_; clear n0_ n1_ n2_ n3_ n4_; (try clear hb); (try clear hb2); (try clear hk); (try clear hi); (try clear ho0); obtain ⟨Ao31, co31, eo31⟩ := Kd.R_slice HO184.out; subst eo31; obtain ⟨hcz32_0, hcz32_1, hcz32_2, hcz32_3, hcz32_4⟩ := zc5 BK171.out; obtain ⟨hfz32_0, hfz32_1, hfz32_2, hfz32_3, hfz32_4⟩ := zf BK171.out) | (go_at_call 131; (with_reducible refine (spec_JobOk.calls k (wrap64 (rd l0 0)) (wrap64 (rd l0 1)) _ _ t175 _ _ t180 t172 true _ ?side1 ?side2 ?side3 ?side4 A14.out).mono ?_); (case side1 => refine (Kd.R_reads' (e := 3) (base := w.heap.size) (ok := fun k_ => (True ∧ some k_ ≠ (.slice Ao31 t180.length co31 : Value).ownBlock)) (n := t175.length) (c := co28) ?_).2.2; exact (by (with_reducible repeat (first | apply Kd.R_alloc | apply Kd.R_drewN | apply Kd.R_drew)); exact (Kd.R_mono (Kd.R_far (p := ⟨gb171, 3, none⟩) (Kd.R_types HO179.out BK171.out (by decide)) (fun _ hk => hk.2) (.slice Ao31 t180.length co31)) (fun _ h_ => h_.1)))); (case side2 => exact (Kd.R_reads' HO179.out).2.1); (case side3 => refine (Kd.R_reads' (e := 3) (base := w.heap.size) (ok := fun k_ => (True ∧ some k_ ≠ (.slice Ao28 t175.length co28 : Value).ownBlock)) (n := t180.length) (c := co31) ?_).2.2; exact (by (with_reducible repeat (first | apply Kd.R_alloc | apply Kd.R_drewN | apply Kd.R_drew)); exact (Kd.R_mono (Kd.R_far (p := ⟨gb171, 3, none⟩) (Kd.R_types HO184.out BK171.out (by decide)) (fun _ hk => hk.2) (.slice Ao31 t180.length co31)) (fun _ h_ => h_.1)))); (case side4 => exact (Kd.R_reads' HO184.out).2.1); rintro e w33 ⟨rfl, hb⟩; have n0_ := Aside0.mk (Kd.R_below (by (with_reducible repeat (first | apply Kd.R_alloc | apply Kd.R_drewN | apply Kd.R_drew)); exact (Kd.R_mono (Kd.R_far (p := ⟨gb171, 3, none⟩) (Kd.R_types HO179.out BK171.out (by decide)) (fun _ hk => hk.2) (.slice Ao31 t180.length co31)) (fun _ h_ => h_.1))) hb); have n1_ := Aside0.mk (Kd.R_below (by (with_reducible repeat (first | apply Kd.R_alloc | apply Kd.R_drewN | apply Kd.R_drew)); exact (Kd.R_mono (Kd.R_far (p := ⟨gb171, 3, none⟩) (Kd.R_types HO184.out BK171.out (by decide)) (fun _ hk => hk.2) (.slice Ao31 t180.length co31)) (fun _ h_ => h_.1))) hb); have n2_ := Aside0.mk (blk_below (g := gb168) (o := .cells #[.int .i64 0, .int .i64 0, .slice none 0 0, .slice none 0 0, .int .i64 0] 99 (0, 0)) (by (repeat refine zL ?_); refine blk_far ?_ NB168_171.out _; (repeat refine zL ?_); exact BK168.out) hb); have n3_ := Aside0.mk (blk_below (g := gb171) (o := .cells #[.int .i64 (wrap64 (rd l0 0)), .int .i64 (wrap64 (rd l0 1)), .slice Ao28 t175.length co28, .slice Ao31 t180.length co31, .int .i64 t172] 99 (0, 0)) (by (repeat refine zL ?_); refine blk_put (cs := #[.int .i64 (wrap64 (rd l0 0)), .int .i64 (wrap64 (rd l0 1)), .slice Ao28 t175.length co28, .slice none 0 0, .int .i64 t172]) ?_ 3 _ rfl; (repeat refine zL ?_); exact BK171.out) hb); have n4_ := Aside0.mk (below_step zH hb); clear HO179; clear HO184; clear BK168; clear BK171; clear HB; have HO179 := n0_; have HO184 := n1_; have BK168 := n2_; have BK171 := n3_; have HB := n4_; clear n0_ n1_ n2_ n3_ n4_; (try clear hb); (try clear hb2); (try clear hk); (try clear hi); obtain ⟨hcz34_0, hcz34_1, hcz34_2, hcz34_3, hcz34_4⟩ := zc5 BK171.out; obtain ⟨hfz34_0, hfz34_1, hfz34_2, hfz34_3, hfz34_4⟩ := zf BK171.out; obtain ⟨hcz35_0, hcz35_1, hcz35_2, hcz35_3, hcz35_4⟩ := zc5 BK168.out; obtain ⟨hfz35_0, hfz35_1, hfz35_2, hfz35_3, hfz35_4⟩ := zf BK168.out))
         refine bodyPost_ret (results_ct rfl _ _ gb168 99 #[.int .i64 (wrap64 (rd l0 0)), .int .i64 (wrap64 (rd l0 1)), .slice Ao28 t175.length co28, .slice Ao31 t180.length co31, .int .i64 t172] (0, 0) _ rfl (by (repeat refine zL ?_); refine blk_put (cs := #[.int .i64 (wrap64 (rd l0 0)), .int .i64 (wrap64 (rd l0 1)), .slice Ao28 t175.length co28, .slice Ao31 t180.length co31, .int .i64 0]) ?_ 4 _ rfl; (repeat refine zL ?_); refine blk_put (cs := #[.int .i64 (wrap64 (rd l0 0)), .int .i64 (wrap64 (rd l0 1)), .slice Ao28 t175.length co28, .slice none 0 0, .int .i64 0]) ?_ 3 _ rfl; (repeat refine zL ?_); refine blk_put (cs := #[.int .i64 (wrap64 (rd l0 0)), .int .i64 (wrap64 (rd l0 1)), .slice none 0 0, .slice none 0 0, .int .i64 0]) ?_ 2 _ rfl; (repeat refine zL ?_); refine blk_put (cs := #[.int .i64 (wrap64 (rd l0 0)), .int .i64 0, .slice none 0 0, .slice none 0 0, .int .i64 0]) ?_ 1 _ rfl; (repeat refine zL ?_); refine blk_put (cs := #[.int .i64 0, .int .i64 0, .slice none 0 0, .slice none 0 0, .int .i64 0]) ?_ 0 _ rfl; (repeat refine zL ?_); exact BK168.out) Try.underlying99 rfl (by kernel_rfl)) rfl ?_
         exact ⟨_, _, zE, by (with_reducible repeat (first | apply Kd.R_alloc | apply Kd.R_drewN | apply Kd.R_drew)); exact Kd.R_mono (Kd.R_far (p := ⟨gb168, 4, none⟩) (Kd.R_far (p := ⟨gb168, 3, none⟩) (Kd.R_far (p := ⟨gb168, 2, none⟩) (Kd.R_far (p := ⟨gb168, 1, none⟩) (Kd.R_far (p := ⟨gb168, 0, none⟩) (Kd.R_types HO179.out BK168.out (by decide)) (fun _ hk => hk.2) (.int .i64 (wrap64 (rd l0 0)))) (fun _ hk => hk.2) (.int .i64 (wrap64 (rd l0 1)))) (fun _ hk => hk.2) (.slice Ao28 t175.length co28)) (fun _ hk => hk.2) (.slice Ao31 t180.length co31)) (fun _ hk => hk.2) (.int .i64 t172)) (fun _ hk => hk.1.2), by (with_reducible repeat (first | apply Kd.R_alloc | apply Kd.R_drewN | apply Kd.R_drew)); exact Kd.R_mono (Kd.R_far (p := ⟨gb168, 4, none⟩) (Kd.R_far (p := ⟨gb168, 3, none⟩) (Kd.R_far (p := ⟨gb168, 2, none⟩) (Kd.R_far (p := ⟨gb168, 1, none⟩) (Kd.R_far (p := ⟨gb168, 0, none⟩) (Kd.R_types HO184.out BK168.out (by decide)) (fun _ hk => hk.2) (.int .i64 (wrap64 (rd l0 0)))) (fun _ hk => hk.2) (.int .i64 (wrap64 (rd l0 1)))) (fun _ hk => hk.2) (.slice Ao28 t175.length co28)) (fun _ hk => hk.2) (.slice Ao31 t180.length co31)) (fun _ hk => hk.2) (.int .i64 t172)) (fun _ hk => hk.1.2), zH⟩
        ·replace c15 := Bool.eq_false_iff.mpr c15
         subst c15
         replace H : (some (0, 0, ([] : List Int), ([] : List Int), 0, false)) = some (r1, r2, r3, r4, r5, r6) := by rw [if_neg (show ¬ (false = true) by decide)] at H; exact H
         simp only [Option.some.injEq, Prod.mk.injEq] at H
         obtain ⟨rfl, rfl, rfl, rfl, rfl, rfl⟩ := H
         go_enter Try.func85, Try.ntmps85
         try go_wp2_with (first | ((with_reducible refine gate_dst (N := 2) rfl ?_); (try (refine gate_guard (by rfl) ?_; dsimp only)); refine box_event ?hg (N := 2) ?hd (cs := #[.int .i64 0, .int .i64 0, .slice none 0 0, .slice none 0 0, .int .i64 0]) (t := 99) ?hr ?_; (case hd => rfl); (case hg => rfl); (case hr => first | (go_simp; done) | (go_simp; rfl)); intro gb168 hg w36 hbox hb; have n0_ := Aside0.mk (below_step zH hb); have n1_ := Aside0.mk (hbox); have n2_ := Aside0.mk ((by rw [hg]; exact (below_size zH) : w.heap.size ≤ gb168)); have n3_ := Aside0.mk ((by rw [hg]; exact (below_size zH) : w.heap.size ≤ gb168)); clear HB; have HB := n0_; have BK168 := n1_; have GW168 := n2_; have GE168 := n3_; clear n0_ n1_ n2_ n3_; clear hb hbox hg))
         have n0_ := Aside0.mk (blk_drew BK168.out)
         have n1_ := Aside0.mk (below_drew1 HB.out)
         clear BK168
         clear HB
         have BK168 := n0_
         have HB := n1_
         clear n0_ n1_
         have p169 : 0 ≤ (0 : Int) := (by omega)
         have q169 : 0 < (l0.length : Int) := zD
         obtain ⟨ad169, e169, hx169_0⟩ := Kd.at_int HR0.out 0 p169 q169
         have hw169_0 := hx169_0
         (try rw [show ((0 : Int)).toNat = 0 from rfl] at hw169_0)
         (try rw [show 0 * 1 = 0 from rfl] at hw169_0)
         (try rw [Addr.add_zero'] at hw169_0)
         cases e169
         have qi169 : (0 < l0.length) = True := eq_true (by omega)
         (try rw [show ((0 : Int)).toNat = 0 from rfl] at hx169_0)
         (try rw [Addr.add_zero'] at hx169_0)
         replace hx169_0 := (HB.out.cell (World.block_lt_of_cell? w _ hx169_0)).trans hx169_0
         replace p169 := eq_true p169
         replace q169 := eq_true q169
         have p170 : 0 ≤ (1 : Int) := (by omega)
         have q170 : 1 < (l0.length : Int) := zD
         obtain ⟨ad170, e170, hx170_0⟩ := Kd.at_int HR0.out 1 p170 q170
         have hw170_0 := hx170_0
         (try rw [show ((1 : Int)).toNat = 1 from rfl] at hw170_0)
         (try rw [show 1 * 1 = 1 from rfl] at hw170_0)
         (try simp only [Nat.reduceMul, Nat.reduceEqDiff, Go.Addr.add, ↓reduceIte] at hw170_0)
         obtain rfl : ad169 = ad170 := (by injection e170)
         (try simp only [show (1 : Int).toNat = 1 from rfl, Nat.reduceMul, Nat.reduceEqDiff, Go.Addr.add, ↓reduceIte] at hx170_0)
         have qi170 : (1 < l0.length) = True := eq_true (by omega)
         (try rw [show ((1 : Int)).toNat = 1 from rfl] at hx170_0)
         replace hx170_0 := (HB.out.cell (World.block_lt_of_cell? w _ hx170_0)).trans hx170_0
         replace p170 := eq_true p170
         replace q170 := eq_true q170
         refine start_ (n := 11) (S := fun w' => w'.cell? ad169 = some (.int .u8 (rd l0 0)) ∧ w'.cell? ⟨ad169.block, ad169.off + 1, none⟩ = some (.int .u8 (rd l0 1))) (ds := []) #[false, false, false, false, false, false, false, false, false, false, false] (by kernel_rfl) rfl rfl ⟨((HB.out.cell (World.block_lt_of_cell? w _ hw169_0)).trans hw169_0), ((HB.out.cell (World.block_lt_of_cell? w _ hw170_0)).trans hw170_0)⟩ (fun hHeld => ?_); refine with_tabW spec_DecodeJob.tab3 spec_DecodeJob.bits3 (fun HT_ HW_ => ?_)
         generalize w36.drew = w37 at BK168 HB hx169_0 hx170_0 hHeld ⊢
         refine pure_ (i := 0) (N := some 12) (v := ?_) (a' := ?_) #[true, false, false, false, false, false, false, false, false, false, false] rfl rfl (any_of HT_.out (by kernel_rfl)) (fun _ _ _ h => h) (Or.inl ⟨by rfl, ?_⟩) ?_ ?_
         rotate_left;(focus intro w';go_simp;with_reducible rfl);rotate_left;(focus simp only [Act.put, List.setIfInBounds_toArray, List.set_cons_zero, List.set_cons_succ, i64_w, i32_w];rfl)
         refine pure_ (i := 1) (N := some 13) (v := ?_) (a' := ?_) #[true, true, false, false, false, false, false, false, false, false, false] rfl rfl (any_of HT_.out (by kernel_rfl)) (fun _ _ _ h => h) (Or.inl ⟨by rfl, ?_⟩) ?_ ?_
         rotate_left;(focus intro w';go_simp;with_reducible rfl);rotate_left;(focus simp only [Act.put, List.setIfInBounds_toArray, List.set_cons_zero, List.set_cons_succ, i64_w, i32_w];rfl)
         refine pure_ (i := 4) (N := some 16) (v := ?_) (a' := ?_) #[true, true, false, false, true, false, false, false, false, false, false] rfl rfl (any_of HT_.out (by kernel_rfl)) (fun _ _ _ h => h) (Or.inl ⟨by rfl, ?_⟩) ?_ ?_
         rotate_left;(focus intro w';go_simp;with_reducible rfl);rotate_left;(focus simp only [Act.put, List.setIfInBounds_toArray, List.set_cons_zero, List.set_cons_succ, i64_w, i32_w];rfl)
         refine pure_ (i := 5) (N := some 17) (v := ?_) (a' := ?_) #[true, true, false, false, true, true, false, false, false, false, false] rfl rfl (any_of HT_.out (by kernel_rfl)) (fun _ _ _ h => h) (Or.inl ⟨by rfl, ?_⟩) ?_ ?_
         rotate_left;(focus intro w';go_simp;with_reducible rfl);rotate_left;(focus simp only [Act.put, List.setIfInBounds_toArray, List.set_cons_zero, List.set_cons_succ, i64_w, i32_w];rfl)
         refine take_ (i := 2) (N := some 14) (v := ?_) (a' := ?_) #[true, true, true, false, true, true, false, false, false, false, false] rfl rfl (take_ofW HT_.out HW_.out (by kernel_rfl)) (fun _ _ _ h => h) (Or.inl ⟨by rfl, ?_⟩) hHeld ?_ ?_
         rotate_left
         ·rintro w' ⟨s0, s1⟩
          go_simp
          with_reducible rfl
         rotate_left
         ·simp only [Act.put, List.setIfInBounds_toArray, List.set_cons_zero, List.set_cons_succ, i64_w, i32_w]
          rfl
         refine pure_ (i := 3) (N := some 15) (v := ?_) (a' := ?_) #[true, true, true, true, true, true, false, false, false, false, false] rfl rfl (any_of HT_.out (by kernel_rfl)) (fun _ _ _ h => h) (Or.inl ⟨by rfl, ?_⟩) ?_ ?_
         rotate_left;(focus intro w';go_simp;with_reducible rfl);rotate_left;(focus simp only [Act.put, List.setIfInBounds_toArray, List.set_cons_zero, List.set_cons_succ, i64_w, i32_w];rfl)
         refine take_ (i := 6) (N := some 18) (v := ?_) (a' := ?_) #[true, true, true, true, true, true, true, false, false, false, false] rfl rfl (take_ofW HT_.out HW_.out (by kernel_rfl)) (fun _ _ _ h => h) (Or.inl ⟨by rfl, ?_⟩) hHeld ?_ ?_
         rotate_left
         ·rintro w' ⟨s0, s1⟩
          go_simp
          with_reducible rfl
         rotate_left
         ·simp only [Act.put, List.setIfInBounds_toArray, List.set_cons_zero, List.set_cons_succ, i64_w, i32_w]
          rfl
         refine pure_ (i := 7) (N := some 19) (v := ?_) (a' := ?_) #[true, true, true, true, true, true, true, true, false, false, false] rfl rfl (any_of HT_.out (by kernel_rfl)) (fun _ _ _ h => h) (Or.inl ⟨by rfl, ?_⟩) ?_ ?_
         rotate_left;(focus intro w';go_simp;with_reducible rfl);rotate_left;(focus simp only [Act.put, List.setIfInBounds_toArray, List.set_cons_zero, List.set_cons_succ, i64_w, i32_w];rfl)
         refine pure_ (i := 8) (N := some 20) (v := ?_) (a' := ?_) #[true, true, true, true, true, true, true, true, true, false, false] rfl rfl (any_of HT_.out (by kernel_rfl)) (fun _ _ _ h => h) (Or.inl ⟨by rfl, ?_⟩) ?_ ?_
         rotate_left;(focus intro w';go_simp;with_reducible rfl);rotate_left;(focus simp only [Act.put, List.setIfInBounds_toArray, List.set_cons_zero, List.set_cons_succ, i64_w, i32_w];rfl)
         refine one_ (i := 9) (N := some 4) #[true, true, true, true, true, true, true, true, true, true, false] rfl rfl (one_of HT_.out (by kernel_rfl)) (by decide) (fun K hK => ?_)
         refine box_step ?hg (N := 4) ?hd (cs := #[.int .i64 0, .int .i64 0, .slice none 0 0, .slice none 0 0, .int .i64 0]) (t := 99) ?hr ?_; (case hd => rfl); (case hg => rfl); (case hr => first | (go_simp; done) | (go_simp; rfl))
         intro gb171 hg w38 hbox hb
         have n0_ := Aside0.mk (blk_below (g := gb168) (o := .cells #[.int .i64 0, .int .i64 0, .slice none 0 0, .slice none 0 0, .int .i64 0] 99 (0, 0)) (zB BK168.out) hb)
         have n1_ := Aside0.mk (below_step zH hb)
         have n2_ := Aside0.mk (hbox)
         have n3_ := Aside0.mk ((by rw [hg]; exact (below_size zH) : w.heap.size ≤ gb171))
         have n4_ := Aside0.mk ((by rw [hg]; exact (below_size zH) : w.heap.size ≤ gb171))
         have n5_ := Aside0.mk ((by rw [hg]; exact Nat.ne_of_lt (blk_lt (g := gb168) (o := .cells #[.int .i64 0, .int .i64 0, .slice none 0 0, .slice none 0 0, .int .i64 0] 99 (0, 0)) (zB BK168.out)) : gb168 ≠ gb171))
         have n6_ := Aside0.mk ((by rw [hg]; exact Nat.ne_of_gt (blk_lt (g := gb168) (o := .cells #[.int .i64 0, .int .i64 0, .slice none 0 0, .slice none 0 0, .int .i64 0] 99 (0, 0)) (zB BK168.out)) : gb171 ≠ gb168))
         clear BK168
         clear HB
         have BK168 := n0_
         have HB := n1_
         have BK171 := n2_
         have GW171 := n3_
         have GE171 := n4_
         have NB168_171 := n5_
         have NB171_168 := n6_
         clear n0_ n1_ n2_ n3_ n4_ n5_ n6_
         clear hb hbox hg
         refine hK.out _ _ ⟨((HB.out.cell (World.block_lt_of_cell? w _ hw169_0)).trans hw169_0), ((HB.out.cell (World.block_lt_of_cell? w _ hw170_0)).trans hw170_0)⟩ (fun hHeld => ?_)
         clear hK K
         refine norm_ (a' := ?_) ?_ ?_
         rotate_left
         ·show Act.put _ (some 4) _ = _
          simp only [Act.put, List.setIfInBounds_toArray, List.set_cons_zero, List.set_cons_succ, i64_w, i32_w]
          rfl
         refine one_ (i := 10) (N := none) #[true, true, true, true, true, true, true, true, true, true, true] rfl rfl (one_of HT_.out (by kernel_rfl)) (by decide) (fun K hK => ?_)
         have hs39 : w38.cell? ⟨gb171, 0, none⟩ = some (.int .i64 0) := (blk_cell BK171.out 0).trans rfl
         have hfs39 := blk_frozen BK171.out 0
         have hns39_0 := NB168_171.out
         have hms39_0 := NB171_168.out
         have hs40 : w38.cell? ⟨gb171, 1, none⟩ = some (.int .i64 0) := (blk_cell BK171.out 1).trans rfl
         have hfs40 := blk_frozen BK171.out 1
         have hns40_0 := NB168_171.out
         have hms40_0 := NB171_168.out
         have hs41 : w38.cell? ⟨gb171, 2, none⟩ = some (.slice none 0 0) := (blk_cell BK171.out 2).trans rfl
         have hfs41 := blk_frozen BK171.out 2
         have hns41_0 := NB168_171.out
         have hms41_0 := NB171_168.out
         have hs42 : w38.cell? ⟨gb171, 3, none⟩ = some (.slice none 0 0) := (blk_cell BK171.out 3).trans rfl
         have hfs42 := blk_frozen BK171.out 3
         have hns42_0 := NB168_171.out
         have hms42_0 := NB171_168.out
         have hs43 : w38.cell? ⟨gb171, 4, none⟩ = some (.int .i64 0) := (blk_cell BK171.out 4).trans rfl
         have hfs43 := blk_frozen BK171.out 4
         have hns43_0 := NB168_171.out
         have hms43_0 := NB171_168.out
         refine skip_ (w1 := ?_) (by rfl) rfl ?_ ?_
         rotate_left
         ·go_simp
          rfl
         refine hK.out _ _ ⟨((cell_far (p := ⟨gb171, _, none⟩) (zO hw169_0 GW171.out) _).trans (((cell_far (p := ⟨gb171, _, none⟩) (zO hw169_0 GW171.out) _).trans (((cell_far (p := ⟨gb171, _, none⟩) (zO hw169_0 GW171.out) _).trans (((cell_far (p := ⟨gb171, _, none⟩) (zO hw169_0 GW171.out) _).trans (((cell_far (p := ⟨gb171, _, none⟩) (zO hw169_0 GW171.out) _).trans (hHeld.1)))))))))), ((cell_far (p := ⟨gb171, _, none⟩) (zO hw170_0 GW171.out) _).trans (((cell_far (p := ⟨gb171, _, none⟩) (zO hw170_0 GW171.out) _).trans (((cell_far (p := ⟨gb171, _, none⟩) (zO hw170_0 GW171.out) _).trans (((cell_far (p := ⟨gb171, _, none⟩) (zO hw170_0 GW171.out) _).trans (((cell_far (p := ⟨gb171, _, none⟩) (zO hw170_0 GW171.out) _).trans (hHeld.2))))))))))⟩ (fun hHeld => ?_)
         clear hK K
         refine done_ (done_of HT_.out (by kernel_rfl)) ?_
         try go_wp2_with (first | ((with_reducible refine gate_callee (f := 105) rfl ?_); refine goesL_ (some 23) rfl rfl Try.func105 (by kernel_rfl) rfl #[.slice (some ad169) l0.length c0, .int .i64 2] rfl zM ?_; (with_reducible refine (spec_TakeNumber.calls k _ _ l0 2 t172 t173 true _ ?side1 ?side2 A7.out).mono ?_); (case side1 => exact Kd.C_below HR0.out zH); (case side2 => exact HC0.out); rintro e w44 ⟨rfl, hb⟩; refine ⟨_, rfl, ?_⟩; have n0_ := Aside0.mk (blk_below (g := gb168) (o := .cells #[.int .i64 0, .int .i64 0, .slice none 0 0, .slice none 0 0, .int .i64 0] 99 (0, 0)) (by (repeat refine zL ?_); refine blk_far ?_ NB168_171.out _; (repeat refine zL ?_); refine blk_far ?_ NB168_171.out _; (repeat refine zL ?_); refine blk_far ?_ NB168_171.out _; (repeat refine zL ?_); refine blk_far ?_ NB168_171.out _; (repeat refine zL ?_); refine blk_far ?_ NB168_171.out _; (repeat refine zL ?_); exact BK168.out) hb); have n1_ := Aside0.mk (blk_below (g := gb171) (o := .cells #[.int .i64 (wrap64 (rd l0 0)), .int .i64 (wrap64 (rd l0 1)), .slice none 0 0, .slice none 0 0, .int .i64 0] 99 (0, 0)) (by (repeat refine zL ?_); refine blk_put (cs := #[.int .i64 (wrap64 (rd l0 0)), .int .i64 (wrap64 (rd l0 1)), .slice none 0 0, .slice none 0 0, .int .i64 0]) ?_ 4 _ rfl; (repeat refine zL ?_); refine blk_put (cs := #[.int .i64 (wrap64 (rd l0 0)), .int .i64 (wrap64 (rd l0 1)), .slice none 0 0, .slice none 0 0, .int .i64 0]) ?_ 3 _ rfl; (repeat refine zL ?_); refine blk_put (cs := #[.int .i64 (wrap64 (rd l0 0)), .int .i64 (wrap64 (rd l0 1)), .slice none 0 0, .slice none 0 0, .int .i64 0]) ?_ 2 _ rfl; (repeat refine zL ?_); refine blk_put (cs := #[.int .i64 (wrap64 (rd l0 0)), .int .i64 0, .slice none 0 0, .slice none 0 0, .int .i64 0]) ?_ 1 _ rfl; (repeat refine zL ?_); refine blk_put (cs := #[.int .i64 0, .int .i64 0, .slice none 0 0, .slice none 0 0, .int .i64 0]) ?_ 0 _ rfl; (repeat refine zL ?_); exact BK171.out) hb); have n2_ := Aside0.mk (below_step zH hb); clear BK168; clear BK171; clear HB; have BK168 := n0_; have BK171 := n1_; have HB := n2_; clear n0_ n1_ n2_; (try clear hb); (try clear hb2); (try clear hk); (try clear hi); have hnb45 := NB171_168.out; have hnc45 := NB168_171.out; obtain ⟨hcz46_0, hcz46_1, hcz46_2, hcz46_3, hcz46_4⟩ := zc5 BK171.out; obtain ⟨hfz46_0, hfz46_1, hfz46_2, hfz46_3, hfz46_4⟩ := zf BK171.out) | ((with_reducible refine gate_callee (f := 130) rfl ?_); refine goesL_ (some 35) rfl rfl Try.func130 (by kernel_rfl) rfl #[.slice (some ad169) l0.length c0, .int .i64 t173] rfl zM ?_; (with_reducible refine (spec_l10TakeList.calls k _ _ l0 t173 t175 t176 true _ ?side1 ?side2 A9.out).mono ?_); (case side1 => exact Kd.C_below HR0.out zH); (case side2 => exact HC0.out); rintro e w47 ⟨v178, rfl, ho0, hb⟩; refine ⟨_, rfl, ?_⟩; have n0_ := Aside0.mk (Kd.R_lower ho0 (below_size zH)); have n1_ := Aside0.mk (blk_below (g := gb168) (o := .cells #[.int .i64 0, .int .i64 0, .slice none 0 0, .slice none 0 0, .int .i64 0] 99 (0, 0)) (by (repeat refine zL ?_); refine blk_far ?_ NB168_171.out _; (repeat refine zL ?_); exact BK168.out) hb); have n2_ := Aside0.mk (blk_below (g := gb171) (o := .cells #[.int .i64 (wrap64 (rd l0 0)), .int .i64 (wrap64 (rd l0 1)), .slice none 0 0, .slice none 0 0, .int .i64 t172] 99 (0, 0)) (by (repeat refine zL ?_); refine blk_put (cs := #[.int .i64 (wrap64 (rd l0 0)), .int .i64 (wrap64 (rd l0 1)), .slice none 0 0, .slice none 0 0, .int .i64 0]) ?_ 4 _ rfl; (repeat refine zL ?_); exact BK171.out) hb); have n3_ := Aside0.mk (below_step zH hb); clear BK168; clear BK171; clear HB; have HO179 := n0_; have BK168 := n1_; have BK171 := n2_; have HB := n3_; clear n0_ n1_ n2_ n3_; (try clear hb); (try clear hb2); (try clear hk); (try clear hi); (try clear ho0); obtain ⟨Ao48, co48, eo48⟩ := Kd.R_slice HO179.out; subst eo48; obtain ⟨hcz49_0, hcz49_1, hcz49_2, hcz49_3, hcz49_4⟩ := zc5 BK171.out; obtain ⟨hfz49_0, hfz49_1, hfz49_2, hfz49_3, hfz49_4⟩ := zf BK171.out) | ((with_reducible refine gate_callee (f := 130) rfl ?_); refine goesL_ (some 46) rfl rfl Try.func130 (by kernel_rfl) rfl #[.slice (some ad169) l0.length c0, .int .i64 t176] rfl zM ?_; (with_reducible refine (spec_l10TakeList.calls k _ _ l0 t176 t180 t181 true _ ?side1 ?side2 A11.out).mono ?_); (case side1 => exact Kd.C_below HR0.out zH); (case side2 => exact HC0.out); rintro e w50 ⟨v183, rfl, ho0, hb⟩; refine ⟨_, rfl, ?_⟩; have n0_ := Aside0.mk (Kd.R_elder' (by (with_reducible repeat (first | apply Kd.R_alloc | apply Kd.R_drewN | apply Kd.R_drew)); exact (Kd.R_mono (Kd.R_far (p := ⟨gb171, 2, none⟩) (Kd.R_types HO179.out BK171.out (by decide)) (fun _ hk => hk.2) (.slice Ao48 t175.length co48)) (fun _ h_ => h_.1))) (Kd.R_base ho0) hb); have n1_ := Aside0.mk (Kd.R_lower (Kd.R_new' ho0 (Kd.R_lt (by (with_reducible repeat (first | apply Kd.R_alloc | apply Kd.R_drewN | apply Kd.R_drew)); exact (Kd.R_mono (Kd.R_far (p := ⟨gb171, 2, none⟩) (Kd.R_types HO179.out BK171.out (by decide)) (fun _ hk => hk.2) (.slice Ao48 t175.length co48)) (fun _ h_ => h_.1))))) (below_size zH)); have n2_ := Aside0.mk (blk_below (g := gb168) (o := .cells #[.int .i64 0, .int .i64 0, .slice none 0 0, .slice none 0 0, .int .i64 0] 99 (0, 0)) (by (repeat refine zL ?_); refine blk_far ?_ NB168_171.out _; (repeat refine zL ?_); exact BK168.out) hb); have n3_ := Aside0.mk (blk_below (g := gb171) (o := .cells #[.int .i64 (wrap64 (rd l0 0)), .int .i64 (wrap64 (rd l0 1)), .slice Ao48 t175.length co48, .slice none 0 0, .int .i64 t172] 99 (0, 0)) (by (repeat refine zL ?_); refine blk_put (cs := #[.int .i64 (wrap64 (rd l0 0)), .int .i64 (wrap64 (rd l0 1)), .slice none 0 0, .slice none 0 0, .int .i64 t172]) ?_ 2 _ rfl; (repeat refine zL ?_); exact BK171.out) hb); have n4_ := Aside0.mk (below_step zH hb); clear HO179; clear BK168; clear BK171; clear HB; have HO179 := n0_; have HO184 := n1_; have BK168 := n2_; have BK171 := n3_; have HB := n4_; clear n0_ n1_ n2_ n3_ n4_; (try clear hb); (try clear hb2); (try clear hk); (try clear hi); (try clear ho0); obtain ⟨Ao51, co51, eo51⟩ := Kd.R_slice HO184.out; subst eo51; obtain ⟨hcz52_0, hcz52_1, hcz52_2, hcz52_3, hcz52_4⟩ := zc5 BK171.out; obtain ⟨hfz52_0, hfz52_1, hfz52_2, hfz52_3, hfz52_4⟩ := zf BK171.out) | (go_at_call 131; (with_reducible refine (spec_JobOk.calls k (wrap64 (rd l0 0)) (wrap64 (rd l0 1)) _ _ t175 _ _ t180 t172 false _ ?side1 ?side2 ?side3 ?side4 A14.out).mono ?_); (case side1 => refine (Kd.R_reads' (e := 3) (base := w.heap.size) (ok := fun k_ => (True ∧ some k_ ≠ (.slice Ao51 t180.length co51 : Value).ownBlock)) (n := t175.length) (c := co48) ?_).2.2; exact (by (with_reducible repeat (first | apply Kd.R_alloc | apply Kd.R_drewN | apply Kd.R_drew)); exact (Kd.R_mono (Kd.R_far (p := ⟨gb171, 3, none⟩) (Kd.R_types HO179.out BK171.out (by decide)) (fun _ hk => hk.2) (.slice Ao51 t180.length co51)) (fun _ h_ => h_.1)))); (case side2 => exact (Kd.R_reads' HO179.out).2.1); (case side3 => refine (Kd.R_reads' (e := 3) (base := w.heap.size) (ok := fun k_ => (True ∧ some k_ ≠ (.slice Ao48 t175.length co48 : Value).ownBlock)) (n := t180.length) (c := co51) ?_).2.2; exact (by (with_reducible repeat (first | apply Kd.R_alloc | apply Kd.R_drewN | apply Kd.R_drew)); exact (Kd.R_mono (Kd.R_far (p := ⟨gb171, 3, none⟩) (Kd.R_types HO184.out BK171.out (by decide)) (fun _ hk => hk.2) (.slice Ao51 t180.length co51)) (fun _ h_ => h_.1)))); (case side4 => exact (Kd.R_reads' HO184.out).2.1); rintro e w53 ⟨rfl, hb⟩; have n0_ := Aside0.mk (Kd.R_below (by (with_reducible repeat (first | apply Kd.R_alloc | apply Kd.R_drewN | apply Kd.R_drew)); exact (Kd.R_mono (Kd.R_far (p := ⟨gb171, 3, none⟩) (Kd.R_types HO179.out BK171.out (by decide)) (fun _ hk => hk.2) (.slice Ao51 t180.length co51)) (fun _ h_ => h_.1))) hb); have n1_ := Aside0.mk (Kd.R_below (by (with_reducible repeat (first | apply Kd.R_alloc | apply Kd.R_drewN | apply Kd.R_drew)); exact (Kd.R_mono (Kd.R_far (p := ⟨gb171, 3, none⟩) (Kd.R_types HO184.out BK171.out (by decide)) (fun _ hk => hk.2) (.slice Ao51 t180.length co51)) (fun _ h_ => h_.1))) hb); have n2_ := Aside0.mk (blk_below (g := gb168) (o := .cells #[.int .i64 0, .int .i64 0, .slice none 0 0, .slice none 0 0, .int .i64 0] 99 (0, 0)) (by (repeat refine zL ?_); refine blk_far ?_ NB168_171.out _; (repeat refine zL ?_); exact BK168.out) hb); have n3_ := Aside0.mk (blk_below (g := gb171) (o := .cells #[.int .i64 (wrap64 (rd l0 0)), .int .i64 (wrap64 (rd l0 1)), .slice Ao48 t175.length co48, .slice Ao51 t180.length co51, .int .i64 t172] 99 (0, 0)) (by (repeat refine zL ?_); refine blk_put (cs := #[.int .i64 (wrap64 (rd l0 0)), .int .i64 (wrap64 (rd l0 1)), .slice Ao48 t175.length co48, .slice none 0 0, .int .i64 t172]) ?_ 3 _ rfl; (repeat refine zL ?_); exact BK171.out) hb); have n4_ := Aside0.mk (below_step zH hb); clear HO179; clear HO184; clear BK168; clear BK171; clear HB; have HO179 := n0_; have HO184 := n1_; have BK168 := n2_; have BK171 := n3_; have HB := n4_; clear n0_ n1_ n2_ n3_ n4_; (try clear hb); (try clear hb2); (try clear hk); (try clear hi); obtain ⟨hcz54_0, hcz54_1, hcz54_2, hcz54_3, hcz54_4⟩ := zc5 BK168.out; obtain ⟨hfz54_0, hfz54_1, hfz54_2, hfz54_3, hfz54_4⟩ := zf BK168.out))
         refine bodyPost_ret (results_ct rfl _ _ gb168 99 #[.int .i64 0, .int .i64 0, .slice none 0 0, .slice none 0 0, .int .i64 0] (0, 0) _ rfl (by (repeat refine zL ?_); refine blk_put (cs := #[.int .i64 0, .int .i64 0, .slice none 0 0, .slice none 0 0, .int .i64 0]) ?_ 4 _ rfl; (repeat refine zL ?_); refine blk_put (cs := #[.int .i64 0, .int .i64 0, .slice none 0 0, .slice none 0 0, .int .i64 0]) ?_ 3 _ rfl; (repeat refine zL ?_); refine blk_put (cs := #[.int .i64 0, .int .i64 0, .slice none 0 0, .slice none 0 0, .int .i64 0]) ?_ 2 _ rfl; (repeat refine zL ?_); refine blk_put (cs := #[.int .i64 0, .int .i64 0, .slice none 0 0, .slice none 0 0, .int .i64 0]) ?_ 1 _ rfl; (repeat refine zL ?_); refine blk_put (cs := #[.int .i64 0, .int .i64 0, .slice none 0 0, .slice none 0 0, .int .i64 0]) ?_ 0 _ rfl; (repeat refine zL ?_); exact BK168.out) Try.underlying99 rfl (by kernel_rfl)) rfl ?_
         exact ⟨_, _, zE, zN, zN, zH⟩
       ·rw [if_neg c13] at H
        have c13b0 : (t181 == (l0.length : Int)) = false := beq_eq_false_iff_ne.mpr c13
        have c13b1 : (t181 != (l0.length : Int)) = true := bne_iff_ne.mpr c13
        simp only [Option.some.injEq, Prod.mk.injEq] at H
        obtain ⟨rfl, rfl, rfl, rfl, rfl, rfl⟩ := H
        go_enter Try.func85, Try.ntmps85
        try go_wp2_with (first | ((with_reducible refine gate_dst (N := 2) rfl ?_); (try (refine gate_guard (by rfl) ?_; dsimp only)); refine box_event ?hg (N := 2) ?hd (cs := #[.int .i64 0, .int .i64 0, .slice none 0 0, .slice none 0 0, .int .i64 0]) (t := 99) ?hr ?_; (case hd => rfl); (case hg => rfl); (case hr => first | (go_simp; done) | (go_simp; rfl)); intro gb168 hg w55 hbox hb; have n0_ := Aside0.mk (below_step zH hb); have n1_ := Aside0.mk (hbox); have n2_ := Aside0.mk ((by rw [hg]; exact (below_size zH) : w.heap.size ≤ gb168)); have n3_ := Aside0.mk ((by rw [hg]; exact (below_size zH) : w.heap.size ≤ gb168)); clear HB; have HB := n0_; have BK168 := n1_; have GW168 := n2_; have GE168 := n3_; clear n0_ n1_ n2_ n3_; clear hb hbox hg))
        have n0_ := Aside0.mk (blk_drew BK168.out)
        have n1_ := Aside0.mk (below_drew1 HB.out)
        clear BK168
        clear HB
        have BK168 := n0_
        have HB := n1_
        clear n0_ n1_
        have p169 : 0 ≤ (0 : Int) := (by omega)
        have q169 : 0 < (l0.length : Int) := zD
        obtain ⟨ad169, e169, hx169_0⟩ := Kd.at_int HR0.out 0 p169 q169
        have hw169_0 := hx169_0
        (try rw [show ((0 : Int)).toNat = 0 from rfl] at hw169_0)
        (try rw [show 0 * 1 = 0 from rfl] at hw169_0)
        (try rw [Addr.add_zero'] at hw169_0)
        cases e169
        have qi169 : (0 < l0.length) = True := eq_true (by omega)
        (try rw [show ((0 : Int)).toNat = 0 from rfl] at hx169_0)
        (try rw [Addr.add_zero'] at hx169_0)
        replace hx169_0 := (HB.out.cell (World.block_lt_of_cell? w _ hx169_0)).trans hx169_0
        replace p169 := eq_true p169
        replace q169 := eq_true q169
        have p170 : 0 ≤ (1 : Int) := (by omega)
        have q170 : 1 < (l0.length : Int) := zD
        obtain ⟨ad170, e170, hx170_0⟩ := Kd.at_int HR0.out 1 p170 q170
        have hw170_0 := hx170_0
        (try rw [show ((1 : Int)).toNat = 1 from rfl] at hw170_0)
        (try rw [show 1 * 1 = 1 from rfl] at hw170_0)
        (try simp only [Nat.reduceMul, Nat.reduceEqDiff, Go.Addr.add, ↓reduceIte] at hw170_0)
        obtain rfl : ad169 = ad170 := (by injection e170)
        (try simp only [show (1 : Int).toNat = 1 from rfl, Nat.reduceMul, Nat.reduceEqDiff, Go.Addr.add, ↓reduceIte] at hx170_0)
        have qi170 : (1 < l0.length) = True := eq_true (by omega)
        (try rw [show ((1 : Int)).toNat = 1 from rfl] at hx170_0)
        replace hx170_0 := (HB.out.cell (World.block_lt_of_cell? w _ hx170_0)).trans hx170_0
        replace p170 := eq_true p170
        replace q170 := eq_true q170
        refine start_ (n := 11) (S := fun w' => w'.cell? ad169 = some (.int .u8 (rd l0 0)) ∧ w'.cell? ⟨ad169.block, ad169.off + 1, none⟩ = some (.int .u8 (rd l0 1))) (ds := []) #[false, false, false, false, false, false, false, false, false, false, false] (by kernel_rfl) rfl rfl ⟨((HB.out.cell (World.block_lt_of_cell? w _ hw169_0)).trans hw169_0), ((HB.out.cell (World.block_lt_of_cell? w _ hw170_0)).trans hw170_0)⟩ (fun hHeld => ?_); refine with_tabW spec_DecodeJob.tab3 spec_DecodeJob.bits3 (fun HT_ HW_ => ?_)
        generalize w55.drew = w56 at BK168 HB hx169_0 hx170_0 hHeld ⊢
        refine pure_ (i := 0) (N := some 12) (v := ?_) (a' := ?_) #[true, false, false, false, false, false, false, false, false, false, false] rfl rfl (any_of HT_.out (by kernel_rfl)) (fun _ _ _ h => h) (Or.inl ⟨by rfl, ?_⟩) ?_ ?_
        rotate_left;(focus intro w';go_simp;with_reducible rfl);rotate_left;(focus simp only [Act.put, List.setIfInBounds_toArray, List.set_cons_zero, List.set_cons_succ, i64_w, i32_w];rfl)
        refine pure_ (i := 1) (N := some 13) (v := ?_) (a' := ?_) #[true, true, false, false, false, false, false, false, false, false, false] rfl rfl (any_of HT_.out (by kernel_rfl)) (fun _ _ _ h => h) (Or.inl ⟨by rfl, ?_⟩) ?_ ?_
        rotate_left;(focus intro w';go_simp;with_reducible rfl);rotate_left;(focus simp only [Act.put, List.setIfInBounds_toArray, List.set_cons_zero, List.set_cons_succ, i64_w, i32_w];rfl)
        refine pure_ (i := 4) (N := some 16) (v := ?_) (a' := ?_) #[true, true, false, false, true, false, false, false, false, false, false] rfl rfl (any_of HT_.out (by kernel_rfl)) (fun _ _ _ h => h) (Or.inl ⟨by rfl, ?_⟩) ?_ ?_
        rotate_left;(focus intro w';go_simp;with_reducible rfl);rotate_left;(focus simp only [Act.put, List.setIfInBounds_toArray, List.set_cons_zero, List.set_cons_succ, i64_w, i32_w];rfl)
        refine pure_ (i := 5) (N := some 17) (v := ?_) (a' := ?_) #[true, true, false, false, true, true, false, false, false, false, false] rfl rfl (any_of HT_.out (by kernel_rfl)) (fun _ _ _ h => h) (Or.inl ⟨by rfl, ?_⟩) ?_ ?_
        rotate_left;(focus intro w';go_simp;with_reducible rfl);rotate_left;(focus simp only [Act.put, List.setIfInBounds_toArray, List.set_cons_zero, List.set_cons_succ, i64_w, i32_w];rfl)
        refine take_ (i := 2) (N := some 14) (v := ?_) (a' := ?_) #[true, true, true, false, true, true, false, false, false, false, false] rfl rfl (take_ofW HT_.out HW_.out (by kernel_rfl)) (fun _ _ _ h => h) (Or.inl ⟨by rfl, ?_⟩) hHeld ?_ ?_
        rotate_left
        ·rintro w' ⟨s0, s1⟩
         go_simp
         with_reducible rfl
        rotate_left
        ·simp only [Act.put, List.setIfInBounds_toArray, List.set_cons_zero, List.set_cons_succ, i64_w, i32_w]
         rfl
        refine pure_ (i := 3) (N := some 15) (v := ?_) (a' := ?_) #[true, true, true, true, true, true, false, false, false, false, false] rfl rfl (any_of HT_.out (by kernel_rfl)) (fun _ _ _ h => h) (Or.inl ⟨by rfl, ?_⟩) ?_ ?_
        rotate_left;(focus intro w';go_simp;with_reducible rfl);rotate_left;(focus simp only [Act.put, List.setIfInBounds_toArray, List.set_cons_zero, List.set_cons_succ, i64_w, i32_w];rfl)
        refine take_ (i := 6) (N := some 18) (v := ?_) (a' := ?_) #[true, true, true, true, true, true, true, false, false, false, false] rfl rfl (take_ofW HT_.out HW_.out (by kernel_rfl)) (fun _ _ _ h => h) (Or.inl ⟨by rfl, ?_⟩) hHeld ?_ ?_
        rotate_left
        ·rintro w' ⟨s0, s1⟩
         go_simp
         with_reducible rfl
        rotate_left
        ·simp only [Act.put, List.setIfInBounds_toArray, List.set_cons_zero, List.set_cons_succ, i64_w, i32_w]
         rfl
        refine pure_ (i := 7) (N := some 19) (v := ?_) (a' := ?_) #[true, true, true, true, true, true, true, true, false, false, false] rfl rfl (any_of HT_.out (by kernel_rfl)) (fun _ _ _ h => h) (Or.inl ⟨by rfl, ?_⟩) ?_ ?_
        rotate_left;(focus intro w';go_simp;with_reducible rfl);rotate_left;(focus simp only [Act.put, List.setIfInBounds_toArray, List.set_cons_zero, List.set_cons_succ, i64_w, i32_w];rfl)
        refine pure_ (i := 8) (N := some 20) (v := ?_) (a' := ?_) #[true, true, true, true, true, true, true, true, true, false, false] rfl rfl (any_of HT_.out (by kernel_rfl)) (fun _ _ _ h => h) (Or.inl ⟨by rfl, ?_⟩) ?_ ?_
        rotate_left;(focus intro w';go_simp;with_reducible rfl);rotate_left;(focus simp only [Act.put, List.setIfInBounds_toArray, List.set_cons_zero, List.set_cons_succ, i64_w, i32_w];rfl)
        refine one_ (i := 9) (N := some 4) #[true, true, true, true, true, true, true, true, true, true, false] rfl rfl (one_of HT_.out (by kernel_rfl)) (by decide) (fun K hK => ?_)
        refine box_step ?hg (N := 4) ?hd (cs := #[.int .i64 0, .int .i64 0, .slice none 0 0, .slice none 0 0, .int .i64 0]) (t := 99) ?hr ?_; (case hd => rfl); (case hg => rfl); (case hr => first | (go_simp; done) | (go_simp; rfl))
        intro gb171 hg w57 hbox hb
        have n0_ := Aside0.mk (blk_below (g := gb168) (o := .cells #[.int .i64 0, .int .i64 0, .slice none 0 0, .slice none 0 0, .int .i64 0] 99 (0, 0)) (zB BK168.out) hb)
        have n1_ := Aside0.mk (below_step zH hb)
        have n2_ := Aside0.mk (hbox)
        have n3_ := Aside0.mk ((by rw [hg]; exact (below_size zH) : w.heap.size ≤ gb171))
        have n4_ := Aside0.mk ((by rw [hg]; exact (below_size zH) : w.heap.size ≤ gb171))
        have n5_ := Aside0.mk ((by rw [hg]; exact Nat.ne_of_lt (blk_lt (g := gb168) (o := .cells #[.int .i64 0, .int .i64 0, .slice none 0 0, .slice none 0 0, .int .i64 0] 99 (0, 0)) (zB BK168.out)) : gb168 ≠ gb171))
        have n6_ := Aside0.mk ((by rw [hg]; exact Nat.ne_of_gt (blk_lt (g := gb168) (o := .cells #[.int .i64 0, .int .i64 0, .slice none 0 0, .slice none 0 0, .int .i64 0] 99 (0, 0)) (zB BK168.out)) : gb171 ≠ gb168))
        clear BK168
        clear HB
        have BK168 := n0_
        have HB := n1_
        have BK171 := n2_
        have GW171 := n3_
        have GE171 := n4_
        have NB168_171 := n5_
        have NB171_168 := n6_
        clear n0_ n1_ n2_ n3_ n4_ n5_ n6_
        clear hb hbox hg
        refine hK.out _ _ ⟨((HB.out.cell (World.block_lt_of_cell? w _ hw169_0)).trans hw169_0), ((HB.out.cell (World.block_lt_of_cell? w _ hw170_0)).trans hw170_0)⟩ (fun hHeld => ?_)
        clear hK K
        refine norm_ (a' := ?_) ?_ ?_
        rotate_left
        ·show Act.put _ (some 4) _ = _
         simp only [Act.put, List.setIfInBounds_toArray, List.set_cons_zero, List.set_cons_succ, i64_w, i32_w]
         rfl
        refine one_ (i := 10) (N := none) #[true, true, true, true, true, true, true, true, true, true, true] rfl rfl (one_of HT_.out (by kernel_rfl)) (by decide) (fun K hK => ?_)
        have hs58 : w57.cell? ⟨gb171, 0, none⟩ = some (.int .i64 0) := (blk_cell BK171.out 0).trans rfl
        have hfs58 := blk_frozen BK171.out 0
        have hns58_0 := NB168_171.out
        have hms58_0 := NB171_168.out
        have hs59 : w57.cell? ⟨gb171, 1, none⟩ = some (.int .i64 0) := (blk_cell BK171.out 1).trans rfl
        have hfs59 := blk_frozen BK171.out 1
        have hns59_0 := NB168_171.out
        have hms59_0 := NB171_168.out
        have hs60 : w57.cell? ⟨gb171, 2, none⟩ = some (.slice none 0 0) := (blk_cell BK171.out 2).trans rfl
        have hfs60 := blk_frozen BK171.out 2
        have hns60_0 := NB168_171.out
        have hms60_0 := NB171_168.out
        have hs61 : w57.cell? ⟨gb171, 3, none⟩ = some (.slice none 0 0) := (blk_cell BK171.out 3).trans rfl
        have hfs61 := blk_frozen BK171.out 3
        have hns61_0 := NB168_171.out
        have hms61_0 := NB171_168.out
        have hs62 : w57.cell? ⟨gb171, 4, none⟩ = some (.int .i64 0) := (blk_cell BK171.out 4).trans rfl
        have hfs62 := blk_frozen BK171.out 4
        have hns62_0 := NB168_171.out
        have hms62_0 := NB171_168.out
        refine skip_ (w1 := ?_) (by rfl) rfl ?_ ?_
        rotate_left
        ·go_simp
         rfl
        refine hK.out _ _ ⟨((cell_far (p := ⟨gb171, _, none⟩) (zO hw169_0 GW171.out) _).trans (((cell_far (p := ⟨gb171, _, none⟩) (zO hw169_0 GW171.out) _).trans (((cell_far (p := ⟨gb171, _, none⟩) (zO hw169_0 GW171.out) _).trans (((cell_far (p := ⟨gb171, _, none⟩) (zO hw169_0 GW171.out) _).trans (((cell_far (p := ⟨gb171, _, none⟩) (zO hw169_0 GW171.out) _).trans (hHeld.1)))))))))), ((cell_far (p := ⟨gb171, _, none⟩) (zO hw170_0 GW171.out) _).trans (((cell_far (p := ⟨gb171, _, none⟩) (zO hw170_0 GW171.out) _).trans (((cell_far (p := ⟨gb171, _, none⟩) (zO hw170_0 GW171.out) _).trans (((cell_far (p := ⟨gb171, _, none⟩) (zO hw170_0 GW171.out) _).trans (((cell_far (p := ⟨gb171, _, none⟩) (zO hw170_0 GW171.out) _).trans (hHeld.2))))))))))⟩ (fun hHeld => ?_)
        clear hK K
        refine done_ (done_of HT_.out (by kernel_rfl)) ?_
        try go_wp2_with (first | ((with_reducible refine gate_callee (f := 105) rfl ?_); refine goesL_ (some 23) rfl rfl Try.func105 (by kernel_rfl) rfl #[.slice (some ad169) l0.length c0, .int .i64 2] rfl zM ?_; (with_reducible refine (spec_TakeNumber.calls k _ _ l0 2 t172 t173 true _ ?side1 ?side2 A7.out).mono ?_); (case side1 => exact Kd.C_below HR0.out zH); (case side2 => exact HC0.out); rintro e w63 ⟨rfl, hb⟩; refine ⟨_, rfl, ?_⟩; have n0_ := Aside0.mk (blk_below (g := gb168) (o := .cells #[.int .i64 0, .int .i64 0, .slice none 0 0, .slice none 0 0, .int .i64 0] 99 (0, 0)) (by (repeat refine zL ?_); refine blk_far ?_ NB168_171.out _; (repeat refine zL ?_); refine blk_far ?_ NB168_171.out _; (repeat refine zL ?_); refine blk_far ?_ NB168_171.out _; (repeat refine zL ?_); refine blk_far ?_ NB168_171.out _; (repeat refine zL ?_); refine blk_far ?_ NB168_171.out _; (repeat refine zL ?_); exact BK168.out) hb); have n1_ := Aside0.mk (blk_below (g := gb171) (o := .cells #[.int .i64 (wrap64 (rd l0 0)), .int .i64 (wrap64 (rd l0 1)), .slice none 0 0, .slice none 0 0, .int .i64 0] 99 (0, 0)) (by (repeat refine zL ?_); refine blk_put (cs := #[.int .i64 (wrap64 (rd l0 0)), .int .i64 (wrap64 (rd l0 1)), .slice none 0 0, .slice none 0 0, .int .i64 0]) ?_ 4 _ rfl; (repeat refine zL ?_); refine blk_put (cs := #[.int .i64 (wrap64 (rd l0 0)), .int .i64 (wrap64 (rd l0 1)), .slice none 0 0, .slice none 0 0, .int .i64 0]) ?_ 3 _ rfl; (repeat refine zL ?_); refine blk_put (cs := #[.int .i64 (wrap64 (rd l0 0)), .int .i64 (wrap64 (rd l0 1)), .slice none 0 0, .slice none 0 0, .int .i64 0]) ?_ 2 _ rfl; (repeat refine zL ?_); refine blk_put (cs := #[.int .i64 (wrap64 (rd l0 0)), .int .i64 0, .slice none 0 0, .slice none 0 0, .int .i64 0]) ?_ 1 _ rfl; (repeat refine zL ?_); refine blk_put (cs := #[.int .i64 0, .int .i64 0, .slice none 0 0, .slice none 0 0, .int .i64 0]) ?_ 0 _ rfl; (repeat refine zL ?_); exact BK171.out) hb); have n2_ := Aside0.mk (below_step zH hb); clear BK168; clear BK171; clear HB; have BK168 := n0_; have BK171 := n1_; have HB := n2_; clear n0_ n1_ n2_; (try clear hb); (try clear hb2); (try clear hk); (try clear hi); have hnb64 := NB171_168.out; have hnc64 := NB168_171.out; obtain ⟨hcz65_0, hcz65_1, hcz65_2, hcz65_3, hcz65_4⟩ := zc5 BK171.out; obtain ⟨hfz65_0, hfz65_1, hfz65_2, hfz65_3, hfz65_4⟩ := zf BK171.out) | ((with_reducible refine gate_callee (f := 130) rfl ?_); refine goesL_ (some 35) rfl rfl Try.func130 (by kernel_rfl) rfl #[.slice (some ad169) l0.length c0, .int .i64 t173] rfl zM ?_; (with_reducible refine (spec_l10TakeList.calls k _ _ l0 t173 t175 t176 true _ ?side1 ?side2 A9.out).mono ?_); (case side1 => exact Kd.C_below HR0.out zH); (case side2 => exact HC0.out); rintro e w66 ⟨v178, rfl, ho0, hb⟩; refine ⟨_, rfl, ?_⟩; have n0_ := Aside0.mk (Kd.R_lower ho0 (below_size zH)); have n1_ := Aside0.mk (blk_below (g := gb168) (o := .cells #[.int .i64 0, .int .i64 0, .slice none 0 0, .slice none 0 0, .int .i64 0] 99 (0, 0)) (by (repeat refine zL ?_); refine blk_far ?_ NB168_171.out _; (repeat refine zL ?_); exact BK168.out) hb); have n2_ := Aside0.mk (blk_below (g := gb171) (o := .cells #[.int .i64 (wrap64 (rd l0 0)), .int .i64 (wrap64 (rd l0 1)), .slice none 0 0, .slice none 0 0, .int .i64 t172] 99 (0, 0)) (by (repeat refine zL ?_); refine blk_put (cs := #[.int .i64 (wrap64 (rd l0 0)), .int .i64 (wrap64 (rd l0 1)), .slice none 0 0, .slice none 0 0, .int .i64 0]) ?_ 4 _ rfl; (repeat refine zL ?_); exact BK171.out) hb); have n3_ := Aside0.mk (below_step zH hb); clear BK168; clear BK171; clear HB; have HO179 := n0_; have BK168 := n1_; have BK171 := n2_; have HB := n3_; clear n0_ n1_ n2_ n3_; (try clear hb); (try clear hb2); (try clear hk); (try clear hi); (try clear ho0); obtain ⟨Ao67, co67, eo67⟩ := Kd.R_slice HO179.out; subst eo67; obtain ⟨hcz68_0, hcz68_1, hcz68_2, hcz68_3, hcz68_4⟩ := zc5 BK171.out; obtain ⟨hfz68_0, hfz68_1, hfz68_2, hfz68_3, hfz68_4⟩ := zf BK171.out) | ((with_reducible refine gate_callee (f := 130) rfl ?_); refine goesL_ (some 46) rfl rfl Try.func130 (by kernel_rfl) rfl #[.slice (some ad169) l0.length c0, .int .i64 t176] rfl zM ?_; (with_reducible refine (spec_l10TakeList.calls k _ _ l0 t176 t180 t181 true _ ?side1 ?side2 A11.out).mono ?_); (case side1 => exact Kd.C_below HR0.out zH); (case side2 => exact HC0.out); rintro e w69 ⟨v183, rfl, ho0, hb⟩; refine ⟨_, rfl, ?_⟩; have n0_ := Aside0.mk (Kd.R_elder' (by (with_reducible repeat (first | apply Kd.R_alloc | apply Kd.R_drewN | apply Kd.R_drew)); exact (Kd.R_mono (Kd.R_far (p := ⟨gb171, 2, none⟩) (Kd.R_types HO179.out BK171.out (by decide)) (fun _ hk => hk.2) (.slice Ao67 t175.length co67)) (fun _ h_ => h_.1))) (Kd.R_base ho0) hb); have n1_ := Aside0.mk (Kd.R_lower (Kd.R_new' ho0 (Kd.R_lt (by (with_reducible repeat (first | apply Kd.R_alloc | apply Kd.R_drewN | apply Kd.R_drew)); exact (Kd.R_mono (Kd.R_far (p := ⟨gb171, 2, none⟩) (Kd.R_types HO179.out BK171.out (by decide)) (fun _ hk => hk.2) (.slice Ao67 t175.length co67)) (fun _ h_ => h_.1))))) (below_size zH)); have n2_ := Aside0.mk (blk_below (g := gb168) (o := .cells #[.int .i64 0, .int .i64 0, .slice none 0 0, .slice none 0 0, .int .i64 0] 99 (0, 0)) (by (repeat refine zL ?_); refine blk_far ?_ NB168_171.out _; (repeat refine zL ?_); exact BK168.out) hb); have n3_ := Aside0.mk (blk_below (g := gb171) (o := .cells #[.int .i64 (wrap64 (rd l0 0)), .int .i64 (wrap64 (rd l0 1)), .slice Ao67 t175.length co67, .slice none 0 0, .int .i64 t172] 99 (0, 0)) (by (repeat refine zL ?_); refine blk_put (cs := #[.int .i64 (wrap64 (rd l0 0)), .int .i64 (wrap64 (rd l0 1)), .slice none 0 0, .slice none 0 0, .int .i64 t172]) ?_ 2 _ rfl; (repeat refine zL ?_); exact BK171.out) hb); have n4_ := Aside0.mk (below_step zH hb); clear HO179; clear BK168; clear BK171; clear HB; have HO179 := n0_; have HO184 := n1_; have BK168 := n2_; have BK171 := n3_; have HB := n4_; clear n0_ n1_ n2_ n3_ n4_; (try clear hb); (try clear hb2); (try clear hk); (try clear hi); (try clear ho0); obtain ⟨Ao70, co70, eo70⟩ := Kd.R_slice HO184.out; subst eo70; obtain ⟨hcz71_0, hcz71_1, hcz71_2, hcz71_3, hcz71_4⟩ := zc5 BK171.out; obtain ⟨hfz71_0, hfz71_1, hfz71_2, hfz71_3, hfz71_4⟩ := zf BK171.out; obtain ⟨hcz72_0, hcz72_1, hcz72_2, hcz72_3, hcz72_4⟩ := zc5 BK168.out; obtain ⟨hfz72_0, hfz72_1, hfz72_2, hfz72_3, hfz72_4⟩ := zf BK168.out))
        refine bodyPost_ret (results_ct rfl _ _ gb168 99 #[.int .i64 0, .int .i64 0, .slice none 0 0, .slice none 0 0, .int .i64 0] (0, 0) _ rfl (by (repeat refine zL ?_); refine blk_put (cs := #[.int .i64 0, .int .i64 0, .slice none 0 0, .slice none 0 0, .int .i64 0]) ?_ 4 _ rfl; (repeat refine zL ?_); refine blk_put (cs := #[.int .i64 0, .int .i64 0, .slice none 0 0, .slice none 0 0, .int .i64 0]) ?_ 3 _ rfl; (repeat refine zL ?_); refine blk_put (cs := #[.int .i64 0, .int .i64 0, .slice none 0 0, .slice none 0 0, .int .i64 0]) ?_ 2 _ rfl; (repeat refine zL ?_); refine blk_put (cs := #[.int .i64 0, .int .i64 0, .slice none 0 0, .slice none 0 0, .int .i64 0]) ?_ 1 _ rfl; (repeat refine zL ?_); refine blk_put (cs := #[.int .i64 0, .int .i64 0, .slice none 0 0, .slice none 0 0, .int .i64 0]) ?_ 0 _ rfl; (repeat refine zL ?_); refine blk_far ?_ NB168_171.out _; (repeat refine zL ?_); exact BK168.out) Try.underlying99 rfl (by kernel_rfl)) rfl ?_
        exact ⟨_, _, zE, zN, zN, zH⟩
      ·replace c12 := Bool.eq_false_iff.mpr c12
       subst c12
       replace H : (some (0, 0, ([] : List Int), ([] : List Int), 0, false)) = some (r1, r2, r3, r4, r5, r6) := by rw [if_neg (show ¬ (false = true) by decide)] at H; exact H
       simp only [Option.some.injEq, Prod.mk.injEq] at H
       obtain ⟨rfl, rfl, rfl, rfl, rfl, rfl⟩ := H
       go_enter Try.func85, Try.ntmps85
       try go_wp2_with (first | ((with_reducible refine gate_dst (N := 2) rfl ?_); (try (refine gate_guard (by rfl) ?_; dsimp only)); refine box_event ?hg (N := 2) ?hd (cs := #[.int .i64 0, .int .i64 0, .slice none 0 0, .slice none 0 0, .int .i64 0]) (t := 99) ?hr ?_; (case hd => rfl); (case hg => rfl); (case hr => first | (go_simp; done) | (go_simp; rfl)); intro gb168 hg w73 hbox hb; have n0_ := Aside0.mk (below_step zH hb); have n1_ := Aside0.mk (hbox); have n2_ := Aside0.mk ((by rw [hg]; exact (below_size zH) : w.heap.size ≤ gb168)); have n3_ := Aside0.mk ((by rw [hg]; exact (below_size zH) : w.heap.size ≤ gb168)); clear HB; have HB := n0_; have BK168 := n1_; have GW168 := n2_; have GE168 := n3_; clear n0_ n1_ n2_ n3_; clear hb hbox hg))
       have n0_ := Aside0.mk (blk_drew BK168.out)
       have n1_ := Aside0.mk (below_drew1 HB.out)
       clear BK168
       clear HB
       have BK168 := n0_
       have HB := n1_
       clear n0_ n1_
       have p169 : 0 ≤ (0 : Int) := (by omega)
       have q169 : 0 < (l0.length : Int) := zD
       obtain ⟨ad169, e169, hx169_0⟩ := Kd.at_int HR0.out 0 p169 q169
       have hw169_0 := hx169_0
       (try rw [show ((0 : Int)).toNat = 0 from rfl] at hw169_0)
       (try rw [show 0 * 1 = 0 from rfl] at hw169_0)
       (try rw [Addr.add_zero'] at hw169_0)
       cases e169
       have qi169 : (0 < l0.length) = True := eq_true (by omega)
       (try rw [show ((0 : Int)).toNat = 0 from rfl] at hx169_0)
       (try rw [Addr.add_zero'] at hx169_0)
       replace hx169_0 := (HB.out.cell (World.block_lt_of_cell? w _ hx169_0)).trans hx169_0
       replace p169 := eq_true p169
       replace q169 := eq_true q169
       have p170 : 0 ≤ (1 : Int) := (by omega)
       have q170 : 1 < (l0.length : Int) := zD
       obtain ⟨ad170, e170, hx170_0⟩ := Kd.at_int HR0.out 1 p170 q170
       have hw170_0 := hx170_0
       (try rw [show ((1 : Int)).toNat = 1 from rfl] at hw170_0)
       (try rw [show 1 * 1 = 1 from rfl] at hw170_0)
       (try simp only [Nat.reduceMul, Nat.reduceEqDiff, Go.Addr.add, ↓reduceIte] at hw170_0)
       obtain rfl : ad169 = ad170 := (by injection e170)
       (try simp only [show (1 : Int).toNat = 1 from rfl, Nat.reduceMul, Nat.reduceEqDiff, Go.Addr.add, ↓reduceIte] at hx170_0)
       have qi170 : (1 < l0.length) = True := eq_true (by omega)
       (try rw [show ((1 : Int)).toNat = 1 from rfl] at hx170_0)
       replace hx170_0 := (HB.out.cell (World.block_lt_of_cell? w _ hx170_0)).trans hx170_0
       replace p170 := eq_true p170
       replace q170 := eq_true q170
       refine start_ (n := 11) (S := fun w' => w'.cell? ad169 = some (.int .u8 (rd l0 0)) ∧ w'.cell? ⟨ad169.block, ad169.off + 1, none⟩ = some (.int .u8 (rd l0 1))) (ds := []) #[false, false, false, false, false, false, false, false, false, false, false] (by kernel_rfl) rfl rfl ⟨((HB.out.cell (World.block_lt_of_cell? w _ hw169_0)).trans hw169_0), ((HB.out.cell (World.block_lt_of_cell? w _ hw170_0)).trans hw170_0)⟩ (fun hHeld => ?_); refine with_tabW spec_DecodeJob.tab3 spec_DecodeJob.bits3 (fun HT_ HW_ => ?_)
       generalize w73.drew = w74 at BK168 HB hx169_0 hx170_0 hHeld ⊢
       refine pure_ (i := 0) (N := some 12) (v := ?_) (a' := ?_) #[true, false, false, false, false, false, false, false, false, false, false] rfl rfl (any_of HT_.out (by kernel_rfl)) (fun _ _ _ h => h) (Or.inl ⟨by rfl, ?_⟩) ?_ ?_
       rotate_left;(focus intro w';go_simp;with_reducible rfl);rotate_left;(focus simp only [Act.put, List.setIfInBounds_toArray, List.set_cons_zero, List.set_cons_succ, i64_w, i32_w];rfl)
       refine pure_ (i := 1) (N := some 13) (v := ?_) (a' := ?_) #[true, true, false, false, false, false, false, false, false, false, false] rfl rfl (any_of HT_.out (by kernel_rfl)) (fun _ _ _ h => h) (Or.inl ⟨by rfl, ?_⟩) ?_ ?_
       rotate_left;(focus intro w';go_simp;with_reducible rfl);rotate_left;(focus simp only [Act.put, List.setIfInBounds_toArray, List.set_cons_zero, List.set_cons_succ, i64_w, i32_w];rfl)
       refine pure_ (i := 4) (N := some 16) (v := ?_) (a' := ?_) #[true, true, false, false, true, false, false, false, false, false, false] rfl rfl (any_of HT_.out (by kernel_rfl)) (fun _ _ _ h => h) (Or.inl ⟨by rfl, ?_⟩) ?_ ?_
       rotate_left;(focus intro w';go_simp;with_reducible rfl);rotate_left;(focus simp only [Act.put, List.setIfInBounds_toArray, List.set_cons_zero, List.set_cons_succ, i64_w, i32_w];rfl)
       refine pure_ (i := 5) (N := some 17) (v := ?_) (a' := ?_) #[true, true, false, false, true, true, false, false, false, false, false] rfl rfl (any_of HT_.out (by kernel_rfl)) (fun _ _ _ h => h) (Or.inl ⟨by rfl, ?_⟩) ?_ ?_
       rotate_left;(focus intro w';go_simp;with_reducible rfl);rotate_left;(focus simp only [Act.put, List.setIfInBounds_toArray, List.set_cons_zero, List.set_cons_succ, i64_w, i32_w];rfl)
       refine take_ (i := 2) (N := some 14) (v := ?_) (a' := ?_) #[true, true, true, false, true, true, false, false, false, false, false] rfl rfl (take_ofW HT_.out HW_.out (by kernel_rfl)) (fun _ _ _ h => h) (Or.inl ⟨by rfl, ?_⟩) hHeld ?_ ?_
       rotate_left
       ·rintro w' ⟨s0, s1⟩
        go_simp
        with_reducible rfl
       rotate_left
       ·simp only [Act.put, List.setIfInBounds_toArray, List.set_cons_zero, List.set_cons_succ, i64_w, i32_w]
        rfl
       refine pure_ (i := 3) (N := some 15) (v := ?_) (a' := ?_) #[true, true, true, true, true, true, false, false, false, false, false] rfl rfl (any_of HT_.out (by kernel_rfl)) (fun _ _ _ h => h) (Or.inl ⟨by rfl, ?_⟩) ?_ ?_
       rotate_left;(focus intro w';go_simp;with_reducible rfl);rotate_left;(focus simp only [Act.put, List.setIfInBounds_toArray, List.set_cons_zero, List.set_cons_succ, i64_w, i32_w];rfl)
       refine take_ (i := 6) (N := some 18) (v := ?_) (a' := ?_) #[true, true, true, true, true, true, true, false, false, false, false] rfl rfl (take_ofW HT_.out HW_.out (by kernel_rfl)) (fun _ _ _ h => h) (Or.inl ⟨by rfl, ?_⟩) hHeld ?_ ?_
       rotate_left
       ·rintro w' ⟨s0, s1⟩
        go_simp
        with_reducible rfl
       rotate_left
       ·simp only [Act.put, List.setIfInBounds_toArray, List.set_cons_zero, List.set_cons_succ, i64_w, i32_w]
        rfl
       refine pure_ (i := 7) (N := some 19) (v := ?_) (a' := ?_) #[true, true, true, true, true, true, true, true, false, false, false] rfl rfl (any_of HT_.out (by kernel_rfl)) (fun _ _ _ h => h) (Or.inl ⟨by rfl, ?_⟩) ?_ ?_
       rotate_left;(focus intro w';go_simp;with_reducible rfl);rotate_left;(focus simp only [Act.put, List.setIfInBounds_toArray, List.set_cons_zero, List.set_cons_succ, i64_w, i32_w];rfl)
       refine pure_ (i := 8) (N := some 20) (v := ?_) (a' := ?_) #[true, true, true, true, true, true, true, true, true, false, false] rfl rfl (any_of HT_.out (by kernel_rfl)) (fun _ _ _ h => h) (Or.inl ⟨by rfl, ?_⟩) ?_ ?_
       rotate_left;(focus intro w';go_simp;with_reducible rfl);rotate_left;(focus simp only [Act.put, List.setIfInBounds_toArray, List.set_cons_zero, List.set_cons_succ, i64_w, i32_w];rfl)
       refine one_ (i := 9) (N := some 4) #[true, true, true, true, true, true, true, true, true, true, false] rfl rfl (one_of HT_.out (by kernel_rfl)) (by decide) (fun K hK => ?_)
       refine box_step ?hg (N := 4) ?hd (cs := #[.int .i64 0, .int .i64 0, .slice none 0 0, .slice none 0 0, .int .i64 0]) (t := 99) ?hr ?_; (case hd => rfl); (case hg => rfl); (case hr => first | (go_simp; done) | (go_simp; rfl))
       intro gb171 hg w75 hbox hb
       have n0_ := Aside0.mk (blk_below (g := gb168) (o := .cells #[.int .i64 0, .int .i64 0, .slice none 0 0, .slice none 0 0, .int .i64 0] 99 (0, 0)) (zB BK168.out) hb)
       have n1_ := Aside0.mk (below_step zH hb)
       have n2_ := Aside0.mk (hbox)
       have n3_ := Aside0.mk ((by rw [hg]; exact (below_size zH) : w.heap.size ≤ gb171))
       have n4_ := Aside0.mk ((by rw [hg]; exact (below_size zH) : w.heap.size ≤ gb171))
       have n5_ := Aside0.mk ((by rw [hg]; exact Nat.ne_of_lt (blk_lt (g := gb168) (o := .cells #[.int .i64 0, .int .i64 0, .slice none 0 0, .slice none 0 0, .int .i64 0] 99 (0, 0)) (zB BK168.out)) : gb168 ≠ gb171))
       have n6_ := Aside0.mk ((by rw [hg]; exact Nat.ne_of_gt (blk_lt (g := gb168) (o := .cells #[.int .i64 0, .int .i64 0, .slice none 0 0, .slice none 0 0, .int .i64 0] 99 (0, 0)) (zB BK168.out)) : gb171 ≠ gb168))
       clear BK168
       clear HB
       have BK168 := n0_
       have HB := n1_
       have BK171 := n2_
       have GW171 := n3_
       have GE171 := n4_
       have NB168_171 := n5_
       have NB171_168 := n6_
       clear n0_ n1_ n2_ n3_ n4_ n5_ n6_
       clear hb hbox hg
       refine hK.out _ _ ⟨((HB.out.cell (World.block_lt_of_cell? w _ hw169_0)).trans hw169_0), ((HB.out.cell (World.block_lt_of_cell? w _ hw170_0)).trans hw170_0)⟩ (fun hHeld => ?_)
       clear hK K
       refine norm_ (a' := ?_) ?_ ?_
       rotate_left
       ·show Act.put _ (some 4) _ = _
        simp only [Act.put, List.setIfInBounds_toArray, List.set_cons_zero, List.set_cons_succ, i64_w, i32_w]
        rfl
       refine one_ (i := 10) (N := none) #[true, true, true, true, true, true, true, true, true, true, true] rfl rfl (one_of HT_.out (by kernel_rfl)) (by decide) (fun K hK => ?_)
       have hs76 : w75.cell? ⟨gb171, 0, none⟩ = some (.int .i64 0) := (blk_cell BK171.out 0).trans rfl
       have hfs76 := blk_frozen BK171.out 0
       have hns76_0 := NB168_171.out
       have hms76_0 := NB171_168.out
       have hs77 : w75.cell? ⟨gb171, 1, none⟩ = some (.int .i64 0) := (blk_cell BK171.out 1).trans rfl
       have hfs77 := blk_frozen BK171.out 1
       have hns77_0 := NB168_171.out
       have hms77_0 := NB171_168.out
       have hs78 : w75.cell? ⟨gb171, 2, none⟩ = some (.slice none 0 0) := (blk_cell BK171.out 2).trans rfl
       have hfs78 := blk_frozen BK171.out 2
       have hns78_0 := NB168_171.out
       have hms78_0 := NB171_168.out
       have hs79 : w75.cell? ⟨gb171, 3, none⟩ = some (.slice none 0 0) := (blk_cell BK171.out 3).trans rfl
       have hfs79 := blk_frozen BK171.out 3
       have hns79_0 := NB168_171.out
       have hms79_0 := NB171_168.out
       have hs80 : w75.cell? ⟨gb171, 4, none⟩ = some (.int .i64 0) := (blk_cell BK171.out 4).trans rfl
       have hfs80 := blk_frozen BK171.out 4
       have hns80_0 := NB168_171.out
       have hms80_0 := NB171_168.out
       refine skip_ (w1 := ?_) (by rfl) rfl ?_ ?_
       rotate_left
       ·go_simp
        rfl
       refine hK.out _ _ ⟨((cell_far (p := ⟨gb171, _, none⟩) (zO hw169_0 GW171.out) _).trans (((cell_far (p := ⟨gb171, _, none⟩) (zO hw169_0 GW171.out) _).trans (((cell_far (p := ⟨gb171, _, none⟩) (zO hw169_0 GW171.out) _).trans (((cell_far (p := ⟨gb171, _, none⟩) (zO hw169_0 GW171.out) _).trans (((cell_far (p := ⟨gb171, _, none⟩) (zO hw169_0 GW171.out) _).trans (hHeld.1)))))))))), ((cell_far (p := ⟨gb171, _, none⟩) (zO hw170_0 GW171.out) _).trans (((cell_far (p := ⟨gb171, _, none⟩) (zO hw170_0 GW171.out) _).trans (((cell_far (p := ⟨gb171, _, none⟩) (zO hw170_0 GW171.out) _).trans (((cell_far (p := ⟨gb171, _, none⟩) (zO hw170_0 GW171.out) _).trans (((cell_far (p := ⟨gb171, _, none⟩) (zO hw170_0 GW171.out) _).trans (hHeld.2))))))))))⟩ (fun hHeld => ?_)
       clear hK K
       refine done_ (done_of HT_.out (by kernel_rfl)) ?_
       try go_wp2_with (first | ((with_reducible refine gate_callee (f := 105) rfl ?_); refine goesL_ (some 23) rfl rfl Try.func105 (by kernel_rfl) rfl #[.slice (some ad169) l0.length c0, .int .i64 2] rfl zM ?_; (with_reducible refine (spec_TakeNumber.calls k _ _ l0 2 t172 t173 true _ ?side1 ?side2 A7.out).mono ?_); (case side1 => exact Kd.C_below HR0.out zH); (case side2 => exact HC0.out); rintro e w81 ⟨rfl, hb⟩; refine ⟨_, rfl, ?_⟩; have n0_ := Aside0.mk (blk_below (g := gb168) (o := .cells #[.int .i64 0, .int .i64 0, .slice none 0 0, .slice none 0 0, .int .i64 0] 99 (0, 0)) (by (repeat refine zL ?_); refine blk_far ?_ NB168_171.out _; (repeat refine zL ?_); refine blk_far ?_ NB168_171.out _; (repeat refine zL ?_); refine blk_far ?_ NB168_171.out _; (repeat refine zL ?_); refine blk_far ?_ NB168_171.out _; (repeat refine zL ?_); refine blk_far ?_ NB168_171.out _; (repeat refine zL ?_); exact BK168.out) hb); have n1_ := Aside0.mk (blk_below (g := gb171) (o := .cells #[.int .i64 (wrap64 (rd l0 0)), .int .i64 (wrap64 (rd l0 1)), .slice none 0 0, .slice none 0 0, .int .i64 0] 99 (0, 0)) (by (repeat refine zL ?_); refine blk_put (cs := #[.int .i64 (wrap64 (rd l0 0)), .int .i64 (wrap64 (rd l0 1)), .slice none 0 0, .slice none 0 0, .int .i64 0]) ?_ 4 _ rfl; (repeat refine zL ?_); refine blk_put (cs := #[.int .i64 (wrap64 (rd l0 0)), .int .i64 (wrap64 (rd l0 1)), .slice none 0 0, .slice none 0 0, .int .i64 0]) ?_ 3 _ rfl; (repeat refine zL ?_); refine blk_put (cs := #[.int .i64 (wrap64 (rd l0 0)), .int .i64 (wrap64 (rd l0 1)), .slice none 0 0, .slice none 0 0, .int .i64 0]) ?_ 2 _ rfl; (repeat refine zL ?_); refine blk_put (cs := #[.int .i64 (wrap64 (rd l0 0)), .int .i64 0, .slice none 0 0, .slice none 0 0, .int .i64 0]) ?_ 1 _ rfl; (repeat refine zL ?_); refine blk_put (cs := #[.int .i64 0, .int .i64 0, .slice none 0 0, .slice none 0 0, .int .i64 0]) ?_ 0 _ rfl; (repeat refine zL ?_); exact BK171.out) hb); have n2_ := Aside0.mk (below_step zH hb); clear BK168; clear BK171; clear HB; have BK168 := n0_; have BK171 := n1_; have HB := n2_; clear n0_ n1_ n2_; (try clear hb); (try clear hb2); (try clear hk); (try clear hi); have hnb82 := NB171_168.out; have hnc82 := NB168_171.out; obtain ⟨hcz83_0, hcz83_1, hcz83_2, hcz83_3, hcz83_4⟩ := zc5 BK171.out; obtain ⟨hfz83_0, hfz83_1, hfz83_2, hfz83_3, hfz83_4⟩ := zf BK171.out) | ((with_reducible refine gate_callee (f := 130) rfl ?_); refine goesL_ (some 35) rfl rfl Try.func130 (by kernel_rfl) rfl #[.slice (some ad169) l0.length c0, .int .i64 t173] rfl zM ?_; (with_reducible refine (spec_l10TakeList.calls k _ _ l0 t173 t175 t176 true _ ?side1 ?side2 A9.out).mono ?_); (case side1 => exact Kd.C_below HR0.out zH); (case side2 => exact HC0.out); rintro e w84 ⟨v178, rfl, ho0, hb⟩; refine ⟨_, rfl, ?_⟩; have n0_ := Aside0.mk (Kd.R_lower ho0 (below_size zH)); have n1_ := Aside0.mk (blk_below (g := gb168) (o := .cells #[.int .i64 0, .int .i64 0, .slice none 0 0, .slice none 0 0, .int .i64 0] 99 (0, 0)) (by (repeat refine zL ?_); refine blk_far ?_ NB168_171.out _; (repeat refine zL ?_); exact BK168.out) hb); have n2_ := Aside0.mk (blk_below (g := gb171) (o := .cells #[.int .i64 (wrap64 (rd l0 0)), .int .i64 (wrap64 (rd l0 1)), .slice none 0 0, .slice none 0 0, .int .i64 t172] 99 (0, 0)) (by (repeat refine zL ?_); refine blk_put (cs := #[.int .i64 (wrap64 (rd l0 0)), .int .i64 (wrap64 (rd l0 1)), .slice none 0 0, .slice none 0 0, .int .i64 0]) ?_ 4 _ rfl; (repeat refine zL ?_); exact BK171.out) hb); have n3_ := Aside0.mk (below_step zH hb); clear BK168; clear BK171; clear HB; have HO179 := n0_; have BK168 := n1_; have BK171 := n2_; have HB := n3_; clear n0_ n1_ n2_ n3_; (try clear hb); (try clear hb2); (try clear hk); (try clear hi); (try clear ho0); obtain ⟨Ao85, co85, eo85⟩ := Kd.R_slice HO179.out; subst eo85; obtain ⟨hcz86_0, hcz86_1, hcz86_2, hcz86_3, hcz86_4⟩ := zc5 BK171.out; obtain ⟨hfz86_0, hfz86_1, hfz86_2, hfz86_3, hfz86_4⟩ := zf BK171.out) | ((with_reducible refine gate_callee (f := 130) rfl ?_); refine goesL_ (some 46) rfl rfl Try.func130 (by kernel_rfl) rfl #[.slice (some ad169) l0.length c0, .int .i64 t176] rfl zM ?_; (with_reducible refine (spec_l10TakeList.calls k _ _ l0 t176 t180 t181 false _ ?side1 ?side2 A11.out).mono ?_); (case side1 => exact Kd.C_below HR0.out zH); (case side2 => exact HC0.out); rintro e w87 ⟨v183, rfl, ho0, hb⟩; refine ⟨_, rfl, ?_⟩; have n0_ := Aside0.mk (Kd.R_elder' (by (with_reducible repeat (first | apply Kd.R_alloc | apply Kd.R_drewN | apply Kd.R_drew)); exact (Kd.R_mono (Kd.R_far (p := ⟨gb171, 2, none⟩) (Kd.R_types HO179.out BK171.out (by decide)) (fun _ hk => hk.2) (.slice Ao85 t175.length co85)) (fun _ h_ => h_.1))) (Kd.R_base ho0) hb); have n1_ := Aside0.mk (Kd.R_lower (Kd.R_new' ho0 (Kd.R_lt (by (with_reducible repeat (first | apply Kd.R_alloc | apply Kd.R_drewN | apply Kd.R_drew)); exact (Kd.R_mono (Kd.R_far (p := ⟨gb171, 2, none⟩) (Kd.R_types HO179.out BK171.out (by decide)) (fun _ hk => hk.2) (.slice Ao85 t175.length co85)) (fun _ h_ => h_.1))))) (below_size zH)); have n2_ := Aside0.mk (blk_below (g := gb168) (o := .cells #[.int .i64 0, .int .i64 0, .slice none 0 0, .slice none 0 0, .int .i64 0] 99 (0, 0)) (by (repeat refine zL ?_); refine blk_far ?_ NB168_171.out _; (repeat refine zL ?_); exact BK168.out) hb); have n3_ := Aside0.mk (blk_below (g := gb171) (o := .cells #[.int .i64 (wrap64 (rd l0 0)), .int .i64 (wrap64 (rd l0 1)), .slice Ao85 t175.length co85, .slice none 0 0, .int .i64 t172] 99 (0, 0)) (by (repeat refine zL ?_); refine blk_put (cs := #[.int .i64 (wrap64 (rd l0 0)), .int .i64 (wrap64 (rd l0 1)), .slice none 0 0, .slice none 0 0, .int .i64 t172]) ?_ 2 _ rfl; (repeat refine zL ?_); exact BK171.out) hb); have n4_ := Aside0.mk (below_step zH hb); clear HO179; clear BK168; clear BK171; clear HB; have HO179 := n0_; have HO184 := n1_; have BK168 := n2_; have BK171 := n3_; have HB := n4_; clear n0_ n1_ n2_ n3_ n4_; (try clear hb); (try clear hb2); (try clear hk); (try clear hi); (try clear ho0); obtain ⟨Ao88, co88, eo88⟩ := Kd.R_slice HO184.out; subst eo88; obtain ⟨hcz89_0, hcz89_1, hcz89_2, hcz89_3, hcz89_4⟩ := zc5 BK171.out; obtain ⟨hfz89_0, hfz89_1, hfz89_2, hfz89_3, hfz89_4⟩ := zf BK171.out; obtain ⟨hcz90_0, hcz90_1, hcz90_2, hcz90_3, hcz90_4⟩ := zc5 BK168.out; obtain ⟨hfz90_0, hfz90_1, hfz90_2, hfz90_3, hfz90_4⟩ := zf BK168.out))
       refine bodyPost_ret (results_ct rfl _ _ gb168 99 #[.int .i64 0, .int .i64 0, .slice none 0 0, .slice none 0 0, .int .i64 0] (0, 0) _ rfl (by (repeat refine zL ?_); refine blk_put (cs := #[.int .i64 0, .int .i64 0, .slice none 0 0, .slice none 0 0, .int .i64 0]) ?_ 4 _ rfl; (repeat refine zL ?_); refine blk_put (cs := #[.int .i64 0, .int .i64 0, .slice none 0 0, .slice none 0 0, .int .i64 0]) ?_ 3 _ rfl; (repeat refine zL ?_); refine blk_put (cs := #[.int .i64 0, .int .i64 0, .slice none 0 0, .slice none 0 0, .int .i64 0]) ?_ 2 _ rfl; (repeat refine zL ?_); refine blk_put (cs := #[.int .i64 0, .int .i64 0, .slice none 0 0, .slice none 0 0, .int .i64 0]) ?_ 1 _ rfl; (repeat refine zL ?_); refine blk_put (cs := #[.int .i64 0, .int .i64 0, .slice none 0 0, .slice none 0 0, .int .i64 0]) ?_ 0 _ rfl; (repeat refine zL ?_); refine blk_far ?_ NB168_171.out _; (repeat refine zL ?_); exact BK168.out) Try.underlying99 rfl (by kernel_rfl)) rfl ?_
       exact ⟨_, _, zE, zN, zN, zH⟩
     ·replace c10 := Bool.eq_false_iff.mpr c10
      subst c10
      replace H : (some (0, 0, ([] : List Int), ([] : List Int), 0, false)) = some (r1, r2, r3, r4, r5, r6) := by rw [if_neg (show ¬ (false = true) by decide)] at H; exact H
      simp only [Option.some.injEq, Prod.mk.injEq] at H
      obtain ⟨rfl, rfl, rfl, rfl, rfl, rfl⟩ := H
      go_enter Try.func85, Try.ntmps85
      try go_wp2_with (first | ((with_reducible refine gate_dst (N := 2) rfl ?_); (try (refine gate_guard (by rfl) ?_; dsimp only)); refine box_event ?hg (N := 2) ?hd (cs := #[.int .i64 0, .int .i64 0, .slice none 0 0, .slice none 0 0, .int .i64 0]) (t := 99) ?hr ?_; (case hd => rfl); (case hg => rfl); (case hr => first | (go_simp; done) | (go_simp; rfl)); intro gb168 hg w91 hbox hb; have n0_ := Aside0.mk (below_step zH hb); have n1_ := Aside0.mk (hbox); have n2_ := Aside0.mk ((by rw [hg]; exact (below_size zH) : w.heap.size ≤ gb168)); have n3_ := Aside0.mk ((by rw [hg]; exact (below_size zH) : w.heap.size ≤ gb168)); clear HB; have HB := n0_; have BK168 := n1_; have GW168 := n2_; have GE168 := n3_; clear n0_ n1_ n2_ n3_; clear hb hbox hg))
      have n0_ := Aside0.mk (blk_drew BK168.out)
      have n1_ := Aside0.mk (below_drew1 HB.out)
      clear BK168
      clear HB
      have BK168 := n0_
      have HB := n1_
      clear n0_ n1_
      have p169 : 0 ≤ (0 : Int) := (by omega)
      have q169 : 0 < (l0.length : Int) := zD
      obtain ⟨ad169, e169, hx169_0⟩ := Kd.at_int HR0.out 0 p169 q169
      have hw169_0 := hx169_0
      (try rw [show ((0 : Int)).toNat = 0 from rfl] at hw169_0)
      (try rw [show 0 * 1 = 0 from rfl] at hw169_0)
      (try rw [Addr.add_zero'] at hw169_0)
      cases e169
      have qi169 : (0 < l0.length) = True := eq_true (by omega)
      (try rw [show ((0 : Int)).toNat = 0 from rfl] at hx169_0)
      (try rw [Addr.add_zero'] at hx169_0)
      replace hx169_0 := (HB.out.cell (World.block_lt_of_cell? w _ hx169_0)).trans hx169_0
      replace p169 := eq_true p169
      replace q169 := eq_true q169
      have p170 : 0 ≤ (1 : Int) := (by omega)
      have q170 : 1 < (l0.length : Int) := zD
      obtain ⟨ad170, e170, hx170_0⟩ := Kd.at_int HR0.out 1 p170 q170
      have hw170_0 := hx170_0
      (try rw [show ((1 : Int)).toNat = 1 from rfl] at hw170_0)
      (try rw [show 1 * 1 = 1 from rfl] at hw170_0)
      (try simp only [Nat.reduceMul, Nat.reduceEqDiff, Go.Addr.add, ↓reduceIte] at hw170_0)
      obtain rfl : ad169 = ad170 := (by injection e170)
      (try simp only [show (1 : Int).toNat = 1 from rfl, Nat.reduceMul, Nat.reduceEqDiff, Go.Addr.add, ↓reduceIte] at hx170_0)
      have qi170 : (1 < l0.length) = True := eq_true (by omega)
      (try rw [show ((1 : Int)).toNat = 1 from rfl] at hx170_0)
      replace hx170_0 := (HB.out.cell (World.block_lt_of_cell? w _ hx170_0)).trans hx170_0
      replace p170 := eq_true p170
      replace q170 := eq_true q170
      refine start_ (n := 11) (S := fun w' => w'.cell? ad169 = some (.int .u8 (rd l0 0)) ∧ w'.cell? ⟨ad169.block, ad169.off + 1, none⟩ = some (.int .u8 (rd l0 1))) (ds := []) #[false, false, false, false, false, false, false, false, false, false, false] (by kernel_rfl) rfl rfl ⟨((HB.out.cell (World.block_lt_of_cell? w _ hw169_0)).trans hw169_0), ((HB.out.cell (World.block_lt_of_cell? w _ hw170_0)).trans hw170_0)⟩ (fun hHeld => ?_); refine with_tabW spec_DecodeJob.tab3 spec_DecodeJob.bits3 (fun HT_ HW_ => ?_)
      generalize w91.drew = w92 at BK168 HB hx169_0 hx170_0 hHeld ⊢
      refine pure_ (i := 0) (N := some 12) (v := ?_) (a' := ?_) #[true, false, false, false, false, false, false, false, false, false, false] rfl rfl (any_of HT_.out (by kernel_rfl)) (fun _ _ _ h => h) (Or.inl ⟨by rfl, ?_⟩) ?_ ?_
      rotate_left;(focus intro w';go_simp;with_reducible rfl);rotate_left;(focus simp only [Act.put, List.setIfInBounds_toArray, List.set_cons_zero, List.set_cons_succ, i64_w, i32_w];rfl)
      refine pure_ (i := 1) (N := some 13) (v := ?_) (a' := ?_) #[true, true, false, false, false, false, false, false, false, false, false] rfl rfl (any_of HT_.out (by kernel_rfl)) (fun _ _ _ h => h) (Or.inl ⟨by rfl, ?_⟩) ?_ ?_
      rotate_left;(focus intro w';go_simp;with_reducible rfl);rotate_left;(focus simp only [Act.put, List.setIfInBounds_toArray, List.set_cons_zero, List.set_cons_succ, i64_w, i32_w];rfl)
      refine pure_ (i := 4) (N := some 16) (v := ?_) (a' := ?_) #[true, true, false, false, true, false, false, false, false, false, false] rfl rfl (any_of HT_.out (by kernel_rfl)) (fun _ _ _ h => h) (Or.inl ⟨by rfl, ?_⟩) ?_ ?_
      rotate_left;(focus intro w';go_simp;with_reducible rfl);rotate_left;(focus simp only [Act.put, List.setIfInBounds_toArray, List.set_cons_zero, List.set_cons_succ, i64_w, i32_w];rfl)
      refine pure_ (i := 5) (N := some 17) (v := ?_) (a' := ?_) #[true, true, false, false, true, true, false, false, false, false, false] rfl rfl (any_of HT_.out (by kernel_rfl)) (fun _ _ _ h => h) (Or.inl ⟨by rfl, ?_⟩) ?_ ?_
      rotate_left;(focus intro w';go_simp;with_reducible rfl);rotate_left;(focus simp only [Act.put, List.setIfInBounds_toArray, List.set_cons_zero, List.set_cons_succ, i64_w, i32_w];rfl)
      refine take_ (i := 2) (N := some 14) (v := ?_) (a' := ?_) #[true, true, true, false, true, true, false, false, false, false, false] rfl rfl (take_ofW HT_.out HW_.out (by kernel_rfl)) (fun _ _ _ h => h) (Or.inl ⟨by rfl, ?_⟩) hHeld ?_ ?_
      rotate_left
      ·rintro w' ⟨s0, s1⟩
       go_simp
       with_reducible rfl
      rotate_left
      ·simp only [Act.put, List.setIfInBounds_toArray, List.set_cons_zero, List.set_cons_succ, i64_w, i32_w]
       rfl
      refine pure_ (i := 3) (N := some 15) (v := ?_) (a' := ?_) #[true, true, true, true, true, true, false, false, false, false, false] rfl rfl (any_of HT_.out (by kernel_rfl)) (fun _ _ _ h => h) (Or.inl ⟨by rfl, ?_⟩) ?_ ?_
      rotate_left;(focus intro w';go_simp;with_reducible rfl);rotate_left;(focus simp only [Act.put, List.setIfInBounds_toArray, List.set_cons_zero, List.set_cons_succ, i64_w, i32_w];rfl)
      refine take_ (i := 6) (N := some 18) (v := ?_) (a' := ?_) #[true, true, true, true, true, true, true, false, false, false, false] rfl rfl (take_ofW HT_.out HW_.out (by kernel_rfl)) (fun _ _ _ h => h) (Or.inl ⟨by rfl, ?_⟩) hHeld ?_ ?_
      rotate_left
      ·rintro w' ⟨s0, s1⟩
       go_simp
       with_reducible rfl
      rotate_left
      ·simp only [Act.put, List.setIfInBounds_toArray, List.set_cons_zero, List.set_cons_succ, i64_w, i32_w]
       rfl
      refine pure_ (i := 7) (N := some 19) (v := ?_) (a' := ?_) #[true, true, true, true, true, true, true, true, false, false, false] rfl rfl (any_of HT_.out (by kernel_rfl)) (fun _ _ _ h => h) (Or.inl ⟨by rfl, ?_⟩) ?_ ?_
      rotate_left;(focus intro w';go_simp;with_reducible rfl);rotate_left;(focus simp only [Act.put, List.setIfInBounds_toArray, List.set_cons_zero, List.set_cons_succ, i64_w, i32_w];rfl)
      refine pure_ (i := 8) (N := some 20) (v := ?_) (a' := ?_) #[true, true, true, true, true, true, true, true, true, false, false] rfl rfl (any_of HT_.out (by kernel_rfl)) (fun _ _ _ h => h) (Or.inl ⟨by rfl, ?_⟩) ?_ ?_
      rotate_left;(focus intro w';go_simp;with_reducible rfl);rotate_left;(focus simp only [Act.put, List.setIfInBounds_toArray, List.set_cons_zero, List.set_cons_succ, i64_w, i32_w];rfl)
      refine one_ (i := 9) (N := some 4) #[true, true, true, true, true, true, true, true, true, true, false] rfl rfl (one_of HT_.out (by kernel_rfl)) (by decide) (fun K hK => ?_)
      refine box_step ?hg (N := 4) ?hd (cs := #[.int .i64 0, .int .i64 0, .slice none 0 0, .slice none 0 0, .int .i64 0]) (t := 99) ?hr ?_; (case hd => rfl); (case hg => rfl); (case hr => first | (go_simp; done) | (go_simp; rfl))
      intro gb171 hg w93 hbox hb
      have n0_ := Aside0.mk (blk_below (g := gb168) (o := .cells #[.int .i64 0, .int .i64 0, .slice none 0 0, .slice none 0 0, .int .i64 0] 99 (0, 0)) (zB BK168.out) hb)
      have n1_ := Aside0.mk (below_step zH hb)
      have n2_ := Aside0.mk (hbox)
      have n3_ := Aside0.mk ((by rw [hg]; exact (below_size zH) : w.heap.size ≤ gb171))
      have n4_ := Aside0.mk ((by rw [hg]; exact (below_size zH) : w.heap.size ≤ gb171))
      have n5_ := Aside0.mk ((by rw [hg]; exact Nat.ne_of_lt (blk_lt (g := gb168) (o := .cells #[.int .i64 0, .int .i64 0, .slice none 0 0, .slice none 0 0, .int .i64 0] 99 (0, 0)) (zB BK168.out)) : gb168 ≠ gb171))
      have n6_ := Aside0.mk ((by rw [hg]; exact Nat.ne_of_gt (blk_lt (g := gb168) (o := .cells #[.int .i64 0, .int .i64 0, .slice none 0 0, .slice none 0 0, .int .i64 0] 99 (0, 0)) (zB BK168.out)) : gb171 ≠ gb168))
      clear BK168
      clear HB
      have BK168 := n0_
      have HB := n1_
      have BK171 := n2_
      have GW171 := n3_
      have GE171 := n4_
      have NB168_171 := n5_
      have NB171_168 := n6_
      clear n0_ n1_ n2_ n3_ n4_ n5_ n6_
      clear hb hbox hg
      refine hK.out _ _ ⟨((HB.out.cell (World.block_lt_of_cell? w _ hw169_0)).trans hw169_0), ((HB.out.cell (World.block_lt_of_cell? w _ hw170_0)).trans hw170_0)⟩ (fun hHeld => ?_)
      clear hK K
      refine norm_ (a' := ?_) ?_ ?_
      rotate_left
      ·show Act.put _ (some 4) _ = _
       simp only [Act.put, List.setIfInBounds_toArray, List.set_cons_zero, List.set_cons_succ, i64_w, i32_w]
       rfl
      refine one_ (i := 10) (N := none) #[true, true, true, true, true, true, true, true, true, true, true] rfl rfl (one_of HT_.out (by kernel_rfl)) (by decide) (fun K hK => ?_)
      have hs94 : w93.cell? ⟨gb171, 0, none⟩ = some (.int .i64 0) := (blk_cell BK171.out 0).trans rfl
      have hfs94 := blk_frozen BK171.out 0
      have hns94_0 := NB168_171.out
      have hms94_0 := NB171_168.out
      have hs95 : w93.cell? ⟨gb171, 1, none⟩ = some (.int .i64 0) := (blk_cell BK171.out 1).trans rfl
      have hfs95 := blk_frozen BK171.out 1
      have hns95_0 := NB168_171.out
      have hms95_0 := NB171_168.out
      have hs96 : w93.cell? ⟨gb171, 2, none⟩ = some (.slice none 0 0) := (blk_cell BK171.out 2).trans rfl
      have hfs96 := blk_frozen BK171.out 2
      have hns96_0 := NB168_171.out
      have hms96_0 := NB171_168.out
      have hs97 : w93.cell? ⟨gb171, 3, none⟩ = some (.slice none 0 0) := (blk_cell BK171.out 3).trans rfl
      have hfs97 := blk_frozen BK171.out 3
      have hns97_0 := NB168_171.out
      have hms97_0 := NB171_168.out
      have hs98 : w93.cell? ⟨gb171, 4, none⟩ = some (.int .i64 0) := (blk_cell BK171.out 4).trans rfl
      have hfs98 := blk_frozen BK171.out 4
      have hns98_0 := NB168_171.out
      have hms98_0 := NB171_168.out
      refine skip_ (w1 := ?_) (by rfl) rfl ?_ ?_
      rotate_left
      ·go_simp
       rfl
      refine hK.out _ _ ⟨((cell_far (p := ⟨gb171, _, none⟩) (zO hw169_0 GW171.out) _).trans (((cell_far (p := ⟨gb171, _, none⟩) (zO hw169_0 GW171.out) _).trans (((cell_far (p := ⟨gb171, _, none⟩) (zO hw169_0 GW171.out) _).trans (((cell_far (p := ⟨gb171, _, none⟩) (zO hw169_0 GW171.out) _).trans (((cell_far (p := ⟨gb171, _, none⟩) (zO hw169_0 GW171.out) _).trans (hHeld.1)))))))))), ((cell_far (p := ⟨gb171, _, none⟩) (zO hw170_0 GW171.out) _).trans (((cell_far (p := ⟨gb171, _, none⟩) (zO hw170_0 GW171.out) _).trans (((cell_far (p := ⟨gb171, _, none⟩) (zO hw170_0 GW171.out) _).trans (((cell_far (p := ⟨gb171, _, none⟩) (zO hw170_0 GW171.out) _).trans (((cell_far (p := ⟨gb171, _, none⟩) (zO hw170_0 GW171.out) _).trans (hHeld.2))))))))))⟩ (fun hHeld => ?_)
      clear hK K
      refine done_ (done_of HT_.out (by kernel_rfl)) ?_
      try go_wp2_with (first | ((with_reducible refine gate_callee (f := 105) rfl ?_); refine goesL_ (some 23) rfl rfl Try.func105 (by kernel_rfl) rfl #[.slice (some ad169) l0.length c0, .int .i64 2] rfl zM ?_; (with_reducible refine (spec_TakeNumber.calls k _ _ l0 2 t172 t173 true _ ?side1 ?side2 A7.out).mono ?_); (case side1 => exact Kd.C_below HR0.out zH); (case side2 => exact HC0.out); rintro e w99 ⟨rfl, hb⟩; refine ⟨_, rfl, ?_⟩; have n0_ := Aside0.mk (blk_below (g := gb168) (o := .cells #[.int .i64 0, .int .i64 0, .slice none 0 0, .slice none 0 0, .int .i64 0] 99 (0, 0)) (by (repeat refine zL ?_); refine blk_far ?_ NB168_171.out _; (repeat refine zL ?_); refine blk_far ?_ NB168_171.out _; (repeat refine zL ?_); refine blk_far ?_ NB168_171.out _; (repeat refine zL ?_); refine blk_far ?_ NB168_171.out _; (repeat refine zL ?_); refine blk_far ?_ NB168_171.out _; (repeat refine zL ?_); exact BK168.out) hb); have n1_ := Aside0.mk (blk_below (g := gb171) (o := .cells #[.int .i64 (wrap64 (rd l0 0)), .int .i64 (wrap64 (rd l0 1)), .slice none 0 0, .slice none 0 0, .int .i64 0] 99 (0, 0)) (by (repeat refine zL ?_); refine blk_put (cs := #[.int .i64 (wrap64 (rd l0 0)), .int .i64 (wrap64 (rd l0 1)), .slice none 0 0, .slice none 0 0, .int .i64 0]) ?_ 4 _ rfl; (repeat refine zL ?_); refine blk_put (cs := #[.int .i64 (wrap64 (rd l0 0)), .int .i64 (wrap64 (rd l0 1)), .slice none 0 0, .slice none 0 0, .int .i64 0]) ?_ 3 _ rfl; (repeat refine zL ?_); refine blk_put (cs := #[.int .i64 (wrap64 (rd l0 0)), .int .i64 (wrap64 (rd l0 1)), .slice none 0 0, .slice none 0 0, .int .i64 0]) ?_ 2 _ rfl; (repeat refine zL ?_); refine blk_put (cs := #[.int .i64 (wrap64 (rd l0 0)), .int .i64 0, .slice none 0 0, .slice none 0 0, .int .i64 0]) ?_ 1 _ rfl; (repeat refine zL ?_); refine blk_put (cs := #[.int .i64 0, .int .i64 0, .slice none 0 0, .slice none 0 0, .int .i64 0]) ?_ 0 _ rfl; (repeat refine zL ?_); exact BK171.out) hb); have n2_ := Aside0.mk (below_step zH hb); clear BK168; clear BK171; clear HB; have BK168 := n0_; have BK171 := n1_; have HB := n2_; clear n0_ n1_ n2_; (try clear hb); (try clear hb2); (try clear hk); (try clear hi); have hnb100 := NB171_168.out; have hnc100 := NB168_171.out; obtain ⟨hcz101_0, hcz101_1, hcz101_2, hcz101_3, hcz101_4⟩ := zc5 BK171.out; obtain ⟨hfz101_0, hfz101_1, hfz101_2, hfz101_3, hfz101_4⟩ := zf BK171.out) | ((with_reducible refine gate_callee (f := 130) rfl ?_); refine goesL_ (some 35) rfl rfl Try.func130 (by kernel_rfl) rfl #[.slice (some ad169) l0.length c0, .int .i64 t173] rfl zM ?_; (with_reducible refine (spec_l10TakeList.calls k _ _ l0 t173 t175 t176 false _ ?side1 ?side2 A9.out).mono ?_); (case side1 => exact Kd.C_below HR0.out zH); (case side2 => exact HC0.out); rintro e w102 ⟨v178, rfl, ho0, hb⟩; refine ⟨_, rfl, ?_⟩; have n0_ := Aside0.mk (Kd.R_lower ho0 (below_size zH)); have n1_ := Aside0.mk (blk_below (g := gb168) (o := .cells #[.int .i64 0, .int .i64 0, .slice none 0 0, .slice none 0 0, .int .i64 0] 99 (0, 0)) (by (repeat refine zL ?_); refine blk_far ?_ NB168_171.out _; (repeat refine zL ?_); exact BK168.out) hb); have n2_ := Aside0.mk (blk_below (g := gb171) (o := .cells #[.int .i64 (wrap64 (rd l0 0)), .int .i64 (wrap64 (rd l0 1)), .slice none 0 0, .slice none 0 0, .int .i64 t172] 99 (0, 0)) (by (repeat refine zL ?_); refine blk_put (cs := #[.int .i64 (wrap64 (rd l0 0)), .int .i64 (wrap64 (rd l0 1)), .slice none 0 0, .slice none 0 0, .int .i64 0]) ?_ 4 _ rfl; (repeat refine zL ?_); exact BK171.out) hb); have n3_ := Aside0.mk (below_step zH hb); clear BK168; clear BK171; clear HB; have HO179 := n0_; have BK168 := n1_; have BK171 := n2_; have HB := n3_; clear n0_ n1_ n2_ n3_; (try clear hb); (try clear hb2); (try clear hk); (try clear hi); (try clear ho0); obtain ⟨Ao103, co103, eo103⟩ := Kd.R_slice HO179.out; subst eo103; obtain ⟨hcz104_0, hcz104_1, hcz104_2, hcz104_3, hcz104_4⟩ := zc5 BK171.out; obtain ⟨hfz104_0, hfz104_1, hfz104_2, hfz104_3, hfz104_4⟩ := zf BK171.out; obtain ⟨hcz105_0, hcz105_1, hcz105_2, hcz105_3, hcz105_4⟩ := zc5 BK168.out; obtain ⟨hfz105_0, hfz105_1, hfz105_2, hfz105_3, hfz105_4⟩ := zf BK168.out))
      refine bodyPost_ret (results_ct rfl _ _ gb168 99 #[.int .i64 0, .int .i64 0, .slice none 0 0, .slice none 0 0, .int .i64 0] (0, 0) _ rfl (by (repeat refine zL ?_); refine blk_put (cs := #[.int .i64 0, .int .i64 0, .slice none 0 0, .slice none 0 0, .int .i64 0]) ?_ 4 _ rfl; (repeat refine zL ?_); refine blk_put (cs := #[.int .i64 0, .int .i64 0, .slice none 0 0, .slice none 0 0, .int .i64 0]) ?_ 3 _ rfl; (repeat refine zL ?_); refine blk_put (cs := #[.int .i64 0, .int .i64 0, .slice none 0 0, .slice none 0 0, .int .i64 0]) ?_ 2 _ rfl; (repeat refine zL ?_); refine blk_put (cs := #[.int .i64 0, .int .i64 0, .slice none 0 0, .slice none 0 0, .int .i64 0]) ?_ 1 _ rfl; (repeat refine zL ?_); refine blk_put (cs := #[.int .i64 0, .int .i64 0, .slice none 0 0, .slice none 0 0, .int .i64 0]) ?_ 0 _ rfl; (repeat refine zL ?_); refine blk_far ?_ NB168_171.out _; (repeat refine zL ?_); exact BK168.out) Try.underlying99 rfl (by kernel_rfl)) rfl ?_
      exact ⟨_, _, zE, zN, zN, zH⟩
    ·replace c8 := Bool.eq_false_iff.mpr c8
     subst c8
     replace H : (some (0, 0, ([] : List Int), ([] : List Int), 0, false)) = some (r1, r2, r3, r4, r5, r6) := by rw [if_neg (show ¬ (false = true) by decide)] at H; exact H
     simp only [Option.some.injEq, Prod.mk.injEq] at H
     obtain ⟨rfl, rfl, rfl, rfl, rfl, rfl⟩ := H
     go_enter Try.func85, Try.ntmps85
     try go_wp2_with (first | ((with_reducible refine gate_dst (N := 2) rfl ?_); (try (refine gate_guard (by rfl) ?_; dsimp only)); refine box_event ?hg (N := 2) ?hd (cs := #[.int .i64 0, .int .i64 0, .slice none 0 0, .slice none 0 0, .int .i64 0]) (t := 99) ?hr ?_; (case hd => rfl); (case hg => rfl); (case hr => first | (go_simp; done) | (go_simp; rfl)); intro gb168 hg w106 hbox hb; have n0_ := Aside0.mk (below_step zH hb); have n1_ := Aside0.mk (hbox); have n2_ := Aside0.mk ((by rw [hg]; exact (below_size zH) : w.heap.size ≤ gb168)); have n3_ := Aside0.mk ((by rw [hg]; exact (below_size zH) : w.heap.size ≤ gb168)); clear HB; have HB := n0_; have BK168 := n1_; have GW168 := n2_; have GE168 := n3_; clear n0_ n1_ n2_ n3_; clear hb hbox hg))
     have n0_ := Aside0.mk (blk_drew BK168.out)
     have n1_ := Aside0.mk (below_drew1 HB.out)
     clear BK168
     clear HB
     have BK168 := n0_
     have HB := n1_
     clear n0_ n1_
     have p169 : 0 ≤ (0 : Int) := (by omega)
     have q169 : 0 < (l0.length : Int) := zD
     obtain ⟨ad169, e169, hx169_0⟩ := Kd.at_int HR0.out 0 p169 q169
     have hw169_0 := hx169_0
     (try rw [show ((0 : Int)).toNat = 0 from rfl] at hw169_0)
     (try rw [show 0 * 1 = 0 from rfl] at hw169_0)
     (try rw [Addr.add_zero'] at hw169_0)
     cases e169
     have qi169 : (0 < l0.length) = True := eq_true (by omega)
     (try rw [show ((0 : Int)).toNat = 0 from rfl] at hx169_0)
     (try rw [Addr.add_zero'] at hx169_0)
     replace hx169_0 := (HB.out.cell (World.block_lt_of_cell? w _ hx169_0)).trans hx169_0
     replace p169 := eq_true p169
     replace q169 := eq_true q169
     have p170 : 0 ≤ (1 : Int) := (by omega)
     have q170 : 1 < (l0.length : Int) := zD
     obtain ⟨ad170, e170, hx170_0⟩ := Kd.at_int HR0.out 1 p170 q170
     have hw170_0 := hx170_0
     (try rw [show ((1 : Int)).toNat = 1 from rfl] at hw170_0)
     (try rw [show 1 * 1 = 1 from rfl] at hw170_0)
     (try simp only [Nat.reduceMul, Nat.reduceEqDiff, Go.Addr.add, ↓reduceIte] at hw170_0)
     obtain rfl : ad169 = ad170 := (by injection e170)
     (try simp only [show (1 : Int).toNat = 1 from rfl, Nat.reduceMul, Nat.reduceEqDiff, Go.Addr.add, ↓reduceIte] at hx170_0)
     have qi170 : (1 < l0.length) = True := eq_true (by omega)
     (try rw [show ((1 : Int)).toNat = 1 from rfl] at hx170_0)
     replace hx170_0 := (HB.out.cell (World.block_lt_of_cell? w _ hx170_0)).trans hx170_0
     replace p170 := eq_true p170
     replace q170 := eq_true q170
     refine start_ (n := 11) (S := fun w' => w'.cell? ad169 = some (.int .u8 (rd l0 0)) ∧ w'.cell? ⟨ad169.block, ad169.off + 1, none⟩ = some (.int .u8 (rd l0 1))) (ds := []) #[false, false, false, false, false, false, false, false, false, false, false] (by kernel_rfl) rfl rfl ⟨((HB.out.cell (World.block_lt_of_cell? w _ hw169_0)).trans hw169_0), ((HB.out.cell (World.block_lt_of_cell? w _ hw170_0)).trans hw170_0)⟩ (fun hHeld => ?_); refine with_tabW spec_DecodeJob.tab3 spec_DecodeJob.bits3 (fun HT_ HW_ => ?_)
     generalize w106.drew = w107 at BK168 HB hx169_0 hx170_0 hHeld ⊢
     refine pure_ (i := 0) (N := some 12) (v := ?_) (a' := ?_) #[true, false, false, false, false, false, false, false, false, false, false] rfl rfl (any_of HT_.out (by kernel_rfl)) (fun _ _ _ h => h) (Or.inl ⟨by rfl, ?_⟩) ?_ ?_
     rotate_left;(focus intro w';go_simp;with_reducible rfl);rotate_left;(focus simp only [Act.put, List.setIfInBounds_toArray, List.set_cons_zero, List.set_cons_succ, i64_w, i32_w];rfl)
     refine pure_ (i := 1) (N := some 13) (v := ?_) (a' := ?_) #[true, true, false, false, false, false, false, false, false, false, false] rfl rfl (any_of HT_.out (by kernel_rfl)) (fun _ _ _ h => h) (Or.inl ⟨by rfl, ?_⟩) ?_ ?_
     rotate_left;(focus intro w';go_simp;with_reducible rfl);rotate_left;(focus simp only [Act.put, List.setIfInBounds_toArray, List.set_cons_zero, List.set_cons_succ, i64_w, i32_w];rfl)
     refine pure_ (i := 4) (N := some 16) (v := ?_) (a' := ?_) #[true, true, false, false, true, false, false, false, false, false, false] rfl rfl (any_of HT_.out (by kernel_rfl)) (fun _ _ _ h => h) (Or.inl ⟨by rfl, ?_⟩) ?_ ?_
     rotate_left;(focus intro w';go_simp;with_reducible rfl);rotate_left;(focus simp only [Act.put, List.setIfInBounds_toArray, List.set_cons_zero, List.set_cons_succ, i64_w, i32_w];rfl)
     refine pure_ (i := 5) (N := some 17) (v := ?_) (a' := ?_) #[true, true, false, false, true, true, false, false, false, false, false] rfl rfl (any_of HT_.out (by kernel_rfl)) (fun _ _ _ h => h) (Or.inl ⟨by rfl, ?_⟩) ?_ ?_
     rotate_left;(focus intro w';go_simp;with_reducible rfl);rotate_left;(focus simp only [Act.put, List.setIfInBounds_toArray, List.set_cons_zero, List.set_cons_succ, i64_w, i32_w];rfl)
     refine take_ (i := 2) (N := some 14) (v := ?_) (a' := ?_) #[true, true, true, false, true, true, false, false, false, false, false] rfl rfl (take_ofW HT_.out HW_.out (by kernel_rfl)) (fun _ _ _ h => h) (Or.inl ⟨by rfl, ?_⟩) hHeld ?_ ?_
     rotate_left
     ·rintro w' ⟨s0, s1⟩
      go_simp
      with_reducible rfl
     rotate_left
     ·simp only [Act.put, List.setIfInBounds_toArray, List.set_cons_zero, List.set_cons_succ, i64_w, i32_w]
      rfl
     refine pure_ (i := 3) (N := some 15) (v := ?_) (a' := ?_) #[true, true, true, true, true, true, false, false, false, false, false] rfl rfl (any_of HT_.out (by kernel_rfl)) (fun _ _ _ h => h) (Or.inl ⟨by rfl, ?_⟩) ?_ ?_
     rotate_left;(focus intro w';go_simp;with_reducible rfl);rotate_left;(focus simp only [Act.put, List.setIfInBounds_toArray, List.set_cons_zero, List.set_cons_succ, i64_w, i32_w];rfl)
     refine take_ (i := 6) (N := some 18) (v := ?_) (a' := ?_) #[true, true, true, true, true, true, true, false, false, false, false] rfl rfl (take_ofW HT_.out HW_.out (by kernel_rfl)) (fun _ _ _ h => h) (Or.inl ⟨by rfl, ?_⟩) hHeld ?_ ?_
     rotate_left
     ·rintro w' ⟨s0, s1⟩
      go_simp
      with_reducible rfl
     rotate_left
     ·simp only [Act.put, List.setIfInBounds_toArray, List.set_cons_zero, List.set_cons_succ, i64_w, i32_w]
      rfl
     refine pure_ (i := 7) (N := some 19) (v := ?_) (a' := ?_) #[true, true, true, true, true, true, true, true, false, false, false] rfl rfl (any_of HT_.out (by kernel_rfl)) (fun _ _ _ h => h) (Or.inl ⟨by rfl, ?_⟩) ?_ ?_
     rotate_left;(focus intro w';go_simp;with_reducible rfl);rotate_left;(focus simp only [Act.put, List.setIfInBounds_toArray, List.set_cons_zero, List.set_cons_succ, i64_w, i32_w];rfl)
     refine pure_ (i := 8) (N := some 20) (v := ?_) (a' := ?_) #[true, true, true, true, true, true, true, true, true, false, false] rfl rfl (any_of HT_.out (by kernel_rfl)) (fun _ _ _ h => h) (Or.inl ⟨by rfl, ?_⟩) ?_ ?_
     rotate_left;(focus intro w';go_simp;with_reducible rfl);rotate_left;(focus simp only [Act.put, List.setIfInBounds_toArray, List.set_cons_zero, List.set_cons_succ, i64_w, i32_w];rfl)
     refine one_ (i := 9) (N := some 4) #[true, true, true, true, true, true, true, true, true, true, false] rfl rfl (one_of HT_.out (by kernel_rfl)) (by decide) (fun K hK => ?_)
     refine box_step ?hg (N := 4) ?hd (cs := #[.int .i64 0, .int .i64 0, .slice none 0 0, .slice none 0 0, .int .i64 0]) (t := 99) ?hr ?_; (case hd => rfl); (case hg => rfl); (case hr => first | (go_simp; done) | (go_simp; rfl))
     intro gb171 hg w108 hbox hb
     have n0_ := Aside0.mk (blk_below (g := gb168) (o := .cells #[.int .i64 0, .int .i64 0, .slice none 0 0, .slice none 0 0, .int .i64 0] 99 (0, 0)) (zB BK168.out) hb)
     have n1_ := Aside0.mk (below_step zH hb)
     have n2_ := Aside0.mk (hbox)
     have n3_ := Aside0.mk ((by rw [hg]; exact (below_size zH) : w.heap.size ≤ gb171))
     have n4_ := Aside0.mk ((by rw [hg]; exact (below_size zH) : w.heap.size ≤ gb171))
     have n5_ := Aside0.mk ((by rw [hg]; exact Nat.ne_of_lt (blk_lt (g := gb168) (o := .cells #[.int .i64 0, .int .i64 0, .slice none 0 0, .slice none 0 0, .int .i64 0] 99 (0, 0)) (zB BK168.out)) : gb168 ≠ gb171))
     have n6_ := Aside0.mk ((by rw [hg]; exact Nat.ne_of_gt (blk_lt (g := gb168) (o := .cells #[.int .i64 0, .int .i64 0, .slice none 0 0, .slice none 0 0, .int .i64 0] 99 (0, 0)) (zB BK168.out)) : gb171 ≠ gb168))
     clear BK168
     clear HB
     have BK168 := n0_
     have HB := n1_
     have BK171 := n2_
     have GW171 := n3_
     have GE171 := n4_
     have NB168_171 := n5_
     have NB171_168 := n6_
     clear n0_ n1_ n2_ n3_ n4_ n5_ n6_
     clear hb hbox hg
     refine hK.out _ _ ⟨((HB.out.cell (World.block_lt_of_cell? w _ hw169_0)).trans hw169_0), ((HB.out.cell (World.block_lt_of_cell? w _ hw170_0)).trans hw170_0)⟩ (fun hHeld => ?_)
     clear hK K
     refine norm_ (a' := ?_) ?_ ?_
     rotate_left
     ·show Act.put _ (some 4) _ = _
      simp only [Act.put, List.setIfInBounds_toArray, List.set_cons_zero, List.set_cons_succ, i64_w, i32_w]
      rfl
     refine one_ (i := 10) (N := none) #[true, true, true, true, true, true, true, true, true, true, true] rfl rfl (one_of HT_.out (by kernel_rfl)) (by decide) (fun K hK => ?_)
     have hs109 : w108.cell? ⟨gb171, 0, none⟩ = some (.int .i64 0) := (blk_cell BK171.out 0).trans rfl
     have hfs109 := blk_frozen BK171.out 0
     have hns109_0 := NB168_171.out
     have hms109_0 := NB171_168.out
     have hs110 : w108.cell? ⟨gb171, 1, none⟩ = some (.int .i64 0) := (blk_cell BK171.out 1).trans rfl
     have hfs110 := blk_frozen BK171.out 1
     have hns110_0 := NB168_171.out
     have hms110_0 := NB171_168.out
     have hs111 : w108.cell? ⟨gb171, 2, none⟩ = some (.slice none 0 0) := (blk_cell BK171.out 2).trans rfl
     have hfs111 := blk_frozen BK171.out 2
     have hns111_0 := NB168_171.out
     have hms111_0 := NB171_168.out
     have hs112 : w108.cell? ⟨gb171, 3, none⟩ = some (.slice none 0 0) := (blk_cell BK171.out 3).trans rfl
     have hfs112 := blk_frozen BK171.out 3
     have hns112_0 := NB168_171.out
     have hms112_0 := NB171_168.out
     have hs113 : w108.cell? ⟨gb171, 4, none⟩ = some (.int .i64 0) := (blk_cell BK171.out 4).trans rfl
     have hfs113 := blk_frozen BK171.out 4
     have hns113_0 := NB168_171.out
     have hms113_0 := NB171_168.out
     refine skip_ (w1 := ?_) (by rfl) rfl ?_ ?_
     rotate_left
     ·go_simp
      rfl
     refine hK.out _ _ ⟨((cell_far (p := ⟨gb171, _, none⟩) (zO hw169_0 GW171.out) _).trans (((cell_far (p := ⟨gb171, _, none⟩) (zO hw169_0 GW171.out) _).trans (((cell_far (p := ⟨gb171, _, none⟩) (zO hw169_0 GW171.out) _).trans (((cell_far (p := ⟨gb171, _, none⟩) (zO hw169_0 GW171.out) _).trans (((cell_far (p := ⟨gb171, _, none⟩) (zO hw169_0 GW171.out) _).trans (hHeld.1)))))))))), ((cell_far (p := ⟨gb171, _, none⟩) (zO hw170_0 GW171.out) _).trans (((cell_far (p := ⟨gb171, _, none⟩) (zO hw170_0 GW171.out) _).trans (((cell_far (p := ⟨gb171, _, none⟩) (zO hw170_0 GW171.out) _).trans (((cell_far (p := ⟨gb171, _, none⟩) (zO hw170_0 GW171.out) _).trans (((cell_far (p := ⟨gb171, _, none⟩) (zO hw170_0 GW171.out) _).trans (hHeld.2))))))))))⟩ (fun hHeld => ?_)
     clear hK K
     refine done_ (done_of HT_.out (by kernel_rfl)) ?_
     try go_wp2_with (first | ((with_reducible refine gate_callee (f := 105) rfl ?_); refine goesL_ (some 23) rfl rfl Try.func105 (by kernel_rfl) rfl #[.slice (some ad169) l0.length c0, .int .i64 2] rfl zM ?_; (with_reducible refine (spec_TakeNumber.calls k _ _ l0 2 t172 t173 false _ ?side1 ?side2 A7.out).mono ?_); (case side1 => exact Kd.C_below HR0.out zH); (case side2 => exact HC0.out); rintro e w114 ⟨rfl, hb⟩; refine ⟨_, rfl, ?_⟩; have n0_ := Aside0.mk (blk_below (g := gb168) (o := .cells #[.int .i64 0, .int .i64 0, .slice none 0 0, .slice none 0 0, .int .i64 0] 99 (0, 0)) (by (repeat refine zL ?_); refine blk_far ?_ NB168_171.out _; (repeat refine zL ?_); refine blk_far ?_ NB168_171.out _; (repeat refine zL ?_); refine blk_far ?_ NB168_171.out _; (repeat refine zL ?_); refine blk_far ?_ NB168_171.out _; (repeat refine zL ?_); refine blk_far ?_ NB168_171.out _; (repeat refine zL ?_); exact BK168.out) hb); have n1_ := Aside0.mk (blk_below (g := gb171) (o := .cells #[.int .i64 (wrap64 (rd l0 0)), .int .i64 (wrap64 (rd l0 1)), .slice none 0 0, .slice none 0 0, .int .i64 0] 99 (0, 0)) (by (repeat refine zL ?_); refine blk_put (cs := #[.int .i64 (wrap64 (rd l0 0)), .int .i64 (wrap64 (rd l0 1)), .slice none 0 0, .slice none 0 0, .int .i64 0]) ?_ 4 _ rfl; (repeat refine zL ?_); refine blk_put (cs := #[.int .i64 (wrap64 (rd l0 0)), .int .i64 (wrap64 (rd l0 1)), .slice none 0 0, .slice none 0 0, .int .i64 0]) ?_ 3 _ rfl; (repeat refine zL ?_); refine blk_put (cs := #[.int .i64 (wrap64 (rd l0 0)), .int .i64 (wrap64 (rd l0 1)), .slice none 0 0, .slice none 0 0, .int .i64 0]) ?_ 2 _ rfl; (repeat refine zL ?_); refine blk_put (cs := #[.int .i64 (wrap64 (rd l0 0)), .int .i64 0, .slice none 0 0, .slice none 0 0, .int .i64 0]) ?_ 1 _ rfl; (repeat refine zL ?_); refine blk_put (cs := #[.int .i64 0, .int .i64 0, .slice none 0 0, .slice none 0 0, .int .i64 0]) ?_ 0 _ rfl; (repeat refine zL ?_); exact BK171.out) hb); have n2_ := Aside0.mk (below_step zH hb); clear BK168; clear BK171; clear HB; have BK168 := n0_; have BK171 := n1_; have HB := n2_; clear n0_ n1_ n2_; (try clear hb); (try clear hb2); (try clear hk); (try clear hi); have hnb115 := NB168_171.out; have hnc115 := NB171_168.out; obtain ⟨hcz116_0, hcz116_1, hcz116_2, hcz116_3, hcz116_4⟩ := zc5 BK168.out; obtain ⟨hfz116_0, hfz116_1, hfz116_2, hfz116_3, hfz116_4⟩ := zf BK168.out))
     refine bodyPost_ret (results_ct rfl _ _ gb168 99 #[.int .i64 0, .int .i64 0, .slice none 0 0, .slice none 0 0, .int .i64 0] (0, 0) _ rfl (by (repeat refine zL ?_); refine blk_put (cs := #[.int .i64 0, .int .i64 0, .slice none 0 0, .slice none 0 0, .int .i64 0]) ?_ 4 _ rfl; (repeat refine zL ?_); refine blk_put (cs := #[.int .i64 0, .int .i64 0, .slice none 0 0, .slice none 0 0, .int .i64 0]) ?_ 3 _ rfl; (repeat refine zL ?_); refine blk_put (cs := #[.int .i64 0, .int .i64 0, .slice none 0 0, .slice none 0 0, .int .i64 0]) ?_ 2 _ rfl; (repeat refine zL ?_); refine blk_put (cs := #[.int .i64 0, .int .i64 0, .slice none 0 0, .slice none 0 0, .int .i64 0]) ?_ 1 _ rfl; (repeat refine zL ?_); refine blk_put (cs := #[.int .i64 0, .int .i64 0, .slice none 0 0, .slice none 0 0, .int .i64 0]) ?_ 0 _ rfl; (repeat refine zL ?_); exact BK168.out) Try.underlying99 rfl (by kernel_rfl)) rfl ?_
     exact ⟨_, _, zE, zN, zN, zH⟩
   ·rw [if_neg c6] at H
    exact absurd H (by simp)
  ·rw [if_neg c5] at H
   exact absurd H (by simp)

end Go.Proofs.Ytabicblkdgpogaa.QFnExactPutEvent
