-- Made by this session's program (wip/tools/myprint.py) out of the translation; Lean checks it.
import Derived.Test.YtmdpnhcfllociaaQFnExactSpotForwardx0
import Derived.Test.YtmdpnhcfllociaaQFnExactSpotForwardx1
import Derived.Test.YtmdpnhcfllociaaQFnExactSpotForwardx3
import Derived.Test.YtmdpnhcfllociaaQFnExactSpotForwardx4
import Derived.Test.YtmdpnhcfllociaaQFnExactSpotForwardx5
namespace Go.Proofs.Ytmdpnhcfllociaa.QFnExactSpotForward
open Go.RowKit Go.Proofs.YtmdpnhcfllociaaW.PrintWords Go.Proofs.YtmdpnhcfllociaaW.PrintLast Go.Proofs.YtmdpnhcfllociaaW.PrintMore
attribute [local go_sem] max2_int min2_int max_two min_two max_three min_three max_four min_four   -- for this text's walks alone
set_option linter.unusedVariables false
set_option linter.unusedSimpArgs false

/-! ### impl_field_forward: function 85 -/
def impl_field_forward.l0 : Nat → List Int → Int → Int → Int → Int → Int → Option (List Int)
 | 0, _, _, _, _, _, _ => none
 | k + 1, x5, x11, x12, x199000, x199001, x199002 => if x12 < x11 then ((impl_field_stage.f k x199000 x199001 x199002 x5 x12).bind fun t203 => (impl_field_forward.l0 k t203 x11 (wrap64 (x12 + 1)) x199000 x199001 x199002)) else (some x5)
def impl_field_forward.f (k : Nat) (a0_0 : Int) (a0_1 : Int) (a0_2 : Int) (l1 : List Int) : Option (List Int) := (impl_permuted.f k l1).bind fun t199 => ((impl_logOf.f k (l1.length : Int)).bind fun t202 => (impl_field_forward.l0 k t199 t202 0 a0_0 a0_1 a0_2))
theorem impl_field_forward.mono_l : ∀ k, (∀ y0 y1 y2 y3 y4 y5, LeO (impl_field_forward.l0 k y0 y1 y2 y3 y4 y5) (impl_field_forward.l0 (k + 1) y0 y1 y2 y3 y4 y5))
 | 0 => fun _ _ _ _ _ _ r h => by simp [impl_field_forward.l0] at h
 | k + 1 => by
  have ih0 := impl_field_forward.mono_l k
  ·intro y0 y1 y2 y3 y4 y5
   unfold impl_field_forward.l0
   repeat' first
   | (with_reducible exact ih0 _ _ _ _ _ _)
   | (with_reducible exact impl_field_stage.mono _ _ _ _ _ _)
   | (with_reducible exact impl_logOf.mono _ _)
   | (with_reducible exact impl_permuted.mono _ _)
   | (with_reducible exact LeO.refl _)
   | (with_reducible exact LeO.none _)
   | (with_reducible refine LeO.ite ?_ ?_)
   | (with_reducible refine LeO.bind ?_ (fun _ => ?_))
   | exact ih0 _ _ _ _ _ _
   | exact impl_field_stage.mono _ _ _ _ _ _
   | exact impl_logOf.mono _ _
   | exact impl_permuted.mono _ _
   | exact LeO.none _
   | refine LeO.ite ?_ ?_
   | refine LeO.bind ?_ (fun _ => ?_)
theorem impl_field_forward.mono : ∀ a0 a1 a2 a3 k, LeO (impl_field_forward.f k a0 a1 a2 a3) (impl_field_forward.f (k + 1) a0 a1 a2 a3) := by
 intro a0 a1 a2 a3 k
 have ih0 := impl_field_forward.mono_l k
 unfold impl_field_forward.f
 repeat' first
   | (with_reducible exact ih0 _ _ _ _ _ _)
   | (with_reducible exact impl_field_stage.mono _ _ _ _ _ _)
   | (with_reducible exact impl_logOf.mono _ _)
   | (with_reducible exact impl_permuted.mono _ _)
   | (with_reducible exact LeO.refl _)
   | (with_reducible exact LeO.none _)
   | (with_reducible refine LeO.ite ?_ ?_)
   | (with_reducible refine LeO.bind ?_ (fun _ => ?_))
   | exact ih0 _ _ _ _ _ _
   | exact impl_field_stage.mono _ _ _ _ _ _
   | exact impl_logOf.mono _ _
   | exact impl_permuted.mono _ _
   | exact LeO.none _
   | refine LeO.ite ?_ ?_
   | refine LeO.bind ?_ (fun _ => ?_)
set_option maxHeartbeats 8000000 in
set_option maxRecDepth 100000 in
theorem impl_field_forward.calls (k : Nat) (a0_0 : Int) (a0_1 : Int) (a0_2 : Int) (A1 : Option Addr) (c1 : Nat) (l1 : List Int) (r : List Int) (w : World) (hr1 : Kd.C (Kd.int .i64) w A1 l1.length l1) (hc1 : l1.length ≤ c1) (h : impl_field_forward.f k a0_0 a0_1 a0_2 l1 = some r) :
  Calls Try.prog 85 #[.agg #[.int .i64 a0_0, .int .i64 a0_1, .int .i64 a0_2], .slice A1 l1.length c1] w fun e w' => ∃ v0_ : Value, e = .returned (v0_) ∧ Kd.R (Kd.int .i64) 3 w' w.heap.size (fun _ => True) v0_ r ∧ Below w.heap.size w w' := by
 have hu77 := Try.underlying77
 have HR1 := Aside0.mk hr1
 have HC1 := Aside0.mk hc1
 clear hr1 hc1
 have HB := Aside0.mk (Below.refl w.heap.size w)
 have H : ((impl_permuted.f k l1).bind fun t199 => ((impl_logOf.f k (l1.length : Int)).bind fun t202 => (impl_field_forward.l0 k t199 t202 0 a0_0 a0_1 a0_2))) = some r := h
 clear h
 replace H := Option.bind_eq_some_iff.mp H
 obtain ⟨t199, A30, H⟩ := H
 replace H : ((impl_logOf.f k (l1.length : Int)).bind fun t202 => (impl_field_forward.l0 k t199 t202 0 a0_0 a0_1 a0_2)) = some r := H
 have A3 := Aside0.mk A30
 clear A30
 replace H := Option.bind_eq_some_iff.mp H
 obtain ⟨t202, A40, H⟩ := H
 replace H : (impl_field_forward.l0 k t199 t202 0 a0_0 a0_1 a0_2) = some r := H
 have A4 := Aside0.mk A40
 clear A40
 have H' := Aside0.mk H
 clear H
 go_enter Try.func85, Try.ntmps85
 go_wp2_with (first | ((with_reducible refine gate_dst (N := 2) rfl ?_); refine box_event ?hg (N := 2) ?hd (cs := #[.int .i64 a0_0, .int .i64 a0_1, .int .i64 a0_2]) (t := 77) ?hr ?_; (case hd => rfl); (case hg => rfl); (case hr => first | (go_simp; done) | (go_simp; rfl)); intro gb198 hg w5 hbox hb; have n0_ := Aside0.mk (below_step zH hb); have n1_ := Aside0.mk (hbox); have n2_ := Aside0.mk ((by rw [hg]; exact (below_size zH) : w.heap.size ≤ gb198)); have n3_ := Aside0.mk ((by rw [hg]; exact (below_size zH) : w.heap.size ≤ gb198)); clear HB; have HB := n0_; have BK198 := n1_; have GW198 := n2_; have GE198 := n3_; clear n0_ n1_ n2_ n3_; clear hb hbox hg) | ((with_reducible refine gate_callee (f := 104) rfl ?_); refine goesL_ (some 8) rfl rfl Try.func104 (by kernel_rfl) rfl #[.slice A1 l1.length c1] rfl zM ?_; (with_reducible refine (impl_permuted.calls k _ _ l1 t199 _ ?side1 ?side2 A3.out).mono ?_); (case side1 => exact zC (Kd.C_below HR1.out HB.out)); (case side2 => exact HC1.out); rintro e w6 ⟨v200, rfl, ho0, hb⟩; refine ⟨_, rfl, ?_⟩; have n0_ := Aside0.mk (Kd.R_lower ho0 (below_size zH)); have n1_ := Aside0.mk (blk_below (g := gb198) (o := .cells #[.int .i64 a0_0, .int .i64 a0_1, .int .i64 a0_2] 77 (0, 0)) (zB BK198.out) hb); have n2_ := Aside0.mk (below_step zH hb); clear BK198; clear HB; have HO201 := n0_; have BK198 := n1_; have HB := n2_; clear n0_ n1_ n2_; (try clear hb); (try clear hb2); (try clear hk); (try clear hi); (try clear ho0)) | ((with_reducible refine gate_callee (f := 103) rfl ?_); refine goesL_ (some 11) rfl rfl Try.func103 (by kernel_rfl) rfl #[.int .i64 (l1.length : Int)] rfl zM ?_; (with_reducible refine (impl_logOf.calls k (l1.length : Int) t202 _ A4.out).mono ?_); rintro e w' ⟨rfl, ⟨nd, rfl⟩⟩; refine ⟨_, rfl, ?_⟩))
 go_loopg [5, 12] k (fun kq v5 v12 w' => ∃ (x5_1 : List Int) (x12_1 : Int), v12 = .int .i64 x12_1 ∧ Aside0 (impl_field_forward.l0 kq x5_1 t202 x12_1 a0_0 a0_1 a0_2 = some r) ∧ Aside0 (kq ≤ k) ∧ Aside0 (Kd.R (Kd.int .i64) 3 w' w.heap.size (fun _ => True) v5 x5_1) ∧ Aside0 (w'.heap[gb198]? = some (.cells #[.int .i64 a0_0, .int .i64 a0_1, .int .i64 a0_2] 77 (0, 0))) ∧ Aside0 (Below w.heap.size w w'))
 case atStart => exact ⟨(t199), (0), zF, H', ⟨Nat.le_refl _⟩, ⟨zR HO201.out⟩, ⟨zB BK198.out⟩, ⟨zH⟩⟩
 case round =>
  clear H'
  (try clear c1);(try clear p2)
  obtain ⟨x5_1, x12_1, rfl, HA, HK1, HO_5, BK198, HB⟩ := hrel
  cases gk with
  | zero => exact absurd HA.out (by simp [impl_field_forward.l0])
  | succ k1 =>
   have H := HA.out
   clear HA
   simp only [impl_field_forward.l0] at H
   by_cases c7 : x12_1 < t202
   ·rw [if_pos c7] at H
    have c7b0 : decide (x12_1 < t202) = true := decide_eq_true c7
    clear c7
    replace H := Option.bind_eq_some_iff.mp H
    obtain ⟨t203, A80, H⟩ := H
    replace H : (impl_field_forward.l0 k1 t203 t202 (wrap64 (x12_1 + 1)) a0_0 a0_1 a0_2) = some r := H
    have A8 := Aside0.mk A80
    clear A80
    have H' := Aside0.mk H
    clear H
    obtain ⟨hcz9_0, hcz9_1, hcz9_2⟩ := zc3 BK198.out
    obtain ⟨hfz9_0, hfz9_1, hfz9_2, _, _⟩ := zf BK198.out
    obtain ⟨Ao10, co10, eo10⟩ := Kd.R_slice HO_5.out
    subst eo10
    go_wp2_with (first | ((with_reducible refine gate_callee (f := 105) rfl ?_); refine goesL_ (some 18) rfl rfl Try.func105 (by kernel_rfl) rfl #[.agg #[.int .i64 a0_0, .int .i64 a0_1, .int .i64 a0_2], .slice Ao10 x5_1.length co10, .int .i64 x12_1] rfl zM ?_; (with_reducible refine (impl_field_stage.calls k1 a0_0 a0_1 a0_2 _ _ x5_1 x12_1 t203 _ ?side1 ?side2 A8.out).mono ?_); (case side1 => exact zC ((Kd.R_reads' HO_5.out).2.2)); (case side2 => exact (Kd.R_reads' HO_5.out).2.1); rintro e w11 ⟨v204, rfl, ho0, hb⟩; refine ⟨_, rfl, ?_⟩; have n0_ := Aside0.mk (Kd.R_elder' (zR HO_5.out) (Kd.R_base ho0) hb); have n1_ := Aside0.mk (Kd.R_lower (Kd.R_new' ho0 (Kd.R_lt (zR HO_5.out))) (below_size zH)); have n2_ := Aside0.mk (blk_below (g := gb198) (o := .cells #[.int .i64 a0_0, .int .i64 a0_1, .int .i64 a0_2] 77 (0, 0)) (zB BK198.out) hb); have n3_ := Aside0.mk (below_step zH hb); clear HO_5; clear BK198; clear HB; have HO_5 := n0_; have HO205 := n1_; have BK198 := n2_; have HB := n3_; clear n0_ n1_ n2_ n3_; (try clear hb); (try clear hb2); (try clear hk); (try clear hi); (try clear ho0)))
    go_roundg k1
    case measure => have := HK1.out; omega
    case rel => exact ⟨(t203), (wrap64 (x12_1 + 1)), zF, H', ⟨by have := HK1.out; omega⟩, ⟨by (with_reducible repeat (first | apply Kd.R_alloc | apply Kd.R_drewN | apply Kd.R_drew)); exact Kd.R_mono HO205.out (fun _ hk => trivial)⟩, ⟨zB BK198.out⟩, ⟨zH⟩⟩
   ·rw [if_neg c7] at H
    have c7b0 : decide (x12_1 < t202) = false := decide_eq_false c7
    clear c7
    obtain rfl := Option.some.inj H
    go_wp2
    go_ret
    exact ⟨_, zE, zR HO_5.out, zH⟩

/-! ### impl_SpotForward: function 51 -/
mutual
def impl_SpotForward.j0 : Nat → List Int → List Int → List Int → Bool → Int → Int → Int → Option (Bool)
 | 0, _, _, _, _, _, _, _ => none
 | k + 1, x1, x2, x3, x28, x214000, x214001, x214002 => if x28 = true then (some false) else ((impl_field_forward.f k x214000 x214001 x214002 x1).bind fun t214 => (impl_SpotForward.l0 k x1 x2 t214 x3 (x3.length : Int) 0))
def impl_SpotForward.l0 : Nat → List Int → List Int → List Int → List Int → Int → Int → Option (Bool)
 | 0, _, _, _, _, _, _ => none
 | k + 1, x1, x2, x11, x32, x33, x34 => if x34 < x33 then (if 0 ≤ x34 then (if x34 < (x32.length : Int) then (if (rd x32 x34) < 0 then (some false) else (if (rd x32 x34) ≥ (x1.length : Int) then (some false) else (if 0 ≤ (rd x32 x34) then (if (rd x32 x34) < (x2.length : Int) then (if (rd x32 x34) < (x11.length : Int) then (if (rd x2 (rd x32 x34)) = (rd x11 (rd x32 x34)) then (impl_SpotForward.l0 k x1 x2 x11 x32 x33 (wrap64 (x34 + 1))) else (some false)) else (none)) else (none)) else (none)))) else (none)) else (none)) else (some true)
end
def impl_SpotForward.f (k : Nat) (a0 : Int) (l1 : List Int) (l2 : List Int) (l3 : List Int) : Option (Bool) := (impl_vectorField.f k a0 (([l1, l2] : List (List Int)))).bind fun bt209 => (if bt209.2.2.2 = true then (impl_SpotForward.j0 k l1 l2 l3 (decide ((l3.length : Int) > 4096)) bt209.1 bt209.2.1 bt209.2.2.1) else (impl_SpotForward.j0 k l1 l2 l3 true bt209.1 bt209.2.1 bt209.2.2.1))
theorem impl_SpotForward.mono_l : ∀ k, (∀ y0 y1 y2 y3 y4 y5 y6, LeO (impl_SpotForward.j0 k y0 y1 y2 y3 y4 y5 y6) (impl_SpotForward.j0 (k + 1) y0 y1 y2 y3 y4 y5 y6)) ∧ (∀ y0 y1 y2 y3 y4 y5, LeO (impl_SpotForward.l0 k y0 y1 y2 y3 y4 y5) (impl_SpotForward.l0 (k + 1) y0 y1 y2 y3 y4 y5))
 | 0 => ⟨fun _ _ _ _ _ _ _ r h => by simp [impl_SpotForward.j0] at h, fun _ _ _ _ _ _ r h => by simp [impl_SpotForward.l0] at h⟩
 | k + 1 => by
  obtain ⟨ih0, ih1⟩ := impl_SpotForward.mono_l k
  refine ⟨?_, ?_⟩
  ·intro y0 y1 y2 y3 y4 y5 y6
   unfold impl_SpotForward.j0
   repeat' first
   | (with_reducible exact ih0 _ _ _ _ _ _ _)
   | (with_reducible exact ih1 _ _ _ _ _ _)
   | (with_reducible exact impl_field_forward.mono _ _ _ _ _)
   | (with_reducible exact impl_vectorField.mono _ _ _)
   | (with_reducible exact LeO.refl _)
   | (with_reducible exact LeO.none _)
   | (with_reducible refine LeO.ite ?_ ?_)
   | (with_reducible refine LeO.bind ?_ (fun _ => ?_))
   | exact ih0 _ _ _ _ _ _ _
   | exact ih1 _ _ _ _ _ _
   | exact impl_field_forward.mono _ _ _ _ _
   | exact impl_vectorField.mono _ _ _
   | exact LeO.none _
   | refine LeO.ite ?_ ?_
   | refine LeO.bind ?_ (fun _ => ?_)
  ·intro y0 y1 y2 y3 y4 y5
   unfold impl_SpotForward.l0
   repeat' first
   | (with_reducible exact ih0 _ _ _ _ _ _ _)
   | (with_reducible exact ih1 _ _ _ _ _ _)
   | (with_reducible exact impl_field_forward.mono _ _ _ _ _)
   | (with_reducible exact impl_vectorField.mono _ _ _)
   | (with_reducible exact LeO.refl _)
   | (with_reducible exact LeO.none _)
   | (with_reducible refine LeO.ite ?_ ?_)
   | (with_reducible refine LeO.bind ?_ (fun _ => ?_))
   | exact ih0 _ _ _ _ _ _ _
   | exact ih1 _ _ _ _ _ _
   | exact impl_field_forward.mono _ _ _ _ _
   | exact impl_vectorField.mono _ _ _
   | exact LeO.none _
   | refine LeO.ite ?_ ?_
   | refine LeO.bind ?_ (fun _ => ?_)
theorem impl_SpotForward.mono : ∀ a0 a1 a2 a3 k, LeO (impl_SpotForward.f k a0 a1 a2 a3) (impl_SpotForward.f (k + 1) a0 a1 a2 a3) := by
 intro a0 a1 a2 a3 k
 obtain ⟨ih0, ih1⟩ := impl_SpotForward.mono_l k
 unfold impl_SpotForward.f
 repeat' first
   | (with_reducible exact ih0 _ _ _ _ _ _ _)
   | (with_reducible exact ih1 _ _ _ _ _ _)
   | (with_reducible exact impl_field_forward.mono _ _ _ _ _)
   | (with_reducible exact impl_vectorField.mono _ _ _)
   | (with_reducible exact LeO.refl _)
   | (with_reducible exact LeO.none _)
   | (with_reducible refine LeO.ite ?_ ?_)
   | (with_reducible refine LeO.bind ?_ (fun _ => ?_))
   | exact ih0 _ _ _ _ _ _ _
   | exact ih1 _ _ _ _ _ _
   | exact impl_field_forward.mono _ _ _ _ _
   | exact impl_vectorField.mono _ _ _
   | exact LeO.none _
   | refine LeO.ite ?_ ?_
   | refine LeO.bind ?_ (fun _ => ?_)
set_option maxHeartbeats 8000000 in
set_option maxRecDepth 100000 in
theorem impl_SpotForward.calls (k : Nat) (a0 : Int) (P1_ : Nat → Prop) (A1 : Option Addr) (c1 : Nat) (l1 : List Int) (P2_ : Nat → Prop) (A2 : Option Addr) (c2 : Nat) (l2 : List Int) (A3 : Option Addr) (c3 : Nat) (l3 : List Int) (r : Bool) (w : World) (hs1 : Kd.V (Kd.int .i64) 3 w w.heap.size (fun k_ => P1_ k_) (.slice A1 l1.length c1) l1) (hs2 : Kd.V (Kd.int .i64) 3 w w.heap.size (fun k_ => P2_ k_) (.slice A2 l2.length c2) l2) (hr3 : Kd.C (Kd.int .i64) w A3 l3.length l3) (hc3 : l3.length ≤ c3) (h : impl_SpotForward.f k a0 l1 l2 l3 = some r) :
  Calls Try.prog 51 #[.int .i64 a0, .slice A1 l1.length c1, .slice A2 l2.length c2, .slice A3 l3.length c3] w fun e w' => e = .returned (.bool r) ∧ Below w.heap.size w w' := by
 have hu77 := Try.underlying77
 have HO1 := Aside0.mk (show Kd.V (Kd.int .i64) 3 w w.heap.size (fun k_ => ((P1_ k_ ∨ P2_ k_) ∨ w.heap.size ≤ k_)) (.slice A1 l1.length c1) l1 from Kd.V_mono hs1 (fun k_ hk => .inl (.inl hk)))
 have HO2 := Aside0.mk (show Kd.V (Kd.int .i64) 3 w w.heap.size (fun k_ => ((P1_ k_ ∨ P2_ k_) ∨ w.heap.size ≤ k_)) (.slice A2 l2.length c2) l2 from Kd.V_mono hs2 (fun k_ hk => .inl (.inr hk)))
 have HR3 := Aside0.mk hr3
 have HC3 := Aside0.mk hc3
 clear hr3 hc3
 have HB := Aside0.mk (Below.refl w.heap.size w)
 have H : ((impl_vectorField.f k a0 (([l1, l2] : List (List Int)))).bind fun bt209 => (if bt209.2.2.2 = true then (impl_SpotForward.j0 k l1 l2 l3 (decide ((l3.length : Int) > 4096)) bt209.1 bt209.2.1 bt209.2.2.1) else (impl_SpotForward.j0 k l1 l2 l3 true bt209.1 bt209.2.1 bt209.2.2.1))) = some r := h
 clear h
 obtain ⟨y206, hy206⟩ : ∃ y_ : List (List Int), y_ = (([l1, l2] : List (List Int))) := ⟨_, rfl⟩
 replace H : ((impl_vectorField.f k a0 y206).bind fun bt209 => (if bt209.2.2.2 = true then (impl_SpotForward.j0 k l1 l2 l3 (decide ((l3.length : Int) > 4096)) bt209.1 bt209.2.1 bt209.2.2.1) else (impl_SpotForward.j0 k l1 l2 l3 true bt209.1 bt209.2.1 bt209.2.2.1))) = some r := by first | (rw [hy206]; with_reducible exact H) | (have H2_ := (Option.bind_some _ _).symm.trans H; rw [hy206]; with_reducible exact H2_) | (have H2_ := (Option.bind_some _ _).symm.trans H; with_reducible exact H2_) | with_reducible exact H | (rw [hy206]; exact H) | exact H
 have Ny206 := Aside0.mk hy206
 clear hy206
 replace H := Option.bind_eq_some_iff.mp H
 obtain ⟨⟨t209, t210, t211, t212⟩, A50, H⟩ := H
 replace H : (if t212 = true then (impl_SpotForward.j0 k l1 l2 l3 (decide ((l3.length : Int) > 4096)) t209 t210 t211) else (impl_SpotForward.j0 k l1 l2 l3 true t209 t210 t211)) = some r := H
 have A5 := Aside0.mk A50
 clear A50
 have HC6 := Aside0.mk H
 clear H
 go_enter Try.func51, Try.ntmps51
 go_upto_region 2 with (first | ((with_reducible refine gate_dst (N := 18) rfl ?_); (try (refine gate_guard (by rfl) ?_; dsimp only)); refine Kd.N_lit (Kd.slice 3 (Kd.int .i64)) _ 24 ?hg (N' := 18) ?hd (xs := ([l1, l2] : List (List Int))) (inner := [.slice A1 l1.length c1, .slice A2 l2.length c2]) (ok := (fun k_ => ((P1_ k_ ∨ P2_ k_) ∨ w.heap.size ≤ k_))) (okp := (fun k_ => ((P1_ k_ ∨ P2_ k_) ∨ w.heap.size ≤ k_))) ?hr ?hp (fun _ hk => hk) ((show ∀ k_, w.heap.size ≤ k_ → (fun k_ => ((P1_ k_ ∨ P2_ k_) ∨ w.heap.size ≤ k_)) k_ from fun k_ hk => (.inr (Nat.le_trans (below_size zH) hk))) _ (Nat.le_refl _)) (Below.refl _ _) (Nat.le_refl _) (by simp) ?_; (case hd => rfl); (case hg => rfl); (case hr => first | (go_simp; done) | (go_simp; rfl)); (case hp => exact (Reps.one (show Kd.FK (Kd.slice 3 (Kd.int .i64)) _ _ l1 [.slice A1 l1.length c1] from (Kd.FK_slice_mk (Kd.V_reads' (Kd.V_mono (ok' := (fun k_ => ((P1_ k_ ∨ P2_ k_) ∨ w.heap.size ≤ k_))) (HO1.out) (fun k_ hk => hk))).2.1 (Kd.V_F (Kd.V_mono (ok' := (fun k_ => ((P1_ k_ ∨ P2_ k_) ∨ w.heap.size ≤ k_))) (HO1.out) (fun k_ hk => hk))))) (Reps.one (show Kd.FK (Kd.slice 3 (Kd.int .i64)) _ _ l2 [.slice A2 l2.length c2] from (Kd.FK_slice_mk (Kd.V_reads' (Kd.V_mono (ok' := (fun k_ => ((P1_ k_ ∨ P2_ k_) ∨ w.heap.size ≤ k_))) (HO2.out) (fun k_ hk => hk))).2.1 (Kd.V_F (Kd.V_mono (ok' := (fun k_ => ((P1_ k_ ∨ P2_ k_) ∨ w.heap.size ≤ k_))) (HO2.out) (fun k_ hk => hk))))) (Reps.none _ _)))); intro v207 w7 ho8 hb hg_ hnew_; clear hg_ hnew_; (first | rw [← Ny206.out] at ho8 | (simp only [Int.reduceToNat] at ho8; rw [← Ny206.out] at ho8)); have n0_ := Aside0.mk (Kd.V_elder' (by (with_reducible repeat (first | apply Kd.V_alloc | apply Kd.V_drewN | apply Kd.V_drew)); exact HO1.out) (Kd.N_base ho8) hb); have n1_ := Aside0.mk (Kd.V_elder' (by (with_reducible repeat (first | apply Kd.V_alloc | apply Kd.V_drewN | apply Kd.V_drew)); exact HO2.out) (Kd.N_base ho8) hb); have n2_ := Aside0.mk (Kd.N_lower ho8 (below_size zH)); have n3_ := Aside0.mk (below_step zH hb); clear HO1; clear HO2; clear HB; have HO1 := n0_; have HO2 := n1_; have HO208 := n2_; have HB := n3_; clear n0_ n1_ n2_ n3_; clear hb ho8; obtain ⟨Ao9, co9, eo9⟩ := Kd.N_slice HO208.out; subst eo9) | (go_at_call 84; (with_reducible refine (impl_vectorField.calls k a0 _ _ y206 t209 t210 t211 t212 _ ?side1 ?side2 A5.out).mono ?_); (case side1 => exact zC ((Kd.N_reads' HO208.out).2.2)); (case side2 => exact (Kd.N_reads' HO208.out).2.1); rintro e w10 ⟨rfl, hb⟩; have n0_ := Aside0.mk (Kd.V_below (by (with_reducible repeat (first | apply Kd.V_alloc | apply Kd.V_drewN | apply Kd.V_drew)); exact HO1.out) hb); have n1_ := Aside0.mk (Kd.V_below (by (with_reducible repeat (first | apply Kd.V_alloc | apply Kd.V_drewN | apply Kd.V_drew)); exact HO2.out) hb); have n2_ := Aside0.mk (Kd.N_below (by (with_reducible repeat (first | apply Kd.N_alloc | apply Kd.N_drewN | apply Kd.N_drew)); exact HO208.out) hb); have n3_ := Aside0.mk (below_step zH hb); clear HO1; clear HO2; clear HO208; clear HB; have HO1 := n0_; have HO2 := n1_; have HO208 := n2_; have HB := n3_; clear n0_ n1_ n2_ n3_; (try clear hb); (try clear hb2); (try clear hk); (try clear hi)) | ((with_reducible refine gate_dst (N := 9) rfl ?_); (try (refine gate_guard (by rfl) ?_; dsimp only)); refine box_event ?hg (N := 9) ?hd (cs := #[.int .i64 0, .int .i64 0, .int .i64 0]) (t := 77) ?hr ?_; (case hd => rfl); (case hg => rfl); (case hr => first | (go_simp; done) | (go_simp; rfl)); intro gb213 hg w11 hbox hb; have n0_ := Aside0.mk (Kd.V_below (Kd.V_elderB (by (with_reducible repeat (first | apply Kd.V_alloc | apply Kd.V_drewN | apply Kd.V_drew)); exact HO1.out) gb213 (Nat.le_of_eq hg.symm)) hb); have n1_ := Aside0.mk (Kd.V_below (Kd.V_elderB (by (with_reducible repeat (first | apply Kd.V_alloc | apply Kd.V_drewN | apply Kd.V_drew)); exact HO2.out) gb213 (Nat.le_of_eq hg.symm)) hb); have n2_ := Aside0.mk (Kd.N_below (Kd.N_elderB (by (with_reducible repeat (first | apply Kd.N_alloc | apply Kd.N_drewN | apply Kd.N_drew)); exact HO208.out) gb213 (Nat.le_of_eq hg.symm)) hb); have n3_ := Aside0.mk (below_step zH hb); have n4_ := Aside0.mk (hbox); have n5_ := Aside0.mk ((by rw [hg]; exact (below_size zH) : w.heap.size ≤ gb213)); have n6_ := Aside0.mk ((by rw [hg]; exact (below_size zH) : w.heap.size ≤ gb213)); clear HO1; clear HO2; clear HO208; clear HB; have HO1 := n0_; have HO2 := n1_; have HO208 := n2_; have HB := n3_; have BK213 := n4_; have GW213 := n5_; have GE213 := n6_; clear n0_ n1_ n2_ n3_ n4_ n5_ n6_; clear hb hbox hg; obtain ⟨hcz12_0, hcz12_1, hcz12_2⟩ := zc3 BK213.out; obtain ⟨hfz12_0, hfz12_1, hfz12_2, _, _⟩ := zf BK213.out))
 repeat (go_quiet (first | ((with_reducible refine gate_dst (N := 18) rfl ?_); (try (refine gate_guard (by rfl) ?_; dsimp only)); refine Kd.N_lit (Kd.slice 3 (Kd.int .i64)) _ 24 ?hg (N' := 18) ?hd (xs := ([l1, l2] : List (List Int))) (inner := [.slice A1 l1.length c1, .slice A2 l2.length c2]) (ok := (fun k_ => ((P1_ k_ ∨ P2_ k_) ∨ w.heap.size ≤ k_))) (okp := (fun k_ => ((P1_ k_ ∨ P2_ k_) ∨ w.heap.size ≤ k_))) ?hr ?hp (fun _ hk => hk) ((show ∀ k_, w.heap.size ≤ k_ → (fun k_ => ((P1_ k_ ∨ P2_ k_) ∨ w.heap.size ≤ k_)) k_ from fun k_ hk => (.inr (Nat.le_trans (below_size zH) hk))) _ (Nat.le_refl _)) (Below.refl _ _) (Nat.le_refl _) (by simp) ?_; (case hd => rfl); (case hg => rfl); (case hr => first | (go_simp; done) | (go_simp; rfl)); (case hp => exact (Reps.one (show Kd.FK (Kd.slice 3 (Kd.int .i64)) _ _ l1 [.slice A1 l1.length c1] from (Kd.FK_slice_mk (Kd.V_reads' (Kd.V_mono (ok' := (fun k_ => ((P1_ k_ ∨ P2_ k_) ∨ w.heap.size ≤ k_))) (HO1.out) (fun k_ hk => hk))).2.1 (Kd.V_F (Kd.V_mono (ok' := (fun k_ => ((P1_ k_ ∨ P2_ k_) ∨ w.heap.size ≤ k_))) (HO1.out) (fun k_ hk => hk))))) (Reps.one (show Kd.FK (Kd.slice 3 (Kd.int .i64)) _ _ l2 [.slice A2 l2.length c2] from (Kd.FK_slice_mk (Kd.V_reads' (Kd.V_mono (ok' := (fun k_ => ((P1_ k_ ∨ P2_ k_) ∨ w.heap.size ≤ k_))) (HO2.out) (fun k_ hk => hk))).2.1 (Kd.V_F (Kd.V_mono (ok' := (fun k_ => ((P1_ k_ ∨ P2_ k_) ∨ w.heap.size ≤ k_))) (HO2.out) (fun k_ hk => hk))))) (Reps.none _ _)))); intro v207 w7 ho8 hb hg_ hnew_; clear hg_ hnew_; (first | rw [← Ny206.out] at ho8 | (simp only [Int.reduceToNat] at ho8; rw [← Ny206.out] at ho8)); have n0_ := Aside0.mk (Kd.V_elder' (by (with_reducible repeat (first | apply Kd.V_alloc | apply Kd.V_drewN | apply Kd.V_drew)); exact HO1.out) (Kd.N_base ho8) hb); have n1_ := Aside0.mk (Kd.V_elder' (by (with_reducible repeat (first | apply Kd.V_alloc | apply Kd.V_drewN | apply Kd.V_drew)); exact HO2.out) (Kd.N_base ho8) hb); have n2_ := Aside0.mk (Kd.N_lower ho8 (below_size zH)); have n3_ := Aside0.mk (below_step zH hb); clear HO1; clear HO2; clear HB; have HO1 := n0_; have HO2 := n1_; have HO208 := n2_; have HB := n3_; clear n0_ n1_ n2_ n3_; clear hb ho8; obtain ⟨Ao9, co9, eo9⟩ := Kd.N_slice HO208.out; subst eo9) | (go_at_call 84; (with_reducible refine (impl_vectorField.calls k a0 _ _ y206 t209 t210 t211 t212 _ ?side1 ?side2 A5.out).mono ?_); (case side1 => exact zC ((Kd.N_reads' HO208.out).2.2)); (case side2 => exact (Kd.N_reads' HO208.out).2.1); rintro e w10 ⟨rfl, hb⟩; have n0_ := Aside0.mk (Kd.V_below (by (with_reducible repeat (first | apply Kd.V_alloc | apply Kd.V_drewN | apply Kd.V_drew)); exact HO1.out) hb); have n1_ := Aside0.mk (Kd.V_below (by (with_reducible repeat (first | apply Kd.V_alloc | apply Kd.V_drewN | apply Kd.V_drew)); exact HO2.out) hb); have n2_ := Aside0.mk (Kd.N_below (by (with_reducible repeat (first | apply Kd.N_alloc | apply Kd.N_drewN | apply Kd.N_drew)); exact HO208.out) hb); have n3_ := Aside0.mk (below_step zH hb); clear HO1; clear HO2; clear HO208; clear HB; have HO1 := n0_; have HO2 := n1_; have HO208 := n2_; have HB := n3_; clear n0_ n1_ n2_ n3_; (try clear hb); (try clear hb2); (try clear hk); (try clear hi)) | ((with_reducible refine gate_dst (N := 9) rfl ?_); (try (refine gate_guard (by rfl) ?_; dsimp only)); refine box_event ?hg (N := 9) ?hd (cs := #[.int .i64 0, .int .i64 0, .int .i64 0]) (t := 77) ?hr ?_; (case hd => rfl); (case hg => rfl); (case hr => first | (go_simp; done) | (go_simp; rfl)); intro gb213 hg w11 hbox hb; have n0_ := Aside0.mk (Kd.V_below (Kd.V_elderB (by (with_reducible repeat (first | apply Kd.V_alloc | apply Kd.V_drewN | apply Kd.V_drew)); exact HO1.out) gb213 (Nat.le_of_eq hg.symm)) hb); have n1_ := Aside0.mk (Kd.V_below (Kd.V_elderB (by (with_reducible repeat (first | apply Kd.V_alloc | apply Kd.V_drewN | apply Kd.V_drew)); exact HO2.out) gb213 (Nat.le_of_eq hg.symm)) hb); have n2_ := Aside0.mk (Kd.N_below (Kd.N_elderB (by (with_reducible repeat (first | apply Kd.N_alloc | apply Kd.N_drewN | apply Kd.N_drew)); exact HO208.out) gb213 (Nat.le_of_eq hg.symm)) hb); have n3_ := Aside0.mk (below_step zH hb); have n4_ := Aside0.mk (hbox); have n5_ := Aside0.mk ((by rw [hg]; exact (below_size zH) : w.heap.size ≤ gb213)); have n6_ := Aside0.mk ((by rw [hg]; exact (below_size zH) : w.heap.size ≤ gb213)); clear HO1; clear HO2; clear HO208; clear HB; have HO1 := n0_; have HO2 := n1_; have HO208 := n2_; have HB := n3_; have BK213 := n4_; have GW213 := n5_; have GE213 := n6_; clear n0_ n1_ n2_ n3_ n4_ n5_ n6_; clear hb hbox hg; obtain ⟨hcz12_0, hcz12_1, hcz12_2⟩ := zc3 BK213.out; obtain ⟨hfz12_0, hfz12_1, hfz12_2, _, _⟩ := zf BK213.out)); go_upto_region 2 with (first | ((with_reducible refine gate_dst (N := 18) rfl ?_); (try (refine gate_guard (by rfl) ?_; dsimp only)); refine Kd.N_lit (Kd.slice 3 (Kd.int .i64)) _ 24 ?hg (N' := 18) ?hd (xs := ([l1, l2] : List (List Int))) (inner := [.slice A1 l1.length c1, .slice A2 l2.length c2]) (ok := (fun k_ => ((P1_ k_ ∨ P2_ k_) ∨ w.heap.size ≤ k_))) (okp := (fun k_ => ((P1_ k_ ∨ P2_ k_) ∨ w.heap.size ≤ k_))) ?hr ?hp (fun _ hk => hk) ((show ∀ k_, w.heap.size ≤ k_ → (fun k_ => ((P1_ k_ ∨ P2_ k_) ∨ w.heap.size ≤ k_)) k_ from fun k_ hk => (.inr (Nat.le_trans (below_size zH) hk))) _ (Nat.le_refl _)) (Below.refl _ _) (Nat.le_refl _) (by simp) ?_; (case hd => rfl); (case hg => rfl); (case hr => first | (go_simp; done) | (go_simp; rfl)); (case hp => exact (Reps.one (show Kd.FK (Kd.slice 3 (Kd.int .i64)) _ _ l1 [.slice A1 l1.length c1] from (Kd.FK_slice_mk (Kd.V_reads' (Kd.V_mono (ok' := (fun k_ => ((P1_ k_ ∨ P2_ k_) ∨ w.heap.size ≤ k_))) (HO1.out) (fun k_ hk => hk))).2.1 (Kd.V_F (Kd.V_mono (ok' := (fun k_ => ((P1_ k_ ∨ P2_ k_) ∨ w.heap.size ≤ k_))) (HO1.out) (fun k_ hk => hk))))) (Reps.one (show Kd.FK (Kd.slice 3 (Kd.int .i64)) _ _ l2 [.slice A2 l2.length c2] from (Kd.FK_slice_mk (Kd.V_reads' (Kd.V_mono (ok' := (fun k_ => ((P1_ k_ ∨ P2_ k_) ∨ w.heap.size ≤ k_))) (HO2.out) (fun k_ hk => hk))).2.1 (Kd.V_F (Kd.V_mono (ok' := (fun k_ => ((P1_ k_ ∨ P2_ k_) ∨ w.heap.size ≤ k_))) (HO2.out) (fun k_ hk => hk))))) (Reps.none _ _)))); intro v207 w7 ho8 hb hg_ hnew_; clear hg_ hnew_; (first | rw [← Ny206.out] at ho8 | (simp only [Int.reduceToNat] at ho8; rw [← Ny206.out] at ho8)); have n0_ := Aside0.mk (Kd.V_elder' (by (with_reducible repeat (first | apply Kd.V_alloc | apply Kd.V_drewN | apply Kd.V_drew)); exact HO1.out) (Kd.N_base ho8) hb); have n1_ := Aside0.mk (Kd.V_elder' (by (with_reducible repeat (first | apply Kd.V_alloc | apply Kd.V_drewN | apply Kd.V_drew)); exact HO2.out) (Kd.N_base ho8) hb); have n2_ := Aside0.mk (Kd.N_lower ho8 (below_size zH)); have n3_ := Aside0.mk (below_step zH hb); clear HO1; clear HO2; clear HB; have HO1 := n0_; have HO2 := n1_; have HO208 := n2_; have HB := n3_; clear n0_ n1_ n2_ n3_; clear hb ho8; obtain ⟨Ao9, co9, eo9⟩ := Kd.N_slice HO208.out; subst eo9) | (go_at_call 84; (with_reducible refine (impl_vectorField.calls k a0 _ _ y206 t209 t210 t211 t212 _ ?side1 ?side2 A5.out).mono ?_); (case side1 => exact zC ((Kd.N_reads' HO208.out).2.2)); (case side2 => exact (Kd.N_reads' HO208.out).2.1); rintro e w10 ⟨rfl, hb⟩; have n0_ := Aside0.mk (Kd.V_below (by (with_reducible repeat (first | apply Kd.V_alloc | apply Kd.V_drewN | apply Kd.V_drew)); exact HO1.out) hb); have n1_ := Aside0.mk (Kd.V_below (by (with_reducible repeat (first | apply Kd.V_alloc | apply Kd.V_drewN | apply Kd.V_drew)); exact HO2.out) hb); have n2_ := Aside0.mk (Kd.N_below (by (with_reducible repeat (first | apply Kd.N_alloc | apply Kd.N_drewN | apply Kd.N_drew)); exact HO208.out) hb); have n3_ := Aside0.mk (below_step zH hb); clear HO1; clear HO2; clear HO208; clear HB; have HO1 := n0_; have HO2 := n1_; have HO208 := n2_; have HB := n3_; clear n0_ n1_ n2_ n3_; (try clear hb); (try clear hb2); (try clear hk); (try clear hi)) | ((with_reducible refine gate_dst (N := 9) rfl ?_); (try (refine gate_guard (by rfl) ?_; dsimp only)); refine box_event ?hg (N := 9) ?hd (cs := #[.int .i64 0, .int .i64 0, .int .i64 0]) (t := 77) ?hr ?_; (case hd => rfl); (case hg => rfl); (case hr => first | (go_simp; done) | (go_simp; rfl)); intro gb213 hg w11 hbox hb; have n0_ := Aside0.mk (Kd.V_below (Kd.V_elderB (by (with_reducible repeat (first | apply Kd.V_alloc | apply Kd.V_drewN | apply Kd.V_drew)); exact HO1.out) gb213 (Nat.le_of_eq hg.symm)) hb); have n1_ := Aside0.mk (Kd.V_below (Kd.V_elderB (by (with_reducible repeat (first | apply Kd.V_alloc | apply Kd.V_drewN | apply Kd.V_drew)); exact HO2.out) gb213 (Nat.le_of_eq hg.symm)) hb); have n2_ := Aside0.mk (Kd.N_below (Kd.N_elderB (by (with_reducible repeat (first | apply Kd.N_alloc | apply Kd.N_drewN | apply Kd.N_drew)); exact HO208.out) gb213 (Nat.le_of_eq hg.symm)) hb); have n3_ := Aside0.mk (below_step zH hb); have n4_ := Aside0.mk (hbox); have n5_ := Aside0.mk ((by rw [hg]; exact (below_size zH) : w.heap.size ≤ gb213)); have n6_ := Aside0.mk ((by rw [hg]; exact (below_size zH) : w.heap.size ≤ gb213)); clear HO1; clear HO2; clear HO208; clear HB; have HO1 := n0_; have HO2 := n1_; have HO208 := n2_; have HB := n3_; have BK213 := n4_; have GW213 := n5_; have GE213 := n6_; clear n0_ n1_ n2_ n3_ n4_ n5_ n6_; clear hb hbox hg; obtain ⟨hcz12_0, hcz12_1, hcz12_2⟩ := zc3 BK213.out; obtain ⟨hfz12_0, hfz12_1, hfz12_2, _, _⟩ := zf BK213.out)))
 (try simp only [Act.put, List.setIfInBounds_toArray, List.set_cons_zero, List.set_cons_succ])
 go_cut [28] (fun v28 wc => ∃ (kq : Nat) (x28_5 : Bool), v28 = .bool x28_5 ∧ Aside0 (impl_SpotForward.j0 kq l1 l2 l3 x28_5 t209 t210 t211 = some r) ∧ Aside0 (kq ≤ k) ∧ Aside0 (Kd.V (Kd.int .i64) 3 wc w.heap.size (fun k_ => ((P1_ k_ ∨ P2_ k_) ∨ w.heap.size ≤ k_) ∧ k_ ≠ gb213) (.slice A1 l1.length c1) l1) ∧ Aside0 (Kd.V (Kd.int .i64) 3 wc w.heap.size (fun k_ => ((P1_ k_ ∨ P2_ k_) ∨ w.heap.size ≤ k_) ∧ k_ ≠ gb213) (.slice A2 l2.length c2) l2) ∧ Aside0 (wc.heap[gb213]? = some (.cells #[.int .i64 t209, .int .i64 t210, .int .i64 t211] 77 (0, 0))) ∧ Aside0 (Below w.heap.size w wc))
 case first =>
  have H := HC6.out
  clear HC6
  by_cases c13 : t212 = true
  ·subst c13
   replace H : (impl_SpotForward.j0 k l1 l2 l3 (decide ((l3.length : Int) > 4096)) t209 t210 t211) = some r := by rw [if_pos rfl] at H; exact H
   have H' := Aside0.mk H
   clear H
   go_wp2
   repeat (go_quiet (fail); try go_wp2)
   go_meet
   case rel => exact ⟨_, (decide ((l3.length : Int) > 4096)), zF, H', ⟨by first | omega | exact Nat.le_refl _⟩, ⟨by (with_reducible repeat (first | apply Kd.V_alloc | apply Kd.V_drewN | apply Kd.V_drew)); exact Kd.V_mono (Kd.V_far (p := ⟨gb213, 2, none⟩) (Kd.V_far (p := ⟨gb213, 1, none⟩) (Kd.V_far (p := ⟨gb213, 0, none⟩) (Kd.V_mono HO1.out (fun k_ hk => (⟨hk, hk.2⟩ : _ ∧ k_ ≠ gb213))) (fun _ hk => hk.2) (.int .i64 t209)) (fun _ hk => hk.2) (.int .i64 t210)) (fun _ hk => hk.2) (.int .i64 t211)) (fun _ hk => ⟨hk.1.1.1, hk.1.2⟩)⟩, ⟨by (with_reducible repeat (first | apply Kd.V_alloc | apply Kd.V_drewN | apply Kd.V_drew)); exact Kd.V_mono (Kd.V_far (p := ⟨gb213, 2, none⟩) (Kd.V_far (p := ⟨gb213, 1, none⟩) (Kd.V_far (p := ⟨gb213, 0, none⟩) (Kd.V_mono HO2.out (fun k_ hk => (⟨hk, hk.2⟩ : _ ∧ k_ ≠ gb213))) (fun _ hk => hk.2) (.int .i64 t209)) (fun _ hk => hk.2) (.int .i64 t210)) (fun _ hk => hk.2) (.int .i64 t211)) (fun _ hk => ⟨hk.1.1.1, hk.1.2⟩)⟩, ⟨by (repeat refine zL ?_); refine blk_put (cs := #[.int .i64 t209, .int .i64 t210, .int .i64 0]) ?_ 2 _ rfl; (repeat refine zL ?_); refine blk_put (cs := #[.int .i64 t209, .int .i64 0, .int .i64 0]) ?_ 1 _ rfl; (repeat refine zL ?_); refine blk_put (cs := #[.int .i64 0, .int .i64 0, .int .i64 0]) ?_ 0 _ rfl; (repeat refine zL ?_); exact BK213.out⟩, ⟨zH⟩⟩
  ·replace c13 := Bool.eq_false_iff.mpr c13
   subst c13
   replace H : (impl_SpotForward.j0 k l1 l2 l3 true t209 t210 t211) = some r := by rw [if_neg (show ¬ (false = true) by decide)] at H; exact H
   have H' := Aside0.mk H
   clear H
   go_wp2
   repeat (go_quiet (fail); try go_wp2)
   go_meet
   case rel => exact ⟨_, (true), zF, H', ⟨by first | omega | exact Nat.le_refl _⟩, ⟨by (with_reducible repeat (first | apply Kd.V_alloc | apply Kd.V_drewN | apply Kd.V_drew)); exact Kd.V_mono (Kd.V_far (p := ⟨gb213, 2, none⟩) (Kd.V_far (p := ⟨gb213, 1, none⟩) (Kd.V_far (p := ⟨gb213, 0, none⟩) (Kd.V_mono HO1.out (fun k_ hk => (⟨hk, hk.2⟩ : _ ∧ k_ ≠ gb213))) (fun _ hk => hk.2) (.int .i64 t209)) (fun _ hk => hk.2) (.int .i64 t210)) (fun _ hk => hk.2) (.int .i64 t211)) (fun _ hk => ⟨hk.1.1.1, hk.1.2⟩)⟩, ⟨by (with_reducible repeat (first | apply Kd.V_alloc | apply Kd.V_drewN | apply Kd.V_drew)); exact Kd.V_mono (Kd.V_far (p := ⟨gb213, 2, none⟩) (Kd.V_far (p := ⟨gb213, 1, none⟩) (Kd.V_far (p := ⟨gb213, 0, none⟩) (Kd.V_mono HO2.out (fun k_ hk => (⟨hk, hk.2⟩ : _ ∧ k_ ≠ gb213))) (fun _ hk => hk.2) (.int .i64 t209)) (fun _ hk => hk.2) (.int .i64 t210)) (fun _ hk => hk.2) (.int .i64 t211)) (fun _ hk => ⟨hk.1.1.1, hk.1.2⟩)⟩, ⟨by (repeat refine zL ?_); refine blk_put (cs := #[.int .i64 t209, .int .i64 t210, .int .i64 0]) ?_ 2 _ rfl; (repeat refine zL ?_); refine blk_put (cs := #[.int .i64 t209, .int .i64 0, .int .i64 0]) ?_ 1 _ rfl; (repeat refine zL ?_); refine blk_put (cs := #[.int .i64 0, .int .i64 0, .int .i64 0]) ?_ 0 _ rfl; (repeat refine zL ?_); exact BK213.out⟩, ⟨zH⟩⟩
 case rest =>
  clear HC6
  (try clear c1);(try clear c2);(try clear p2);(try clear c3);(try clear c5);(try clear c13);(try clear hcz12_0);(try clear hcz12_1);(try clear hcz12_2);(try clear hfz12_0);(try clear hfz12_1);(try clear hfz12_2)
  obtain ⟨kq, x28_5, rfl, HA, HJ5, HO_1, HO_2, BK213, HB⟩ := hcut
  cases kq with
  | zero => exact absurd HA.out (by simp [impl_SpotForward.j0])
  | succ kj5 =>
   have H := HA.out
   clear HA
   simp only [impl_SpotForward.j0] at H
   by_cases c14 : x28_5 = true
   ·subst c14
    replace H : (some false) = some r := by rw [if_pos rfl] at H; exact H
    obtain rfl := Option.some.inj H
    go_wp2
    repeat (go_quiet (fail); try go_wp2)
    go_ret
    exact ⟨zE, zH⟩
   ·replace c14 := Bool.eq_false_iff.mpr c14
    subst c14
    replace H : ((impl_field_forward.f kj5 t209 t210 t211 l1).bind fun t214 => (impl_SpotForward.l0 kj5 l1 l2 t214 l3 (l3.length : Int) 0)) = some r := by rw [if_neg (show ¬ (false = true) by decide)] at H; exact H
    replace H := Option.bind_eq_some_iff.mp H
    obtain ⟨t214, A150, H⟩ := H
    replace H : (impl_SpotForward.l0 kj5 l1 l2 t214 l3 (l3.length : Int) 0) = some r := H
    have A15 := Aside0.mk A150
    clear A150
    have H' := Aside0.mk H
    clear H
    obtain ⟨hcz16_0, hcz16_1, hcz16_2⟩ := zc3 BK213.out
    obtain ⟨hfz16_0, hfz16_1, hfz16_2, _, _⟩ := zf BK213.out
    go_wp2_with (first | (go_at_call 85; (with_reducible refine (impl_field_forward.calls kj5 t209 t210 t211 _ _ l1 t214 _ ?side1 ?side2 A15.out).mono ?_); (case side1 => exact zC ((Kd.V_reads' HO_1.out).2.2)); (case side2 => exact (Kd.V_reads' HO_1.out).2.1); rintro e w17 ⟨v215, rfl, ho0, hb⟩; have n0_ := Aside0.mk (Kd.V_elder' (by (with_reducible repeat (first | apply Kd.V_alloc | apply Kd.V_drewN | apply Kd.V_drew)); exact HO_1.out) (Kd.R_base ho0) hb); have n1_ := Aside0.mk (Kd.V_elder' (by (with_reducible repeat (first | apply Kd.V_alloc | apply Kd.V_drewN | apply Kd.V_drew)); exact HO_2.out) (Kd.R_base ho0) hb); have n2_ := Aside0.mk (Kd.R_lower (Kd.R_newM (M := fun k_ => (w.heap.size ≤ k_)) ho0 (below_size zH) (fun k_ h_ => h_)) (below_size zH)); have n3_ := Aside0.mk (blk_below (g := gb213) (o := .cells #[.int .i64 t209, .int .i64 t210, .int .i64 t211] 77 (0, 0)) (zB BK213.out) hb); have n4_ := Aside0.mk (below_step zH hb); clear HO_1; clear HO_2; clear BK213; clear HB; have HO_1 := n0_; have HO_2 := n1_; have HO216 := n2_; have BK213 := n3_; have HB := n4_; clear n0_ n1_ n2_ n3_ n4_; (try clear hb); (try clear hb2); (try clear hk); (try clear hi); (try clear ho0)))
    repeat (go_quiet (first | (go_at_call 85; (with_reducible refine (impl_field_forward.calls kj5 t209 t210 t211 _ _ l1 t214 _ ?side1 ?side2 A15.out).mono ?_); (case side1 => exact zC ((Kd.V_reads' HO_1.out).2.2)); (case side2 => exact (Kd.V_reads' HO_1.out).2.1); rintro e w17 ⟨v215, rfl, ho0, hb⟩; have n0_ := Aside0.mk (Kd.V_elder' (by (with_reducible repeat (first | apply Kd.V_alloc | apply Kd.V_drewN | apply Kd.V_drew)); exact HO_1.out) (Kd.R_base ho0) hb); have n1_ := Aside0.mk (Kd.V_elder' (by (with_reducible repeat (first | apply Kd.V_alloc | apply Kd.V_drewN | apply Kd.V_drew)); exact HO_2.out) (Kd.R_base ho0) hb); have n2_ := Aside0.mk (Kd.R_lower (Kd.R_newM (M := fun k_ => (w.heap.size ≤ k_)) ho0 (below_size zH) (fun k_ h_ => h_)) (below_size zH)); have n3_ := Aside0.mk (blk_below (g := gb213) (o := .cells #[.int .i64 t209, .int .i64 t210, .int .i64 t211] 77 (0, 0)) (zB BK213.out) hb); have n4_ := Aside0.mk (below_step zH hb); clear HO_1; clear HO_2; clear BK213; clear HB; have HO_1 := n0_; have HO_2 := n1_; have HO216 := n2_; have BK213 := n3_; have HB := n4_; clear n0_ n1_ n2_ n3_ n4_; (try clear hb); (try clear hb2); (try clear hk); (try clear hi); (try clear ho0))); try go_wp2_with (first | (go_at_call 85; (with_reducible refine (impl_field_forward.calls kj5 t209 t210 t211 _ _ l1 t214 _ ?side1 ?side2 A15.out).mono ?_); (case side1 => exact zC ((Kd.V_reads' HO_1.out).2.2)); (case side2 => exact (Kd.V_reads' HO_1.out).2.1); rintro e w17 ⟨v215, rfl, ho0, hb⟩; have n0_ := Aside0.mk (Kd.V_elder' (by (with_reducible repeat (first | apply Kd.V_alloc | apply Kd.V_drewN | apply Kd.V_drew)); exact HO_1.out) (Kd.R_base ho0) hb); have n1_ := Aside0.mk (Kd.V_elder' (by (with_reducible repeat (first | apply Kd.V_alloc | apply Kd.V_drewN | apply Kd.V_drew)); exact HO_2.out) (Kd.R_base ho0) hb); have n2_ := Aside0.mk (Kd.R_lower (Kd.R_newM (M := fun k_ => (w.heap.size ≤ k_)) ho0 (below_size zH) (fun k_ h_ => h_)) (below_size zH)); have n3_ := Aside0.mk (blk_below (g := gb213) (o := .cells #[.int .i64 t209, .int .i64 t210, .int .i64 t211] 77 (0, 0)) (zB BK213.out) hb); have n4_ := Aside0.mk (below_step zH hb); clear HO_1; clear HO_2; clear BK213; clear HB; have HO_1 := n0_; have HO_2 := n1_; have HO216 := n2_; have BK213 := n3_; have HB := n4_; clear n0_ n1_ n2_ n3_ n4_; (try clear hb); (try clear hb2); (try clear hk); (try clear hi); (try clear ho0))))
    go_loopg [34] kj5 (fun kq v34 w' => ∃ (x34_2 : Int), v34 = .int .i64 x34_2 ∧ Aside0 (impl_SpotForward.l0 kq l1 l2 t214 l3 (l3.length : Int) x34_2 = some r) ∧ Aside0 (kq ≤ kj5) ∧ Aside0 (Kd.V (Kd.int .i64) 3 w' w.heap.size (fun k_ => ((P1_ k_ ∨ P2_ k_) ∨ w.heap.size ≤ k_) ∧ some k_ ≠ (v215 : Value).ownBlock ∧ k_ ≠ gb213) (.slice A1 l1.length c1) l1) ∧ Aside0 (Kd.V (Kd.int .i64) 3 w' w.heap.size (fun k_ => ((P1_ k_ ∨ P2_ k_) ∨ w.heap.size ≤ k_) ∧ some k_ ≠ (v215 : Value).ownBlock ∧ k_ ≠ gb213) (.slice A2 l2.length c2) l2) ∧ Aside0 (Kd.R (Kd.int .i64) 3 w' w.heap.size (fun k_ => (w.heap.size ≤ k_)) v215 t214) ∧ Aside0 (w'.heap[gb213]? = some (.cells #[.int .i64 t209, .int .i64 t210, .int .i64 t211] 77 (0, 0))) ∧ Aside0 (Below w.heap.size w w'))
    case atStart => exact ⟨(0), zF, H', ⟨Nat.le_refl _⟩, ⟨by (with_reducible repeat (first | apply Kd.V_alloc | apply Kd.V_drewN | apply Kd.V_drew)); exact Kd.V_mono HO_1.out (fun _ hk => ⟨hk.1.1, ⟨hk.2, hk.1.2⟩⟩)⟩, ⟨by (with_reducible repeat (first | apply Kd.V_alloc | apply Kd.V_drewN | apply Kd.V_drew)); exact Kd.V_mono HO_2.out (fun _ hk => ⟨hk.1.1, ⟨hk.2, hk.1.2⟩⟩)⟩, ⟨by (with_reducible repeat (first | apply Kd.R_alloc | apply Kd.R_drewN | apply Kd.R_drew)); exact Kd.R_mono HO216.out (fun _ hk => hk.1)⟩, ⟨zB BK213.out⟩, ⟨zH⟩⟩
    case round =>
     clear H'
     (try clear c1);(try clear c2);(try clear p2);(try clear c3);(try clear c5);(try clear c13);(try clear c14);(try clear hcz12_0);(try clear hcz12_1);(try clear hcz12_2);(try clear hcz16_0);(try clear hcz16_1);(try clear hcz16_2);(try clear hfz12_0);(try clear hfz12_1);(try clear hfz12_2);(try clear hfz16_0);(try clear hfz16_1);(try clear hfz16_2);(try clear p2)
     obtain ⟨x34_2, rfl, HA, HK2, HO_1, HO_2, HO_11, BK213, HB⟩ := hrel
     cases gk with
     | zero => exact absurd HA.out (by simp [impl_SpotForward.l0])
     | succ k2 =>
      have H := HA.out
      clear HA
      simp only [impl_SpotForward.l0] at H
      by_cases c18 : x34_2 < (l3.length : Int)
      ·rw [if_pos c18] at H
       have c18b0 : decide (x34_2 < (l3.length : Int)) = true := decide_eq_true c18
       clear c18
       by_cases c19 : 0 ≤ x34_2
       ·rw [if_pos c19] at H
        have c19b0 : decide (0 ≤ x34_2) = true := decide_eq_true c19
        clear c19
        by_cases c20 : x34_2 < (l3.length : Int)
        ·rw [if_pos c20] at H
         have c20b0 : decide (x34_2 < (l3.length : Int)) = true := decide_eq_true c20
         clear c20
         by_cases c21 : (rd l3 x34_2) < 0
         ·rw [if_pos c21] at H
          have c21b0 : decide ((rd l3 x34_2) < 0) = true := decide_eq_true c21
          clear c21
          obtain rfl := Option.some.inj H
          have p217 : 0 ≤ (x34_2 : Int) := zD
          have q217 : x34_2 < (l3.length : Int) := zD
          obtain ⟨ad217, e217, hx217_0⟩ := Kd.at_int HR3.out x34_2 p217 q217
          cases e217
          replace hx217_0 := (HB.out.cell (World.block_lt_of_cell? w _ hx217_0)).trans hx217_0
          replace p217 := eq_true p217
          replace q217 := eq_true q217
          go_wp2
          repeat (go_quiet (fail); try go_wp2)
          go_ret
          exact ⟨zE, zH⟩
         ·rw [if_neg c21] at H
          have c21b0 : decide ((rd l3 x34_2) < 0) = false := decide_eq_false c21
          clear c21
          by_cases c22 : (rd l3 x34_2) ≥ (l1.length : Int)
          ·rw [if_pos c22] at H
           have c22b0 : decide ((l1.length : Int) ≤ (rd l3 x34_2)) = true := decide_eq_true c22
           clear c22
           obtain rfl := Option.some.inj H
           have p217 : 0 ≤ (x34_2 : Int) := zD
           have q217 : x34_2 < (l3.length : Int) := zD
           obtain ⟨ad217, e217, hx217_0⟩ := Kd.at_int HR3.out x34_2 p217 q217
           cases e217
           replace hx217_0 := (HB.out.cell (World.block_lt_of_cell? w _ hx217_0)).trans hx217_0
           replace p217 := eq_true p217
           replace q217 := eq_true q217
           go_wp2
           repeat (go_quiet (fail); try go_wp2)
           go_ret
           exact ⟨zE, zH⟩
          ·rw [if_neg c22] at H
           have c22b0 : decide ((l1.length : Int) ≤ (rd l3 x34_2)) = false := decide_eq_false c22
           clear c22
           by_cases c23 : 0 ≤ (rd l3 x34_2)
           ·rw [if_pos c23] at H
            have c23b0 : decide (0 ≤ (rd l3 x34_2)) = true := decide_eq_true c23
            clear c23
            by_cases c24 : (rd l3 x34_2) < (l2.length : Int)
            ·rw [if_pos c24] at H
             have c24b0 : decide ((rd l3 x34_2) < (l2.length : Int)) = true := decide_eq_true c24
             clear c24
             by_cases c25 : (rd l3 x34_2) < (t214.length : Int)
             ·rw [if_pos c25] at H
              have c25b0 : decide ((rd l3 x34_2) < (t214.length : Int)) = true := decide_eq_true c25
              clear c25
              by_cases c26 : (rd l2 (rd l3 x34_2)) = (rd t214 (rd l3 x34_2))
              ·rw [if_pos c26] at H
               have c26b0 : ((rd l2 (rd l3 x34_2)) == (rd t214 (rd l3 x34_2))) = true := beq_iff_eq.mpr c26
               have c26b1 : ((rd l2 (rd l3 x34_2)) != (rd t214 (rd l3 x34_2))) = false := bne_eq_false_iff_eq.mpr c26
               clear c26
               have H' := Aside0.mk H
               clear H
               have p217 : 0 ≤ (x34_2 : Int) := zD
               have q217 : x34_2 < (l3.length : Int) := zD
               obtain ⟨ad217, e217, hx217_0⟩ := Kd.at_int HR3.out x34_2 p217 q217
               cases e217
               replace hx217_0 := (HB.out.cell (World.block_lt_of_cell? w _ hx217_0)).trans hx217_0
               replace p217 := eq_true p217
               replace q217 := eq_true q217
               have p218 : 0 ≤ ((rd l3 x34_2) : Int) := zD
               have q218 : (rd l3 x34_2) < (l2.length : Int) := zD
               obtain ⟨ad218, e218, hx218_0⟩ := Kd.at_int (Kd.V_reads' HO_2.out).2.2 (rd l3 x34_2) p218 q218
               cases e218
               replace p218 := eq_true p218
               replace q218 := eq_true q218
               obtain ⟨Ao27, co27, eo27⟩ := Kd.R_slice HO_11.out
               subst eo27
               have p219 : 0 ≤ ((rd l3 x34_2) : Int) := zD
               have q219 : (rd l3 x34_2) < (t214.length : Int) := zD
               obtain ⟨ad219, e219, hx219_0⟩ := Kd.at_int (Kd.R_reads' HO_11.out).2.2 (rd l3 x34_2) p219 q219
               cases e219
               replace p219 := eq_true p219
               replace q219 := eq_true q219
               go_wp2
               repeat (go_quiet (fail); try go_wp2)
               go_roundg k2
               case measure => have := HJ5.out; have := HK2.out; omega
               case rel => exact ⟨(wrap64 (x34_2 + 1)), zF, H', ⟨by have := HJ5.out; have := HK2.out; omega⟩, ⟨by (with_reducible repeat (first | apply Kd.V_alloc | apply Kd.V_drewN | apply Kd.V_drew)); exact HO_1.out⟩, ⟨by (with_reducible repeat (first | apply Kd.V_alloc | apply Kd.V_drewN | apply Kd.V_drew)); exact HO_2.out⟩, ⟨zR HO_11.out⟩, ⟨zB BK213.out⟩, ⟨zH⟩⟩
              ·rw [if_neg c26] at H
               have c26b0 : ((rd l2 (rd l3 x34_2)) == (rd t214 (rd l3 x34_2))) = false := beq_eq_false_iff_ne.mpr c26
               have c26b1 : ((rd l2 (rd l3 x34_2)) != (rd t214 (rd l3 x34_2))) = true := bne_iff_ne.mpr c26
               obtain rfl := Option.some.inj H
               have p217 : 0 ≤ (x34_2 : Int) := zD
               have q217 : x34_2 < (l3.length : Int) := zD
               obtain ⟨ad217, e217, hx217_0⟩ := Kd.at_int HR3.out x34_2 p217 q217
               cases e217
               replace hx217_0 := (HB.out.cell (World.block_lt_of_cell? w _ hx217_0)).trans hx217_0
               replace p217 := eq_true p217
               replace q217 := eq_true q217
               have p218 : 0 ≤ ((rd l3 x34_2) : Int) := zD
               have q218 : (rd l3 x34_2) < (l2.length : Int) := zD
               obtain ⟨ad218, e218, hx218_0⟩ := Kd.at_int (Kd.V_reads' HO_2.out).2.2 (rd l3 x34_2) p218 q218
               cases e218
               replace p218 := eq_true p218
               replace q218 := eq_true q218
               obtain ⟨Ao28, co28, eo28⟩ := Kd.R_slice HO_11.out
               subst eo28
               have p219 : 0 ≤ ((rd l3 x34_2) : Int) := zD
               have q219 : (rd l3 x34_2) < (t214.length : Int) := zD
               obtain ⟨ad219, e219, hx219_0⟩ := Kd.at_int (Kd.R_reads' HO_11.out).2.2 (rd l3 x34_2) p219 q219
               cases e219
               replace p219 := eq_true p219
               replace q219 := eq_true q219
               go_wp2
               repeat (go_quiet (fail); try go_wp2)
               go_ret
               exact ⟨zE, zH⟩
             ·rw [if_neg c25] at H
              exact absurd H (by simp)
            ·rw [if_neg c24] at H
             exact absurd H (by simp)
           ·rw [if_neg c23] at H
            exact absurd H (by simp)
        ·rw [if_neg c20] at H
         exact absurd H (by simp)
       ·rw [if_neg c19] at H
        exact absurd H (by simp)
      ·rw [if_neg c18] at H
       have c18b0 : decide (x34_2 < (l3.length : Int)) = false := decide_eq_false c18
       clear c18
       obtain rfl := Option.some.inj H
       go_wp2
       repeat (go_quiet (fail); try go_wp2)
       go_ret
       exact ⟨zE, zH⟩

/-! ### laws_FnExactSpotForward: function 14 -/
def laws_FnExactSpotForward.f (k : Nat) (a0 : Int) (l1 : List Int) (l2 : List Int) (l3 : List Int) : Option (Bool) := if (l1.length : Int) > 1048576 then (some true) else (if (l2.length : Int) > 1048576 then (some true) else (if (l3.length : Int) > 1048576 then (some true) else ((laws_toIntS.f k l1).bind fun t220 => ((laws_toIntS.f k l2).bind fun t223 => ((laws_toIntS.f k l3).bind fun t226 => ((spec_SpotForward.f k a0 t220 t223 t226).bind fun t229 => ((laws_toIntS.f k l1).bind fun t230 => ((laws_toIntS.f k l2).bind fun t233 => ((laws_toIntS.f k l3).bind fun t236 => ((impl_SpotForward.f k a0 t230 t233 t236).bind fun t239 => (if (t239 != t229) = true then (some false) else ((laws_toIntS.f k l1).bind fun t240 => ((laws_eqIntS.f k t230 t240).bind fun t243 => (if t243 = true then ((laws_toIntS.f k l2).bind fun t244 => ((laws_eqIntS.f k t233 t244).bind fun t247 => (if t247 = true then ((laws_toIntS.f k l3).bind fun t248 => ((laws_eqIntS.f k t236 t248).bind fun t251 => (if t251 = true then (some true) else (some false)))) else (some false)))) else (some false)))))))))))))))
theorem laws_FnExactSpotForward.mono : ∀ a0 a1 a2 a3 k, LeO (laws_FnExactSpotForward.f k a0 a1 a2 a3) (laws_FnExactSpotForward.f (k + 1) a0 a1 a2 a3) := by
 intro a0 a1 a2 a3 k
 unfold laws_FnExactSpotForward.f
 repeat' first
   | (with_reducible exact impl_SpotForward.mono _ _ _ _ _)
   | (with_reducible exact laws_eqIntS.mono _ _ _)
   | (with_reducible exact laws_toIntS.mono _ _)
   | (with_reducible exact spec_SpotForward.mono _ _ _ _ _)
   | (with_reducible exact LeO.refl _)
   | (with_reducible exact LeO.none _)
   | (with_reducible refine LeO.ite ?_ ?_)
   | (with_reducible refine LeO.bind ?_ (fun _ => ?_))
   | exact impl_SpotForward.mono _ _ _ _ _
   | exact laws_eqIntS.mono _ _ _
   | exact laws_toIntS.mono _ _
   | exact spec_SpotForward.mono _ _ _ _ _
   | exact LeO.none _
   | refine LeO.ite ?_ ?_
   | refine LeO.bind ?_ (fun _ => ?_)
set_option maxHeartbeats 8000000 in
set_option maxRecDepth 100000 in
theorem laws_FnExactSpotForward.calls (k : Nat) (a0 : Int) (A1 : Option Addr) (c1 : Nat) (l1 : List Int) (A2 : Option Addr) (c2 : Nat) (l2 : List Int) (A3 : Option Addr) (c3 : Nat) (l3 : List Int) (r : Bool) (w : World) (hr1 : Kd.C (Kd.int .i64) w A1 l1.length l1) (hc1 : l1.length ≤ c1) (hr2 : Kd.C (Kd.int .i64) w A2 l2.length l2) (hc2 : l2.length ≤ c2) (hr3 : Kd.C (Kd.int .i64) w A3 l3.length l3) (hc3 : l3.length ≤ c3) (HT_ : Aside0 (r = true)) (h : laws_FnExactSpotForward.f k a0 l1 l2 l3 = some r) :
  Calls Try.prog 14 #[.int .i64 a0, .slice A1 l1.length c1, .slice A2 l2.length c2, .slice A3 l3.length c3] w fun e w' => e = .returned (.bool r) ∧ Below w.heap.size w w' := by
 have HR1 := Aside0.mk hr1
 have HC1 := Aside0.mk hc1
 clear hr1 hc1
 have HR2 := Aside0.mk hr2
 have HC2 := Aside0.mk hc2
 clear hr2 hc2
 have HR3 := Aside0.mk hr3
 have HC3 := Aside0.mk hc3
 clear hr3 hc3
 have HB := Aside0.mk (Below.refl w.heap.size w)
 have H : (if (l1.length : Int) > 1048576 then (some true) else (if (l2.length : Int) > 1048576 then (some true) else (if (l3.length : Int) > 1048576 then (some true) else ((laws_toIntS.f k l1).bind fun t220 => ((laws_toIntS.f k l2).bind fun t223 => ((laws_toIntS.f k l3).bind fun t226 => ((spec_SpotForward.f k a0 t220 t223 t226).bind fun t229 => ((laws_toIntS.f k l1).bind fun t230 => ((laws_toIntS.f k l2).bind fun t233 => ((laws_toIntS.f k l3).bind fun t236 => ((impl_SpotForward.f k a0 t230 t233 t236).bind fun t239 => (if (t239 != t229) = true then (some false) else ((laws_toIntS.f k l1).bind fun t240 => ((laws_eqIntS.f k t230 t240).bind fun t243 => (if t243 = true then ((laws_toIntS.f k l2).bind fun t244 => ((laws_eqIntS.f k t233 t244).bind fun t247 => (if t247 = true then ((laws_toIntS.f k l3).bind fun t248 => ((laws_eqIntS.f k t236 t248).bind fun t251 => (if t251 = true then (some true) else (some false)))) else (some false)))) else (some false)))))))))))))))) = some r := h
 clear h
 by_cases c5 : (l1.length : Int) > 1048576
 ·rw [if_pos c5] at H
  have c5b0 : decide (1048576 < (l1.length : Int)) = true := decide_eq_true c5
  have c5b1 : decide (1048576 < l1.length) = true := decide_eq_true (by omega)
  clear c5
  obtain rfl := Option.some.inj H
  go_enter Try.func14, Try.ntmps14
  go_wp2
  go_ret
  exact ⟨zE, zH⟩
 ·rw [if_neg c5] at H
  have c5b0 : decide (1048576 < (l1.length : Int)) = false := decide_eq_false c5
  have c5b1 : decide (1048576 < l1.length) = false := decide_eq_false (by omega)
  clear c5
  by_cases c6 : (l2.length : Int) > 1048576
  ·rw [if_pos c6] at H
   have c6b0 : decide (1048576 < (l2.length : Int)) = true := decide_eq_true c6
   have c6b1 : decide (1048576 < l2.length) = true := decide_eq_true (by omega)
   clear c6
   obtain rfl := Option.some.inj H
   go_enter Try.func14, Try.ntmps14
   go_wp2
   go_ret
   exact ⟨zE, zH⟩
  ·rw [if_neg c6] at H
   have c6b0 : decide (1048576 < (l2.length : Int)) = false := decide_eq_false c6
   have c6b1 : decide (1048576 < l2.length) = false := decide_eq_false (by omega)
   clear c6
   by_cases c7 : (l3.length : Int) > 1048576
   ·rw [if_pos c7] at H
    have c7b0 : decide (1048576 < (l3.length : Int)) = true := decide_eq_true c7
    have c7b1 : decide (1048576 < l3.length) = true := decide_eq_true (by omega)
    clear c7
    obtain rfl := Option.some.inj H
    go_enter Try.func14, Try.ntmps14
    go_wp2
    go_ret
    exact ⟨zE, zH⟩
   ·rw [if_neg c7] at H
    have c7b0 : decide (1048576 < (l3.length : Int)) = false := decide_eq_false c7
    have c7b1 : decide (1048576 < l3.length) = false := decide_eq_false (by omega)
    clear c7
    replace H := Option.bind_eq_some_iff.mp H
    obtain ⟨t220, A80, H⟩ := H
    replace H : ((laws_toIntS.f k l2).bind fun t223 => ((laws_toIntS.f k l3).bind fun t226 => ((spec_SpotForward.f k a0 t220 t223 t226).bind fun t229 => ((laws_toIntS.f k l1).bind fun t230 => ((laws_toIntS.f k l2).bind fun t233 => ((laws_toIntS.f k l3).bind fun t236 => ((impl_SpotForward.f k a0 t230 t233 t236).bind fun t239 => (if (t239 != t229) = true then (some false) else ((laws_toIntS.f k l1).bind fun t240 => ((laws_eqIntS.f k t230 t240).bind fun t243 => (if t243 = true then ((laws_toIntS.f k l2).bind fun t244 => ((laws_eqIntS.f k t233 t244).bind fun t247 => (if t247 = true then ((laws_toIntS.f k l3).bind fun t248 => ((laws_eqIntS.f k t236 t248).bind fun t251 => (if t251 = true then (some true) else (some false)))) else (some false)))) else (some false)))))))))))) = some r := H
    have A8 := Aside0.mk A80
    clear A80
    replace H := Option.bind_eq_some_iff.mp H
    obtain ⟨t223, A90, H⟩ := H
    replace H : ((laws_toIntS.f k l3).bind fun t226 => ((spec_SpotForward.f k a0 t220 t223 t226).bind fun t229 => ((laws_toIntS.f k l1).bind fun t230 => ((laws_toIntS.f k l2).bind fun t233 => ((laws_toIntS.f k l3).bind fun t236 => ((impl_SpotForward.f k a0 t230 t233 t236).bind fun t239 => (if (t239 != t229) = true then (some false) else ((laws_toIntS.f k l1).bind fun t240 => ((laws_eqIntS.f k t230 t240).bind fun t243 => (if t243 = true then ((laws_toIntS.f k l2).bind fun t244 => ((laws_eqIntS.f k t233 t244).bind fun t247 => (if t247 = true then ((laws_toIntS.f k l3).bind fun t248 => ((laws_eqIntS.f k t236 t248).bind fun t251 => (if t251 = true then (some true) else (some false)))) else (some false)))) else (some false))))))))))) = some r := H
    have A9 := Aside0.mk A90
    clear A90
    replace H := Option.bind_eq_some_iff.mp H
    obtain ⟨t226, A100, H⟩ := H
    replace H : ((spec_SpotForward.f k a0 t220 t223 t226).bind fun t229 => ((laws_toIntS.f k l1).bind fun t230 => ((laws_toIntS.f k l2).bind fun t233 => ((laws_toIntS.f k l3).bind fun t236 => ((impl_SpotForward.f k a0 t230 t233 t236).bind fun t239 => (if (t239 != t229) = true then (some false) else ((laws_toIntS.f k l1).bind fun t240 => ((laws_eqIntS.f k t230 t240).bind fun t243 => (if t243 = true then ((laws_toIntS.f k l2).bind fun t244 => ((laws_eqIntS.f k t233 t244).bind fun t247 => (if t247 = true then ((laws_toIntS.f k l3).bind fun t248 => ((laws_eqIntS.f k t236 t248).bind fun t251 => (if t251 = true then (some true) else (some false)))) else (some false)))) else (some false)))))))))) = some r := H
    have A10 := Aside0.mk A100
    clear A100
    replace H := Option.bind_eq_some_iff.mp H
    obtain ⟨t229, A110, H⟩ := H
    replace H : ((laws_toIntS.f k l1).bind fun t230 => ((laws_toIntS.f k l2).bind fun t233 => ((laws_toIntS.f k l3).bind fun t236 => ((impl_SpotForward.f k a0 t230 t233 t236).bind fun t239 => (if (t239 != t229) = true then (some false) else ((laws_toIntS.f k l1).bind fun t240 => ((laws_eqIntS.f k t230 t240).bind fun t243 => (if t243 = true then ((laws_toIntS.f k l2).bind fun t244 => ((laws_eqIntS.f k t233 t244).bind fun t247 => (if t247 = true then ((laws_toIntS.f k l3).bind fun t248 => ((laws_eqIntS.f k t236 t248).bind fun t251 => (if t251 = true then (some true) else (some false)))) else (some false)))) else (some false))))))))) = some r := H
    have A11 := Aside0.mk A110
    clear A110
    replace H := Option.bind_eq_some_iff.mp H
    obtain ⟨t230, A120, H⟩ := H
    replace H : ((laws_toIntS.f k l2).bind fun t233 => ((laws_toIntS.f k l3).bind fun t236 => ((impl_SpotForward.f k a0 t230 t233 t236).bind fun t239 => (if (t239 != t229) = true then (some false) else ((laws_toIntS.f k l1).bind fun t240 => ((laws_eqIntS.f k t230 t240).bind fun t243 => (if t243 = true then ((laws_toIntS.f k l2).bind fun t244 => ((laws_eqIntS.f k t233 t244).bind fun t247 => (if t247 = true then ((laws_toIntS.f k l3).bind fun t248 => ((laws_eqIntS.f k t236 t248).bind fun t251 => (if t251 = true then (some true) else (some false)))) else (some false)))) else (some false)))))))) = some r := H
    have A12 := Aside0.mk A120
    clear A120
    replace H := Option.bind_eq_some_iff.mp H
    obtain ⟨t233, A130, H⟩ := H
    replace H : ((laws_toIntS.f k l3).bind fun t236 => ((impl_SpotForward.f k a0 t230 t233 t236).bind fun t239 => (if (t239 != t229) = true then (some false) else ((laws_toIntS.f k l1).bind fun t240 => ((laws_eqIntS.f k t230 t240).bind fun t243 => (if t243 = true then ((laws_toIntS.f k l2).bind fun t244 => ((laws_eqIntS.f k t233 t244).bind fun t247 => (if t247 = true then ((laws_toIntS.f k l3).bind fun t248 => ((laws_eqIntS.f k t236 t248).bind fun t251 => (if t251 = true then (some true) else (some false)))) else (some false)))) else (some false))))))) = some r := H
    have A13 := Aside0.mk A130
    clear A130
    replace H := Option.bind_eq_some_iff.mp H
    obtain ⟨t236, A140, H⟩ := H
    replace H : ((impl_SpotForward.f k a0 t230 t233 t236).bind fun t239 => (if (t239 != t229) = true then (some false) else ((laws_toIntS.f k l1).bind fun t240 => ((laws_eqIntS.f k t230 t240).bind fun t243 => (if t243 = true then ((laws_toIntS.f k l2).bind fun t244 => ((laws_eqIntS.f k t233 t244).bind fun t247 => (if t247 = true then ((laws_toIntS.f k l3).bind fun t248 => ((laws_eqIntS.f k t236 t248).bind fun t251 => (if t251 = true then (some true) else (some false)))) else (some false)))) else (some false)))))) = some r := H
    have A14 := Aside0.mk A140
    clear A140
    replace H := Option.bind_eq_some_iff.mp H
    obtain ⟨t239, A150, H⟩ := H
    replace H : (if (t239 != t229) = true then (some false) else ((laws_toIntS.f k l1).bind fun t240 => ((laws_eqIntS.f k t230 t240).bind fun t243 => (if t243 = true then ((laws_toIntS.f k l2).bind fun t244 => ((laws_eqIntS.f k t233 t244).bind fun t247 => (if t247 = true then ((laws_toIntS.f k l3).bind fun t248 => ((laws_eqIntS.f k t236 t248).bind fun t251 => (if t251 = true then (some true) else (some false)))) else (some false)))) else (some false))))) = some r := H
    have A15 := Aside0.mk A150
    clear A150
    by_cases c16 : (t239 != t229) = true
    ·rw [if_pos c16] at H
     have c16b0 : (t239 != t229) = true := c16
     (try (have c16b1 : decide (t239 = t229) = false := by simpa using c16))
     (try (have c16b2 : (t239 == t229) = false := by simpa using c16))
     (try (have c16b3 : ¬ (t239 = t229) := by simpa using c16))
     clear c16
     exact absurd ((Option.some.inj H).trans HT_.out) (by decide)
    ·rw [if_neg c16] at H
     have c16b0 : (t239 != t229) = false := by simpa using c16
     (try (have c16b1 : decide (t239 = t229) = true := by simpa using c16))
     (try (have c16b2 : (t239 == t229) = true := by simpa using c16))
     clear c16
     replace H := Option.bind_eq_some_iff.mp H
     obtain ⟨t240, A170, H⟩ := H
     replace H : ((laws_eqIntS.f k t230 t240).bind fun t243 => (if t243 = true then ((laws_toIntS.f k l2).bind fun t244 => ((laws_eqIntS.f k t233 t244).bind fun t247 => (if t247 = true then ((laws_toIntS.f k l3).bind fun t248 => ((laws_eqIntS.f k t236 t248).bind fun t251 => (if t251 = true then (some true) else (some false)))) else (some false)))) else (some false))) = some r := H
     have A17 := Aside0.mk A170
     clear A170
     replace H := Option.bind_eq_some_iff.mp H
     obtain ⟨t243, A180, H⟩ := H
     replace H : (if t243 = true then ((laws_toIntS.f k l2).bind fun t244 => ((laws_eqIntS.f k t233 t244).bind fun t247 => (if t247 = true then ((laws_toIntS.f k l3).bind fun t248 => ((laws_eqIntS.f k t236 t248).bind fun t251 => (if t251 = true then (some true) else (some false)))) else (some false)))) else (some false)) = some r := H
     have A18 := Aside0.mk A180
     clear A180
     by_cases c19 : t243 = true
     ·subst c19
      replace H : ((laws_toIntS.f k l2).bind fun t244 => ((laws_eqIntS.f k t233 t244).bind fun t247 => (if t247 = true then ((laws_toIntS.f k l3).bind fun t248 => ((laws_eqIntS.f k t236 t248).bind fun t251 => (if t251 = true then (some true) else (some false)))) else (some false)))) = some r := by rw [if_pos rfl] at H; exact H
      replace H := Option.bind_eq_some_iff.mp H
      obtain ⟨t244, A200, H⟩ := H
      replace H : ((laws_eqIntS.f k t233 t244).bind fun t247 => (if t247 = true then ((laws_toIntS.f k l3).bind fun t248 => ((laws_eqIntS.f k t236 t248).bind fun t251 => (if t251 = true then (some true) else (some false)))) else (some false))) = some r := H
      have A20 := Aside0.mk A200
      clear A200
      replace H := Option.bind_eq_some_iff.mp H
      obtain ⟨t247, A210, H⟩ := H
      replace H : (if t247 = true then ((laws_toIntS.f k l3).bind fun t248 => ((laws_eqIntS.f k t236 t248).bind fun t251 => (if t251 = true then (some true) else (some false)))) else (some false)) = some r := H
      have A21 := Aside0.mk A210
      clear A210
      by_cases c22 : t247 = true
      ·subst c22
       replace H : ((laws_toIntS.f k l3).bind fun t248 => ((laws_eqIntS.f k t236 t248).bind fun t251 => (if t251 = true then (some true) else (some false)))) = some r := by rw [if_pos rfl] at H; exact H
       replace H := Option.bind_eq_some_iff.mp H
       obtain ⟨t248, A230, H⟩ := H
       replace H : ((laws_eqIntS.f k t236 t248).bind fun t251 => (if t251 = true then (some true) else (some false))) = some r := H
       have A23 := Aside0.mk A230
       clear A230
       replace H := Option.bind_eq_some_iff.mp H
       obtain ⟨t251, A240, H⟩ := H
       replace H : (if t251 = true then (some true) else (some false)) = some r := H
       have A24 := Aside0.mk A240
       clear A240
       by_cases c25 : t251 = true
       ·subst c25
        replace H : (some true) = some r := by rw [if_pos rfl] at H; exact H
        obtain rfl := Option.some.inj H
        go_enter Try.func14, Try.ntmps14
        go_wp2_with (first | ((with_reducible refine gate_callee (f := 18) rfl ?_); refine goesL_ (some 25) rfl rfl Try.func18 (by kernel_rfl) rfl #[.slice A1 l1.length c1] rfl zM ?_; (with_reducible refine (laws_toIntS.calls k _ _ l1 t220 _ ?side1 ?side2 A8.out).mono ?_); (case side1 => exact zC HR1.out); (case side2 => exact HC1.out); rintro e w26 ⟨v221, rfl, ho0, hb⟩; refine ⟨_, rfl, ?_⟩; have n0_ := Aside0.mk (Kd.R_lower ho0 (below_size zH)); have n1_ := Aside0.mk (below_step zH hb); clear HB; have HO222 := n0_; have HB := n1_; clear n0_ n1_; (try clear hb); (try clear hb2); (try clear hk); (try clear hi); (try clear ho0)) | ((with_reducible refine gate_callee (f := 18) rfl ?_); refine goesL_ (some 27) rfl rfl Try.func18 (by kernel_rfl) rfl #[.slice A2 l2.length c2] rfl zM ?_; (with_reducible refine (laws_toIntS.calls k _ _ l2 t223 _ ?side1 ?side2 A9.out).mono ?_); (case side1 => exact zC (Kd.C_below HR2.out HB.out)); (case side2 => exact HC2.out); rintro e w27 ⟨v224, rfl, ho0, hb⟩; refine ⟨_, rfl, ?_⟩; have n0_ := Aside0.mk (Kd.R_elder' (zR HO222.out) (Kd.R_base ho0) hb); have n1_ := Aside0.mk (Kd.R_lower (Kd.R_new' ho0 (Kd.R_lt (zR HO222.out))) (below_size zH)); have n2_ := Aside0.mk (below_step zH hb); clear HO222; clear HB; have HO222 := n0_; have HO225 := n1_; have HB := n2_; clear n0_ n1_ n2_; (try clear hb); (try clear hb2); (try clear hk); (try clear hi); (try clear ho0)) | ((with_reducible refine gate_callee (f := 18) rfl ?_); refine goesL_ (some 29) rfl rfl Try.func18 (by kernel_rfl) rfl #[.slice A3 l3.length c3] rfl zM ?_; (with_reducible refine (laws_toIntS.calls k _ _ l3 t226 _ ?side1 ?side2 A10.out).mono ?_); (case side1 => exact zC (Kd.C_below HR3.out HB.out)); (case side2 => exact HC3.out); rintro e w28 ⟨v227, rfl, ho0, hb⟩; refine ⟨_, rfl, ?_⟩; have n0_ := Aside0.mk (Kd.R_elder' (zR HO222.out) (Kd.R_base ho0) hb); have n1_ := Aside0.mk (Kd.R_elder' (zR HO225.out) (Kd.R_base ho0) hb); have n2_ := Aside0.mk (Kd.R_lower (Kd.R_new' (Kd.R_new' ho0 (Kd.R_lt (zR HO222.out))) (Kd.R_lt (zR HO225.out))) (below_size zH)); have n3_ := Aside0.mk (below_step zH hb); clear HO222; clear HO225; clear HB; have HO222 := n0_; have HO225 := n1_; have HO228 := n2_; have HB := n3_; clear n0_ n1_ n2_ n3_; (try clear hb); (try clear hb2); (try clear hk); (try clear hi); (try clear ho0); obtain ⟨Ao29, co29, eo29⟩ := Kd.R_slice HO222.out; subst eo29; obtain ⟨Ao30, co30, eo30⟩ := Kd.R_slice HO225.out; subst eo30; obtain ⟨Ao31, co31, eo31⟩ := Kd.R_slice HO228.out; subst eo31) | ((with_reducible refine gate_callee (f := 50) rfl ?_); refine goesL_ (some 30) rfl rfl Try.func50 (by kernel_rfl) rfl #[.int .i64 a0, .slice Ao29 t220.length co29, .slice Ao30 t223.length co30, .slice Ao31 t226.length co31] rfl zM ?_; (with_reducible refine (spec_SpotForward.calls k a0 _ _ t220 _ _ t223 _ _ t226 t229 _ ?side1 ?side2 ?side3 ?side4 ?side5 ?side6 A11.out).mono ?_); (case side1 => exact zC ((Kd.R_reads' HO222.out).2.2)); (case side2 => exact (Kd.R_reads' HO222.out).2.1); (case side3 => exact zC ((Kd.R_reads' HO225.out).2.2)); (case side4 => exact (Kd.R_reads' HO225.out).2.1); (case side5 => exact zC ((Kd.R_reads' HO228.out).2.2)); (case side6 => exact (Kd.R_reads' HO228.out).2.1); rintro e w32 ⟨rfl, hb⟩; refine ⟨_, rfl, ?_⟩; have n0_ := Aside0.mk (Kd.R_below (zR HO222.out) hb); have n1_ := Aside0.mk (Kd.R_below (zR HO225.out) hb); have n2_ := Aside0.mk (Kd.R_below (zR HO228.out) hb); have n3_ := Aside0.mk (below_step zH hb); clear HO222; clear HO225; clear HO228; clear HB; have HO222 := n0_; have HO225 := n1_; have HO228 := n2_; have HB := n3_; clear n0_ n1_ n2_ n3_; (try clear hb); (try clear hb2); (try clear hk); (try clear hi)) | ((with_reducible refine gate_callee (f := 18) rfl ?_); refine goesL_ (some 32) rfl rfl Try.func18 (by kernel_rfl) rfl #[.slice A1 l1.length c1] rfl zM ?_; (with_reducible refine (laws_toIntS.calls k _ _ l1 t230 _ ?side1 ?side2 A12.out).mono ?_); (case side1 => exact zC (Kd.C_below HR1.out HB.out)); (case side2 => exact HC1.out); rintro e w33 ⟨v231, rfl, ho0, hb⟩; refine ⟨_, rfl, ?_⟩; have n0_ := Aside0.mk (Kd.R_elder' (zR HO222.out) (Kd.R_base ho0) hb); have n1_ := Aside0.mk (Kd.R_elder' (zR HO225.out) (Kd.R_base ho0) hb); have n2_ := Aside0.mk (Kd.R_elder' (zR HO228.out) (Kd.R_base ho0) hb); have n3_ := Aside0.mk (Kd.R_lower (Kd.R_new' (Kd.R_new' (Kd.R_new' ho0 (Kd.R_lt (zR HO222.out))) (Kd.R_lt (zR HO225.out))) (Kd.R_lt (zR HO228.out))) (below_size zH)); have n4_ := Aside0.mk (below_step zH hb); clear HO222; clear HO225; clear HO228; clear HB; have HO222 := n0_; have HO225 := n1_; have HO228 := n2_; have HO232 := n3_; have HB := n4_; clear n0_ n1_ n2_ n3_ n4_; (try clear hb); (try clear hb2); (try clear hk); (try clear hi); (try clear ho0)) | ((with_reducible refine gate_callee (f := 18) rfl ?_); refine goesL_ (some 34) rfl rfl Try.func18 (by kernel_rfl) rfl #[.slice A2 l2.length c2] rfl zM ?_; (with_reducible refine (laws_toIntS.calls k _ _ l2 t233 _ ?side1 ?side2 A13.out).mono ?_); (case side1 => exact zC (Kd.C_below HR2.out HB.out)); (case side2 => exact HC2.out); rintro e w34 ⟨v234, rfl, ho0, hb⟩; refine ⟨_, rfl, ?_⟩; have n0_ := Aside0.mk (Kd.R_elder' (zR HO222.out) (Kd.R_base ho0) hb); have n1_ := Aside0.mk (Kd.R_elder' (zR HO225.out) (Kd.R_base ho0) hb); have n2_ := Aside0.mk (Kd.R_elder' (zR HO228.out) (Kd.R_base ho0) hb); have n3_ := Aside0.mk (Kd.R_elder' (zR HO232.out) (Kd.R_base ho0) hb); have n4_ := Aside0.mk (Kd.R_lower (Kd.R_new' (Kd.R_new' (Kd.R_new' (Kd.R_new' ho0 (Kd.R_lt (zR HO222.out))) (Kd.R_lt (zR HO225.out))) (Kd.R_lt (zR HO228.out))) (Kd.R_lt (zR HO232.out))) (below_size zH)); have n5_ := Aside0.mk (below_step zH hb); clear HO222; clear HO225; clear HO228; clear HO232; clear HB; have HO222 := n0_; have HO225 := n1_; have HO228 := n2_; have HO232 := n3_; have HO235 := n4_; have HB := n5_; clear n0_ n1_ n2_ n3_ n4_ n5_; (try clear hb); (try clear hb2); (try clear hk); (try clear hi); (try clear ho0)) | ((with_reducible refine gate_callee (f := 18) rfl ?_); refine goesL_ (some 36) rfl rfl Try.func18 (by kernel_rfl) rfl #[.slice A3 l3.length c3] rfl zM ?_; (with_reducible refine (laws_toIntS.calls k _ _ l3 t236 _ ?side1 ?side2 A14.out).mono ?_); (case side1 => exact zC (Kd.C_below HR3.out HB.out)); (case side2 => exact HC3.out); rintro e w35 ⟨v237, rfl, ho0, hb⟩; refine ⟨_, rfl, ?_⟩; have n0_ := Aside0.mk (Kd.R_elder' (zR HO222.out) (Kd.R_base ho0) hb); have n1_ := Aside0.mk (Kd.R_elder' (zR HO225.out) (Kd.R_base ho0) hb); have n2_ := Aside0.mk (Kd.R_elder' (zR HO228.out) (Kd.R_base ho0) hb); have n3_ := Aside0.mk (Kd.R_elder' (zR HO232.out) (Kd.R_base ho0) hb); have n4_ := Aside0.mk (Kd.R_elder' (zR HO235.out) (Kd.R_base ho0) hb); have n5_ := Aside0.mk (Kd.R_lower (Kd.R_new' (Kd.R_new' (Kd.R_new' (Kd.R_new' (Kd.R_new' ho0 (Kd.R_lt (zR HO222.out))) (Kd.R_lt (zR HO225.out))) (Kd.R_lt (zR HO228.out))) (Kd.R_lt (zR HO232.out))) (Kd.R_lt (zR HO235.out))) (below_size zH)); have n6_ := Aside0.mk (below_step zH hb); clear HO222; clear HO225; clear HO228; clear HO232; clear HO235; clear HB; have HO222 := n0_; have HO225 := n1_; have HO228 := n2_; have HO232 := n3_; have HO235 := n4_; have HO238 := n5_; have HB := n6_; clear n0_ n1_ n2_ n3_ n4_ n5_ n6_; (try clear hb); (try clear hb2); (try clear hk); (try clear hi); (try clear ho0); obtain ⟨Ao36, co36, eo36⟩ := Kd.R_slice HO232.out; subst eo36; obtain ⟨Ao37, co37, eo37⟩ := Kd.R_slice HO235.out; subst eo37; obtain ⟨Ao38, co38, eo38⟩ := Kd.R_slice HO238.out; subst eo38) | ((with_reducible refine gate_callee (f := 51) rfl ?_); refine goesL_ (some 41) rfl rfl Try.func51 (by kernel_rfl) rfl #[.int .i64 a0, .slice Ao36 t230.length co36, .slice Ao37 t233.length co37, .slice Ao38 t236.length co38] rfl zM ?_; (with_reducible refine (impl_SpotForward.calls k a0 (fun k_ => some k_ = (.slice Ao36 t230.length co36 : Value).ownBlock) _ _ t230 (fun k_ => some k_ = (.slice Ao37 t233.length co37 : Value).ownBlock) _ _ t233 _ _ t236 t239 _ ?side1 ?side2 ?side3 ?side4 A15.out).mono ?_); (case side1 => exact Kd.R_V (Kd.R_tight rfl (HO232.out))); (case side2 => exact Kd.R_V (Kd.R_tight rfl (HO235.out))); (case side3 => exact zC ((Kd.R_reads' HO238.out).2.2)); (case side4 => exact (Kd.R_reads' HO238.out).2.1); rintro e w39 ⟨rfl, hb⟩; refine ⟨_, rfl, ?_⟩; have n0_ := Aside0.mk (Kd.R_below (zR HO222.out) hb); have n1_ := Aside0.mk (Kd.R_below (zR HO225.out) hb); have n2_ := Aside0.mk (Kd.R_below (zR HO228.out) hb); have n3_ := Aside0.mk (Kd.R_below (zR HO232.out) hb); have n4_ := Aside0.mk (Kd.R_below (zR HO235.out) hb); have n5_ := Aside0.mk (Kd.R_below (zR HO238.out) hb); have n6_ := Aside0.mk (below_step zH hb); clear HO222; clear HO225; clear HO228; clear HO232; clear HO235; clear HO238; clear HB; have HO222 := n0_; have HO225 := n1_; have HO228 := n2_; have HO232 := n3_; have HO235 := n4_; have HO238 := n5_; have HB := n6_; clear n0_ n1_ n2_ n3_ n4_ n5_ n6_; (try clear hb); (try clear hb2); (try clear hk); (try clear hi)) | ((with_reducible refine gate_callee (f := 18) rfl ?_); refine goesL_ (some 47) rfl rfl Try.func18 (by kernel_rfl) rfl #[.slice A1 l1.length c1] rfl zM ?_; (with_reducible refine (laws_toIntS.calls k _ _ l1 t240 _ ?side1 ?side2 A17.out).mono ?_); (case side1 => exact zC (Kd.C_below HR1.out HB.out)); (case side2 => exact HC1.out); rintro e w40 ⟨v241, rfl, ho0, hb⟩; refine ⟨_, rfl, ?_⟩; have n0_ := Aside0.mk (Kd.R_elder' (zR HO222.out) (Kd.R_base ho0) hb); have n1_ := Aside0.mk (Kd.R_elder' (zR HO225.out) (Kd.R_base ho0) hb); have n2_ := Aside0.mk (Kd.R_elder' (zR HO228.out) (Kd.R_base ho0) hb); have n3_ := Aside0.mk (Kd.R_elder' (zR HO232.out) (Kd.R_base ho0) hb); have n4_ := Aside0.mk (Kd.R_elder' (zR HO235.out) (Kd.R_base ho0) hb); have n5_ := Aside0.mk (Kd.R_elder' (zR HO238.out) (Kd.R_base ho0) hb); have n6_ := Aside0.mk (Kd.R_lower (Kd.R_new' (Kd.R_new' (Kd.R_new' (Kd.R_new' (Kd.R_new' (Kd.R_new' ho0 (Kd.R_lt (zR HO222.out))) (Kd.R_lt (zR HO225.out))) (Kd.R_lt (zR HO228.out))) (Kd.R_lt (zR HO232.out))) (Kd.R_lt (zR HO235.out))) (Kd.R_lt (zR HO238.out))) (below_size zH)); have n7_ := Aside0.mk (below_step zH hb); clear HO222; clear HO225; clear HO228; clear HO232; clear HO235; clear HO238; clear HB; have HO222 := n0_; have HO225 := n1_; have HO228 := n2_; have HO232 := n3_; have HO235 := n4_; have HO238 := n5_; have HO242 := n6_; have HB := n7_; clear n0_ n1_ n2_ n3_ n4_ n5_ n6_ n7_; (try clear hb); (try clear hb2); (try clear hk); (try clear hi); (try clear ho0); obtain ⟨Ao41, co41, eo41⟩ := Kd.R_slice HO242.out; subst eo41) | ((with_reducible refine gate_callee (f := 20) rfl ?_); refine goesL_ (some 48) rfl rfl Try.func20 (by kernel_rfl) rfl #[.slice Ao36 t230.length co36, .slice Ao41 t240.length co41] rfl zM ?_; (with_reducible refine (laws_eqIntS.calls k _ _ t230 _ _ t240 true _ ?side1 ?side2 ?side3 ?side4 A18.out).mono ?_); (case side1 => exact zC ((Kd.R_reads' HO232.out).2.2)); (case side2 => exact (Kd.R_reads' HO232.out).2.1); (case side3 => exact zC ((Kd.R_reads' HO242.out).2.2)); (case side4 => exact (Kd.R_reads' HO242.out).2.1); rintro e w' ⟨rfl, ⟨nd, rfl⟩⟩; refine ⟨_, rfl, ?_⟩) | ((with_reducible refine gate_callee (f := 18) rfl ?_); refine goesL_ (some 52) rfl rfl Try.func18 (by kernel_rfl) rfl #[.slice A2 l2.length c2] rfl zM ?_; (with_reducible refine (laws_toIntS.calls k _ _ l2 t244 _ ?side1 ?side2 A20.out).mono ?_); (case side1 => exact zC (Kd.C_below HR2.out zH)); (case side2 => exact HC2.out); rintro e w42 ⟨v245, rfl, ho0, hb⟩; refine ⟨_, rfl, ?_⟩; have n0_ := Aside0.mk (Kd.R_elder' (zR HO222.out) (Kd.R_base ho0) hb); have n1_ := Aside0.mk (Kd.R_elder' (zR HO225.out) (Kd.R_base ho0) hb); have n2_ := Aside0.mk (Kd.R_elder' (zR HO228.out) (Kd.R_base ho0) hb); have n3_ := Aside0.mk (Kd.R_elder' (zR HO232.out) (Kd.R_base ho0) hb); have n4_ := Aside0.mk (Kd.R_elder' (zR HO235.out) (Kd.R_base ho0) hb); have n5_ := Aside0.mk (Kd.R_elder' (zR HO238.out) (Kd.R_base ho0) hb); have n6_ := Aside0.mk (Kd.R_elder' (zR HO242.out) (Kd.R_base ho0) hb); have n7_ := Aside0.mk (Kd.R_lower (Kd.R_new' (Kd.R_new' (Kd.R_new' (Kd.R_new' (Kd.R_new' (Kd.R_new' (Kd.R_new' ho0 (Kd.R_lt (zR HO222.out))) (Kd.R_lt (zR HO225.out))) (Kd.R_lt (zR HO228.out))) (Kd.R_lt (zR HO232.out))) (Kd.R_lt (zR HO235.out))) (Kd.R_lt (zR HO238.out))) (Kd.R_lt (zR HO242.out))) (below_size zH)); have n8_ := Aside0.mk (below_step zH hb); clear HO222; clear HO225; clear HO228; clear HO232; clear HO235; clear HO238; clear HO242; clear HB; have HO222 := n0_; have HO225 := n1_; have HO228 := n2_; have HO232 := n3_; have HO235 := n4_; have HO238 := n5_; have HO242 := n6_; have HO246 := n7_; have HB := n8_; clear n0_ n1_ n2_ n3_ n4_ n5_ n6_ n7_ n8_; (try clear hb); (try clear hb2); (try clear hk); (try clear hi); (try clear ho0); obtain ⟨Ao43, co43, eo43⟩ := Kd.R_slice HO246.out; subst eo43) | ((with_reducible refine gate_callee (f := 20) rfl ?_); refine goesL_ (some 53) rfl rfl Try.func20 (by kernel_rfl) rfl #[.slice Ao37 t233.length co37, .slice Ao43 t244.length co43] rfl zM ?_; (with_reducible refine (laws_eqIntS.calls k _ _ t233 _ _ t244 true _ ?side1 ?side2 ?side3 ?side4 A21.out).mono ?_); (case side1 => exact zC ((Kd.R_reads' HO235.out).2.2)); (case side2 => exact (Kd.R_reads' HO235.out).2.1); (case side3 => exact zC ((Kd.R_reads' HO246.out).2.2)); (case side4 => exact (Kd.R_reads' HO246.out).2.1); rintro e w' ⟨rfl, ⟨nd, rfl⟩⟩; refine ⟨_, rfl, ?_⟩) | ((with_reducible refine gate_callee (f := 18) rfl ?_); refine goesL_ (some 57) rfl rfl Try.func18 (by kernel_rfl) rfl #[.slice A3 l3.length c3] rfl zM ?_; (with_reducible refine (laws_toIntS.calls k _ _ l3 t248 _ ?side1 ?side2 A23.out).mono ?_); (case side1 => exact zC (Kd.C_below HR3.out zH)); (case side2 => exact HC3.out); rintro e w44 ⟨v249, rfl, ho0, hb⟩; refine ⟨_, rfl, ?_⟩; have n0_ := Aside0.mk (Kd.R_elder' (zR HO222.out) (Kd.R_base ho0) hb); have n1_ := Aside0.mk (Kd.R_elder' (zR HO225.out) (Kd.R_base ho0) hb); have n2_ := Aside0.mk (Kd.R_elder' (zR HO228.out) (Kd.R_base ho0) hb); have n3_ := Aside0.mk (Kd.R_elder' (zR HO232.out) (Kd.R_base ho0) hb); have n4_ := Aside0.mk (Kd.R_elder' (zR HO235.out) (Kd.R_base ho0) hb); have n5_ := Aside0.mk (Kd.R_elder' (zR HO238.out) (Kd.R_base ho0) hb); have n6_ := Aside0.mk (Kd.R_elder' (zR HO242.out) (Kd.R_base ho0) hb); have n7_ := Aside0.mk (Kd.R_elder' (zR HO246.out) (Kd.R_base ho0) hb); have n8_ := Aside0.mk (Kd.R_lower (Kd.R_new' (Kd.R_new' (Kd.R_new' (Kd.R_new' (Kd.R_new' (Kd.R_new' (Kd.R_new' (Kd.R_new' ho0 (Kd.R_lt (zR HO222.out))) (Kd.R_lt (zR HO225.out))) (Kd.R_lt (zR HO228.out))) (Kd.R_lt (zR HO232.out))) (Kd.R_lt (zR HO235.out))) (Kd.R_lt (zR HO238.out))) (Kd.R_lt (zR HO242.out))) (Kd.R_lt (zR HO246.out))) (below_size zH)); have n9_ := Aside0.mk (below_step zH hb); clear HO222; clear HO225; clear HO228; clear HO232; clear HO235; clear HO238; clear HO242; clear HO246; clear HB; have HO222 := n0_; have HO225 := n1_; have HO228 := n2_; have HO232 := n3_; have HO235 := n4_; have HO238 := n5_; have HO242 := n6_; have HO246 := n7_; have HO250 := n8_; have HB := n9_; clear n0_ n1_ n2_ n3_ n4_ n5_ n6_ n7_ n8_ n9_; (try clear hb); (try clear hb2); (try clear hk); (try clear hi); (try clear ho0); obtain ⟨Ao45, co45, eo45⟩ := Kd.R_slice HO250.out; subst eo45) | ((with_reducible refine gate_callee (f := 20) rfl ?_); refine goesL_ (some 58) rfl rfl Try.func20 (by kernel_rfl) rfl #[.slice Ao38 t236.length co38, .slice Ao45 t248.length co45] rfl zM ?_; (with_reducible refine (laws_eqIntS.calls k _ _ t236 _ _ t248 true _ ?side1 ?side2 ?side3 ?side4 A24.out).mono ?_); (case side1 => exact zC ((Kd.R_reads' HO238.out).2.2)); (case side2 => exact (Kd.R_reads' HO238.out).2.1); (case side3 => exact zC ((Kd.R_reads' HO250.out).2.2)); (case side4 => exact (Kd.R_reads' HO250.out).2.1); rintro e w' ⟨rfl, ⟨nd, rfl⟩⟩; refine ⟨_, rfl, ?_⟩))
        go_ret
        exact ⟨zE, zH⟩
       ·replace c25 := Bool.eq_false_iff.mpr c25
        subst c25
        replace H : (some false) = some r := by rw [if_neg (show ¬ (false = true) by decide)] at H; exact H
        exact absurd ((Option.some.inj H).trans HT_.out) (by decide)
      ·replace c22 := Bool.eq_false_iff.mpr c22
       subst c22
       replace H : (some false) = some r := by rw [if_neg (show ¬ (false = true) by decide)] at H; exact H
       exact absurd ((Option.some.inj H).trans HT_.out) (by decide)
     ·replace c19 := Bool.eq_false_iff.mpr c19
      subst c19
      replace H : (some false) = some r := by rw [if_neg (show ¬ (false = true) by decide)] at H; exact H
      exact absurd ((Option.some.inj H).trans HT_.out) (by decide)

/-- THE ONE PURE STATEMENT of laws_FnExactSpotForward: yours. -/
def laws_FnExactSpotForward.Pure : Prop := ∀ (a0 : Int) (l1 : List Int) (l2 : List Int) (l3 : List Int), (Lit.int .i64 a0).wf = true → l1.length ≤ maxLen → l1.length * 8 ≤ 140737488351232 → (∀ x ∈ l1, (Lit.int .i64 x).wf = true) → l2.length ≤ maxLen → l2.length * 8 ≤ 140737488351232 → (∀ x ∈ l2, (Lit.int .i64 x).wf = true) → l3.length ≤ maxLen → l3.length * 8 ≤ 140737488351232 → (∀ x ∈ l3, (Lit.int .i64 x).wf = true) → ∃ k, laws_FnExactSpotForward.f k a0 l1 l2 l3 = some true
theorem laws_FnExactSpotForward.walk (P : laws_FnExactSpotForward.Pure) (a0 : Int) (a1 : Option Addr) (len1 cap1 : Nat) (z1 : List Int) (a2 : Option Addr) (len2 cap2 : Nat) (z2 : List Int) (a3 : Option Addr) (len3 cap3 : Nat) (z3 : List Int) (w : World) (w0 : (Lit.int .i64 a0).wf = true) (w1 : (a1 = none ∧ len1 = 0 ∧ cap1 = 0 ∧ z1 = []) ∨ ∃ x, a1 = some x ∧ len1 ≤ cap1 ∧ cap1 ≤ maxLen ∧ z1.length = cap1 ∧ (∀ i, i < z1.length → w.cell? (x.add i) = some (.int .i64 (z1.getD i 0))) ∧ ∀ n ∈ z1, (Lit.int .i64 n).wf = true) (y1 : len1 * 8 ≤ 140737488351232) (w2 : (a2 = none ∧ len2 = 0 ∧ cap2 = 0 ∧ z2 = []) ∨ ∃ x, a2 = some x ∧ len2 ≤ cap2 ∧ cap2 ≤ maxLen ∧ z2.length = cap2 ∧ (∀ i, i < z2.length → w.cell? (x.add i) = some (.int .i64 (z2.getD i 0))) ∧ ∀ n ∈ z2, (Lit.int .i64 n).wf = true) (y2 : len2 * 8 ≤ 140737488351232) (w3 : (a3 = none ∧ len3 = 0 ∧ cap3 = 0 ∧ z3 = []) ∨ ∃ x, a3 = some x ∧ len3 ≤ cap3 ∧ cap3 ≤ maxLen ∧ z3.length = cap3 ∧ (∀ i, i < z3.length → w.cell? (x.add i) = some (.int .i64 (z3.getD i 0))) ∧ ∀ n ∈ z3, (Lit.int .i64 n).wf = true) (y3 : len3 * 8 ≤ 140737488351232) :
  Calls Try.prog 14 #[.int .i64 a0, .slice a1 len1 cap1, .slice a2 len2 cap2, .slice a3 len3 cap3] w fun e w' => e = .returned (.bool true) ∧ Below w.heap.size w w' := by
 obtain ⟨l1, rfl, hr1, hm1, hw1, hc1⟩ := ReadsInt.ofRowC w1
 obtain ⟨l2, rfl, hr2, hm2, hw2, hc2⟩ := ReadsInt.ofRowC w2
 obtain ⟨l3, rfl, hr3, hm3, hw3, hc3⟩ := ReadsInt.ofRowC w3
 obtain ⟨k, h⟩ := P a0 l1 l2 l3 w0 hm1 y1 hw1 hm2 y2 hw2 hm3 y3 hw3
 refine (laws_FnExactSpotForward.calls k a0 _ _ l1 _ _ l2 _ _ l3 true w (Kd.C_of_reads (d := (0 : Int)) (h1 := fun _ => rfl) hr1) hc1 (Kd.C_of_reads (d := (0 : Int)) (h1 := fun _ => rfl) hr2) hc2 (Kd.C_of_reads (d := (0 : Int)) (h1 := fun _ => rfl) hr3) hc3 ⟨rfl⟩ h).mono ?_
 rintro e w' ⟨rfl, hd⟩
 exact ⟨rfl, hd⟩

end Go.Proofs.Ytmdpnhcfllociaa.QFnExactSpotForward
