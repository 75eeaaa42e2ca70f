-- Made by this session's program (wip/tools/myprint.py) out of the translation; Lean checks it.
import Derived.Test.YtabicblkdgpogaaQFnExactCheckValuesx0
import Derived.Test.YtabicblkdgpogaaQFnExactCheckValuesx5
import Derived.Test.YtabicblkdgpogaaQFnExactCheckValuesx7
namespace Go.Proofs.Ytabicblkdgpogaa.QFnExactCheckValues
open Go.RowKit Go.Proofs.YtabicblkdgpogaaW.PrintWords Go.Proofs.YtabicblkdgpogaaW.PrintLast Go.Proofs.YtabicblkdgpogaaW.PrintMore
attribute [local go_sem] max2_int min2_int max_two min_two max_three min_three max_four min_four   -- for this text's walks alone
set_option linter.unusedVariables false
set_option linter.unusedSimpArgs false

/-! ### laws_FnExactCheckValues: function 3 -/
def laws_FnExactCheckValues.f (k : Nat) (a0 : Int) (l1 : List Int) (l2 : List Int) (l3 : List Int) : Option (Bool) := if (l1.length : Int) > 1048576 then (some true) else (if (l2.length : Int) > 1048576 then (some true) else (if (l3.length : Int) > 1048576 then (some true) else ((laws_toIntS.f k l1).bind fun t294 => ((laws_toIntS.f k l2).bind fun t297 => ((laws_toIntS.f k l3).bind fun t300 => ((spec_CheckValues.f k a0 t294 t297 t300).bind fun t303 => ((laws_toIntS.f k l1).bind fun t304 => ((laws_toIntS.f k l2).bind fun t307 => ((laws_toIntS.f k l3).bind fun t310 => ((impl_CheckValues.f k a0 t304 t307 t310).bind fun t313 => (if (t313 != t303) = true then (some false) else ((laws_toIntS.f k l1).bind fun t314 => ((laws_eqIntS.f k t304 t314).bind fun t317 => (if t317 = true then ((laws_toIntS.f k l2).bind fun t318 => ((laws_eqIntS.f k t307 t318).bind fun t321 => (if t321 = true then ((laws_toIntS.f k l3).bind fun t322 => ((laws_eqIntS.f k t310 t322).bind fun t325 => (if t325 = true then (some true) else (some false)))) else (some false)))) else (some false)))))))))))))))
theorem laws_FnExactCheckValues.mono : ∀ a0 a1 a2 a3 k, LeO (laws_FnExactCheckValues.f k a0 a1 a2 a3) (laws_FnExactCheckValues.f (k + 1) a0 a1 a2 a3) := by
 intro a0 a1 a2 a3 k
 unfold laws_FnExactCheckValues.f
 repeat' first
   | (with_reducible exact impl_CheckValues.mono _ _ _ _ _)
   | (with_reducible exact laws_eqIntS.mono _ _ _)
   | (with_reducible exact laws_toIntS.mono _ _)
   | (with_reducible exact spec_CheckValues.mono _ _ _ _ _)
   | (with_reducible exact LeO.refl _)
   | (with_reducible exact LeO.none _)
   | (with_reducible refine LeO.ite ?_ ?_)
   | (with_reducible refine LeO.bind ?_ (fun _ => ?_))
   | exact impl_CheckValues.mono _ _ _ _ _
   | exact laws_eqIntS.mono _ _ _
   | exact laws_toIntS.mono _ _
   | exact spec_CheckValues.mono _ _ _ _ _
   | exact LeO.none _
   | refine LeO.ite ?_ ?_
   | refine LeO.bind ?_ (fun _ => ?_)
set_option maxHeartbeats 8000000 in
set_option maxRecDepth 100000 in
theorem laws_FnExactCheckValues.calls (k : Nat) (a0 : Int) (A1 : Option Addr) (c1 : Nat) (l1 : List Int) (A2 : Option Addr) (c2 : Nat) (l2 : List Int) (A3 : Option Addr) (c3 : Nat) (l3 : List Int) (r : Bool) (w : World) (hr1 : Kd.C (Kd.int .i64) w A1 l1.length l1) (hc1 : l1.length ≤ c1) (hr2 : Kd.C (Kd.int .i64) w A2 l2.length l2) (hc2 : l2.length ≤ c2) (hr3 : Kd.C (Kd.int .i64) w A3 l3.length l3) (hc3 : l3.length ≤ c3) (HT_ : Aside0 (r = true)) (h : laws_FnExactCheckValues.f k a0 l1 l2 l3 = some r) :
  Calls Try.prog 3 #[.int .i64 a0, .slice A1 l1.length c1, .slice A2 l2.length c2, .slice A3 l3.length c3] w fun e w' => e = .returned (.bool r) ∧ Below w.heap.size w w' := by
 have HR1 := Aside0.mk hr1
 have HC1 := Aside0.mk hc1
 clear hr1 hc1
 have HR2 := Aside0.mk hr2
 have HC2 := Aside0.mk hc2
 clear hr2 hc2
 have HR3 := Aside0.mk hr3
 have HC3 := Aside0.mk hc3
 clear hr3 hc3
 have HB := Aside0.mk (Below.refl w.heap.size w)
 have H : (if (l1.length : Int) > 1048576 then (some true) else (if (l2.length : Int) > 1048576 then (some true) else (if (l3.length : Int) > 1048576 then (some true) else ((laws_toIntS.f k l1).bind fun t294 => ((laws_toIntS.f k l2).bind fun t297 => ((laws_toIntS.f k l3).bind fun t300 => ((spec_CheckValues.f k a0 t294 t297 t300).bind fun t303 => ((laws_toIntS.f k l1).bind fun t304 => ((laws_toIntS.f k l2).bind fun t307 => ((laws_toIntS.f k l3).bind fun t310 => ((impl_CheckValues.f k a0 t304 t307 t310).bind fun t313 => (if (t313 != t303) = true then (some false) else ((laws_toIntS.f k l1).bind fun t314 => ((laws_eqIntS.f k t304 t314).bind fun t317 => (if t317 = true then ((laws_toIntS.f k l2).bind fun t318 => ((laws_eqIntS.f k t307 t318).bind fun t321 => (if t321 = true then ((laws_toIntS.f k l3).bind fun t322 => ((laws_eqIntS.f k t310 t322).bind fun t325 => (if t325 = true then (some true) else (some false)))) else (some false)))) else (some false)))))))))))))))) = some r := h
 clear h
 by_cases c5 : (l1.length : Int) > 1048576
 ·rw [if_pos c5] at H
  have c5b0 : decide (1048576 < (l1.length : Int)) = true := decide_eq_true c5
  have c5b1 : decide (1048576 < l1.length) = true := decide_eq_true (by omega)
  clear c5
  obtain rfl := Option.some.inj H
  go_enter Try.func3, Try.ntmps3
  go_wp2
  go_ret
  exact ⟨zE, zH⟩
 ·rw [if_neg c5] at H
  have c5b0 : decide (1048576 < (l1.length : Int)) = false := decide_eq_false c5
  have c5b1 : decide (1048576 < l1.length) = false := decide_eq_false (by omega)
  clear c5
  by_cases c6 : (l2.length : Int) > 1048576
  ·rw [if_pos c6] at H
   have c6b0 : decide (1048576 < (l2.length : Int)) = true := decide_eq_true c6
   have c6b1 : decide (1048576 < l2.length) = true := decide_eq_true (by omega)
   clear c6
   obtain rfl := Option.some.inj H
   go_enter Try.func3, Try.ntmps3
   go_wp2
   go_ret
   exact ⟨zE, zH⟩
  ·rw [if_neg c6] at H
   have c6b0 : decide (1048576 < (l2.length : Int)) = false := decide_eq_false c6
   have c6b1 : decide (1048576 < l2.length) = false := decide_eq_false (by omega)
   clear c6
   by_cases c7 : (l3.length : Int) > 1048576
   ·rw [if_pos c7] at H
    have c7b0 : decide (1048576 < (l3.length : Int)) = true := decide_eq_true c7
    have c7b1 : decide (1048576 < l3.length) = true := decide_eq_true (by omega)
    clear c7
    obtain rfl := Option.some.inj H
    go_enter Try.func3, Try.ntmps3
    go_wp2
    go_ret
    exact ⟨zE, zH⟩
   ·rw [if_neg c7] at H
    have c7b0 : decide (1048576 < (l3.length : Int)) = false := decide_eq_false c7
    have c7b1 : decide (1048576 < l3.length) = false := decide_eq_false (by omega)
    clear c7
    replace H := Option.bind_eq_some_iff.mp H
    obtain ⟨t294, A80, H⟩ := H
    replace H : ((laws_toIntS.f k l2).bind fun t297 => ((laws_toIntS.f k l3).bind fun t300 => ((spec_CheckValues.f k a0 t294 t297 t300).bind fun t303 => ((laws_toIntS.f k l1).bind fun t304 => ((laws_toIntS.f k l2).bind fun t307 => ((laws_toIntS.f k l3).bind fun t310 => ((impl_CheckValues.f k a0 t304 t307 t310).bind fun t313 => (if (t313 != t303) = true then (some false) else ((laws_toIntS.f k l1).bind fun t314 => ((laws_eqIntS.f k t304 t314).bind fun t317 => (if t317 = true then ((laws_toIntS.f k l2).bind fun t318 => ((laws_eqIntS.f k t307 t318).bind fun t321 => (if t321 = true then ((laws_toIntS.f k l3).bind fun t322 => ((laws_eqIntS.f k t310 t322).bind fun t325 => (if t325 = true then (some true) else (some false)))) else (some false)))) else (some false)))))))))))) = some r := H
    have A8 := Aside0.mk A80
    clear A80
    replace H := Option.bind_eq_some_iff.mp H
    obtain ⟨t297, A90, H⟩ := H
    replace H : ((laws_toIntS.f k l3).bind fun t300 => ((spec_CheckValues.f k a0 t294 t297 t300).bind fun t303 => ((laws_toIntS.f k l1).bind fun t304 => ((laws_toIntS.f k l2).bind fun t307 => ((laws_toIntS.f k l3).bind fun t310 => ((impl_CheckValues.f k a0 t304 t307 t310).bind fun t313 => (if (t313 != t303) = true then (some false) else ((laws_toIntS.f k l1).bind fun t314 => ((laws_eqIntS.f k t304 t314).bind fun t317 => (if t317 = true then ((laws_toIntS.f k l2).bind fun t318 => ((laws_eqIntS.f k t307 t318).bind fun t321 => (if t321 = true then ((laws_toIntS.f k l3).bind fun t322 => ((laws_eqIntS.f k t310 t322).bind fun t325 => (if t325 = true then (some true) else (some false)))) else (some false)))) else (some false))))))))))) = some r := H
    have A9 := Aside0.mk A90
    clear A90
    replace H := Option.bind_eq_some_iff.mp H
    obtain ⟨t300, A100, H⟩ := H
    replace H : ((spec_CheckValues.f k a0 t294 t297 t300).bind fun t303 => ((laws_toIntS.f k l1).bind fun t304 => ((laws_toIntS.f k l2).bind fun t307 => ((laws_toIntS.f k l3).bind fun t310 => ((impl_CheckValues.f k a0 t304 t307 t310).bind fun t313 => (if (t313 != t303) = true then (some false) else ((laws_toIntS.f k l1).bind fun t314 => ((laws_eqIntS.f k t304 t314).bind fun t317 => (if t317 = true then ((laws_toIntS.f k l2).bind fun t318 => ((laws_eqIntS.f k t307 t318).bind fun t321 => (if t321 = true then ((laws_toIntS.f k l3).bind fun t322 => ((laws_eqIntS.f k t310 t322).bind fun t325 => (if t325 = true then (some true) else (some false)))) else (some false)))) else (some false)))))))))) = some r := H
    have A10 := Aside0.mk A100
    clear A100
    replace H := Option.bind_eq_some_iff.mp H
    obtain ⟨t303, A110, H⟩ := H
    replace H : ((laws_toIntS.f k l1).bind fun t304 => ((laws_toIntS.f k l2).bind fun t307 => ((laws_toIntS.f k l3).bind fun t310 => ((impl_CheckValues.f k a0 t304 t307 t310).bind fun t313 => (if (t313 != t303) = true then (some false) else ((laws_toIntS.f k l1).bind fun t314 => ((laws_eqIntS.f k t304 t314).bind fun t317 => (if t317 = true then ((laws_toIntS.f k l2).bind fun t318 => ((laws_eqIntS.f k t307 t318).bind fun t321 => (if t321 = true then ((laws_toIntS.f k l3).bind fun t322 => ((laws_eqIntS.f k t310 t322).bind fun t325 => (if t325 = true then (some true) else (some false)))) else (some false)))) else (some false))))))))) = some r := H
    have A11 := Aside0.mk A110
    clear A110
    replace H := Option.bind_eq_some_iff.mp H
    obtain ⟨t304, A120, H⟩ := H
    replace H : ((laws_toIntS.f k l2).bind fun t307 => ((laws_toIntS.f k l3).bind fun t310 => ((impl_CheckValues.f k a0 t304 t307 t310).bind fun t313 => (if (t313 != t303) = true then (some false) else ((laws_toIntS.f k l1).bind fun t314 => ((laws_eqIntS.f k t304 t314).bind fun t317 => (if t317 = true then ((laws_toIntS.f k l2).bind fun t318 => ((laws_eqIntS.f k t307 t318).bind fun t321 => (if t321 = true then ((laws_toIntS.f k l3).bind fun t322 => ((laws_eqIntS.f k t310 t322).bind fun t325 => (if t325 = true then (some true) else (some false)))) else (some false)))) else (some false)))))))) = some r := H
    have A12 := Aside0.mk A120
    clear A120
    replace H := Option.bind_eq_some_iff.mp H
    obtain ⟨t307, A130, H⟩ := H
    replace H : ((laws_toIntS.f k l3).bind fun t310 => ((impl_CheckValues.f k a0 t304 t307 t310).bind fun t313 => (if (t313 != t303) = true then (some false) else ((laws_toIntS.f k l1).bind fun t314 => ((laws_eqIntS.f k t304 t314).bind fun t317 => (if t317 = true then ((laws_toIntS.f k l2).bind fun t318 => ((laws_eqIntS.f k t307 t318).bind fun t321 => (if t321 = true then ((laws_toIntS.f k l3).bind fun t322 => ((laws_eqIntS.f k t310 t322).bind fun t325 => (if t325 = true then (some true) else (some false)))) else (some false)))) else (some false))))))) = some r := H
    have A13 := Aside0.mk A130
    clear A130
    replace H := Option.bind_eq_some_iff.mp H
    obtain ⟨t310, A140, H⟩ := H
    replace H : ((impl_CheckValues.f k a0 t304 t307 t310).bind fun t313 => (if (t313 != t303) = true then (some false) else ((laws_toIntS.f k l1).bind fun t314 => ((laws_eqIntS.f k t304 t314).bind fun t317 => (if t317 = true then ((laws_toIntS.f k l2).bind fun t318 => ((laws_eqIntS.f k t307 t318).bind fun t321 => (if t321 = true then ((laws_toIntS.f k l3).bind fun t322 => ((laws_eqIntS.f k t310 t322).bind fun t325 => (if t325 = true then (some true) else (some false)))) else (some false)))) else (some false)))))) = some r := H
    have A14 := Aside0.mk A140
    clear A140
    replace H := Option.bind_eq_some_iff.mp H
    obtain ⟨t313, A150, H⟩ := H
    replace H : (if (t313 != t303) = true then (some false) else ((laws_toIntS.f k l1).bind fun t314 => ((laws_eqIntS.f k t304 t314).bind fun t317 => (if t317 = true then ((laws_toIntS.f k l2).bind fun t318 => ((laws_eqIntS.f k t307 t318).bind fun t321 => (if t321 = true then ((laws_toIntS.f k l3).bind fun t322 => ((laws_eqIntS.f k t310 t322).bind fun t325 => (if t325 = true then (some true) else (some false)))) else (some false)))) else (some false))))) = some r := H
    have A15 := Aside0.mk A150
    clear A150
    by_cases c16 : (t313 != t303) = true
    ·rw [if_pos c16] at H
     have c16b0 : (t313 != t303) = true := c16
     (try (have c16b1 : decide (t313 = t303) = false := by simpa using c16))
     (try (have c16b2 : (t313 == t303) = false := by simpa using c16))
     (try (have c16b3 : ¬ (t313 = t303) := by simpa using c16))
     clear c16
     exact absurd ((Option.some.inj H).trans HT_.out) (by decide)
    ·rw [if_neg c16] at H
     have c16b0 : (t313 != t303) = false := by simpa using c16
     (try (have c16b1 : decide (t313 = t303) = true := by simpa using c16))
     (try (have c16b2 : (t313 == t303) = true := by simpa using c16))
     clear c16
     replace H := Option.bind_eq_some_iff.mp H
     obtain ⟨t314, A170, H⟩ := H
     replace H : ((laws_eqIntS.f k t304 t314).bind fun t317 => (if t317 = true then ((laws_toIntS.f k l2).bind fun t318 => ((laws_eqIntS.f k t307 t318).bind fun t321 => (if t321 = true then ((laws_toIntS.f k l3).bind fun t322 => ((laws_eqIntS.f k t310 t322).bind fun t325 => (if t325 = true then (some true) else (some false)))) else (some false)))) else (some false))) = some r := H
     have A17 := Aside0.mk A170
     clear A170
     replace H := Option.bind_eq_some_iff.mp H
     obtain ⟨t317, A180, H⟩ := H
     replace H : (if t317 = true then ((laws_toIntS.f k l2).bind fun t318 => ((laws_eqIntS.f k t307 t318).bind fun t321 => (if t321 = true then ((laws_toIntS.f k l3).bind fun t322 => ((laws_eqIntS.f k t310 t322).bind fun t325 => (if t325 = true then (some true) else (some false)))) else (some false)))) else (some false)) = some r := H
     have A18 := Aside0.mk A180
     clear A180
     by_cases c19 : t317 = true
     ·subst c19
      replace H : ((laws_toIntS.f k l2).bind fun t318 => ((laws_eqIntS.f k t307 t318).bind fun t321 => (if t321 = true then ((laws_toIntS.f k l3).bind fun t322 => ((laws_eqIntS.f k t310 t322).bind fun t325 => (if t325 = true then (some true) else (some false)))) else (some false)))) = some r := by rw [if_pos rfl] at H; exact H
      replace H := Option.bind_eq_some_iff.mp H
      obtain ⟨t318, A200, H⟩ := H
      replace H : ((laws_eqIntS.f k t307 t318).bind fun t321 => (if t321 = true then ((laws_toIntS.f k l3).bind fun t322 => ((laws_eqIntS.f k t310 t322).bind fun t325 => (if t325 = true then (some true) else (some false)))) else (some false))) = some r := H
      have A20 := Aside0.mk A200
      clear A200
      replace H := Option.bind_eq_some_iff.mp H
      obtain ⟨t321, A210, H⟩ := H
      replace H : (if t321 = true then ((laws_toIntS.f k l3).bind fun t322 => ((laws_eqIntS.f k t310 t322).bind fun t325 => (if t325 = true then (some true) else (some false)))) else (some false)) = some r := H
      have A21 := Aside0.mk A210
      clear A210
      by_cases c22 : t321 = true
      ·subst c22
       replace H : ((laws_toIntS.f k l3).bind fun t322 => ((laws_eqIntS.f k t310 t322).bind fun t325 => (if t325 = true then (some true) else (some false)))) = some r := by rw [if_pos rfl] at H; exact H
       replace H := Option.bind_eq_some_iff.mp H
       obtain ⟨t322, A230, H⟩ := H
       replace H : ((laws_eqIntS.f k t310 t322).bind fun t325 => (if t325 = true then (some true) else (some false))) = some r := H
       have A23 := Aside0.mk A230
       clear A230
       replace H := Option.bind_eq_some_iff.mp H
       obtain ⟨t325, A240, H⟩ := H
       replace H : (if t325 = true then (some true) else (some false)) = some r := H
       have A24 := Aside0.mk A240
       clear A240
       by_cases c25 : t325 = true
       ·subst c25
        replace H : (some true) = some r := by rw [if_pos rfl] at H; exact H
        obtain rfl := Option.some.inj H
        go_enter Try.func3, Try.ntmps3
        go_wp2_with (first | ((with_reducible refine gate_callee (f := 14) rfl ?_); refine goesL_ (some 25) rfl rfl Try.func14 (by kernel_rfl) rfl #[.slice A1 l1.length c1] rfl zM ?_; (with_reducible refine (laws_toIntS.calls k _ _ l1 t294 _ ?side1 ?side2 A8.out).mono ?_); (case side1 => exact zC HR1.out); (case side2 => exact HC1.out); rintro e w26 ⟨v295, rfl, ho0, hb⟩; refine ⟨_, rfl, ?_⟩; have n0_ := Aside0.mk (Kd.R_lower ho0 (below_size zH)); have n1_ := Aside0.mk (below_step zH hb); clear HB; have HO296 := n0_; have HB := n1_; clear n0_ n1_; (try clear hb); (try clear hb2); (try clear hk); (try clear hi); (try clear ho0)) | ((with_reducible refine gate_callee (f := 14) rfl ?_); refine goesL_ (some 27) rfl rfl Try.func14 (by kernel_rfl) rfl #[.slice A2 l2.length c2] rfl zM ?_; (with_reducible refine (laws_toIntS.calls k _ _ l2 t297 _ ?side1 ?side2 A9.out).mono ?_); (case side1 => exact zC (Kd.C_below HR2.out HB.out)); (case side2 => exact HC2.out); rintro e w27 ⟨v298, rfl, ho0, hb⟩; refine ⟨_, rfl, ?_⟩; have n0_ := Aside0.mk (Kd.R_elder' (zR HO296.out) (Kd.R_base ho0) hb); have n1_ := Aside0.mk (Kd.R_lower (Kd.R_new' ho0 (Kd.R_lt (zR HO296.out))) (below_size zH)); have n2_ := Aside0.mk (below_step zH hb); clear HO296; clear HB; have HO296 := n0_; have HO299 := n1_; have HB := n2_; clear n0_ n1_ n2_; (try clear hb); (try clear hb2); (try clear hk); (try clear hi); (try clear ho0)) | ((with_reducible refine gate_callee (f := 14) rfl ?_); refine goesL_ (some 29) rfl rfl Try.func14 (by kernel_rfl) rfl #[.slice A3 l3.length c3] rfl zM ?_; (with_reducible refine (laws_toIntS.calls k _ _ l3 t300 _ ?side1 ?side2 A10.out).mono ?_); (case side1 => exact zC (Kd.C_below HR3.out HB.out)); (case side2 => exact HC3.out); rintro e w28 ⟨v301, rfl, ho0, hb⟩; refine ⟨_, rfl, ?_⟩; have n0_ := Aside0.mk (Kd.R_elder' (zR HO296.out) (Kd.R_base ho0) hb); have n1_ := Aside0.mk (Kd.R_elder' (zR HO299.out) (Kd.R_base ho0) hb); have n2_ := Aside0.mk (Kd.R_lower (Kd.R_new' (Kd.R_new' ho0 (Kd.R_lt (zR HO296.out))) (Kd.R_lt (zR HO299.out))) (below_size zH)); have n3_ := Aside0.mk (below_step zH hb); clear HO296; clear HO299; clear HB; have HO296 := n0_; have HO299 := n1_; have HO302 := n2_; have HB := n3_; clear n0_ n1_ n2_ n3_; (try clear hb); (try clear hb2); (try clear hk); (try clear hi); (try clear ho0); obtain ⟨Ao29, co29, eo29⟩ := Kd.R_slice HO296.out; subst eo29; obtain ⟨Ao30, co30, eo30⟩ := Kd.R_slice HO299.out; subst eo30; obtain ⟨Ao31, co31, eo31⟩ := Kd.R_slice HO302.out; subst eo31) | ((with_reducible refine gate_callee (f := 13) rfl ?_); refine goesL_ (some 30) rfl rfl Try.func13 (by kernel_rfl) rfl #[.int .i64 a0, .slice Ao29 t294.length co29, .slice Ao30 t297.length co30, .slice Ao31 t300.length co31] rfl zM ?_; (with_reducible refine (spec_CheckValues.calls k a0 _ _ t294 _ _ t297 _ _ t300 t303 _ ?side1 ?side2 ?side3 ?side4 ?side5 ?side6 A11.out).mono ?_); (case side1 => exact zC ((Kd.R_reads' HO296.out).2.2)); (case side2 => exact (Kd.R_reads' HO296.out).2.1); (case side3 => exact zC ((Kd.R_reads' HO299.out).2.2)); (case side4 => exact (Kd.R_reads' HO299.out).2.1); (case side5 => exact zC ((Kd.R_reads' HO302.out).2.2)); (case side6 => exact (Kd.R_reads' HO302.out).2.1); rintro e w32 ⟨rfl, hb⟩; refine ⟨_, rfl, ?_⟩; have n0_ := Aside0.mk (Kd.R_below (zR HO296.out) hb); have n1_ := Aside0.mk (Kd.R_below (zR HO299.out) hb); have n2_ := Aside0.mk (Kd.R_below (zR HO302.out) hb); have n3_ := Aside0.mk (below_step zH hb); clear HO296; clear HO299; clear HO302; clear HB; have HO296 := n0_; have HO299 := n1_; have HO302 := n2_; have HB := n3_; clear n0_ n1_ n2_ n3_; (try clear hb); (try clear hb2); (try clear hk); (try clear hi)) | ((with_reducible refine gate_callee (f := 14) rfl ?_); refine goesL_ (some 32) rfl rfl Try.func14 (by kernel_rfl) rfl #[.slice A1 l1.length c1] rfl zM ?_; (with_reducible refine (laws_toIntS.calls k _ _ l1 t304 _ ?side1 ?side2 A12.out).mono ?_); (case side1 => exact zC (Kd.C_below HR1.out HB.out)); (case side2 => exact HC1.out); rintro e w33 ⟨v305, rfl, ho0, hb⟩; refine ⟨_, rfl, ?_⟩; have n0_ := Aside0.mk (Kd.R_elder' (zR HO296.out) (Kd.R_base ho0) hb); have n1_ := Aside0.mk (Kd.R_elder' (zR HO299.out) (Kd.R_base ho0) hb); have n2_ := Aside0.mk (Kd.R_elder' (zR HO302.out) (Kd.R_base ho0) hb); have n3_ := Aside0.mk (Kd.R_lower (Kd.R_new' (Kd.R_new' (Kd.R_new' ho0 (Kd.R_lt (zR HO296.out))) (Kd.R_lt (zR HO299.out))) (Kd.R_lt (zR HO302.out))) (below_size zH)); have n4_ := Aside0.mk (below_step zH hb); clear HO296; clear HO299; clear HO302; clear HB; have HO296 := n0_; have HO299 := n1_; have HO302 := n2_; have HO306 := n3_; have HB := n4_; clear n0_ n1_ n2_ n3_ n4_; (try clear hb); (try clear hb2); (try clear hk); (try clear hi); (try clear ho0)) | ((with_reducible refine gate_callee (f := 14) rfl ?_); refine goesL_ (some 34) rfl rfl Try.func14 (by kernel_rfl) rfl #[.slice A2 l2.length c2] rfl zM ?_; (with_reducible refine (laws_toIntS.calls k _ _ l2 t307 _ ?side1 ?side2 A13.out).mono ?_); (case side1 => exact zC (Kd.C_below HR2.out HB.out)); (case side2 => exact HC2.out); rintro e w34 ⟨v308, rfl, ho0, hb⟩; refine ⟨_, rfl, ?_⟩; have n0_ := Aside0.mk (Kd.R_elder' (zR HO296.out) (Kd.R_base ho0) hb); have n1_ := Aside0.mk (Kd.R_elder' (zR HO299.out) (Kd.R_base ho0) hb); have n2_ := Aside0.mk (Kd.R_elder' (zR HO302.out) (Kd.R_base ho0) hb); have n3_ := Aside0.mk (Kd.R_elder' (zR HO306.out) (Kd.R_base ho0) hb); have n4_ := Aside0.mk (Kd.R_lower (Kd.R_new' (Kd.R_new' (Kd.R_new' (Kd.R_new' ho0 (Kd.R_lt (zR HO296.out))) (Kd.R_lt (zR HO299.out))) (Kd.R_lt (zR HO302.out))) (Kd.R_lt (zR HO306.out))) (below_size zH)); have n5_ := Aside0.mk (below_step zH hb); clear HO296; clear HO299; clear HO302; clear HO306; clear HB; have HO296 := n0_; have HO299 := n1_; have HO302 := n2_; have HO306 := n3_; have HO309 := n4_; have HB := n5_; clear n0_ n1_ n2_ n3_ n4_ n5_; (try clear hb); (try clear hb2); (try clear hk); (try clear hi); (try clear ho0)) | ((with_reducible refine gate_callee (f := 14) rfl ?_); refine goesL_ (some 36) rfl rfl Try.func14 (by kernel_rfl) rfl #[.slice A3 l3.length c3] rfl zM ?_; (with_reducible refine (laws_toIntS.calls k _ _ l3 t310 _ ?side1 ?side2 A14.out).mono ?_); (case side1 => exact zC (Kd.C_below HR3.out HB.out)); (case side2 => exact HC3.out); rintro e w35 ⟨v311, rfl, ho0, hb⟩; refine ⟨_, rfl, ?_⟩; have n0_ := Aside0.mk (Kd.R_elder' (zR HO296.out) (Kd.R_base ho0) hb); have n1_ := Aside0.mk (Kd.R_elder' (zR HO299.out) (Kd.R_base ho0) hb); have n2_ := Aside0.mk (Kd.R_elder' (zR HO302.out) (Kd.R_base ho0) hb); have n3_ := Aside0.mk (Kd.R_elder' (zR HO306.out) (Kd.R_base ho0) hb); have n4_ := Aside0.mk (Kd.R_elder' (zR HO309.out) (Kd.R_base ho0) hb); have n5_ := Aside0.mk (Kd.R_lower (Kd.R_new' (Kd.R_new' (Kd.R_new' (Kd.R_new' (Kd.R_new' ho0 (Kd.R_lt (zR HO296.out))) (Kd.R_lt (zR HO299.out))) (Kd.R_lt (zR HO302.out))) (Kd.R_lt (zR HO306.out))) (Kd.R_lt (zR HO309.out))) (below_size zH)); have n6_ := Aside0.mk (below_step zH hb); clear HO296; clear HO299; clear HO302; clear HO306; clear HO309; clear HB; have HO296 := n0_; have HO299 := n1_; have HO302 := n2_; have HO306 := n3_; have HO309 := n4_; have HO312 := n5_; have HB := n6_; clear n0_ n1_ n2_ n3_ n4_ n5_ n6_; (try clear hb); (try clear hb2); (try clear hk); (try clear hi); (try clear ho0); obtain ⟨Ao36, co36, eo36⟩ := Kd.R_slice HO306.out; subst eo36; obtain ⟨Ao37, co37, eo37⟩ := Kd.R_slice HO309.out; subst eo37; obtain ⟨Ao38, co38, eo38⟩ := Kd.R_slice HO312.out; subst eo38) | ((with_reducible refine gate_callee (f := 15) rfl ?_); refine goesL_ (some 41) rfl rfl Try.func15 (by kernel_rfl) rfl #[.int .i64 a0, .slice Ao36 t304.length co36, .slice Ao37 t307.length co37, .slice Ao38 t310.length co38] rfl zM ?_; (with_reducible refine (impl_CheckValues.calls k a0 _ _ t304 _ _ t307 (fun k_ => some k_ = (.slice Ao38 t310.length co38 : Value).ownBlock) _ _ t310 t313 _ ?side1 ?side2 ?side3 ?side4 ?side5 A15.out).mono ?_); (case side1 => exact zC ((Kd.R_reads' HO306.out).2.2)); (case side2 => exact (Kd.R_reads' HO306.out).2.1); (case side3 => exact zC ((Kd.R_reads' HO309.out).2.2)); (case side4 => exact (Kd.R_reads' HO309.out).2.1); (case side5 => exact Kd.R_V (Kd.R_tight rfl (HO312.out))); rintro e w39 ⟨rfl, hb⟩; refine ⟨_, rfl, ?_⟩; have n0_ := Aside0.mk (Kd.R_below (zR HO296.out) hb); have n1_ := Aside0.mk (Kd.R_below (zR HO299.out) hb); have n2_ := Aside0.mk (Kd.R_below (zR HO302.out) hb); have n3_ := Aside0.mk (Kd.R_below (zR HO306.out) hb); have n4_ := Aside0.mk (Kd.R_below (zR HO309.out) hb); have n5_ := Aside0.mk (Kd.R_below (zR HO312.out) hb); have n6_ := Aside0.mk (below_step zH hb); clear HO296; clear HO299; clear HO302; clear HO306; clear HO309; clear HO312; clear HB; have HO296 := n0_; have HO299 := n1_; have HO302 := n2_; have HO306 := n3_; have HO309 := n4_; have HO312 := n5_; have HB := n6_; clear n0_ n1_ n2_ n3_ n4_ n5_ n6_; (try clear hb); (try clear hb2); (try clear hk); (try clear hi)) | ((with_reducible refine gate_callee (f := 14) rfl ?_); refine goesL_ (some 47) rfl rfl Try.func14 (by kernel_rfl) rfl #[.slice A1 l1.length c1] rfl zM ?_; (with_reducible refine (laws_toIntS.calls k _ _ l1 t314 _ ?side1 ?side2 A17.out).mono ?_); (case side1 => exact zC (Kd.C_below HR1.out HB.out)); (case side2 => exact HC1.out); rintro e w40 ⟨v315, rfl, ho0, hb⟩; refine ⟨_, rfl, ?_⟩; have n0_ := Aside0.mk (Kd.R_elder' (zR HO296.out) (Kd.R_base ho0) hb); have n1_ := Aside0.mk (Kd.R_elder' (zR HO299.out) (Kd.R_base ho0) hb); have n2_ := Aside0.mk (Kd.R_elder' (zR HO302.out) (Kd.R_base ho0) hb); have n3_ := Aside0.mk (Kd.R_elder' (zR HO306.out) (Kd.R_base ho0) hb); have n4_ := Aside0.mk (Kd.R_elder' (zR HO309.out) (Kd.R_base ho0) hb); have n5_ := Aside0.mk (Kd.R_elder' (zR HO312.out) (Kd.R_base ho0) hb); have n6_ := Aside0.mk (Kd.R_lower (Kd.R_new' (Kd.R_new' (Kd.R_new' (Kd.R_new' (Kd.R_new' (Kd.R_new' ho0 (Kd.R_lt (zR HO296.out))) (Kd.R_lt (zR HO299.out))) (Kd.R_lt (zR HO302.out))) (Kd.R_lt (zR HO306.out))) (Kd.R_lt (zR HO309.out))) (Kd.R_lt (zR HO312.out))) (below_size zH)); have n7_ := Aside0.mk (below_step zH hb); clear HO296; clear HO299; clear HO302; clear HO306; clear HO309; clear HO312; clear HB; have HO296 := n0_; have HO299 := n1_; have HO302 := n2_; have HO306 := n3_; have HO309 := n4_; have HO312 := n5_; have HO316 := n6_; have HB := n7_; clear n0_ n1_ n2_ n3_ n4_ n5_ n6_ n7_; (try clear hb); (try clear hb2); (try clear hk); (try clear hi); (try clear ho0); obtain ⟨Ao41, co41, eo41⟩ := Kd.R_slice HO316.out; subst eo41) | ((with_reducible refine gate_callee (f := 16) rfl ?_); refine goesL_ (some 48) rfl rfl Try.func16 (by kernel_rfl) rfl #[.slice Ao36 t304.length co36, .slice Ao41 t314.length co41] rfl zM ?_; (with_reducible refine (laws_eqIntS.calls k _ _ t304 _ _ t314 true _ ?side1 ?side2 ?side3 ?side4 A18.out).mono ?_); (case side1 => exact zC ((Kd.R_reads' HO306.out).2.2)); (case side2 => exact (Kd.R_reads' HO306.out).2.1); (case side3 => exact zC ((Kd.R_reads' HO316.out).2.2)); (case side4 => exact (Kd.R_reads' HO316.out).2.1); rintro e w' ⟨rfl, ⟨nd, rfl⟩⟩; refine ⟨_, rfl, ?_⟩) | ((with_reducible refine gate_callee (f := 14) rfl ?_); refine goesL_ (some 52) rfl rfl Try.func14 (by kernel_rfl) rfl #[.slice A2 l2.length c2] rfl zM ?_; (with_reducible refine (laws_toIntS.calls k _ _ l2 t318 _ ?side1 ?side2 A20.out).mono ?_); (case side1 => exact zC (Kd.C_below HR2.out zH)); (case side2 => exact HC2.out); rintro e w42 ⟨v319, rfl, ho0, hb⟩; refine ⟨_, rfl, ?_⟩; have n0_ := Aside0.mk (Kd.R_elder' (zR HO296.out) (Kd.R_base ho0) hb); have n1_ := Aside0.mk (Kd.R_elder' (zR HO299.out) (Kd.R_base ho0) hb); have n2_ := Aside0.mk (Kd.R_elder' (zR HO302.out) (Kd.R_base ho0) hb); have n3_ := Aside0.mk (Kd.R_elder' (zR HO306.out) (Kd.R_base ho0) hb); have n4_ := Aside0.mk (Kd.R_elder' (zR HO309.out) (Kd.R_base ho0) hb); have n5_ := Aside0.mk (Kd.R_elder' (zR HO312.out) (Kd.R_base ho0) hb); have n6_ := Aside0.mk (Kd.R_elder' (zR HO316.out) (Kd.R_base ho0) hb); have n7_ := Aside0.mk (Kd.R_lower (Kd.R_new' (Kd.R_new' (Kd.R_new' (Kd.R_new' (Kd.R_new' (Kd.R_new' (Kd.R_new' ho0 (Kd.R_lt (zR HO296.out))) (Kd.R_lt (zR HO299.out))) (Kd.R_lt (zR HO302.out))) (Kd.R_lt (zR HO306.out))) (Kd.R_lt (zR HO309.out))) (Kd.R_lt (zR HO312.out))) (Kd.R_lt (zR HO316.out))) (below_size zH)); have n8_ := Aside0.mk (below_step zH hb); clear HO296; clear HO299; clear HO302; clear HO306; clear HO309; clear HO312; clear HO316; clear HB; have HO296 := n0_; have HO299 := n1_; have HO302 := n2_; have HO306 := n3_; have HO309 := n4_; have HO312 := n5_; have HO316 := n6_; have HO320 := n7_; have HB := n8_; clear n0_ n1_ n2_ n3_ n4_ n5_ n6_ n7_ n8_; (try clear hb); (try clear hb2); (try clear hk); (try clear hi); (try clear ho0); obtain ⟨Ao43, co43, eo43⟩ := Kd.R_slice HO320.out; subst eo43) | ((with_reducible refine gate_callee (f := 16) rfl ?_); refine goesL_ (some 53) rfl rfl Try.func16 (by kernel_rfl) rfl #[.slice Ao37 t307.length co37, .slice Ao43 t318.length co43] rfl zM ?_; (with_reducible refine (laws_eqIntS.calls k _ _ t307 _ _ t318 true _ ?side1 ?side2 ?side3 ?side4 A21.out).mono ?_); (case side1 => exact zC ((Kd.R_reads' HO309.out).2.2)); (case side2 => exact (Kd.R_reads' HO309.out).2.1); (case side3 => exact zC ((Kd.R_reads' HO320.out).2.2)); (case side4 => exact (Kd.R_reads' HO320.out).2.1); rintro e w' ⟨rfl, ⟨nd, rfl⟩⟩; refine ⟨_, rfl, ?_⟩) | ((with_reducible refine gate_callee (f := 14) rfl ?_); refine goesL_ (some 57) rfl rfl Try.func14 (by kernel_rfl) rfl #[.slice A3 l3.length c3] rfl zM ?_; (with_reducible refine (laws_toIntS.calls k _ _ l3 t322 _ ?side1 ?side2 A23.out).mono ?_); (case side1 => exact zC (Kd.C_below HR3.out zH)); (case side2 => exact HC3.out); rintro e w44 ⟨v323, rfl, ho0, hb⟩; refine ⟨_, rfl, ?_⟩; have n0_ := Aside0.mk (Kd.R_elder' (zR HO296.out) (Kd.R_base ho0) hb); have n1_ := Aside0.mk (Kd.R_elder' (zR HO299.out) (Kd.R_base ho0) hb); have n2_ := Aside0.mk (Kd.R_elder' (zR HO302.out) (Kd.R_base ho0) hb); have n3_ := Aside0.mk (Kd.R_elder' (zR HO306.out) (Kd.R_base ho0) hb); have n4_ := Aside0.mk (Kd.R_elder' (zR HO309.out) (Kd.R_base ho0) hb); have n5_ := Aside0.mk (Kd.R_elder' (zR HO312.out) (Kd.R_base ho0) hb); have n6_ := Aside0.mk (Kd.R_elder' (zR HO316.out) (Kd.R_base ho0) hb); have n7_ := Aside0.mk (Kd.R_elder' (zR HO320.out) (Kd.R_base ho0) hb); have n8_ := Aside0.mk (Kd.R_lower (Kd.R_new' (Kd.R_new' (Kd.R_new' (Kd.R_new' (Kd.R_new' (Kd.R_new' (Kd.R_new' (Kd.R_new' ho0 (Kd.R_lt (zR HO296.out))) (Kd.R_lt (zR HO299.out))) (Kd.R_lt (zR HO302.out))) (Kd.R_lt (zR HO306.out))) (Kd.R_lt (zR HO309.out))) (Kd.R_lt (zR HO312.out))) (Kd.R_lt (zR HO316.out))) (Kd.R_lt (zR HO320.out))) (below_size zH)); have n9_ := Aside0.mk (below_step zH hb); clear HO296; clear HO299; clear HO302; clear HO306; clear HO309; clear HO312; clear HO316; clear HO320; clear HB; have HO296 := n0_; have HO299 := n1_; have HO302 := n2_; have HO306 := n3_; have HO309 := n4_; have HO312 := n5_; have HO316 := n6_; have HO320 := n7_; have HO324 := n8_; have HB := n9_; clear n0_ n1_ n2_ n3_ n4_ n5_ n6_ n7_ n8_ n9_; (try clear hb); (try clear hb2); (try clear hk); (try clear hi); (try clear ho0); obtain ⟨Ao45, co45, eo45⟩ := Kd.R_slice HO324.out; subst eo45) | ((with_reducible refine gate_callee (f := 16) rfl ?_); refine goesL_ (some 58) rfl rfl Try.func16 (by kernel_rfl) rfl #[.slice Ao38 t310.length co38, .slice Ao45 t322.length co45] rfl zM ?_; (with_reducible refine (laws_eqIntS.calls k _ _ t310 _ _ t322 true _ ?side1 ?side2 ?side3 ?side4 A24.out).mono ?_); (case side1 => exact zC ((Kd.R_reads' HO312.out).2.2)); (case side2 => exact (Kd.R_reads' HO312.out).2.1); (case side3 => exact zC ((Kd.R_reads' HO324.out).2.2)); (case side4 => exact (Kd.R_reads' HO324.out).2.1); rintro e w' ⟨rfl, ⟨nd, rfl⟩⟩; refine ⟨_, rfl, ?_⟩))
        go_ret
        exact ⟨zE, zH⟩
       ·replace c25 := Bool.eq_false_iff.mpr c25
        subst c25
        replace H : (some false) = some r := by rw [if_neg (show ¬ (false = true) by decide)] at H; exact H
        exact absurd ((Option.some.inj H).trans HT_.out) (by decide)
      ·replace c22 := Bool.eq_false_iff.mpr c22
       subst c22
       replace H : (some false) = some r := by rw [if_neg (show ¬ (false = true) by decide)] at H; exact H
       exact absurd ((Option.some.inj H).trans HT_.out) (by decide)
     ·replace c19 := Bool.eq_false_iff.mpr c19
      subst c19
      replace H : (some false) = some r := by rw [if_neg (show ¬ (false = true) by decide)] at H; exact H
      exact absurd ((Option.some.inj H).trans HT_.out) (by decide)

/-- THE ONE PURE STATEMENT of laws_FnExactCheckValues: yours. -/
def laws_FnExactCheckValues.Pure : Prop := ∀ (a0 : Int) (l1 : List Int) (l2 : List Int) (l3 : List Int), (Lit.int .i64 a0).wf = true → l1.length ≤ maxLen → l1.length * 8 ≤ 140737488351232 → (∀ x ∈ l1, (Lit.int .i64 x).wf = true) → l2.length ≤ maxLen → l2.length * 8 ≤ 140737488351232 → (∀ x ∈ l2, (Lit.int .i64 x).wf = true) → l3.length ≤ maxLen → l3.length * 8 ≤ 140737488351232 → (∀ x ∈ l3, (Lit.int .i64 x).wf = true) → ∃ k, laws_FnExactCheckValues.f k a0 l1 l2 l3 = some true
theorem laws_FnExactCheckValues.walk (P : laws_FnExactCheckValues.Pure) (a0 : Int) (a1 : Option Addr) (len1 cap1 : Nat) (z1 : List Int) (a2 : Option Addr) (len2 cap2 : Nat) (z2 : List Int) (a3 : Option Addr) (len3 cap3 : Nat) (z3 : List Int) (w : World) (w0 : (Lit.int .i64 a0).wf = true) (w1 : (a1 = none ∧ len1 = 0 ∧ cap1 = 0 ∧ z1 = []) ∨ ∃ x, a1 = some x ∧ len1 ≤ cap1 ∧ cap1 ≤ maxLen ∧ z1.length = cap1 ∧ (∀ i, i < z1.length → w.cell? (x.add i) = some (.int .i64 (z1.getD i 0))) ∧ ∀ n ∈ z1, (Lit.int .i64 n).wf = true) (y1 : len1 * 8 ≤ 140737488351232) (w2 : (a2 = none ∧ len2 = 0 ∧ cap2 = 0 ∧ z2 = []) ∨ ∃ x, a2 = some x ∧ len2 ≤ cap2 ∧ cap2 ≤ maxLen ∧ z2.length = cap2 ∧ (∀ i, i < z2.length → w.cell? (x.add i) = some (.int .i64 (z2.getD i 0))) ∧ ∀ n ∈ z2, (Lit.int .i64 n).wf = true) (y2 : len2 * 8 ≤ 140737488351232) (w3 : (a3 = none ∧ len3 = 0 ∧ cap3 = 0 ∧ z3 = []) ∨ ∃ x, a3 = some x ∧ len3 ≤ cap3 ∧ cap3 ≤ maxLen ∧ z3.length = cap3 ∧ (∀ i, i < z3.length → w.cell? (x.add i) = some (.int .i64 (z3.getD i 0))) ∧ ∀ n ∈ z3, (Lit.int .i64 n).wf = true) (y3 : len3 * 8 ≤ 140737488351232) :
  Calls Try.prog 3 #[.int .i64 a0, .slice a1 len1 cap1, .slice a2 len2 cap2, .slice a3 len3 cap3] w fun e w' => e = .returned (.bool true) ∧ Below w.heap.size w w' := by
 obtain ⟨l1, rfl, hr1, hm1, hw1, hc1⟩ := ReadsInt.ofRowC w1
 obtain ⟨l2, rfl, hr2, hm2, hw2, hc2⟩ := ReadsInt.ofRowC w2
 obtain ⟨l3, rfl, hr3, hm3, hw3, hc3⟩ := ReadsInt.ofRowC w3
 obtain ⟨k, h⟩ := P a0 l1 l2 l3 w0 hm1 y1 hw1 hm2 y2 hw2 hm3 y3 hw3
 refine (laws_FnExactCheckValues.calls k a0 _ _ l1 _ _ l2 _ _ l3 true w (Kd.C_of_reads (d := (0 : Int)) (h1 := fun _ => rfl) hr1) hc1 (Kd.C_of_reads (d := (0 : Int)) (h1 := fun _ => rfl) hr2) hc2 (Kd.C_of_reads (d := (0 : Int)) (h1 := fun _ => rfl) hr3) hc3 ⟨rfl⟩ h).mono ?_
 rintro e w' ⟨rfl, hd⟩
 exact ⟨rfl, hd⟩

end Go.Proofs.Ytabicblkdgpogaa.QFnExactCheckValues
