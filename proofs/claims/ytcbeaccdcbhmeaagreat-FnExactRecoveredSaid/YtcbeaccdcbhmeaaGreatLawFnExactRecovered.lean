/- The row of the law FnExactRecovered, over the reading of its code; no condition beside the row's own. -/
import Derived.Test.YtcbeaccdcbhmeaaGreatRows
import Derived.Test.YtcbeaccdcbhmeaaGreatChecked
import Derived.Test.YtcbeaccdcbhmeaaGreatRE
import Derived.Test.YtcbeaccdcbhmeaaGreatSlP
import Derived.Test.YtcbeaccdcbhmeaaGreatVpFnExactRecovered
import Derived.WalkKit
import Derived.ProofKit
import Derived.OpenShut
import Derived.ShutString
import Derived.ChangeOld
import Derived.Below
import Derived.SizedLaws
namespace Go.Proofs.YtcbeaccdcbhmeaaGreat.fnExactRecovered
open Go.ChangeShapes Go.WideShapes Go.ChangeAt Go.RowKit Go.Vm
set_option linter.unusedVariables false
theorem own : ownKnob Tryz.prog.godebug = none := by kernel_rfl
theorem laidOut : laidOutB Tryz.prog = true := by kernel_rfl
theorem ty39 : TyOk Tryz.prog 39 (.pair (.row (.int .u8)) (.row (.int .u8))) := .struct Tryz.underlying39 (by kernel_rfl) (.cons rfl (by kernel_rfl) (.row Tryz.underlying37 (by kernel_rfl) (.int Tryz.underlying5)) (.last rfl (by kernel_rfl) (.row Tryz.underlying37 (by kernel_rfl) (.int Tryz.underlying5))))
theorem prim_ok : FnOk Tryz.prog E prim := Go.Vm.Sl.prim_ok
set_option maxRecDepth 100000 in
theorem lifted (os : Os) (started : os.Started) (H : Type) (enc : TypeId × Value → H) :
    ReturnsInHanded {} Tryz.checked os 4 .any (Rows.fnExactRecoveredSpec.pre6 enc Tryz.prog Tryz.f4 Rows.fnExactRecoveredRow.domain false) (Rows.fnExactRecoveredSpec.post enc Tryz.prog Tryz.f4 false true false false) := by
  refine returnsInHanded_of_change_sized (C := Tryz.checked) own started (by kernel_rfl) Tryz.func4
    (ChangeSpec.witness6 (enc := enc) (C := Tryz.checked) false ⟨#[], #[.agg #[.slice none 0 0, .slice none 0 0]], []⟩ 8 (by kernel_rfl) (by kernel_rfl) (by kernel_rfl) (by kernel_rfl)) ?_
  intro W base args ds gs before hval0 hW hcnd hsz0 _
  have hval : ∀ (j : Nat) t v, Tryz.f4.params[j]? = some t → args[j]? = some v → Value.okWide Tryz.prog W .any base t v := hval0
  have hW' := hW
  obtain ⟨p, q, hA0, hV, rfl, hfz, hnd⟩ := hW
  have hA : DataW.TrodAll enc Tryz.prog W 0 (fun _ => true) true Tryz.f4.params.toList args.toList ds p := hA0
  rw [Tryz.params4] at hA hval
  obtain ⟨v0, vs0, d0, ds0, p0, q0, hargs, rfl, rfl, h0, r0⟩ := trodAll_cons hA
  obtain ⟨rfl, rfl, rfl⟩ := trodAll_nil r0
  obtain rfl : args = #[v0] := by cases args; simp_all
  obtain ⟨rfl, rfl⟩ := trodVars_none hV
  obtain ⟨⟨cs0⟩, rfl, hs0⟩ := okWide_struct Tryz.underlying39 (hval 0 39 v0 rfl rfl)
  have k0 := h0
  have lt0 : ∀ x ∈ p0, x.block < W.heap.size := by obtain ⟨m, hm⟩ := k0; exact DataW.trod_lt m _ _ _ hm
  obtain ⟨m0, hf0⟩ := h0
  obtain ⟨x0, rp0, w0⟩ := ty39.opens hf0
  clear hA0 hval0 hsz0
  obtain ⟨k, h⟩ := Pu.law_Recovered x0.1 x0.2 w0.1.1 w0.2.1 (Pu.Bs.of w0.1.2) (Pu.Bs.of w0.2.2)
  have hc := fn_calls (P := Tryz.prog) (E := E) (fun_sound envOk sigOk fnsOk_ prim_ok k) (g := 4) (S := laws_FnExactRecovered.S) (by kernel_rfl) rfl rfl rfl (W := W) (args := #[_]) (vs := [topV true (.pair (.row (.int .u8)) (.row (.int .u8))) x0]) (ds := [.row (.int .u8) x0.1, .row (.int .u8) x0.2]) (by kernel_rfl) (by simp only [RepL]; exact ⟨_, _, rfl, topV_rep (agg := true) (d := x0) rp0 (fun _ => ⟨_, rfl⟩) (fun h => by cases h), rfl⟩) (d := true) h rfl
  refine hc.mono fun e W' ⟨he, bel0⟩ => ?_
  have bel : Below W.heap.size W W' := bel0
  subst he
  exact ⟨_, rfl, _, _, _, [], _, [], hW', trodAll_mk1 (shut_bool Tryz.underlying4 _), (trodAll_cons_mk (Below.trod laidOut (by kernel_rfl) (of_decide_eq_true (by kernel_rfl)) k0 bel lt0) trodAll_mk0), rfl, bel.frame _, fun h => by cases h⟩
theorem over : Rows.fnExactRecoveredRow.holds Tryz.pinned (OpenSpec.ofChange Rows.fnExactRecoveredSpec) :=
  OpenClaim.holds_of_wide 4 Tryz.f4 rfl rfl rfl rfl rfl rfl rfl ⟨rfl, rfl, rfl, rfl, rfl⟩ rfl rfl rfl rfl rfl (by kernel_rfl) Tryz.func4 (by kernel_rfl)
    (of_decide_eq_true (by kernel_rfl)) (by unfold Func.isWrapper; first | (rw [if_pos (by decide +kernel)]; kernel_rfl) | (rw [if_neg (by decide +kernel)]; exact ⟨rfl, rfl⟩))
    (fun os started H enc _ => lifted os started H enc)
theorem proved : Rows.FnExactRecoveredSaid := over
#print axioms proved
end Go.Proofs.YtcbeaccdcbhmeaaGreat.fnExactRecovered
namespace Go.Proofs.YtcbeaccdcbhmeaaGreat
/-- The row, under a short name, for the claim. -/
theorem fnExactRecovered_holds : Rows.FnExactRecoveredSaid := fnExactRecovered.proved
end Go.Proofs.YtcbeaccdcbhmeaaGreat
