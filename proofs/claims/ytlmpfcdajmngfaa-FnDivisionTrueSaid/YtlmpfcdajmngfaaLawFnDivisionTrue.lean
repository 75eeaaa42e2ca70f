/- The row of the law FnDivisionTrue, over the reading of its code; no condition beside the row's own. -/
import Derived.Test.YtlmpfcdajmngfaaRows
import Derived.Test.YtlmpfcdajmngfaaChecked
import Derived.Test.YtlmpfcdajmngfaaE
import Derived.Test.YtlmpfcdajmngfaaVpFnDivisionTrue
import Derived.WalkKit
import Derived.ProofKit
import Derived.OpenShut
import Derived.ShutString
import Derived.ChangeOld
import Derived.Below
import Derived.SizedLaws
namespace Go.Proofs.Ytlmpfcdajmngfaa.fnDivisionTrue
open Go.ChangeShapes Go.WideShapes Go.ChangeAt Go.RowKit Go.Vm
set_option linter.unusedVariables false
theorem own : ownKnob Try.prog.godebug = none := by kernel_rfl
theorem laidOut : laidOutB Try.prog = true := by kernel_rfl
theorem ty44 : TyOk Try.prog 44 (.row (.int .u8)) := .row Try.underlying44 (by kernel_rfl) (.int Try.underlying5)
theorem prim_ok : FnOk Try.prog E prim := fun g S _ ds d h => by cases h
set_option maxRecDepth 100000 in
theorem lifted (os : Os) (started : os.Started) (H : Type) (enc : TypeId × Value → H) :
    ReturnsInHanded {} Try.checked os 8 .any (Rows.fnDivisionTrueSpec.pre6 enc Try.prog Try.f8 Rows.fnDivisionTrueRow.domain false) (Rows.fnDivisionTrueSpec.post enc Try.prog Try.f8 false true false false) := by
  refine returnsInHanded_of_change_sized (C := Try.checked) own started (by kernel_rfl) Try.func8
    (ChangeSpec.witness6 (enc := enc) (C := Try.checked) false ⟨#[], #[.slice none 0 0], []⟩ 8 (by kernel_rfl) (by kernel_rfl) (by kernel_rfl) (by kernel_rfl)) ?_
  intro W base args ds gs before hval0 hW hcnd hsz0 _
  have hval : ∀ (j : Nat) t v, Try.f8.params[j]? = some t → args[j]? = some v → Value.okWide Try.prog W .any base t v := hval0
  have hW' := hW
  obtain ⟨p, q, hA0, hV, rfl, hfz, hnd⟩ := hW
  have hA : DataW.TrodAll enc Try.prog W 0 (fun _ => true) true Try.f8.params.toList args.toList ds p := hA0
  rw [Try.params8] at hA hval
  obtain ⟨v0, vs0, d0, ds0, p0, q0, hargs, rfl, rfl, h0, r0⟩ := trodAll_cons hA
  obtain ⟨rfl, rfl, rfl⟩ := trodAll_nil r0
  obtain rfl : args = #[v0] := by cases args; simp_all
  obtain ⟨rfl, rfl⟩ := trodVars_none hV
  obtain ⟨A0, c0, e0, rfl⟩ := okWide_slice Try.underlying44 (hval 0 44 v0 rfl rfl)
  have k0 := h0
  have lt0 : ∀ x ∈ p0, x.block < W.heap.size := by obtain ⟨m, hm⟩ := k0; exact DataW.trod_lt m _ _ _ hm
  obtain ⟨m0, hf0⟩ := h0
  obtain ⟨x0, rp0, w0⟩ := ty44.opens hf0
  clear hA0 hval0 hsz0
  obtain ⟨k, h⟩ := Pu.law_DivisionTrue x0
  have hc := fn_calls (P := Try.prog) (E := E) (fun_sound envOk sigOk fnsOk_ prim_ok k) (g := 8) (S := laws_FnDivisionTrue.S) (by kernel_rfl) rfl rfl rfl (W := W) (args := #[.slice A0 c0 e0]) (vs := [topV false (.row (.int .u8)) x0]) (ds := [.row (.int .u8) x0]) (by kernel_rfl) (by simp only [RepL]; exact ⟨_, _, rfl, topV_rep (agg := false) (d := x0) rp0 (fun h => by cases h) (fun _ => rfl), rfl⟩) (d := true) h rfl
  refine hc.mono fun e W' ⟨he, bel0⟩ => ?_
  have bel : Below W.heap.size W W' := bel0
  subst he
  exact ⟨_, rfl, _, _, _, [], _, [], hW', trodAll_mk1 (shut_bool Try.underlying4 _), (trodAll_cons_mk (Below.trod laidOut (by kernel_rfl) (of_decide_eq_true (by kernel_rfl)) k0 bel lt0) trodAll_mk0), rfl, bel.frame _, fun h => by cases h⟩
theorem over : Rows.fnDivisionTrueRow.holds Try.pinned (OpenSpec.ofChange Rows.fnDivisionTrueSpec) :=
  OpenClaim.holds_of_wide 8 Try.f8 rfl rfl rfl rfl rfl rfl rfl ⟨rfl, rfl, rfl, rfl, rfl⟩ rfl rfl rfl rfl rfl (by kernel_rfl) Try.func8 (by kernel_rfl)
    (of_decide_eq_true (by kernel_rfl)) (by unfold Func.isWrapper; first | (rw [if_pos (by decide +kernel)]; kernel_rfl) | (rw [if_neg (by decide +kernel)]; exact ⟨rfl, rfl⟩))
    (fun os started H enc _ => lifted os started H enc)
theorem proved : Rows.FnDivisionTrueSaid := over
#print axioms proved
end Go.Proofs.Ytlmpfcdajmngfaa.fnDivisionTrue
namespace Go.Proofs.Ytlmpfcdajmngfaa
/-- The row, under a short name, for the claim. -/
theorem fnDivisionTrue_holds : Rows.FnDivisionTrueSaid := fnDivisionTrue.proved
end Go.Proofs.Ytlmpfcdajmngfaa
