/- The row of the law FnCompact, over the reading of its code; no condition beside the row's own. -/
import Derived.Test.YtlmpfcdajmngfaaGreatRows
import Derived.Test.YtlmpfcdajmngfaaGreatChecked
import Derived.Test.YtlmpfcdajmngfaaGreatE
import Derived.Test.YtlmpfcdajmngfaaGreatSlP
import Derived.Test.YtlmpfcdajmngfaaGreatVpFnCompact
import Derived.WalkKit
import Derived.ProofKit
import Derived.OpenShut
import Derived.ShutString
import Derived.ChangeOld
import Derived.Below
import Derived.SizedLaws
namespace Go.Proofs.YtlmpfcdajmngfaaGreat.fnCompact
open Go.ChangeShapes Go.WideShapes Go.ChangeAt Go.RowKit Go.Vm
set_option linter.unusedVariables false
theorem own : ownKnob Tryz.prog.godebug = none := by kernel_rfl
theorem laidOut : laidOutB Tryz.prog = true := by kernel_rfl
theorem ty22 : TyOk Tryz.prog 22 (.row (.int .u8)) := .row Tryz.underlying22 (by kernel_rfl) (.int Tryz.underlying5)
theorem prim_ok : FnOk Tryz.prog E prim := Go.Vm.Sl.prim_ok
set_option maxRecDepth 100000 in
theorem lifted (os : Os) (started : os.Started) (H : Type) (enc : TypeId × Value → H) :
    ReturnsInHanded {} Tryz.checked os 3 .any (Rows.fnCompactSpec.pre6 enc Tryz.prog Tryz.f3 Rows.fnCompactRow.domain false) (Rows.fnCompactSpec.post enc Tryz.prog Tryz.f3 false true false false) := by
  refine returnsInHanded_of_change_sized (C := Tryz.checked) own started (by kernel_rfl) Tryz.func3
    (ChangeSpec.witness6 (enc := enc) (C := Tryz.checked) false ⟨#[], #[.slice none 0 0], []⟩ 8 (by kernel_rfl) (by kernel_rfl) (by kernel_rfl) (by kernel_rfl)) ?_
  intro W base args ds gs before hval0 hW hcnd hsz0 _
  have hval : ∀ (j : Nat) t v, Tryz.f3.params[j]? = some t → args[j]? = some v → Value.okWide Tryz.prog W .any base t v := hval0
  have hW' := hW
  obtain ⟨p, q, hA0, hV, rfl, hfz, hnd⟩ := hW
  have hA : DataW.TrodAll enc Tryz.prog W 0 (fun _ => true) true Tryz.f3.params.toList args.toList ds p := hA0
  rw [Tryz.params3] at hA hval
  obtain ⟨v0, vs0, d0, ds0, p0, q0, hargs, rfl, rfl, h0, r0⟩ := trodAll_cons hA
  obtain ⟨rfl, rfl, rfl⟩ := trodAll_nil r0
  obtain rfl : args = #[v0] := by cases args; simp_all
  obtain ⟨rfl, rfl⟩ := trodVars_none hV
  obtain ⟨A0, c0, e0, rfl⟩ := okWide_slice Tryz.underlying22 (hval 0 22 v0 rfl rfl)
  have k0 := h0
  have lt0 : ∀ x ∈ p0, x.block < W.heap.size := by obtain ⟨m, hm⟩ := k0; exact DataW.trod_lt m _ _ _ hm
  obtain ⟨m0, hf0⟩ := h0
  obtain ⟨x0, rp0, w0⟩ := ty22.opens hf0
  clear hA0 hval0 hsz0
  obtain ⟨k, h⟩ := Pu.law_Compact x0
  have hc := fn_calls (P := Tryz.prog) (E := E) (fun_sound envOk sigOk fnsOk_ prim_ok k) (g := 3) (S := laws_FnCompact.S) (by kernel_rfl) rfl rfl rfl (W := W) (args := #[.slice A0 c0 e0]) (vs := [topV false (.row (.int .u8)) x0]) (ds := [.row (.int .u8) x0]) (by kernel_rfl) (by simp only [RepL]; exact ⟨_, _, rfl, topV_rep (agg := false) (d := x0) rp0 (fun h => by cases h) (fun _ => rfl), rfl⟩) (d := true) h rfl
  refine hc.mono fun e W' ⟨he, bel0⟩ => ?_
  have bel : Below W.heap.size W W' := bel0
  subst he
  exact ⟨_, rfl, _, _, _, [], _, [], hW', trodAll_mk1 (shut_bool Tryz.underlying4 _), (trodAll_cons_mk (Below.trod laidOut (by kernel_rfl) (of_decide_eq_true (by kernel_rfl)) k0 bel lt0) trodAll_mk0), rfl, bel.frame _, fun h => by cases h⟩
theorem over : Rows.fnCompactRow.holds Tryz.pinned (OpenSpec.ofChange Rows.fnCompactSpec) :=
  OpenClaim.holds_of_wide 3 Tryz.f3 rfl rfl rfl rfl rfl rfl rfl ⟨rfl, rfl, rfl, rfl, rfl⟩ rfl rfl rfl rfl rfl (by kernel_rfl) Tryz.func3 (by kernel_rfl)
    (of_decide_eq_true (by kernel_rfl)) (by unfold Func.isWrapper; first | (rw [if_pos (by decide +kernel)]; kernel_rfl) | (rw [if_neg (by decide +kernel)]; exact ⟨rfl, rfl⟩))
    (fun os started H enc _ => lifted os started H enc)
theorem proved : Rows.FnCompactSaid := over
#print axioms proved
end Go.Proofs.YtlmpfcdajmngfaaGreat.fnCompact
namespace Go.Proofs.YtlmpfcdajmngfaaGreat
/-- The row, under a short name, for the claim. -/
theorem fnCompact_holds : Rows.FnCompactSaid := fnCompact.proved
end Go.Proofs.YtlmpfcdajmngfaaGreat
