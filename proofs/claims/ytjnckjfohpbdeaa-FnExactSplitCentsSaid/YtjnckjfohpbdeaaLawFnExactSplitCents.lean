/- The row of the law FnExactSplitCents, over the reading of its code; no condition beside the row's own. -/
import Derived.Test.YtjnckjfohpbdeaaRows
import Derived.Test.YtjnckjfohpbdeaaChecked
import Derived.Test.YtjnckjfohpbdeaaE
import Derived.Test.YtjnckjfohpbdeaaVpFnExactSplitCents
import Derived.WalkKit
import Derived.ProofKit
import Derived.OpenShut
import Derived.ShutString
import Derived.ChangeOld
import Derived.Below
import Derived.SizedLaws
namespace Go.Proofs.Ytjnckjfohpbdeaa.fnExactSplitCents
open Go.ChangeShapes Go.WideShapes Go.ChangeAt Go.RowKit Go.Vm
set_option linter.unusedVariables false
theorem own : ownKnob Try.prog.godebug = none := by kernel_rfl
theorem laidOut : laidOutB Try.prog = true := by kernel_rfl
theorem ty3 : TyOk Try.prog 3 (.int .i64) := .int Try.underlying3
theorem ty22 : TyOk Try.prog 22 (.row (.int .i64)) := .row Try.underlying22 (by kernel_rfl) (.int Try.underlying3)
theorem prim_ok : FnOk Try.prog E prim := fun g S _ ds d h => by cases h
set_option maxRecDepth 100000 in
theorem lifted (os : Os) (started : os.Started) (H : Type) (enc : TypeId × Value → H) :
    ReturnsInHanded {} Try.checked os 3 .any (Rows.fnExactSplitCentsSpec.pre6 enc Try.prog Try.f3 Rows.fnExactSplitCentsRow.domain false) (Rows.fnExactSplitCentsSpec.post enc Try.prog Try.f3 false true false false) := by
  refine returnsInHanded_of_change_sized (C := Try.checked) own started (by kernel_rfl) Try.func3
    (ChangeSpec.witness6 (enc := enc) (C := Try.checked) false ⟨#[], #[.int .i64 0, .slice none 0 0], []⟩ 8 (by kernel_rfl) (by kernel_rfl) (by kernel_rfl) (by kernel_rfl)) ?_
  intro W base args ds gs before hval0 hW hcnd hsz0 _
  have hval : ∀ (j : Nat) t v, Try.f3.params[j]? = some t → args[j]? = some v → Value.okWide Try.prog W .any base t v := hval0
  have hW' := hW
  obtain ⟨p, q, hA0, hV, rfl, hfz, hnd⟩ := hW
  have hA : DataW.TrodAll enc Try.prog W 0 (fun _ => true) true Try.f3.params.toList args.toList ds p := hA0
  rw [Try.params3] at hA hval
  obtain ⟨v0, vs0, d0, ds0, p0, q0, hargs, rfl, rfl, h0, r0⟩ := trodAll_cons hA
  obtain ⟨v1, vs1, d1, ds1, p1, q1, rfl, rfl, rfl, h1, r1⟩ := trodAll_cons r0
  obtain ⟨rfl, rfl, rfl⟩ := trodAll_nil r1
  obtain rfl : args = #[v0, v1] := by cases args; simp_all
  obtain ⟨rfl, rfl⟩ := trodVars_none hV
  obtain ⟨x0, rfl, rfl, rfl, w0⟩ := open_int Try.underlying3 (hval 0 3 v0 rfl rfl) h0
  obtain ⟨A1, c1, e1, rfl⟩ := okWide_slice Try.underlying22 (hval 1 22 v1 rfl rfl)
  have k1 := h1
  have lt1 : ∀ x ∈ p1, x.block < W.heap.size := by obtain ⟨m, hm⟩ := k1; exact DataW.trod_lt m _ _ _ hm
  obtain ⟨m1, hf1⟩ := h1
  obtain ⟨x1, rp1, w1⟩ := ty22.opens hf1
  clear hA0 hval0 hsz0
  obtain ⟨k, h⟩ := Pu.law_SplitCents x0 x1
  have hc := fn_calls (P := Try.prog) (E := E) (fun_sound envOk sigOk fnsOk_ prim_ok k) (g := 3) (S := laws_FnExactSplitCents.S) (by kernel_rfl) rfl rfl rfl (W := W) (args := #[.int .i64 x0, .slice A1 c1 e1]) (vs := [topV false (.int .i64) x0, topV false (.row (.int .i64)) x1]) (ds := [.int x0, .row (.int .i64) x1]) (by kernel_rfl) (by simp only [RepL]; exact ⟨_, _, rfl, (by simp only [topV, Ty.avs, RepA]), ⟨_, _, rfl, topV_rep (agg := false) (d := x1) rp1 (fun h => by cases h) (fun _ => rfl), rfl⟩⟩) (d := true) h rfl
  refine hc.mono fun e W' ⟨he, bel0⟩ => ?_
  have bel : Below W.heap.size W W' := bel0
  subst he
  exact ⟨_, rfl, _, _, _, [], _, [], hW', trodAll_mk1 (shut_bool Try.underlying4 _), (trodAll_cons_mk (shut_int Try.underlying3 w0) (trodAll_cons_mk (Below.trod laidOut (by kernel_rfl) (of_decide_eq_true (by kernel_rfl)) k1 bel lt1) trodAll_mk0)), rfl, bel.frame _, fun h => by cases h⟩
theorem over : Rows.fnExactSplitCentsRow.holds Try.pinned (OpenSpec.ofChange Rows.fnExactSplitCentsSpec) :=
  OpenClaim.holds_of_wide 3 Try.f3 rfl rfl rfl rfl rfl rfl rfl ⟨rfl, rfl, rfl, rfl, rfl⟩ rfl rfl rfl rfl rfl (by kernel_rfl) Try.func3 (by kernel_rfl)
    (of_decide_eq_true (by kernel_rfl)) (by unfold Func.isWrapper; first | (rw [if_pos (by decide +kernel)]; kernel_rfl) | (rw [if_neg (by decide +kernel)]; exact ⟨rfl, rfl⟩))
    (fun os started H enc _ => lifted os started H enc)
theorem proved : Rows.FnExactSplitCentsSaid := over
#print axioms proved
end Go.Proofs.Ytjnckjfohpbdeaa.fnExactSplitCents
namespace Go.Proofs.Ytjnckjfohpbdeaa
/-- The row, under a short name, for the claim. -/
theorem fnExactSplitCents_holds : Rows.FnExactSplitCentsSaid := fnExactSplitCents.proved
end Go.Proofs.Ytjnckjfohpbdeaa
