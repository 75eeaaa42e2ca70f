/- The row of the law FnExactCheckResult, over the reading of its code; no condition beside the row's own. -/
import Derived.Test.YtcbeaccdcbhmeaaGreatRows
import Derived.Test.YtcbeaccdcbhmeaaGreatChecked
import Derived.Test.YtcbeaccdcbhmeaaGreatE
import Derived.Test.YtcbeaccdcbhmeaaGreatVpFnExactCheckResult
import Derived.WalkKit
import Derived.ProofKit
import Derived.OpenShut
import Derived.ShutString
import Derived.ChangeOld
import Derived.Below
import Derived.SizedLaws
namespace Go.Proofs.YtcbeaccdcbhmeaaGreat.fnExactCheckResult
open Go.ChangeShapes Go.WideShapes Go.ChangeAt Go.RowKit Go.Vm
set_option linter.unusedVariables false
theorem own : ownKnob Tryz.prog.godebug = none := by kernel_rfl
theorem laidOut : laidOutB Tryz.prog = true := by kernel_rfl
theorem ty24 : TyOk Tryz.prog 24 (.pair (.int .i64) (.pair (.int .i64) (.pair (.row (.int .i64)) (.pair (.row (.int .i64)) (.int .i64))))) := .struct Tryz.underlying24 (by kernel_rfl) (.cons rfl (by kernel_rfl) (.int Tryz.underlying3) (.cons rfl (by kernel_rfl) (.int Tryz.underlying3) (.cons rfl (by kernel_rfl) (.row Tryz.underlying22 (by kernel_rfl) (.int Tryz.underlying3)) (.cons rfl (by kernel_rfl) (.row Tryz.underlying22 (by kernel_rfl) (.int Tryz.underlying3)) (.last rfl (by kernel_rfl) (.int Tryz.underlying3))))))
theorem ty26 : TyOk Tryz.prog 26 (.pair (.int .i64) (.pair (.row (.int .i64)) (.row (.int .i64)))) := .struct Tryz.underlying26 (by kernel_rfl) (.cons rfl (by kernel_rfl) (.int Tryz.underlying3) (.cons rfl (by kernel_rfl) (.row Tryz.underlying22 (by kernel_rfl) (.int Tryz.underlying3)) (.last rfl (by kernel_rfl) (.row Tryz.underlying22 (by kernel_rfl) (.int Tryz.underlying3)))))
theorem prim_ok : FnOk Tryz.prog E prim := fun g S _ ds d h => by cases h
set_option maxRecDepth 100000 in
theorem lifted (os : Os) (started : os.Started) (H : Type) (enc : TypeId × Value → H) :
    ReturnsInHanded {} Tryz.checked os 3 .any (Rows.fnExactCheckResultSpec.pre6 enc Tryz.prog Tryz.f3 Rows.fnExactCheckResultRow.domain false) (Rows.fnExactCheckResultSpec.post enc Tryz.prog Tryz.f3 false true false false) := by
  refine returnsInHanded_of_change_sized (C := Tryz.checked) own started (by kernel_rfl) Tryz.func3
    (ChangeSpec.witness6 (enc := enc) (C := Tryz.checked) false ⟨#[], #[.agg #[.int .i64 0, .int .i64 0, .slice none 0 0, .slice none 0 0, .int .i64 0], .agg #[.int .i64 0, .slice none 0 0, .slice none 0 0]], []⟩ 8 (by kernel_rfl) (by kernel_rfl) (by kernel_rfl) (by kernel_rfl)) ?_
  intro W base args ds gs before hval0 hW hcnd hsz0 _
  have hval : ∀ (j : Nat) t v, Tryz.f3.params[j]? = some t → args[j]? = some v → Value.okWide Tryz.prog W .any base t v := hval0
  have hW' := hW
  obtain ⟨p, q, hA0, hV, rfl, hfz, hnd⟩ := hW
  have hA : DataW.TrodAll enc Tryz.prog W 0 (fun _ => true) true Tryz.f3.params.toList args.toList ds p := hA0
  rw [Tryz.params3] at hA hval
  obtain ⟨v0, vs0, d0, ds0, p0, q0, hargs, rfl, rfl, h0, r0⟩ := trodAll_cons hA
  obtain ⟨v1, vs1, d1, ds1, p1, q1, rfl, rfl, rfl, h1, r1⟩ := trodAll_cons r0
  obtain ⟨rfl, rfl, rfl⟩ := trodAll_nil r1
  obtain rfl : args = #[v0, v1] := by cases args; simp_all
  obtain ⟨rfl, rfl⟩ := trodVars_none hV
  obtain ⟨⟨cs0⟩, rfl, hs0⟩ := okWide_struct Tryz.underlying24 (hval 0 24 v0 rfl rfl)
  have k0 := h0
  have lt0 : ∀ x ∈ p0, x.block < W.heap.size := by obtain ⟨m, hm⟩ := k0; exact DataW.trod_lt m _ _ _ hm
  obtain ⟨m0, hf0⟩ := h0
  obtain ⟨x0, rp0, w0⟩ := ty24.opens hf0
  obtain ⟨⟨cs1⟩, rfl, hs1⟩ := okWide_struct Tryz.underlying26 (hval 1 26 v1 rfl rfl)
  have k1 := h1
  have lt1 : ∀ x ∈ p1, x.block < W.heap.size := by obtain ⟨m, hm⟩ := k1; exact DataW.trod_lt m _ _ _ hm
  obtain ⟨m1, hf1⟩ := h1
  obtain ⟨x1, rp1, w1⟩ := ty26.opens hf1
  clear hA0 hval0 hsz0
  obtain ⟨k, h⟩ := Pu.law_CheckResult x0.1 x0.2.1 x0.2.2.1 x0.2.2.2.1 x0.2.2.2.2 x1.1 x1.2.1 x1.2.2 w0.2.2.1.1 w0.2.2.2.1.1 w1.2.1.1 w1.2.2.1
  have hc := fn_calls (P := Tryz.prog) (E := E) (fun_sound envOk sigOk fnsOk_ prim_ok k) (g := 3) (S := laws_FnExactCheckResult.S) (by kernel_rfl) rfl rfl rfl (W := W) (args := #[_, _]) (vs := [topV true (.pair (.int .i64) (.pair (.int .i64) (.pair (.row (.int .i64)) (.pair (.row (.int .i64)) (.int .i64))))) x0, topV true (.pair (.int .i64) (.pair (.row (.int .i64)) (.row (.int .i64)))) x1]) (ds := [.int x0.1, .int x0.2.1, .row (.int .i64) x0.2.2.1, .row (.int .i64) x0.2.2.2.1, .int x0.2.2.2.2, .int x1.1, .row (.int .i64) x1.2.1, .row (.int .i64) x1.2.2]) (by kernel_rfl) (by simp only [RepL]; exact ⟨_, _, rfl, topV_rep (agg := true) (d := x0) rp0 (fun _ => ⟨_, rfl⟩) (fun h => by cases h), ⟨_, _, rfl, topV_rep (agg := true) (d := x1) rp1 (fun _ => ⟨_, rfl⟩) (fun h => by cases h), rfl⟩⟩) (d := true) h rfl
  refine hc.mono fun e W' ⟨he, bel0⟩ => ?_
  have bel : Below W.heap.size W W' := bel0
  subst he
  exact ⟨_, rfl, _, _, _, [], _, [], hW', trodAll_mk1 (shut_bool Tryz.underlying4 _), (trodAll_cons_mk (Below.trod laidOut (by kernel_rfl) (of_decide_eq_true (by kernel_rfl)) k0 bel lt0) (trodAll_cons_mk (Below.trod laidOut (by kernel_rfl) (of_decide_eq_true (by kernel_rfl)) k1 bel lt1) trodAll_mk0)), rfl, bel.frame _, fun h => by cases h⟩
theorem over : Rows.fnExactCheckResultRow.holds Tryz.pinned (OpenSpec.ofChange Rows.fnExactCheckResultSpec) :=
  OpenClaim.holds_of_wide 3 Tryz.f3 rfl rfl rfl rfl rfl rfl rfl ⟨rfl, rfl, rfl, rfl, rfl⟩ rfl rfl rfl rfl rfl (by kernel_rfl) Tryz.func3 (by kernel_rfl)
    (of_decide_eq_true (by kernel_rfl)) (by unfold Func.isWrapper; first | (rw [if_pos (by decide +kernel)]; kernel_rfl) | (rw [if_neg (by decide +kernel)]; exact ⟨rfl, rfl⟩))
    (fun os started H enc _ => lifted os started H enc)
theorem proved : Rows.FnExactCheckResultSaid := over
#print axioms proved
end Go.Proofs.YtcbeaccdcbhmeaaGreat.fnExactCheckResult
namespace Go.Proofs.YtcbeaccdcbhmeaaGreat
/-- The row, under a short name, for the claim. -/
theorem fnExactCheckResult_holds : Rows.FnExactCheckResultSaid := fnExactCheckResult.proved
end Go.Proofs.YtcbeaccdcbhmeaaGreat
