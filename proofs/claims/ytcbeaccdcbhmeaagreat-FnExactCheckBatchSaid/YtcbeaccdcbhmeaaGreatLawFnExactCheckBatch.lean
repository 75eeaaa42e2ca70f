/- The row of the law FnExactCheckBatch, over the reading of its code; no condition beside the row's own. -/
import Derived.Test.YtcbeaccdcbhmeaaGreatRows
import Derived.Test.YtcbeaccdcbhmeaaGreatChecked
import Derived.Test.YtcbeaccdcbhmeaaGreatE
import Derived.Test.YtcbeaccdcbhmeaaGreatVpFnExactCheckBatch
import Derived.WalkKit
import Derived.ProofKit
import Derived.OpenShut
import Derived.ShutString
import Derived.ChangeOld
import Derived.Below
import Derived.SizedLaws
namespace Go.Proofs.YtcbeaccdcbhmeaaGreat.fnExactCheckBatch
open Go.ChangeShapes Go.WideShapes Go.ChangeAt Go.RowKit Go.Vm
set_option linter.unusedVariables false
theorem own : ownKnob Tryz.prog.godebug = none := by kernel_rfl
theorem laidOut : laidOutB Tryz.prog = true := by kernel_rfl
theorem ty56 : TyOk Tryz.prog 56 (.row (.pair (.int .i64) (.pair (.int .i64) (.pair (.row (.int .i64)) (.pair (.row (.int .i64)) (.int .i64)))))) := .row Tryz.underlying56 (by kernel_rfl) (.struct Tryz.underlying24 (by kernel_rfl) (.cons rfl (by kernel_rfl) (.int Tryz.underlying3) (.cons rfl (by kernel_rfl) (.int Tryz.underlying3) (.cons rfl (by kernel_rfl) (.row Tryz.underlying22 (by kernel_rfl) (.int Tryz.underlying3)) (.cons rfl (by kernel_rfl) (.row Tryz.underlying22 (by kernel_rfl) (.int Tryz.underlying3)) (.last rfl (by kernel_rfl) (.int Tryz.underlying3)))))))
theorem ty57 : TyOk Tryz.prog 57 (.row (.pair (.int .i64) (.pair (.row (.int .i64)) (.row (.int .i64))))) := .row Tryz.underlying57 (by kernel_rfl) (.struct Tryz.underlying26 (by kernel_rfl) (.cons rfl (by kernel_rfl) (.int Tryz.underlying3) (.cons rfl (by kernel_rfl) (.row Tryz.underlying22 (by kernel_rfl) (.int Tryz.underlying3)) (.last rfl (by kernel_rfl) (.row Tryz.underlying22 (by kernel_rfl) (.int Tryz.underlying3))))))
theorem prim_ok : FnOk Tryz.prog E prim := fun g S _ ds d h => by cases h
set_option maxRecDepth 100000 in
theorem lifted (os : Os) (started : os.Started) (H : Type) (enc : TypeId × Value → H) :
    ReturnsInHanded {} Tryz.checked os 5 .any (Rows.fnExactCheckBatchSpec.pre6 enc Tryz.prog Tryz.f5 Rows.fnExactCheckBatchRow.domain false) (Rows.fnExactCheckBatchSpec.post enc Tryz.prog Tryz.f5 false true false false) := by
  refine returnsInHanded_of_change_sized (C := Tryz.checked) own started (by kernel_rfl) Tryz.func5
    (ChangeSpec.witness6 (enc := enc) (C := Tryz.checked) false ⟨#[], #[.slice none 0 0, .slice none 0 0], []⟩ 8 (by kernel_rfl) (by kernel_rfl) (by kernel_rfl) (by kernel_rfl)) ?_
  intro W base args ds gs before hval0 hW hcnd hsz0 _
  have hval : ∀ (j : Nat) t v, Tryz.f5.params[j]? = some t → args[j]? = some v → Value.okWide Tryz.prog W .any base t v := hval0
  have hW' := hW
  obtain ⟨p, q, hA0, hV, rfl, hfz, hnd⟩ := hW
  have hA : DataW.TrodAll enc Tryz.prog W 0 (fun _ => true) true Tryz.f5.params.toList args.toList ds p := hA0
  rw [Tryz.params5] at hA hval
  obtain ⟨v0, vs0, d0, ds0, p0, q0, hargs, rfl, rfl, h0, r0⟩ := trodAll_cons hA
  obtain ⟨v1, vs1, d1, ds1, p1, q1, rfl, rfl, rfl, h1, r1⟩ := trodAll_cons r0
  obtain ⟨rfl, rfl, rfl⟩ := trodAll_nil r1
  obtain rfl : args = #[v0, v1] := by cases args; simp_all
  obtain ⟨rfl, rfl⟩ := trodVars_none hV
  obtain ⟨A0, c0, e0, rfl⟩ := okWide_slice Tryz.underlying56 (hval 0 56 v0 rfl rfl)
  have k0 := h0
  have lt0 : ∀ x ∈ p0, x.block < W.heap.size := by obtain ⟨m, hm⟩ := k0; exact DataW.trod_lt m _ _ _ hm
  obtain ⟨m0, hf0⟩ := h0
  obtain ⟨x0, rp0, w0⟩ := ty56.opens hf0
  obtain ⟨A1, c1, e1, rfl⟩ := okWide_slice Tryz.underlying57 (hval 1 57 v1 rfl rfl)
  have k1 := h1
  have lt1 : ∀ x ∈ p1, x.block < W.heap.size := by obtain ⟨m, hm⟩ := k1; exact DataW.trod_lt m _ _ _ hm
  obtain ⟨m1, hf1⟩ := h1
  obtain ⟨x1, rp1, w1⟩ := ty57.opens hf1
  clear hA0 hval0 hsz0
  obtain ⟨k, h⟩ := Pu.law_CheckBatch x0 x1 w0.1 w1.1 (fun j hj => ⟨(w0.2 j hj).2.2.1.1, (w0.2 j hj).2.2.2.1.1⟩) (fun r hr => ⟨(w1.2 r hr).2.1.1, (w1.2 r hr).2.2.1⟩)
  have hc := fn_calls (P := Tryz.prog) (E := E) (fun_sound envOk sigOk fnsOk_ prim_ok k) (g := 5) (S := laws_FnExactCheckBatch.S) (by kernel_rfl) rfl rfl rfl (W := W) (args := #[.slice A0 c0 e0, .slice A1 c1 e1]) (vs := [topV false (.row (.pair (.int .i64) (.pair (.int .i64) (.pair (.row (.int .i64)) (.pair (.row (.int .i64)) (.int .i64)))))) x0, topV false (.row (.pair (.int .i64) (.pair (.row (.int .i64)) (.row (.int .i64))))) x1]) (ds := [.row (.pair (.int .i64) (.pair (.int .i64) (.pair (.row (.int .i64)) (.pair (.row (.int .i64)) (.int .i64))))) x0, .row (.pair (.int .i64) (.pair (.row (.int .i64)) (.row (.int .i64)))) x1]) (by kernel_rfl) (by simp only [RepL]; exact ⟨_, _, rfl, topV_rep (agg := false) (d := x0) rp0 (fun h => by cases h) (fun _ => rfl), ⟨_, _, rfl, topV_rep (agg := false) (d := x1) rp1 (fun h => by cases h) (fun _ => rfl), rfl⟩⟩) (d := true) h rfl
  refine hc.mono fun e W' ⟨he, bel0⟩ => ?_
  have bel : Below W.heap.size W W' := bel0
  subst he
  exact ⟨_, rfl, _, _, _, [], _, [], hW', trodAll_mk1 (shut_bool Tryz.underlying4 _), (trodAll_cons_mk (Below.trod laidOut (by kernel_rfl) (of_decide_eq_true (by kernel_rfl)) k0 bel lt0) (trodAll_cons_mk (Below.trod laidOut (by kernel_rfl) (of_decide_eq_true (by kernel_rfl)) k1 bel lt1) trodAll_mk0)), rfl, bel.frame _, fun h => by cases h⟩
theorem over : Rows.fnExactCheckBatchRow.holds Tryz.pinned (OpenSpec.ofChange Rows.fnExactCheckBatchSpec) :=
  OpenClaim.holds_of_wide 5 Tryz.f5 rfl rfl rfl rfl rfl rfl rfl ⟨rfl, rfl, rfl, rfl, rfl⟩ rfl rfl rfl rfl rfl (by kernel_rfl) Tryz.func5 (by kernel_rfl)
    (of_decide_eq_true (by kernel_rfl)) (by unfold Func.isWrapper; first | (rw [if_pos (by decide +kernel)]; kernel_rfl) | (rw [if_neg (by decide +kernel)]; exact ⟨rfl, rfl⟩))
    (fun os started H enc _ => lifted os started H enc)
theorem proved : Rows.FnExactCheckBatchSaid := over
#print axioms proved
end Go.Proofs.YtcbeaccdcbhmeaaGreat.fnExactCheckBatch
namespace Go.Proofs.YtcbeaccdcbhmeaaGreat
/-- The row, under a short name, for the claim. -/
theorem fnExactCheckBatch_holds : Rows.FnExactCheckBatchSaid := fnExactCheckBatch.proved
end Go.Proofs.YtcbeaccdcbhmeaaGreat
