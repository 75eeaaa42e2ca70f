-- Made by this session's program (wip/tools/myprint.py) out of the translation; Lean checks it.
-- The row of the law laws_FnExactPutEvent.
import Derived.Test.YtabicblkdgpogaaRows
import Derived.Test.YtabicblkdgpogaaQFnExactPutEventx17
import Derived.Test.YtabicblkdgpogaaPureFnExactPutEvent
import Derived.Test.YtabicblkdgpogaaVFnExactPutEvento
import Derived.WalkKit
import Derived.ProofKit
import Derived.OpenShut
import Derived.ShutString
import Derived.ChangeOld
import Derived.Below
import Derived.SizedLaws
namespace Go.Proofs.Ytabicblkdgpogaa.fnExactPutEvent
open Go.ChangeShapes Go.WideShapes Go.ChangeAt Go.RowKit Go.Proofs.Ytabicblkdgpogaa.Opens Go.Proofs.Ytabicblkdgpogaa.QFnExactPutEvent Go.Proofs.YtabicblkdgpogaaW.PrintWords
open Go.ChangeMaps (open_string shut_string)
set_option linter.unusedVariables false
theorem own : ownKnob Try.prog.godebug = none := by kernel_rfl
theorem laidOut : laidOutB Try.prog = true := by kernel_rfl
theorem op41 : Opens Try.prog 41 k41 wf41 := by
  intro H enc w base held fuel cs x h
  obtain ⟨xs, n, _, _, hlen, hxl, hf⟩ := DataW.trod_struct Try.underlying41 h
  have hl : cs.length = 5 := hlen.trans (by kernel_rfl)
  obtain ⟨a0, K0, w0⟩ := field_open (opens_int Try.underlying3) (by rw [hxl]; decide) (hf 0 _ rfl)
  obtain ⟨a1, K1, w1⟩ := field_open (opens_int Try.underlying3) (by rw [hxl]; decide) (hf 1 _ rfl)
  obtain ⟨a2, K2, w2⟩ := field_open (opens_int Try.underlying3) (by rw [hxl]; decide) (hf 2 _ rfl)
  obtain ⟨a3, K3, w3⟩ := field_open (opens_int Try.underlying3) (by rw [hxl]; decide) (hf 3 _ rfl)
  obtain ⟨a4, K4, w4⟩ := field_open (opens_slice (q := 5) Try.underlying39 (by kernel_rfl) (opens_int Try.underlying5)) (by rw [hxl]; decide) (hf 4 _ rfl)
  exact ⟨⟨a0, a1, a2, a3, a4⟩, (pair_at (o := 0) (o' := 1) (by kernel_rfl) K0 (pair_at (o := 1) (o' := 2) (by kernel_rfl) K1 (pair_at (o := 2) (o' := 3) (by kernel_rfl) K2 (pair_at (o := 3) (o' := 4) (by kernel_rfl) K3 (last_at (o := 4) hl (by kernel_rfl) K4))))), ⟨w0, w1, w2, w3, w4⟩⟩
set_option maxRecDepth 100000 in
theorem lifted (os : Os) (started : os.Started) (H : Type) (enc : TypeId × Value → H) :
    ReturnsInHanded {} Try.checked os 10 .any (Rows.fnExactPutEventSpec.pre6 enc Try.prog Try.f10 Rows.fnExactPutEventRow.domain false) (Rows.fnExactPutEventSpec.post enc Try.prog Try.f10 false true false false) := by
  refine returnsInHanded_of_change_sized (C := Try.checked) own started (by kernel_rfl) Try.func10
    (ChangeSpec.witness6 (enc := enc) (C := Try.checked) false ⟨#[], #[.agg #[.int .i64 0, .int .i64 0, .int .i64 0, .int .i64 0, .slice none 0 0]], []⟩ 8 (by kernel_rfl) (by kernel_rfl) (by kernel_rfl) (by kernel_rfl)) ?_
  intro W base args ds gs before hval0 hW hcnd hsz0 _
  have hval : ∀ (j : Nat) t v, Try.f10.params[j]? = some t → args[j]? = some v → Value.okWide Try.prog W .any base t v := hval0
  have hW' := hW
  obtain ⟨p, q, hA0, hV, rfl, hfz, hnd⟩ := hW
  have hA : DataW.TrodAll enc Try.prog W 0 (fun _ => true) true Try.f10.params.toList args.toList ds p := hA0
  rw [Try.params10] at hA hval
  obtain ⟨v0, vs0, d0, ds0, p0, q0, hargs, rfl, rfl, h0, r0⟩ := trodAll_cons hA
  obtain ⟨rfl, rfl, rfl⟩ := trodAll_nil r0
  obtain rfl : args = #[v0] := by cases args; simp_all
  obtain ⟨rfl, rfl⟩ := trodVars_none hV
  obtain ⟨⟨cs0⟩, rfl, hs0⟩ := okWide_struct Try.underlying41 (hval 0 41 v0 rfl rfl)
  have k0 := h0
  have lt0 : ∀ x ∈ p0, x.block < W.heap.size := by obtain ⟨m, hm⟩ := k0; exact DataW.trod_lt m _ _ _ hm
  obtain ⟨x0, hK0, w0⟩ := open_top op41 h0
  obtain ⟨A0_4, c0_4, e0, hc0_4, hr0_4⟩ := k41_open hK0
  simp only [Value.cells] at e0
  subst e0
  clear hA0 hval0 hsz0
  obtain ⟨k, h⟩ := Pure.FnExactPutEvent x0.f0 x0.f1 x0.f2 x0.f3 x0.f4 w0
  refine (laws_FnExactPutEvent.calls k x0.f0 x0.f1 x0.f2 x0.f3 _ _ x0.f4 true W hr0_4 hc0_4 ⟨rfl⟩ h).mono fun e W' ⟨he, bel0⟩ => ?_
  have bel : Below W.heap.size W W' := bel0
  subst he
  exact ⟨_, rfl, _, _, _, [], _, [], hW', trodAll_mk1 (shut_bool Try.underlying4 _), (trodAll_cons_mk (Below.trod laidOut (by kernel_rfl) (of_decide_eq_true (by kernel_rfl)) k0 bel lt0) trodAll_mk0), rfl, bel.frame _, fun h => by cases h⟩
theorem over : Rows.fnExactPutEventRow.holds Try.pinned (OpenSpec.ofChange Rows.fnExactPutEventSpec) :=
  OpenClaim.holds_of_wide 10 Try.f10 rfl rfl rfl rfl rfl rfl rfl ⟨rfl, rfl, rfl, rfl, rfl⟩ rfl rfl rfl rfl rfl (by kernel_rfl) Try.func10 (by kernel_rfl)
    (of_decide_eq_true (by kernel_rfl)) (by unfold Func.isWrapper; first | (rw [if_pos (by decide +kernel)]; kernel_rfl) | (rw [if_neg (by decide +kernel)]; exact ⟨rfl, rfl⟩))
    (fun os started H enc _ => lifted os started H enc)
theorem proved : Rows.FnExactPutEventSaid := over
#print axioms proved
end Go.Proofs.Ytabicblkdgpogaa.fnExactPutEvent
namespace Go.Proofs.Ytabicblkdgpogaa
/-- The row, under a short name, for the claim. -/
theorem fnExactPutEvent_holds : Rows.FnExactPutEventSaid := fnExactPutEvent.proved
end Go.Proofs.Ytabicblkdgpogaa
