-- Made by this session's program (wip/tools/myprint.py) out of the translation; Lean checks it.
-- The row of the law laws_FnExactTakeEvent.
import Derived.Test.YtabicblkdgpogaaRows
import Derived.Test.YtabicblkdgpogaaQFnExactTakeEventx18
import Derived.Test.YtabicblkdgpogaaPureFnExactTakeEvent
import Derived.Test.YtabicblkdgpogaaVFnExactTakeEvento
import Derived.WalkKit
import Derived.ProofKit
import Derived.OpenShut
import Derived.ShutString
import Derived.ChangeOld
import Derived.Below
import Derived.SizedLaws
namespace Go.Proofs.Ytabicblkdgpogaa.fnExactTakeEvent
open Go.ChangeShapes Go.WideShapes Go.ChangeAt Go.RowKit Go.Proofs.Ytabicblkdgpogaa.Opens Go.Proofs.Ytabicblkdgpogaa.QFnExactTakeEvent Go.Proofs.YtabicblkdgpogaaW.PrintWords
open Go.ChangeMaps (open_string shut_string)
set_option linter.unusedVariables false
theorem own : ownKnob Try.prog.godebug = none := by kernel_rfl
theorem laidOut : laidOutB Try.prog = true := by kernel_rfl
theorem op58 : Opens Try.prog 58 k58 wf58 := by
  intro H enc w base held fuel cs x h
  obtain ⟨xs, n, _, _, hlen, hxl, hf⟩ := DataW.trod_struct Try.underlying58 h
  have hl : cs.length = 3 := hlen.trans (by kernel_rfl)
  obtain ⟨a0, K0, w0⟩ := field_open (opens_int Try.underlying3) (by rw [hxl]; decide) (hf 0 _ rfl)
  obtain ⟨a1, K1, w1⟩ := field_open (opens_int Try.underlying3) (by rw [hxl]; decide) (hf 1 _ rfl)
  obtain ⟨a2, K2, w2⟩ := field_open (opens_slice (q := 5) Try.underlying39 (by kernel_rfl) (opens_int Try.underlying5)) (by rw [hxl]; decide) (hf 2 _ rfl)
  exact ⟨⟨a0, a1, a2⟩, (pair_at (o := 0) (o' := 1) (by kernel_rfl) K0 (pair_at (o := 1) (o' := 2) (by kernel_rfl) K1 (last_at (o := 2) hl (by kernel_rfl) K2))), ⟨w0, w1, w2⟩⟩
set_option maxRecDepth 100000 in
theorem lifted (os : Os) (started : os.Started) (H : Type) (enc : TypeId × Value → H) :
    ReturnsInHanded {} Try.checked os 9 .any (Rows.fnExactTakeEventSpec.pre6 enc Try.prog Try.f9 Rows.fnExactTakeEventRow.domain false) (Rows.fnExactTakeEventSpec.post enc Try.prog Try.f9 false true false false) := by
  refine returnsInHanded_of_change_sized (C := Try.checked) own started (by kernel_rfl) Try.func9
    (ChangeSpec.witness6 (enc := enc) (C := Try.checked) false ⟨#[], #[.agg #[.int .i64 0, .int .i64 0, .slice none 0 0]], []⟩ 8 (by kernel_rfl) (by kernel_rfl) (by kernel_rfl) (by kernel_rfl)) ?_
  intro W base args ds gs before hval0 hW hcnd hsz0 _
  have hval : ∀ (j : Nat) t v, Try.f9.params[j]? = some t → args[j]? = some v → Value.okWide Try.prog W .any base t v := hval0
  have hW' := hW
  obtain ⟨p, q, hA0, hV, rfl, hfz, hnd⟩ := hW
  have hA : DataW.TrodAll enc Try.prog W 0 (fun _ => true) true Try.f9.params.toList args.toList ds p := hA0
  rw [Try.params9] at hA hval
  obtain ⟨v0, vs0, d0, ds0, p0, q0, hargs, rfl, rfl, h0, r0⟩ := trodAll_cons hA
  obtain ⟨rfl, rfl, rfl⟩ := trodAll_nil r0
  obtain rfl : args = #[v0] := by cases args; simp_all
  obtain ⟨rfl, rfl⟩ := trodVars_none hV
  obtain ⟨⟨cs0⟩, rfl, hs0⟩ := okWide_struct Try.underlying58 (hval 0 58 v0 rfl rfl)
  have k0 := h0
  have lt0 : ∀ x ∈ p0, x.block < W.heap.size := by obtain ⟨m, hm⟩ := k0; exact DataW.trod_lt m _ _ _ hm
  obtain ⟨x0, hK0, w0⟩ := open_top op58 h0
  obtain ⟨A0_2, c0_2, e0, hc0_2, hr0_2⟩ := k58_open hK0
  simp only [Value.cells] at e0
  subst e0
  clear hA0 hval0 hsz0
  obtain ⟨k, h⟩ := Pure.FnExactTakeEvent x0.f0 x0.f1 x0.f2 w0
  refine (laws_FnExactTakeEvent.calls k x0.f0 x0.f1 _ _ x0.f2 true W hr0_2 hc0_2 ⟨rfl⟩ h).mono fun e W' ⟨he, bel0⟩ => ?_
  have bel : Below W.heap.size W W' := bel0
  subst he
  exact ⟨_, rfl, _, _, _, [], _, [], hW', trodAll_mk1 (shut_bool Try.underlying4 _), (trodAll_cons_mk (Below.trod laidOut (by kernel_rfl) (of_decide_eq_true (by kernel_rfl)) k0 bel lt0) trodAll_mk0), rfl, bel.frame _, fun h => by cases h⟩
theorem over : Rows.fnExactTakeEventRow.holds Try.pinned (OpenSpec.ofChange Rows.fnExactTakeEventSpec) :=
  OpenClaim.holds_of_wide 9 Try.f9 rfl rfl rfl rfl rfl rfl rfl ⟨rfl, rfl, rfl, rfl, rfl⟩ rfl rfl rfl rfl rfl (by kernel_rfl) Try.func9 (by kernel_rfl)
    (of_decide_eq_true (by kernel_rfl)) (by unfold Func.isWrapper; first | (rw [if_pos (by decide +kernel)]; kernel_rfl) | (rw [if_neg (by decide +kernel)]; exact ⟨rfl, rfl⟩))
    (fun os started H enc _ => lifted os started H enc)
theorem proved : Rows.FnExactTakeEventSaid := over
#print axioms proved
end Go.Proofs.Ytabicblkdgpogaa.fnExactTakeEvent
namespace Go.Proofs.Ytabicblkdgpogaa
/-- The row, under a short name, for the claim. -/
theorem fnExactTakeEvent_holds : Rows.FnExactTakeEventSaid := fnExactTakeEvent.proved
end Go.Proofs.Ytabicblkdgpogaa
