-- Made by this session's program (wip/tools/myprint.py) out of the translation; Lean checks it.
-- The row of the law laws_FnExactCrashDisk.
import Derived.Test.YtmdpnhcfllociaaRows
import Derived.Test.YtmdpnhcfllociaaQFnExactCrashDiskx5
import Derived.Test.YtmdpnhcfllociaaPureFnExactCrashDisk
import Derived.Test.YtmdpnhcfllociaaOpens
import Derived.WalkKit
import Derived.ProofKit
import Derived.OpenShut
import Derived.ShutString
import Derived.ChangeOld
import Derived.Below
import Derived.SizedLaws
namespace Go.Proofs.Ytmdpnhcfllociaa.fnExactCrashDisk
open Go.ChangeShapes Go.WideShapes Go.ChangeAt Go.RowKit Go.Proofs.Ytmdpnhcfllociaa.Opens Go.Proofs.Ytmdpnhcfllociaa.QFnExactCrashDisk Go.Proofs.YtmdpnhcfllociaaW.PrintWords
open Go.ChangeMaps (open_string shut_string)
set_option linter.unusedVariables false
theorem own : ownKnob Try.prog.godebug = none := by kernel_rfl
theorem laidOut : laidOutB Try.prog = true := by kernel_rfl
theorem op31 : Opens Try.prog 31 k31 wf31 := by
  intro H enc w base held fuel cs x h
  obtain ⟨xs, n, _, _, hlen, hxl, hf⟩ := DataW.trod_struct Try.underlying31 h
  have hl : cs.length = 2 := hlen.trans (by kernel_rfl)
  obtain ⟨a0, K0, w0⟩ := field_open (opens_slice (q := 5) Try.underlying29 (by kernel_rfl) (opens_int Try.underlying5)) (by rw [hxl]; decide) (hf 0 _ rfl)
  obtain ⟨a1, K1, w1⟩ := field_open (opens_slice (q := 5) Try.underlying29 (by kernel_rfl) (opens_int Try.underlying5)) (by rw [hxl]; decide) (hf 1 _ rfl)
  exact ⟨⟨a0, a1⟩, (pair_at (o := 0) (o' := 1) (by kernel_rfl) K0 (last_at (o := 1) hl (by kernel_rfl) K1)), ⟨w0, w1⟩⟩
set_option maxRecDepth 100000 in
theorem lifted (os : Os) (started : os.Started) (H : Type) (enc : TypeId × Value → H) :
    ReturnsInHanded {} Try.checked os 9 .any (Rows.fnExactCrashDiskSpec.pre6 enc Try.prog Try.f9 Rows.fnExactCrashDiskRow.domain false) (Rows.fnExactCrashDiskSpec.post enc Try.prog Try.f9 false true false false) := by
  refine returnsInHanded_of_change_sized (C := Try.checked) own started (by kernel_rfl) Try.func9
    (ChangeSpec.witness6 (enc := enc) (C := Try.checked) false ⟨#[], #[.agg #[.slice none 0 0, .slice none 0 0], .int .i64 0], []⟩ 8 (by kernel_rfl) (by kernel_rfl) (by kernel_rfl) (by kernel_rfl)) ?_
  intro W base args ds gs before hval0 hW hcnd hsz0 _
  have hval : ∀ (j : Nat) t v, Try.f9.params[j]? = some t → args[j]? = some v → Value.okWide Try.prog W .any base t v := hval0
  have hW' := hW
  obtain ⟨p, q, hA0, hV, rfl, hfz, hnd⟩ := hW
  have hA : DataW.TrodAll enc Try.prog W 0 (fun _ => true) true Try.f9.params.toList args.toList ds p := hA0
  rw [Try.params9] at hA hval
  obtain ⟨v0, vs0, d0, ds0, p0, q0, hargs, rfl, rfl, h0, r0⟩ := trodAll_cons hA
  obtain ⟨v1, vs1, d1, ds1, p1, q1, rfl, rfl, rfl, h1, r1⟩ := trodAll_cons r0
  obtain ⟨rfl, rfl, rfl⟩ := trodAll_nil r1
  obtain rfl : args = #[v0, v1] := by cases args; simp_all
  obtain ⟨rfl, rfl⟩ := trodVars_none hV
  obtain ⟨⟨cs0⟩, rfl, hs0⟩ := okWide_struct Try.underlying31 (hval 0 31 v0 rfl rfl)
  have k0 := h0
  have lt0 : ∀ x ∈ p0, x.block < W.heap.size := by obtain ⟨m, hm⟩ := k0; exact DataW.trod_lt m _ _ _ hm
  obtain ⟨x0, hK0, w0⟩ := open_top op31 h0
  obtain ⟨A0_0, c0_0, A0_1, c0_1, e0, hc0_0, hr0_0, hc0_1, hr0_1⟩ := k31_open hK0
  simp only [Value.cells] at e0
  subst e0
  obtain ⟨a1, rfl, rfl, rfl, w1⟩ := open_int Try.underlying3 (hval 1 3 v1 rfl rfl) h1
  clear hA0 hval0 hsz0
  obtain ⟨k, h⟩ := Pure.FnExactCrashDisk x0.f0 x0.f1 a1 w0 w1
  refine (laws_FnExactCrashDisk.calls k _ _ x0.f0 _ _ x0.f1 a1 true W hr0_0 hc0_0 hr0_1 hc0_1 ⟨rfl⟩ h).mono fun e W' ⟨he, bel0⟩ => ?_
  have bel : Below W.heap.size W W' := bel0
  subst he
  exact ⟨_, rfl, _, _, _, [], _, [], hW', trodAll_mk1 (shut_bool Try.underlying4 _), (trodAll_cons_mk (Below.trod laidOut (by kernel_rfl) (of_decide_eq_true (by kernel_rfl)) k0 bel lt0) (trodAll_cons_mk (shut_int Try.underlying3 w1) trodAll_mk0)), rfl, bel.frame _, fun h => by cases h⟩
theorem over : Rows.fnExactCrashDiskRow.holds Try.pinned (OpenSpec.ofChange Rows.fnExactCrashDiskSpec) :=
  OpenClaim.holds_of_wide 9 Try.f9 rfl rfl rfl rfl rfl rfl rfl ⟨rfl, rfl, rfl, rfl, rfl⟩ rfl rfl rfl rfl rfl (by kernel_rfl) Try.func9 (by kernel_rfl)
    (of_decide_eq_true (by kernel_rfl)) (by unfold Func.isWrapper; first | (rw [if_pos (by decide +kernel)]; kernel_rfl) | (rw [if_neg (by decide +kernel)]; exact ⟨rfl, rfl⟩))
    (fun os started H enc _ => lifted os started H enc)
theorem proved : Rows.FnExactCrashDiskSaid := over
#print axioms proved
end Go.Proofs.Ytmdpnhcfllociaa.fnExactCrashDisk
namespace Go.Proofs.Ytmdpnhcfllociaa
/-- The row, under a short name, for the claim. -/
theorem fnExactCrashDisk_holds : Rows.FnExactCrashDiskSaid := fnExactCrashDisk.proved
end Go.Proofs.Ytmdpnhcfllociaa
