-- Made by this session's program (wip/tools/myprint.py) out of the translation; Lean checks it.
-- The row of the law laws_FnExactCheckCert.
import Derived.Test.YtabicblkdgpogaaRows
import Derived.Test.YtabicblkdgpogaaQFnExactCheckCertx9
import Derived.Test.YtabicblkdgpogaaPureFnExactCheckCert
import Derived.Test.YtabicblkdgpogaaVFnExactCheckCerto
import Derived.WalkKit
import Derived.ProofKit
import Derived.OpenShut
import Derived.ShutString
import Derived.ChangeOld
import Derived.Below
import Derived.SizedLaws
namespace Go.Proofs.Ytabicblkdgpogaa.fnExactCheckCert
open Go.ChangeShapes Go.WideShapes Go.ChangeAt Go.RowKit Go.Proofs.Ytabicblkdgpogaa.Opens Go.Proofs.Ytabicblkdgpogaa.QFnExactCheckCert Go.Proofs.YtabicblkdgpogaaW.PrintWords
open Go.ChangeMaps (open_string shut_string)
set_option linter.unusedVariables false
theorem own : ownKnob Try.prog.godebug = none := by kernel_rfl
theorem laidOut : laidOutB Try.prog = true := by kernel_rfl
theorem op34 : Opens Try.prog 34 k34 wf34 := by
  intro H enc w base held fuel cs x h
  obtain ⟨xs, n, _, _, hlen, hxl, hf⟩ := DataW.trod_struct Try.underlying34 h
  have hl : cs.length = 3 := hlen.trans (by kernel_rfl)
  obtain ⟨a0, K0, w0⟩ := field_open (opens_slice (q := 3) Try.underlying22 (by kernel_rfl) (opens_int Try.underlying3)) (by rw [hxl]; decide) (hf 0 _ rfl)
  obtain ⟨a1, K1, w1⟩ := field_open (opens_slice (q := 3) Try.underlying22 (by kernel_rfl) (opens_int Try.underlying3)) (by rw [hxl]; decide) (hf 1 _ rfl)
  obtain ⟨a2, K2, w2⟩ := field_open (opens_slice (q := 3) Try.underlying22 (by kernel_rfl) (opens_int Try.underlying3)) (by rw [hxl]; decide) (hf 2 _ rfl)
  exact ⟨⟨a0, a1, a2⟩, (pair_at (o := 0) (o' := 1) (by kernel_rfl) K0 (pair_at (o := 1) (o' := 2) (by kernel_rfl) K1 (last_at (o := 2) hl (by kernel_rfl) K2))), ⟨w0, w1, w2⟩⟩
set_option maxRecDepth 100000 in
theorem lifted (os : Os) (started : os.Started) (H : Type) (enc : TypeId × Value → H) :
    ReturnsInHanded {} Try.checked os 5 .any (Rows.fnExactCheckCertSpec.pre6 enc Try.prog Try.f5 Rows.fnExactCheckCertRow.domain false) (Rows.fnExactCheckCertSpec.post enc Try.prog Try.f5 false true false false) := by
  refine returnsInHanded_of_change_sized (C := Try.checked) own started (by kernel_rfl) Try.func5
    (ChangeSpec.witness6 (enc := enc) (C := Try.checked) false ⟨#[], #[.int .i64 0, .slice none 0 0, .slice none 0 0, .slice none 0 0, .agg #[.slice none 0 0, .slice none 0 0, .slice none 0 0]], []⟩ 8 (by kernel_rfl) (by kernel_rfl) (by kernel_rfl) (by kernel_rfl)) ?_
  intro W base args ds gs before hval0 hW hcnd hsz0 _
  have hval : ∀ (j : Nat) t v, Try.f5.params[j]? = some t → args[j]? = some v → Value.okWide Try.prog W .any base t v := hval0
  have hW' := hW
  obtain ⟨p, q, hA0, hV, rfl, hfz, hnd⟩ := hW
  have hA : DataW.TrodAll enc Try.prog W 0 (fun _ => true) true Try.f5.params.toList args.toList ds p := hA0
  rw [Try.params5] at hA hval
  obtain ⟨v0, vs0, d0, ds0, p0, q0, hargs, rfl, rfl, h0, r0⟩ := trodAll_cons hA
  obtain ⟨v1, vs1, d1, ds1, p1, q1, rfl, rfl, rfl, h1, r1⟩ := trodAll_cons r0
  obtain ⟨v2, vs2, d2, ds2, p2, q2, rfl, rfl, rfl, h2, r2⟩ := trodAll_cons r1
  obtain ⟨v3, vs3, d3, ds3, p3, q3, rfl, rfl, rfl, h3, r3⟩ := trodAll_cons r2
  obtain ⟨v4, vs4, d4, ds4, p4, q4, rfl, rfl, rfl, h4, r4⟩ := trodAll_cons r3
  obtain ⟨rfl, rfl, rfl⟩ := trodAll_nil r4
  obtain rfl : args = #[v0, v1, v2, v3, v4] := by cases args; simp_all
  obtain ⟨rfl, rfl⟩ := trodVars_none hV
  obtain ⟨a0, rfl, rfl, rfl, w0⟩ := open_int Try.underlying3 (hval 0 3 v0 rfl rfl) h0
  obtain ⟨b1, len1, cap1, rfl⟩ := okWide_slice Try.underlying22 (hval 1 22 v1 rfl rfl)
  have k1 := h1
  have lt1 : ∀ x ∈ p1, x.block < W.heap.size := by obtain ⟨m, hm⟩ := k1; exact DataW.trod_lt m _ _ _ hm
  obtain ⟨x1, hK1, w1⟩ := open_top (opens_slice (q := 3) Try.underlying22 (by kernel_rfl) (opens_int Try.underlying3)) h1
  obtain ⟨A1, c1, e1, hc1, hr1⟩ := hK1
  simp only [Value.cells, List.cons.injEq, Value.slice.injEq, and_true] at e1
  obtain ⟨rfl, rfl, rfl⟩ := e1
  obtain ⟨b2, len2, cap2, rfl⟩ := okWide_slice Try.underlying22 (hval 2 22 v2 rfl rfl)
  have k2 := h2
  have lt2 : ∀ x ∈ p2, x.block < W.heap.size := by obtain ⟨m, hm⟩ := k2; exact DataW.trod_lt m _ _ _ hm
  obtain ⟨x2, hK2, w2⟩ := open_top (opens_slice (q := 3) Try.underlying22 (by kernel_rfl) (opens_int Try.underlying3)) h2
  obtain ⟨A2, c2, e2, hc2, hr2⟩ := hK2
  simp only [Value.cells, List.cons.injEq, Value.slice.injEq, and_true] at e2
  obtain ⟨rfl, rfl, rfl⟩ := e2
  obtain ⟨b3, len3, cap3, rfl⟩ := okWide_slice Try.underlying22 (hval 3 22 v3 rfl rfl)
  have k3 := h3
  have lt3 : ∀ x ∈ p3, x.block < W.heap.size := by obtain ⟨m, hm⟩ := k3; exact DataW.trod_lt m _ _ _ hm
  obtain ⟨x3, hK3, w3⟩ := open_top (opens_slice (q := 3) Try.underlying22 (by kernel_rfl) (opens_int Try.underlying3)) h3
  obtain ⟨A3, c3, e3, hc3, hr3⟩ := hK3
  simp only [Value.cells, List.cons.injEq, Value.slice.injEq, and_true] at e3
  obtain ⟨rfl, rfl, rfl⟩ := e3
  obtain ⟨⟨cs4⟩, rfl, hs4⟩ := okWide_struct Try.underlying34 (hval 4 34 v4 rfl rfl)
  have k4 := h4
  have lt4 : ∀ x ∈ p4, x.block < W.heap.size := by obtain ⟨m, hm⟩ := k4; exact DataW.trod_lt m _ _ _ hm
  obtain ⟨x4, hK4, w4⟩ := open_top op34 h4
  obtain ⟨A4_0, c4_0, A4_1, c4_1, A4_2, c4_2, e4, hc4_0, hr4_0, hc4_1, hr4_1, hc4_2, hr4_2⟩ := k34_open hK4
  simp only [Value.cells] at e4
  subst e4
  clear hA0 hval0 hsz0
  obtain ⟨k, h⟩ := Pure.FnExactCheckCert a0 x1 x2 x3 x4.f0 x4.f1 x4.f2 w0 w1 w2 w3 w4
  refine (laws_FnExactCheckCert.calls k a0 _ _ x1 _ _ x2 _ _ x3 _ _ x4.f0 _ _ x4.f1 _ _ x4.f2 true W hr1 hc1 hr2 hc2 hr3 hc3 hr4_0 hc4_0 hr4_1 hc4_1 hr4_2 hc4_2 ⟨rfl⟩ h).mono fun e W' ⟨he, bel0⟩ => ?_
  have bel : Below W.heap.size W W' := bel0
  subst he
  exact ⟨_, rfl, _, _, _, [], _, [], hW', trodAll_mk1 (shut_bool Try.underlying4 _), (trodAll_cons_mk (shut_int Try.underlying3 w0) (trodAll_cons_mk (Below.trod laidOut (by kernel_rfl) (of_decide_eq_true (by kernel_rfl)) k1 bel lt1) (trodAll_cons_mk (Below.trod laidOut (by kernel_rfl) (of_decide_eq_true (by kernel_rfl)) k2 bel lt2) (trodAll_cons_mk (Below.trod laidOut (by kernel_rfl) (of_decide_eq_true (by kernel_rfl)) k3 bel lt3) (trodAll_cons_mk (Below.trod laidOut (by kernel_rfl) (of_decide_eq_true (by kernel_rfl)) k4 bel lt4) trodAll_mk0))))), rfl, bel.frame _, fun h => by cases h⟩
theorem over : Rows.fnExactCheckCertRow.holds Try.pinned (OpenSpec.ofChange Rows.fnExactCheckCertSpec) :=
  OpenClaim.holds_of_wide 5 Try.f5 rfl rfl rfl rfl rfl rfl rfl ⟨rfl, rfl, rfl, rfl, rfl⟩ rfl rfl rfl rfl rfl (by kernel_rfl) Try.func5 (by kernel_rfl)
    (of_decide_eq_true (by kernel_rfl)) (by unfold Func.isWrapper; first | (rw [if_pos (by decide +kernel)]; kernel_rfl) | (rw [if_neg (by decide +kernel)]; exact ⟨rfl, rfl⟩))
    (fun os started H enc _ => lifted os started H enc)
theorem proved : Rows.FnExactCheckCertSaid := over
#print axioms proved
end Go.Proofs.Ytabicblkdgpogaa.fnExactCheckCert
namespace Go.Proofs.Ytabicblkdgpogaa
/-- The row, under a short name, for the claim. -/
theorem fnExactCheckCert_holds : Rows.FnExactCheckCertSaid := fnExactCheckCert.proved
end Go.Proofs.Ytabicblkdgpogaa
