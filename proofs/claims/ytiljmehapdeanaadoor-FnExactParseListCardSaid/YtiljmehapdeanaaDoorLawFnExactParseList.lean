/- The row of the law FnExactParseList, over the reading of its code, and its card. -/
import Derived.Test.YtiljmehapdeanaaDoorCards
import Derived.Test.YtiljmehapdeanaaDoorTie
import Derived.Test.YtiljmehapdeanaaDoorDr5
import Derived.Test.YtiljmehapdeanaaDoorE
import Derived.Test.YtiljmehapdeanaaDoorVp68
import Derived.WalkKit
import Derived.ProofKit
import Derived.OpenShut
import Derived.ShutString
import Derived.ChangeOld
import Derived.Below
import Derived.SizedLaws
import Derived.SevenTiedAt
import Derived.Lay
import Derived.LaidMore
import Derived.MakeChecks
import Derived.JoinedOf
import Derived.Stop.Joined
import Derived.ChangeMaps5
namespace Go.Proofs.YtiljmehapdeanaaDoor.fnExactParseList
open Go.ChangeShapes Go.WideShapes Go.ChangeAt Go.RowKit Go.Vm
set_option linter.unusedVariables false
theorem own : ownKnob Tryd.prog.godebug = none := by kernel_rfl
theorem laidOut : laidOutB Tryd.prog = true := by kernel_rfl
theorem ty9 : TyOk Tryd.prog 9 .str := .str Tryd.underlying9
set_option maxRecDepth 100000 in
theorem lifted (os : Os) (started : os.Started) (H : Type) (enc : TypeId × Value → H) :
    ReturnsInHanded {} Tryd.checked os 5 .any (fun w args => (Rows.fnExactParseListSpec.pre enc Tryd.prog Tryd.f5 Rows.fnExactParseListRow.domain false w args ∧ laidMetH Tryd.prog Rows.fnExactParseListRow.laid w) ∧ sizedMet enc Tryd.prog Tryd.f5 (OpenSpec.ofChange Rows.fnExactParseListSpec) false w args) (Rows.fnExactParseListSpec.post enc Tryd.prog Tryd.f5 false true false false) := by
  refine Go.Proofs.handed_listed_shaped (C := Tryd.checked) (X := fun w _ => laidMetH Tryd.prog Rows.fnExactParseListRow.laid w) (fun _ _ _ hh h => h.of_heap hh) own started (by kernel_rfl) Tryd.func5
    (ChangeSpec.witness_shaped (enc := enc) (C := Tryd.checked) (os := os) (X := fun w _ => laidMetH Tryd.prog Rows.fnExactParseListRow.laid w) false (World.laidAll Tryd.prog os Rows.fnExactParseListRow.laid) #[.string ByteArray.empty] 8 (World.laidAll_os _ _ _)
      (World.shaped_of_ZipB (by kernel_rfl) (by kernel_rfl)) (by kernel_rfl) (by kernel_rfl) (by kernel_rfl)
      (by rw [MakeChecks.laidMetH_plain _ _ _ (by kernel_rfl)]; exact laidMet_laidAll _ (by kernel_rfl) (by kernel_rfl))) ?_
  intro W base args ds gs before hval0 hW hcnd hL0 hsh
  have hL : laidMet Tryd.prog Rows.fnExactParseListRow.laid W := by rw [← MakeChecks.laidMetH_plain _ _ _ (by kernel_rfl)]; exact hL0
  have hval : ∀ (j : Nat) t v, Tryd.f5.params[j]? = some t → args[j]? = some v → Value.okWide Tryd.prog W .any base t v := hval0
  have hW' := hW
  obtain ⟨p, q, hA0, hV, rfl, hfz, hnd⟩ := hW
  have hA : DataW.TrodAll enc Tryd.prog W 0 (fun _ => true) true Tryd.f5.params.toList args.toList ds p := hA0
  rw [Tryd.params5] at hA hval
  obtain ⟨v0, vs0, d0, ds0, p0, q0, hargs, rfl, rfl, h0, r0⟩ := trodAll_cons hA
  obtain ⟨rfl, rfl, rfl⟩ := trodAll_nil r0
  obtain rfl : args = #[v0] := by cases args; simp_all
  obtain ⟨rfl, rfl⟩ := trodVars_none hV
  obtain ⟨x0, rfl, rfl, rfl, w0⟩ := Go.ChangeMaps.open_string Tryd.underlying9 (hval 0 9 v0 rfl rfl) h0
  clear hA0 hval0
  have hLibs : Dr.Libs W := Dr.libs_laid hL hsh (by kernel_rfl) (d0 := .ptr (.agg [.lit (.string [105, 110, 118, 97, 108, 105, 100, 32, 115, 121, 110, 116, 97, 120])])) (t0 := "*errors.errorString") (d1 := .ptr (.agg [.lit (.string [118, 97, 108, 117, 101, 32, 111, 117, 116, 32, 111, 102, 32, 114, 97, 110, 103, 101])])) (t1 := "*errors.errorString") (by kernel_rfl) (by kernel_rfl)
  obtain ⟨k, h⟩ := Pu.law_ParseList x0
  have hc := fn_calls (P := Tryd.prog) (E := E) (fun_sound envOk sigOk fnsOk_ (Dr.prim_ok hLibs) k) (g := 5) (S := laws_FnExactParseList.S) (by kernel_rfl) rfl rfl rfl (W := W) (Dr.start_libs hLibs) (args := #[.string x0]) (vs := [topV false .str x0]) (ds := [.str x0]) (by kernel_rfl) (by simp only [RepL]; exact ⟨_, _, rfl, (by simp only [topV, Ty.avs, RepA]), rfl⟩) (d := true) h rfl
  refine hc.mono fun e W' ⟨he, bel0⟩ => ?_
  have bel : Below W.heap.size W W' := bel0
  subst he
  exact ⟨_, rfl, _, _, _, [], _, [], hW', trodAll_mk1 (shut_bool Tryd.underlying4 _), (trodAll_cons_mk (Go.ChangeMaps.shut_string Tryd.underlying9 w0) trodAll_mk0), rfl, bel.frame _, fun h => by cases h⟩
theorem over : Rows.fnExactParseListRow.holds Tryd.pinned (OpenSpec.ofChange Rows.fnExactParseListSpec) :=
  OpenClaim.holds_of_wide 5 Tryd.f5 rfl rfl rfl rfl rfl rfl rfl ⟨rfl, rfl, rfl, rfl, rfl⟩ rfl rfl rfl rfl rfl (by kernel_rfl) Tryd.func5 (by kernel_rfl)
    (of_decide_eq_true (by kernel_rfl)) (by unfold Func.isWrapper; first | (rw [if_pos (by decide +kernel)]; kernel_rfl) | (rw [if_neg (by decide +kernel)]; exact ⟨rfl, rfl⟩))
    (fun os started H enc _ => lifted os started H enc)
theorem proved : Rows.FnExactParseListCardSaid :=
  Claim7.holds_tied_plain_at .later [] [.data, .data, .data, .data, .sentinel, .sentinel, .pinned] true (true, "9f0a1c44914e900105af42796f7fd789d4ce780bb217282a24c14f3d0ec67dbd") true over (fun _ h => by cases h) (by kernel_rfl) (fun _ h => by cases h) fnExactParseList_row_tie rfl ⟨rfl, rfl⟩ (by kernel_rfl) rfl
    (fun f fn hf hfn => by
      obtain rfl : f = 5 := Option.some.inj ((show Tryd.prog.funcNamed "loop.example/g00710/laws.FnExactParseList" = some 5 by kernel_rfl).symm.trans hf) |>.symm
      obtain rfl : fn = Tryd.f5 := (Option.some.inj (Tryd.func5.symm.trans hfn)).symm
      exact ⟨by kernel_rfl, fun j t ht => by
        rw [Tryd.params5] at ht
        have hm : t ∈ [9] := by simpa using Array.mem_of_getElem? ht
        have hall : ([9].all fun u => !Tryd.prog.wantsStandIn u) = true := by kernel_rfl
        exact (show Tryd.prog.wantsStandIn t = false by simpa using List.all_eq_true.1 hall t hm)⟩)
    (by kernel_rfl)
#print axioms proved
end Go.Proofs.YtiljmehapdeanaaDoor.fnExactParseList
namespace Go.Proofs.YtiljmehapdeanaaDoor
/-- The card, under a short name, for the claim. -/
theorem fnExactParseList_holds : Rows.FnExactParseListCardSaid := fnExactParseList.proved
end Go.Proofs.YtiljmehapdeanaaDoor
