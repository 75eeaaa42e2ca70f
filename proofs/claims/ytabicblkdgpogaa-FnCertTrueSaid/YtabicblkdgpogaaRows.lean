/-
  No cell of these rows narrows 'for every input' (looked for: loops, veiled, ifaces, maps, wideKeys, modest, calm, conditions, laid).
  DERIVED. THE GIVEN ROWS OF THIS SEAT. 10 by the template 'for every input the law returns true; each argument reads behind the call as it read before'; 0 by the template 'total and deterministic' (their statements: YtabicblkdgpogaaTotals.lean).
  GIVEN WITH THE SEED: the statements are not yours to turn. If you find one false, say at which input.
  Laid BY PROGRAM, IN A SANDBOX (cutbox-rows.mjs): the forced cells as the released guide's own fill.sh prints them over the translation 96c884eedeca9c1a… (all of the seat's roots in one cut). By AI agents, Wed Nov 11 2026. No macro, syntax, notation, axiom, sorry.
-/
import Derived.Test.YtabicblkdgpogaaChecked
import GoSem.Claim
import GoSem.ClaimJoined
import GoSem.ClaimMapViews
import Derived.JoinedTies
import Derived.KernelRfl
namespace Go.Proofs.Ytabicblkdgpogaa
/- THE CELL 'sum', in the pinned program and in every row, IS THE sha256 OF THE DUMP (.gsa) THAT YtabicblkdgpogaaProg.lean LOADS. Nothing in Lean hashes anything: it is a label: what it is worth is what the hold of that sum in a sandbox is worth. -/
noncomputable def Try.pinned : Pinned := { name := "ytabicblkdgpogaa", sum := "96c884eedeca9c1a713f582e770e99f9667440ff8001c5b91040fd980fa3717b", checked := Try.checked }
namespace Rows
def none {H : Type} : Left H := { results := [], args := [] }

/-- 'laws.FnExactCheckValues': WHATEVER THE INPUT: true; the input reads as it did. -/
def fnExactCheckValuesSpec : ChangeSpec := { name := "fnExactCheckValues", fn := fun _ => fun
  | [d1, d2, d3, d4] => { results := [.lit (.bool true)], args := [d1, d2, d3, d4] }
  | _ => none }
def fnExactCheckValuesRow : OpenClaim := { program := "ytabicblkdgpogaa", sum := "96c884eedeca9c1a713f582e770e99f9667440ff8001c5b91040fd980fa3717b", func := "loop.example/g00710/laws.FnExactCheckValues", spec := "fnExactCheckValues", apart := false }
def FnExactCheckValuesSaid : Prop := fnExactCheckValuesRow.holds Try.pinned (OpenSpec.ofChange fnExactCheckValuesSpec)

/-- ITS FALSE NEIGHBOUR: 'it returns false'. Refute it at one input. -/
def fnExactCheckValuesWrong : ChangeSpec := { name := "fnExactCheckValues", fn := fun _ => fun
  | [d1, d2, d3, d4] => { results := [.lit (.bool false)], args := [d1, d2, d3, d4] }
  | _ => none }
def FnExactCheckValuesWrongFalsely : Prop := fnExactCheckValuesRow.holds Try.pinned (OpenSpec.ofChange fnExactCheckValuesWrong)

/-- 'laws.FnExactMakeCert': WHATEVER THE INPUT: true; the input reads as it did. -/
def fnExactMakeCertSpec : ChangeSpec := { name := "fnExactMakeCert", fn := fun _ => fun
  | [d1, d2, d3] => { results := [.lit (.bool true)], args := [d1, d2, d3] }
  | _ => none }
def fnExactMakeCertRow : OpenClaim := { program := "ytabicblkdgpogaa", sum := "96c884eedeca9c1a713f582e770e99f9667440ff8001c5b91040fd980fa3717b", func := "loop.example/g00710/laws.FnExactMakeCert", spec := "fnExactMakeCert", apart := false }
def FnExactMakeCertSaid : Prop := fnExactMakeCertRow.holds Try.pinned (OpenSpec.ofChange fnExactMakeCertSpec)

/-- ITS FALSE NEIGHBOUR: 'it returns false'. Refute it at one input. -/
def fnExactMakeCertWrong : ChangeSpec := { name := "fnExactMakeCert", fn := fun _ => fun
  | [d1, d2, d3] => { results := [.lit (.bool false)], args := [d1, d2, d3] }
  | _ => none }
def FnExactMakeCertWrongFalsely : Prop := fnExactMakeCertRow.holds Try.pinned (OpenSpec.ofChange fnExactMakeCertWrong)

/-- 'laws.FnExactCheckCert': WHATEVER THE INPUT: true; the input reads as it did. -/
def fnExactCheckCertSpec : ChangeSpec := { name := "fnExactCheckCert", fn := fun _ => fun
  | [d1, d2, d3, d4, d5] => { results := [.lit (.bool true)], args := [d1, d2, d3, d4, d5] }
  | _ => none }
def fnExactCheckCertRow : OpenClaim := { program := "ytabicblkdgpogaa", sum := "96c884eedeca9c1a713f582e770e99f9667440ff8001c5b91040fd980fa3717b", func := "loop.example/g00710/laws.FnExactCheckCert", spec := "fnExactCheckCert", apart := false }
def FnExactCheckCertSaid : Prop := fnExactCheckCertRow.holds Try.pinned (OpenSpec.ofChange fnExactCheckCertSpec)

/-- ITS FALSE NEIGHBOUR: 'it returns false'. Refute it at one input. -/
def fnExactCheckCertWrong : ChangeSpec := { name := "fnExactCheckCert", fn := fun _ => fun
  | [d1, d2, d3, d4, d5] => { results := [.lit (.bool false)], args := [d1, d2, d3, d4, d5] }
  | _ => none }
def FnExactCheckCertWrongFalsely : Prop := fnExactCheckCertRow.holds Try.pinned (OpenSpec.ofChange fnExactCheckCertWrong)

/-- 'laws.FnExactEventOk': WHATEVER THE INPUT: true; the input reads as it did. -/
def fnExactEventOkSpec : ChangeSpec := { name := "fnExactEventOk", fn := fun _ => fun
  | [d] => { results := [.lit (.bool true)], args := [d] }
  | _ => none }
def fnExactEventOkRow : OpenClaim := { program := "ytabicblkdgpogaa", sum := "96c884eedeca9c1a713f582e770e99f9667440ff8001c5b91040fd980fa3717b", func := "loop.example/g00710/laws.FnExactEventOk", spec := "fnExactEventOk", apart := false }
def FnExactEventOkSaid : Prop := fnExactEventOkRow.holds Try.pinned (OpenSpec.ofChange fnExactEventOkSpec)

/-- ITS FALSE NEIGHBOUR: 'it returns false'. Refute it at one input. -/
def fnExactEventOkWrong : ChangeSpec := { name := "fnExactEventOk", fn := fun _ => fun
  | [d] => { results := [.lit (.bool false)], args := [d] }
  | _ => none }
def FnExactEventOkWrongFalsely : Prop := fnExactEventOkRow.holds Try.pinned (OpenSpec.ofChange fnExactEventOkWrong)

/-- 'laws.FnSpots': WHATEVER THE INPUT: true; the input reads as it did. -/
def fnSpotsSpec : ChangeSpec := { name := "fnSpots", fn := fun _ => fun
  | [d] => { results := [.lit (.bool true)], args := [d] }
  | _ => none }
def fnSpotsRow : OpenClaim := { program := "ytabicblkdgpogaa", sum := "96c884eedeca9c1a713f582e770e99f9667440ff8001c5b91040fd980fa3717b", func := "loop.example/g00710/laws.FnSpots", spec := "fnSpots", apart := false }
def FnSpotsSaid : Prop := fnSpotsRow.holds Try.pinned (OpenSpec.ofChange fnSpotsSpec)

/-- ITS FALSE NEIGHBOUR: 'it returns false'. Refute it at one input. -/
def fnSpotsWrong : ChangeSpec := { name := "fnSpots", fn := fun _ => fun
  | [d] => { results := [.lit (.bool false)], args := [d] }
  | _ => none }
def FnSpotsWrongFalsely : Prop := fnSpotsRow.holds Try.pinned (OpenSpec.ofChange fnSpotsWrong)

/-- 'laws.FnCertTrue': WHATEVER THE INPUT: true; the input reads as it did. -/
def fnCertTrueSpec : ChangeSpec := { name := "fnCertTrue", fn := fun _ => fun
  | [d] => { results := [.lit (.bool true)], args := [d] }
  | _ => none }
def fnCertTrueRow : OpenClaim := { program := "ytabicblkdgpogaa", sum := "96c884eedeca9c1a713f582e770e99f9667440ff8001c5b91040fd980fa3717b", func := "loop.example/g00710/laws.FnCertTrue", spec := "fnCertTrue", apart := false }
def FnCertTrueSaid : Prop := fnCertTrueRow.holds Try.pinned (OpenSpec.ofChange fnCertTrueSpec)

/-- ITS FALSE NEIGHBOUR: 'it returns false'. Refute it at one input. -/
def fnCertTrueWrong : ChangeSpec := { name := "fnCertTrue", fn := fun _ => fun
  | [d] => { results := [.lit (.bool false)], args := [d] }
  | _ => none }
def FnCertTrueWrongFalsely : Prop := fnCertTrueRow.holds Try.pinned (OpenSpec.ofChange fnCertTrueWrong)

/-- 'laws.FnExactTakeEvent': WHATEVER THE INPUT: true; the input reads as it did. -/
def fnExactTakeEventSpec : ChangeSpec := { name := "fnExactTakeEvent", fn := fun _ => fun
  | [d] => { results := [.lit (.bool true)], args := [d] }
  | _ => none }
def fnExactTakeEventRow : OpenClaim := { program := "ytabicblkdgpogaa", sum := "96c884eedeca9c1a713f582e770e99f9667440ff8001c5b91040fd980fa3717b", func := "loop.example/g00710/laws.FnExactTakeEvent", spec := "fnExactTakeEvent", apart := false }
def FnExactTakeEventSaid : Prop := fnExactTakeEventRow.holds Try.pinned (OpenSpec.ofChange fnExactTakeEventSpec)

/-- ITS FALSE NEIGHBOUR: 'it returns false'. Refute it at one input. -/
def fnExactTakeEventWrong : ChangeSpec := { name := "fnExactTakeEvent", fn := fun _ => fun
  | [d] => { results := [.lit (.bool false)], args := [d] }
  | _ => none }
def FnExactTakeEventWrongFalsely : Prop := fnExactTakeEventRow.holds Try.pinned (OpenSpec.ofChange fnExactTakeEventWrong)

/-- 'laws.FnExactPutEvent': WHATEVER THE INPUT: true; the input reads as it did. -/
def fnExactPutEventSpec : ChangeSpec := { name := "fnExactPutEvent", fn := fun _ => fun
  | [d] => { results := [.lit (.bool true)], args := [d] }
  | _ => none }
def fnExactPutEventRow : OpenClaim := { program := "ytabicblkdgpogaa", sum := "96c884eedeca9c1a713f582e770e99f9667440ff8001c5b91040fd980fa3717b", func := "loop.example/g00710/laws.FnExactPutEvent", spec := "fnExactPutEvent", apart := false }
def FnExactPutEventSaid : Prop := fnExactPutEventRow.holds Try.pinned (OpenSpec.ofChange fnExactPutEventSpec)

/-- ITS FALSE NEIGHBOUR: 'it returns false'. Refute it at one input. -/
def fnExactPutEventWrong : ChangeSpec := { name := "fnExactPutEvent", fn := fun _ => fun
  | [d] => { results := [.lit (.bool false)], args := [d] }
  | _ => none }
def FnExactPutEventWrongFalsely : Prop := fnExactPutEventRow.holds Try.pinned (OpenSpec.ofChange fnExactPutEventWrong)

/-- 'laws.FnDivisionTrue': WHATEVER THE INPUT: true; the input reads as it did. -/
def fnDivisionTrueSpec : ChangeSpec := { name := "fnDivisionTrue", fn := fun _ => fun
  | [d] => { results := [.lit (.bool true)], args := [d] }
  | _ => none }
def fnDivisionTrueRow : OpenClaim := { program := "ytabicblkdgpogaa", sum := "96c884eedeca9c1a713f582e770e99f9667440ff8001c5b91040fd980fa3717b", func := "loop.example/g00710/laws.FnDivisionTrue", spec := "fnDivisionTrue", apart := false }
def FnDivisionTrueSaid : Prop := fnDivisionTrueRow.holds Try.pinned (OpenSpec.ofChange fnDivisionTrueSpec)

/-- ITS FALSE NEIGHBOUR: 'it returns false'. Refute it at one input. -/
def fnDivisionTrueWrong : ChangeSpec := { name := "fnDivisionTrue", fn := fun _ => fun
  | [d] => { results := [.lit (.bool false)], args := [d] }
  | _ => none }
def FnDivisionTrueWrongFalsely : Prop := fnDivisionTrueRow.holds Try.pinned (OpenSpec.ofChange fnDivisionTrueWrong)

/-- 'laws.FnExactAppendEvent': WHATEVER THE INPUT: true; the input reads as it did. -/
def fnExactAppendEventSpec : ChangeSpec := { name := "fnExactAppendEvent", fn := fun _ => fun
  | [d1, d2] => { results := [.lit (.bool true)], args := [d1, d2] }
  | _ => none }
def fnExactAppendEventRow : OpenClaim := { program := "ytabicblkdgpogaa", sum := "96c884eedeca9c1a713f582e770e99f9667440ff8001c5b91040fd980fa3717b", func := "loop.example/g00710/laws.FnExactAppendEvent", spec := "fnExactAppendEvent", apart := false }
def FnExactAppendEventSaid : Prop := fnExactAppendEventRow.holds Try.pinned (OpenSpec.ofChange fnExactAppendEventSpec)

/-- ITS FALSE NEIGHBOUR: 'it returns false'. Refute it at one input. -/
def fnExactAppendEventWrong : ChangeSpec := { name := "fnExactAppendEvent", fn := fun _ => fun
  | [d1, d2] => { results := [.lit (.bool false)], args := [d1, d2] }
  | _ => none }
def FnExactAppendEventWrongFalsely : Prop := fnExactAppendEventRow.holds Try.pinned (OpenSpec.ofChange fnExactAppendEventWrong)

/- THE SECOND FORM. 'bulk': how many values and letters a reading holds, each counted each time it is reached (what is shared counts as often as it is met; a slice's spare places count too). A statement '..UptoSaid' is the law's where the arguments, and the package variables that the reading takes, are together of bulk at most 1048576: NARROWER than '..Said'. Prove '..Said' where nothing that the law and all that it calls make is longer than what came in: it says more and counts as full. Else prove '..UptoSaid'. A law counts once. -/
mutual
def uptoBulk {H : Type} : DataW H → Nat
  | .lit (.string bytes) => bytes.length + 1
  | .lit _ => 1
  | .nil => 1
  | .ptr d => uptoBulk d + 1
  | .slice elems spare => uptoBulkAll elems + uptoBulkAll spare + 1
  | .agg parts => uptoBulkAll parts + 1
  | .iface _ d => uptoBulk d + 1
  | .map entries => uptoBulkEntries entries + 1
  | .held _ => 1
def uptoBulkAll {H : Type} : List (DataW H) → Nat
  | [] => 0
  | d :: r => uptoBulk d + uptoBulkAll r
def uptoBulkEntries {H : Type} : List (Lit × DataW H) → Nat
  | [] => 0
  | x :: r => uptoBulkEntry x + uptoBulkEntries r
def uptoBulkEntry {H : Type} : Lit × DataW H → Nat
  | (.string bytes, d) => bytes.length + uptoBulk d + 1
  | (_, d) => uptoBulk d + 1
 end
def uptoSmall : (H : Type) → List (DataW H) → Bool := fun _ ds => decide (uptoBulkAll ds ≤ 1048576)
def OpenSpec.upto (s : _root_.Go.ChangeSpec) : _root_.Go.OpenSpec := { _root_.Go.OpenSpec.ofChange s with cond := some uptoSmall }

/-- 'laws.FnExactCheckValues', WHERE WHAT IT READS IS OF BULK AT MOST 1048576: true; the input reads as it did. -/
def fnExactCheckValuesUptoRow : OpenClaim := { program := "ytabicblkdgpogaa", sum := "96c884eedeca9c1a713f582e770e99f9667440ff8001c5b91040fd980fa3717b", func := "loop.example/g00710/laws.FnExactCheckValues", spec := "fnExactCheckValues", apart := false, narrowed := true }
def FnExactCheckValuesUptoSaid : Prop := fnExactCheckValuesUptoRow.holds Try.pinned (OpenSpec.upto fnExactCheckValuesSpec)

/-- 'laws.FnExactMakeCert', WHERE WHAT IT READS IS OF BULK AT MOST 1048576: true; the input reads as it did. -/
def fnExactMakeCertUptoRow : OpenClaim := { program := "ytabicblkdgpogaa", sum := "96c884eedeca9c1a713f582e770e99f9667440ff8001c5b91040fd980fa3717b", func := "loop.example/g00710/laws.FnExactMakeCert", spec := "fnExactMakeCert", apart := false, narrowed := true }
def FnExactMakeCertUptoSaid : Prop := fnExactMakeCertUptoRow.holds Try.pinned (OpenSpec.upto fnExactMakeCertSpec)

/-- 'laws.FnExactCheckCert', WHERE WHAT IT READS IS OF BULK AT MOST 1048576: true; the input reads as it did. -/
def fnExactCheckCertUptoRow : OpenClaim := { program := "ytabicblkdgpogaa", sum := "96c884eedeca9c1a713f582e770e99f9667440ff8001c5b91040fd980fa3717b", func := "loop.example/g00710/laws.FnExactCheckCert", spec := "fnExactCheckCert", apart := false, narrowed := true }
def FnExactCheckCertUptoSaid : Prop := fnExactCheckCertUptoRow.holds Try.pinned (OpenSpec.upto fnExactCheckCertSpec)

/-- 'laws.FnExactEventOk', WHERE WHAT IT READS IS OF BULK AT MOST 1048576: true; the input reads as it did. -/
def fnExactEventOkUptoRow : OpenClaim := { program := "ytabicblkdgpogaa", sum := "96c884eedeca9c1a713f582e770e99f9667440ff8001c5b91040fd980fa3717b", func := "loop.example/g00710/laws.FnExactEventOk", spec := "fnExactEventOk", apart := false, narrowed := true }
def FnExactEventOkUptoSaid : Prop := fnExactEventOkUptoRow.holds Try.pinned (OpenSpec.upto fnExactEventOkSpec)

/-- 'laws.FnSpots', WHERE WHAT IT READS IS OF BULK AT MOST 1048576: true; the input reads as it did. -/
def fnSpotsUptoRow : OpenClaim := { program := "ytabicblkdgpogaa", sum := "96c884eedeca9c1a713f582e770e99f9667440ff8001c5b91040fd980fa3717b", func := "loop.example/g00710/laws.FnSpots", spec := "fnSpots", apart := false, narrowed := true }
def FnSpotsUptoSaid : Prop := fnSpotsUptoRow.holds Try.pinned (OpenSpec.upto fnSpotsSpec)

/-- 'laws.FnCertTrue', WHERE WHAT IT READS IS OF BULK AT MOST 1048576: true; the input reads as it did. -/
def fnCertTrueUptoRow : OpenClaim := { program := "ytabicblkdgpogaa", sum := "96c884eedeca9c1a713f582e770e99f9667440ff8001c5b91040fd980fa3717b", func := "loop.example/g00710/laws.FnCertTrue", spec := "fnCertTrue", apart := false, narrowed := true }
def FnCertTrueUptoSaid : Prop := fnCertTrueUptoRow.holds Try.pinned (OpenSpec.upto fnCertTrueSpec)

/-- 'laws.FnExactTakeEvent', WHERE WHAT IT READS IS OF BULK AT MOST 1048576: true; the input reads as it did. -/
def fnExactTakeEventUptoRow : OpenClaim := { program := "ytabicblkdgpogaa", sum := "96c884eedeca9c1a713f582e770e99f9667440ff8001c5b91040fd980fa3717b", func := "loop.example/g00710/laws.FnExactTakeEvent", spec := "fnExactTakeEvent", apart := false, narrowed := true }
def FnExactTakeEventUptoSaid : Prop := fnExactTakeEventUptoRow.holds Try.pinned (OpenSpec.upto fnExactTakeEventSpec)

/-- 'laws.FnExactPutEvent', WHERE WHAT IT READS IS OF BULK AT MOST 1048576: true; the input reads as it did. -/
def fnExactPutEventUptoRow : OpenClaim := { program := "ytabicblkdgpogaa", sum := "96c884eedeca9c1a713f582e770e99f9667440ff8001c5b91040fd980fa3717b", func := "loop.example/g00710/laws.FnExactPutEvent", spec := "fnExactPutEvent", apart := false, narrowed := true }
def FnExactPutEventUptoSaid : Prop := fnExactPutEventUptoRow.holds Try.pinned (OpenSpec.upto fnExactPutEventSpec)

/-- 'laws.FnDivisionTrue', WHERE WHAT IT READS IS OF BULK AT MOST 1048576: true; the input reads as it did. -/
def fnDivisionTrueUptoRow : OpenClaim := { program := "ytabicblkdgpogaa", sum := "96c884eedeca9c1a713f582e770e99f9667440ff8001c5b91040fd980fa3717b", func := "loop.example/g00710/laws.FnDivisionTrue", spec := "fnDivisionTrue", apart := false, narrowed := true }
def FnDivisionTrueUptoSaid : Prop := fnDivisionTrueUptoRow.holds Try.pinned (OpenSpec.upto fnDivisionTrueSpec)

/-- 'laws.FnExactAppendEvent', WHERE WHAT IT READS IS OF BULK AT MOST 1048576: true; the input reads as it did. -/
def fnExactAppendEventUptoRow : OpenClaim := { program := "ytabicblkdgpogaa", sum := "96c884eedeca9c1a713f582e770e99f9667440ff8001c5b91040fd980fa3717b", func := "loop.example/g00710/laws.FnExactAppendEvent", spec := "fnExactAppendEvent", apart := false, narrowed := true }
def FnExactAppendEventUptoSaid : Prop := fnExactAppendEventUptoRow.holds Try.pinned (OpenSpec.upto fnExactAppendEventSpec)

end Rows
end Go.Proofs.Ytabicblkdgpogaa
