/-
  No cell of these rows narrows 'for every input' (looked for: loops, veiled, ifaces, maps, wideKeys, modest, calm, conditions, laid).
  DERIVED. THE GIVEN ROWS OF THIS SEAT. 9 by the template 'for every input the law returns true; each argument reads behind the call as it read before'; 0 by the template 'total and deterministic' (their statements: YtjnckjfohpbdeaaTotals.lean).
  GIVEN WITH THE SEED: the statements are not yours to turn. If you find one false, say at which input.
  Laid BY PROGRAM, IN A SANDBOX (cutbox-rows.mjs): the forced cells as the released guide's own fill.sh prints them over the translation c03881a518ae7b1b… (all of the seat's roots in one cut). By AI agents, Wed Nov 11 2026. No macro, syntax, notation, axiom, sorry.
-/
import Derived.Test.YtjnckjfohpbdeaaChecked
import GoSem.Claim
import GoSem.ClaimJoined
import GoSem.ClaimMapViews
import Derived.JoinedTies
import Derived.KernelRfl
namespace Go.Proofs.Ytjnckjfohpbdeaa
/- THE CELL 'sum', in the pinned program and in every row, IS THE sha256 OF THE DUMP (.gsa) THAT YtjnckjfohpbdeaaProg.lean LOADS. Nothing in Lean hashes anything: it is a label: what it is worth is what the hold of that sum in a sandbox is worth. -/
noncomputable def Try.pinned : Pinned := { name := "ytjnckjfohpbdeaa", sum := "c03881a518ae7b1b51eb4bed924aa1c7686bb92f3acb52b7680caa5abfbbe27d", checked := Try.checked }
namespace Rows
def none {H : Type} : Left H := { results := [], args := [] }

/-- 'laws.FnExactSplitCents': WHATEVER THE INPUT: true; the input reads as it did. -/
def fnExactSplitCentsSpec : ChangeSpec := { name := "fnExactSplitCents", fn := fun _ => fun
  | [d1, d2] => { results := [.lit (.bool true)], args := [d1, d2] }
  | _ => none }
def fnExactSplitCentsRow : OpenClaim := { program := "ytjnckjfohpbdeaa", sum := "c03881a518ae7b1b51eb4bed924aa1c7686bb92f3acb52b7680caa5abfbbe27d", func := "loop.example/g00710/laws.FnExactSplitCents", spec := "fnExactSplitCents", unfollowed := true, recurses := true, apart := false }
def FnExactSplitCentsSaid : Prop := fnExactSplitCentsRow.holds Try.pinned (OpenSpec.ofChange fnExactSplitCentsSpec)

/-- ITS FALSE NEIGHBOUR: 'it returns false'. Refute it at one input. -/
def fnExactSplitCentsWrong : ChangeSpec := { name := "fnExactSplitCents", fn := fun _ => fun
  | [d1, d2] => { results := [.lit (.bool false)], args := [d1, d2] }
  | _ => none }
def FnExactSplitCentsWrongFalsely : Prop := fnExactSplitCentsRow.holds Try.pinned (OpenSpec.ofChange fnExactSplitCentsWrong)

/-- 'laws.FnShares': WHATEVER THE INPUT: true; the input reads as it did. -/
def fnSharesSpec : ChangeSpec := { name := "fnShares", fn := fun _ => fun
  | [d] => { results := [.lit (.bool true)], args := [d] }
  | _ => none }
def fnSharesRow : OpenClaim := { program := "ytjnckjfohpbdeaa", sum := "c03881a518ae7b1b51eb4bed924aa1c7686bb92f3acb52b7680caa5abfbbe27d", func := "loop.example/g00710/laws.FnShares", spec := "fnShares", unfollowed := true, recurses := true, apart := false }
def FnSharesSaid : Prop := fnSharesRow.holds Try.pinned (OpenSpec.ofChange fnSharesSpec)

/-- ITS FALSE NEIGHBOUR: 'it returns false'. Refute it at one input. -/
def fnSharesWrong : ChangeSpec := { name := "fnShares", fn := fun _ => fun
  | [d] => { results := [.lit (.bool false)], args := [d] }
  | _ => none }
def FnSharesWrongFalsely : Prop := fnSharesRow.holds Try.pinned (OpenSpec.ofChange fnSharesWrong)

/-- 'laws.FnDivisionTrue': WHATEVER THE INPUT: true; the input reads as it did. -/
def fnDivisionTrueSpec : ChangeSpec := { name := "fnDivisionTrue", fn := fun _ => fun
  | [d] => { results := [.lit (.bool true)], args := [d] }
  | _ => none }
def fnDivisionTrueRow : OpenClaim := { program := "ytjnckjfohpbdeaa", sum := "c03881a518ae7b1b51eb4bed924aa1c7686bb92f3acb52b7680caa5abfbbe27d", func := "loop.example/g00710/laws.FnDivisionTrue", spec := "fnDivisionTrue", apart := false }
def FnDivisionTrueSaid : Prop := fnDivisionTrueRow.holds Try.pinned (OpenSpec.ofChange fnDivisionTrueSpec)

/-- ITS FALSE NEIGHBOUR: 'it returns false'. Refute it at one input. -/
def fnDivisionTrueWrong : ChangeSpec := { name := "fnDivisionTrue", fn := fun _ => fun
  | [d] => { results := [.lit (.bool false)], args := [d] }
  | _ => none }
def FnDivisionTrueWrongFalsely : Prop := fnDivisionTrueRow.holds Try.pinned (OpenSpec.ofChange fnDivisionTrueWrong)

/-- 'laws.FnExactAppendEvent': WHATEVER THE INPUT: true; the input reads as it did. -/
def fnExactAppendEventSpec : ChangeSpec := { name := "fnExactAppendEvent", fn := fun _ => fun
  | [d1, d2] => { results := [.lit (.bool true)], args := [d1, d2] }
  | _ => none }
def fnExactAppendEventRow : OpenClaim := { program := "ytjnckjfohpbdeaa", sum := "c03881a518ae7b1b51eb4bed924aa1c7686bb92f3acb52b7680caa5abfbbe27d", func := "loop.example/g00710/laws.FnExactAppendEvent", spec := "fnExactAppendEvent", apart := false }
def FnExactAppendEventSaid : Prop := fnExactAppendEventRow.holds Try.pinned (OpenSpec.ofChange fnExactAppendEventSpec)

/-- ITS FALSE NEIGHBOUR: 'it returns false'. Refute it at one input. -/
def fnExactAppendEventWrong : ChangeSpec := { name := "fnExactAppendEvent", fn := fun _ => fun
  | [d1, d2] => { results := [.lit (.bool false)], args := [d1, d2] }
  | _ => none }
def FnExactAppendEventWrongFalsely : Prop := fnExactAppendEventRow.holds Try.pinned (OpenSpec.ofChange fnExactAppendEventWrong)

/-- 'laws.FnExactRepairDisk': WHATEVER THE INPUT: true; the input reads as it did. -/
def fnExactRepairDiskSpec : ChangeSpec := { name := "fnExactRepairDisk", fn := fun _ => fun
  | [d] => { results := [.lit (.bool true)], args := [d] }
  | _ => none }
def fnExactRepairDiskRow : OpenClaim := { program := "ytjnckjfohpbdeaa", sum := "c03881a518ae7b1b51eb4bed924aa1c7686bb92f3acb52b7680caa5abfbbe27d", func := "loop.example/g00710/laws.FnExactRepairDisk", spec := "fnExactRepairDisk", apart := false }
def FnExactRepairDiskSaid : Prop := fnExactRepairDiskRow.holds Try.pinned (OpenSpec.ofChange fnExactRepairDiskSpec)

/-- ITS FALSE NEIGHBOUR: 'it returns false'. Refute it at one input. -/
def fnExactRepairDiskWrong : ChangeSpec := { name := "fnExactRepairDisk", fn := fun _ => fun
  | [d] => { results := [.lit (.bool false)], args := [d] }
  | _ => none }
def FnExactRepairDiskWrongFalsely : Prop := fnExactRepairDiskRow.holds Try.pinned (OpenSpec.ofChange fnExactRepairDiskWrong)

/-- 'laws.FnExactReadDisk': WHATEVER THE INPUT: true; the input reads as it did. -/
def fnExactReadDiskSpec : ChangeSpec := { name := "fnExactReadDisk", fn := fun _ => fun
  | [d] => { results := [.lit (.bool true)], args := [d] }
  | _ => none }
def fnExactReadDiskRow : OpenClaim := { program := "ytjnckjfohpbdeaa", sum := "c03881a518ae7b1b51eb4bed924aa1c7686bb92f3acb52b7680caa5abfbbe27d", func := "loop.example/g00710/laws.FnExactReadDisk", spec := "fnExactReadDisk", apart := false }
def FnExactReadDiskSaid : Prop := fnExactReadDiskRow.holds Try.pinned (OpenSpec.ofChange fnExactReadDiskSpec)

/-- ITS FALSE NEIGHBOUR: 'it returns false'. Refute it at one input. -/
def fnExactReadDiskWrong : ChangeSpec := { name := "fnExactReadDisk", fn := fun _ => fun
  | [d] => { results := [.lit (.bool false)], args := [d] }
  | _ => none }
def FnExactReadDiskWrongFalsely : Prop := fnExactReadDiskRow.holds Try.pinned (OpenSpec.ofChange fnExactReadDiskWrong)

/-- 'laws.FnEventBytes': WHATEVER THE INPUT: true; the input reads as it did. -/
def fnEventBytesSpec : ChangeSpec := { name := "fnEventBytes", fn := fun _ => fun
  | [d] => { results := [.lit (.bool true)], args := [d] }
  | _ => none }
def fnEventBytesRow : OpenClaim := { program := "ytjnckjfohpbdeaa", sum := "c03881a518ae7b1b51eb4bed924aa1c7686bb92f3acb52b7680caa5abfbbe27d", func := "loop.example/g00710/laws.FnEventBytes", spec := "fnEventBytes", apart := false }
def FnEventBytesSaid : Prop := fnEventBytesRow.holds Try.pinned (OpenSpec.ofChange fnEventBytesSpec)

/-- ITS FALSE NEIGHBOUR: 'it returns false'. Refute it at one input. -/
def fnEventBytesWrong : ChangeSpec := { name := "fnEventBytes", fn := fun _ => fun
  | [d] => { results := [.lit (.bool false)], args := [d] }
  | _ => none }
def FnEventBytesWrongFalsely : Prop := fnEventBytesRow.holds Try.pinned (OpenSpec.ofChange fnEventBytesWrong)

/-- 'laws.FnExactNextId': WHATEVER THE INPUT: true; the input reads as it did. -/
def fnExactNextIdSpec : ChangeSpec := { name := "fnExactNextId", fn := fun _ => fun
  | [d] => { results := [.lit (.bool true)], args := [d] }
  | _ => none }
def fnExactNextIdRow : OpenClaim := { program := "ytjnckjfohpbdeaa", sum := "c03881a518ae7b1b51eb4bed924aa1c7686bb92f3acb52b7680caa5abfbbe27d", func := "loop.example/g00710/laws.FnExactNextId", spec := "fnExactNextId", inPlace := ["slices.overlaps[loop.example/g00710/impl.Flow]"], unfollowed := true, recurses := true, apart := false }
def FnExactNextIdSaid : Prop := fnExactNextIdRow.holds Try.pinned (OpenSpec.ofChange fnExactNextIdSpec)

/-- ITS FALSE NEIGHBOUR: 'it returns false'. Refute it at one input. -/
def fnExactNextIdWrong : ChangeSpec := { name := "fnExactNextId", fn := fun _ => fun
  | [d] => { results := [.lit (.bool false)], args := [d] }
  | _ => none }
def FnExactNextIdWrongFalsely : Prop := fnExactNextIdRow.holds Try.pinned (OpenSpec.ofChange fnExactNextIdWrong)

/-- 'laws.FnExactReplayRing': WHATEVER THE INPUT: true; the input reads as it did. -/
def fnExactReplayRingSpec : ChangeSpec := { name := "fnExactReplayRing", fn := fun _ => fun
  | [d] => { results := [.lit (.bool true)], args := [d] }
  | _ => none }
def fnExactReplayRingRow : OpenClaim := { program := "ytjnckjfohpbdeaa", sum := "c03881a518ae7b1b51eb4bed924aa1c7686bb92f3acb52b7680caa5abfbbe27d", func := "loop.example/g00710/laws.FnExactReplayRing", spec := "fnExactReplayRing", inPlace := ["slices.overlaps[loop.example/g00710/impl.Flow]"], unfollowed := true, recurses := true, apart := false }
def FnExactReplayRingSaid : Prop := fnExactReplayRingRow.holds Try.pinned (OpenSpec.ofChange fnExactReplayRingSpec)

/-- ITS FALSE NEIGHBOUR: 'it returns false'. Refute it at one input. -/
def fnExactReplayRingWrong : ChangeSpec := { name := "fnExactReplayRing", fn := fun _ => fun
  | [d] => { results := [.lit (.bool false)], args := [d] }
  | _ => none }
def FnExactReplayRingWrongFalsely : Prop := fnExactReplayRingRow.holds Try.pinned (OpenSpec.ofChange fnExactReplayRingWrong)

/- THE SECOND FORM. 'bulk': how many values and letters a reading holds, each counted each time it is reached (what is shared counts as often as it is met; a slice's spare places count too). A statement '..UptoSaid' is the law's where the arguments, and the package variables that the reading takes, are together of bulk at most 1048576: NARROWER than '..Said'. Prove '..Said' where nothing that the law and all that it calls make is longer than what came in: it says more and counts as full. Else prove '..UptoSaid'. A law counts once. -/
mutual
def uptoBulk {H : Type} : DataW H → Nat
  | .lit (.string bytes) => bytes.length + 1
  | .lit _ => 1
  | .nil => 1
  | .ptr d => uptoBulk d + 1
  | .slice elems spare => uptoBulkAll elems + uptoBulkAll spare + 1
  | .agg parts => uptoBulkAll parts + 1
  | .iface _ d => uptoBulk d + 1
  | .map entries => uptoBulkEntries entries + 1
  | .held _ => 1
def uptoBulkAll {H : Type} : List (DataW H) → Nat
  | [] => 0
  | d :: r => uptoBulk d + uptoBulkAll r
def uptoBulkEntries {H : Type} : List (Lit × DataW H) → Nat
  | [] => 0
  | x :: r => uptoBulkEntry x + uptoBulkEntries r
def uptoBulkEntry {H : Type} : Lit × DataW H → Nat
  | (.string bytes, d) => bytes.length + uptoBulk d + 1
  | (_, d) => uptoBulk d + 1
 end
def uptoSmall : (H : Type) → List (DataW H) → Bool := fun _ ds => decide (uptoBulkAll ds ≤ 1048576)
def OpenSpec.upto (s : _root_.Go.ChangeSpec) : _root_.Go.OpenSpec := { _root_.Go.OpenSpec.ofChange s with cond := some uptoSmall }

/-- 'laws.FnExactSplitCents', WHERE WHAT IT READS IS OF BULK AT MOST 1048576: true; the input reads as it did. -/
def fnExactSplitCentsUptoRow : OpenClaim := { program := "ytjnckjfohpbdeaa", sum := "c03881a518ae7b1b51eb4bed924aa1c7686bb92f3acb52b7680caa5abfbbe27d", func := "loop.example/g00710/laws.FnExactSplitCents", spec := "fnExactSplitCents", unfollowed := true, recurses := true, apart := false, narrowed := true }
def FnExactSplitCentsUptoSaid : Prop := fnExactSplitCentsUptoRow.holds Try.pinned (OpenSpec.upto fnExactSplitCentsSpec)

/-- 'laws.FnShares', WHERE WHAT IT READS IS OF BULK AT MOST 1048576: true; the input reads as it did. -/
def fnSharesUptoRow : OpenClaim := { program := "ytjnckjfohpbdeaa", sum := "c03881a518ae7b1b51eb4bed924aa1c7686bb92f3acb52b7680caa5abfbbe27d", func := "loop.example/g00710/laws.FnShares", spec := "fnShares", unfollowed := true, recurses := true, apart := false, narrowed := true }
def FnSharesUptoSaid : Prop := fnSharesUptoRow.holds Try.pinned (OpenSpec.upto fnSharesSpec)

/-- 'laws.FnDivisionTrue', WHERE WHAT IT READS IS OF BULK AT MOST 1048576: true; the input reads as it did. -/
def fnDivisionTrueUptoRow : OpenClaim := { program := "ytjnckjfohpbdeaa", sum := "c03881a518ae7b1b51eb4bed924aa1c7686bb92f3acb52b7680caa5abfbbe27d", func := "loop.example/g00710/laws.FnDivisionTrue", spec := "fnDivisionTrue", apart := false, narrowed := true }
def FnDivisionTrueUptoSaid : Prop := fnDivisionTrueUptoRow.holds Try.pinned (OpenSpec.upto fnDivisionTrueSpec)

/-- 'laws.FnExactAppendEvent', WHERE WHAT IT READS IS OF BULK AT MOST 1048576: true; the input reads as it did. -/
def fnExactAppendEventUptoRow : OpenClaim := { program := "ytjnckjfohpbdeaa", sum := "c03881a518ae7b1b51eb4bed924aa1c7686bb92f3acb52b7680caa5abfbbe27d", func := "loop.example/g00710/laws.FnExactAppendEvent", spec := "fnExactAppendEvent", apart := false, narrowed := true }
def FnExactAppendEventUptoSaid : Prop := fnExactAppendEventUptoRow.holds Try.pinned (OpenSpec.upto fnExactAppendEventSpec)

/-- 'laws.FnExactRepairDisk', WHERE WHAT IT READS IS OF BULK AT MOST 1048576: true; the input reads as it did. -/
def fnExactRepairDiskUptoRow : OpenClaim := { program := "ytjnckjfohpbdeaa", sum := "c03881a518ae7b1b51eb4bed924aa1c7686bb92f3acb52b7680caa5abfbbe27d", func := "loop.example/g00710/laws.FnExactRepairDisk", spec := "fnExactRepairDisk", apart := false, narrowed := true }
def FnExactRepairDiskUptoSaid : Prop := fnExactRepairDiskUptoRow.holds Try.pinned (OpenSpec.upto fnExactRepairDiskSpec)

/-- 'laws.FnExactReadDisk', WHERE WHAT IT READS IS OF BULK AT MOST 1048576: true; the input reads as it did. -/
def fnExactReadDiskUptoRow : OpenClaim := { program := "ytjnckjfohpbdeaa", sum := "c03881a518ae7b1b51eb4bed924aa1c7686bb92f3acb52b7680caa5abfbbe27d", func := "loop.example/g00710/laws.FnExactReadDisk", spec := "fnExactReadDisk", apart := false, narrowed := true }
def FnExactReadDiskUptoSaid : Prop := fnExactReadDiskUptoRow.holds Try.pinned (OpenSpec.upto fnExactReadDiskSpec)

/-- 'laws.FnEventBytes', WHERE WHAT IT READS IS OF BULK AT MOST 1048576: true; the input reads as it did. -/
def fnEventBytesUptoRow : OpenClaim := { program := "ytjnckjfohpbdeaa", sum := "c03881a518ae7b1b51eb4bed924aa1c7686bb92f3acb52b7680caa5abfbbe27d", func := "loop.example/g00710/laws.FnEventBytes", spec := "fnEventBytes", apart := false, narrowed := true }
def FnEventBytesUptoSaid : Prop := fnEventBytesUptoRow.holds Try.pinned (OpenSpec.upto fnEventBytesSpec)

/-- 'laws.FnExactNextId', WHERE WHAT IT READS IS OF BULK AT MOST 1048576: true; the input reads as it did. -/
def fnExactNextIdUptoRow : OpenClaim := { program := "ytjnckjfohpbdeaa", sum := "c03881a518ae7b1b51eb4bed924aa1c7686bb92f3acb52b7680caa5abfbbe27d", func := "loop.example/g00710/laws.FnExactNextId", spec := "fnExactNextId", inPlace := ["slices.overlaps[loop.example/g00710/impl.Flow]"], unfollowed := true, recurses := true, apart := false, narrowed := true }
def FnExactNextIdUptoSaid : Prop := fnExactNextIdUptoRow.holds Try.pinned (OpenSpec.upto fnExactNextIdSpec)

/-- 'laws.FnExactReplayRing', WHERE WHAT IT READS IS OF BULK AT MOST 1048576: true; the input reads as it did. -/
def fnExactReplayRingUptoRow : OpenClaim := { program := "ytjnckjfohpbdeaa", sum := "c03881a518ae7b1b51eb4bed924aa1c7686bb92f3acb52b7680caa5abfbbe27d", func := "loop.example/g00710/laws.FnExactReplayRing", spec := "fnExactReplayRing", inPlace := ["slices.overlaps[loop.example/g00710/impl.Flow]"], unfollowed := true, recurses := true, apart := false, narrowed := true }
def FnExactReplayRingUptoSaid : Prop := fnExactReplayRingUptoRow.holds Try.pinned (OpenSpec.upto fnExactReplayRingSpec)

end Rows
end Go.Proofs.Ytjnckjfohpbdeaa
