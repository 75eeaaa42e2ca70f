/-
  No cell of these rows narrows 'for every input' (looked for: loops, veiled, ifaces, maps, wideKeys, modest, calm, conditions, laid).
  DERIVED. THE GIVEN ROWS OF THIS SEAT. 6 by the template 'for every input the law returns true; each argument reads behind the call as it read before'; 0 by the template 'total and deterministic' (their statements: YtlmpfcdajmngfaaTotals.lean).
  GIVEN WITH THE SEED: the statements are not yours to turn. If you find one false, say at which input.
  Laid BY PROGRAM, IN A SANDBOX (cutbox-rows.mjs): the forced cells as the released guide's own fill.sh prints them over the translation 99ffc7b2cb3ca60e… (all of the seat's roots in one cut). By AI agents, Wed Nov 11 2026. No macro, syntax, notation, axiom, sorry.
-/
import Derived.Test.YtlmpfcdajmngfaaChecked
import GoSem.Claim
import GoSem.ClaimJoined
import GoSem.ClaimMapViews
import Derived.JoinedTies
import Derived.KernelRfl
namespace Go.Proofs.Ytlmpfcdajmngfaa
/- THE CELL 'sum', in the pinned program and in every row, IS THE sha256 OF THE DUMP (.gsa) THAT YtlmpfcdajmngfaaProg.lean LOADS. Nothing in Lean hashes anything: it is a label: what it is worth is what the hold of that sum in a sandbox is worth. -/
noncomputable def Try.pinned : Pinned := { name := "ytlmpfcdajmngfaa", sum := "99ffc7b2cb3ca60ec692b4ab835deb59468d952de326fdb01e5c87b0dc43d34b", checked := Try.checked }
namespace Rows
def none {H : Type} : Left H := { results := [], args := [] }

/-- 'laws.FnExactNextId': WHATEVER THE INPUT: true; the input reads as it did. -/
def fnExactNextIdSpec : ChangeSpec := { name := "fnExactNextId", fn := fun _ => fun
  | [d] => { results := [.lit (.bool true)], args := [d] }
  | _ => none }
def fnExactNextIdRow : OpenClaim := { program := "ytlmpfcdajmngfaa", sum := "99ffc7b2cb3ca60ec692b4ab835deb59468d952de326fdb01e5c87b0dc43d34b", func := "loop.example/g00710/laws.FnExactNextId", spec := "fnExactNextId", inPlace := ["slices.overlaps[loop.example/g00710/impl.Flow]"], unfollowed := true, recurses := true, apart := false }
def FnExactNextIdSaid : Prop := fnExactNextIdRow.holds Try.pinned (OpenSpec.ofChange fnExactNextIdSpec)

/-- ITS FALSE NEIGHBOUR: 'it returns false'. Refute it at one input. -/
def fnExactNextIdWrong : ChangeSpec := { name := "fnExactNextId", fn := fun _ => fun
  | [d] => { results := [.lit (.bool false)], args := [d] }
  | _ => none }
def FnExactNextIdWrongFalsely : Prop := fnExactNextIdRow.holds Try.pinned (OpenSpec.ofChange fnExactNextIdWrong)

/-- 'laws.FnExactReplayRing': WHATEVER THE INPUT: true; the input reads as it did. -/
def fnExactReplayRingSpec : ChangeSpec := { name := "fnExactReplayRing", fn := fun _ => fun
  | [d] => { results := [.lit (.bool true)], args := [d] }
  | _ => none }
def fnExactReplayRingRow : OpenClaim := { program := "ytlmpfcdajmngfaa", sum := "99ffc7b2cb3ca60ec692b4ab835deb59468d952de326fdb01e5c87b0dc43d34b", func := "loop.example/g00710/laws.FnExactReplayRing", spec := "fnExactReplayRing", inPlace := ["slices.overlaps[loop.example/g00710/impl.Flow]"], unfollowed := true, recurses := true, apart := false }
def FnExactReplayRingSaid : Prop := fnExactReplayRingRow.holds Try.pinned (OpenSpec.ofChange fnExactReplayRingSpec)

/-- ITS FALSE NEIGHBOUR: 'it returns false'. Refute it at one input. -/
def fnExactReplayRingWrong : ChangeSpec := { name := "fnExactReplayRing", fn := fun _ => fun
  | [d] => { results := [.lit (.bool false)], args := [d] }
  | _ => none }
def FnExactReplayRingWrongFalsely : Prop := fnExactReplayRingRow.holds Try.pinned (OpenSpec.ofChange fnExactReplayRingWrong)

/-- 'laws.FnExactCompactLog': WHATEVER THE INPUT: true; the input reads as it did. -/
def fnExactCompactLogSpec : ChangeSpec := { name := "fnExactCompactLog", fn := fun _ => fun
  | [d] => { results := [.lit (.bool true)], args := [d] }
  | _ => none }
def fnExactCompactLogRow : OpenClaim := { program := "ytlmpfcdajmngfaa", sum := "99ffc7b2cb3ca60ec692b4ab835deb59468d952de326fdb01e5c87b0dc43d34b", func := "loop.example/g00710/laws.FnExactCompactLog", spec := "fnExactCompactLog", inPlace := ["slices.overlaps[loop.example/g00710/impl.Flow]"], unfollowed := true, recurses := true, apart := false }
def FnExactCompactLogSaid : Prop := fnExactCompactLogRow.holds Try.pinned (OpenSpec.ofChange fnExactCompactLogSpec)

/-- ITS FALSE NEIGHBOUR: 'it returns false'. Refute it at one input. -/
def fnExactCompactLogWrong : ChangeSpec := { name := "fnExactCompactLog", fn := fun _ => fun
  | [d] => { results := [.lit (.bool false)], args := [d] }
  | _ => none }
def FnExactCompactLogWrongFalsely : Prop := fnExactCompactLogRow.holds Try.pinned (OpenSpec.ofChange fnExactCompactLogWrong)

/-- 'laws.FnExactPendingOf': WHATEVER THE INPUT: true; the input reads as it did. -/
def fnExactPendingOfSpec : ChangeSpec := { name := "fnExactPendingOf", fn := fun _ => fun
  | [d] => { results := [.lit (.bool true)], args := [d] }
  | _ => none }
def fnExactPendingOfRow : OpenClaim := { program := "ytlmpfcdajmngfaa", sum := "99ffc7b2cb3ca60ec692b4ab835deb59468d952de326fdb01e5c87b0dc43d34b", func := "loop.example/g00710/laws.FnExactPendingOf", spec := "fnExactPendingOf", inPlace := ["slices.overlaps[loop.example/g00710/impl.Flow]"], unfollowed := true, recurses := true, apart := false }
def FnExactPendingOfSaid : Prop := fnExactPendingOfRow.holds Try.pinned (OpenSpec.ofChange fnExactPendingOfSpec)

/-- ITS FALSE NEIGHBOUR: 'it returns false'. Refute it at one input. -/
def fnExactPendingOfWrong : ChangeSpec := { name := "fnExactPendingOf", fn := fun _ => fun
  | [d] => { results := [.lit (.bool false)], args := [d] }
  | _ => none }
def FnExactPendingOfWrongFalsely : Prop := fnExactPendingOfRow.holds Try.pinned (OpenSpec.ofChange fnExactPendingOfWrong)

/-- 'laws.FnSynced': WHATEVER THE INPUT: true; the input reads as it did. -/
def fnSyncedSpec : ChangeSpec := { name := "fnSynced", fn := fun _ => fun
  | [d] => { results := [.lit (.bool true)], args := [d] }
  | _ => none }
def fnSyncedRow : OpenClaim := { program := "ytlmpfcdajmngfaa", sum := "99ffc7b2cb3ca60ec692b4ab835deb59468d952de326fdb01e5c87b0dc43d34b", func := "loop.example/g00710/laws.FnSynced", spec := "fnSynced", apart := false }
def FnSyncedSaid : Prop := fnSyncedRow.holds Try.pinned (OpenSpec.ofChange fnSyncedSpec)

/-- ITS FALSE NEIGHBOUR: 'it returns false'. Refute it at one input. -/
def fnSyncedWrong : ChangeSpec := { name := "fnSynced", fn := fun _ => fun
  | [d] => { results := [.lit (.bool false)], args := [d] }
  | _ => none }
def FnSyncedWrongFalsely : Prop := fnSyncedRow.holds Try.pinned (OpenSpec.ofChange fnSyncedWrong)

/-- 'laws.FnDivisionTrue': WHATEVER THE INPUT: true; the input reads as it did. -/
def fnDivisionTrueSpec : ChangeSpec := { name := "fnDivisionTrue", fn := fun _ => fun
  | [d] => { results := [.lit (.bool true)], args := [d] }
  | _ => none }
def fnDivisionTrueRow : OpenClaim := { program := "ytlmpfcdajmngfaa", sum := "99ffc7b2cb3ca60ec692b4ab835deb59468d952de326fdb01e5c87b0dc43d34b", func := "loop.example/g00710/laws.FnDivisionTrue", spec := "fnDivisionTrue", apart := false }
def FnDivisionTrueSaid : Prop := fnDivisionTrueRow.holds Try.pinned (OpenSpec.ofChange fnDivisionTrueSpec)

/-- ITS FALSE NEIGHBOUR: 'it returns false'. Refute it at one input. -/
def fnDivisionTrueWrong : ChangeSpec := { name := "fnDivisionTrue", fn := fun _ => fun
  | [d] => { results := [.lit (.bool false)], args := [d] }
  | _ => none }
def FnDivisionTrueWrongFalsely : Prop := fnDivisionTrueRow.holds Try.pinned (OpenSpec.ofChange fnDivisionTrueWrong)

/- THE SECOND FORM. 'bulk': how many values and letters a reading holds, each counted each time it is reached (what is shared counts as often as it is met; a slice's spare places count too). A statement '..UptoSaid' is the law's where the arguments, and the package variables that the reading takes, are together of bulk at most 1048576: NARROWER than '..Said'. Prove '..Said' where nothing that the law and all that it calls make is longer than what came in: it says more and counts as full. Else prove '..UptoSaid'. A law counts once. -/
mutual
def uptoBulk {H : Type} : DataW H → Nat
  | .lit (.string bytes) => bytes.length + 1
  | .lit _ => 1
  | .nil => 1
  | .ptr d => uptoBulk d + 1
  | .slice elems spare => uptoBulkAll elems + uptoBulkAll spare + 1
  | .agg parts => uptoBulkAll parts + 1
  | .iface _ d => uptoBulk d + 1
  | .map entries => uptoBulkEntries entries + 1
  | .held _ => 1
def uptoBulkAll {H : Type} : List (DataW H) → Nat
  | [] => 0
  | d :: r => uptoBulk d + uptoBulkAll r
def uptoBulkEntries {H : Type} : List (Lit × DataW H) → Nat
  | [] => 0
  | x :: r => uptoBulkEntry x + uptoBulkEntries r
def uptoBulkEntry {H : Type} : Lit × DataW H → Nat
  | (.string bytes, d) => bytes.length + uptoBulk d + 1
  | (_, d) => uptoBulk d + 1
 end
def uptoSmall : (H : Type) → List (DataW H) → Bool := fun _ ds => decide (uptoBulkAll ds ≤ 1048576)
def OpenSpec.upto (s : _root_.Go.ChangeSpec) : _root_.Go.OpenSpec := { _root_.Go.OpenSpec.ofChange s with cond := some uptoSmall }

/-- 'laws.FnExactNextId', WHERE WHAT IT READS IS OF BULK AT MOST 1048576: true; the input reads as it did. -/
def fnExactNextIdUptoRow : OpenClaim := { program := "ytlmpfcdajmngfaa", sum := "99ffc7b2cb3ca60ec692b4ab835deb59468d952de326fdb01e5c87b0dc43d34b", func := "loop.example/g00710/laws.FnExactNextId", spec := "fnExactNextId", inPlace := ["slices.overlaps[loop.example/g00710/impl.Flow]"], unfollowed := true, recurses := true, apart := false, narrowed := true }
def FnExactNextIdUptoSaid : Prop := fnExactNextIdUptoRow.holds Try.pinned (OpenSpec.upto fnExactNextIdSpec)

/-- 'laws.FnExactReplayRing', WHERE WHAT IT READS IS OF BULK AT MOST 1048576: true; the input reads as it did. -/
def fnExactReplayRingUptoRow : OpenClaim := { program := "ytlmpfcdajmngfaa", sum := "99ffc7b2cb3ca60ec692b4ab835deb59468d952de326fdb01e5c87b0dc43d34b", func := "loop.example/g00710/laws.FnExactReplayRing", spec := "fnExactReplayRing", inPlace := ["slices.overlaps[loop.example/g00710/impl.Flow]"], unfollowed := true, recurses := true, apart := false, narrowed := true }
def FnExactReplayRingUptoSaid : Prop := fnExactReplayRingUptoRow.holds Try.pinned (OpenSpec.upto fnExactReplayRingSpec)

/-- 'laws.FnExactCompactLog', WHERE WHAT IT READS IS OF BULK AT MOST 1048576: true; the input reads as it did. -/
def fnExactCompactLogUptoRow : OpenClaim := { program := "ytlmpfcdajmngfaa", sum := "99ffc7b2cb3ca60ec692b4ab835deb59468d952de326fdb01e5c87b0dc43d34b", func := "loop.example/g00710/laws.FnExactCompactLog", spec := "fnExactCompactLog", inPlace := ["slices.overlaps[loop.example/g00710/impl.Flow]"], unfollowed := true, recurses := true, apart := false, narrowed := true }
def FnExactCompactLogUptoSaid : Prop := fnExactCompactLogUptoRow.holds Try.pinned (OpenSpec.upto fnExactCompactLogSpec)

/-- 'laws.FnExactPendingOf', WHERE WHAT IT READS IS OF BULK AT MOST 1048576: true; the input reads as it did. -/
def fnExactPendingOfUptoRow : OpenClaim := { program := "ytlmpfcdajmngfaa", sum := "99ffc7b2cb3ca60ec692b4ab835deb59468d952de326fdb01e5c87b0dc43d34b", func := "loop.example/g00710/laws.FnExactPendingOf", spec := "fnExactPendingOf", inPlace := ["slices.overlaps[loop.example/g00710/impl.Flow]"], unfollowed := true, recurses := true, apart := false, narrowed := true }
def FnExactPendingOfUptoSaid : Prop := fnExactPendingOfUptoRow.holds Try.pinned (OpenSpec.upto fnExactPendingOfSpec)

/-- 'laws.FnSynced', WHERE WHAT IT READS IS OF BULK AT MOST 1048576: true; the input reads as it did. -/
def fnSyncedUptoRow : OpenClaim := { program := "ytlmpfcdajmngfaa", sum := "99ffc7b2cb3ca60ec692b4ab835deb59468d952de326fdb01e5c87b0dc43d34b", func := "loop.example/g00710/laws.FnSynced", spec := "fnSynced", apart := false, narrowed := true }
def FnSyncedUptoSaid : Prop := fnSyncedUptoRow.holds Try.pinned (OpenSpec.upto fnSyncedSpec)

/-- 'laws.FnDivisionTrue', WHERE WHAT IT READS IS OF BULK AT MOST 1048576: true; the input reads as it did. -/
def fnDivisionTrueUptoRow : OpenClaim := { program := "ytlmpfcdajmngfaa", sum := "99ffc7b2cb3ca60ec692b4ab835deb59468d952de326fdb01e5c87b0dc43d34b", func := "loop.example/g00710/laws.FnDivisionTrue", spec := "fnDivisionTrue", apart := false, narrowed := true }
def FnDivisionTrueUptoSaid : Prop := fnDivisionTrueUptoRow.holds Try.pinned (OpenSpec.upto fnDivisionTrueSpec)

end Rows
end Go.Proofs.Ytlmpfcdajmngfaa
