/-
  No cell of these rows narrows 'for every input' (looked for: loops, veiled, ifaces, maps, wideKeys, modest, calm, conditions, laid).
  DERIVED. THE GIVEN ROWS OF THIS SEAT. 5 by the template 'for every input the law returns true; each argument reads behind the call as it read before'; 0 by the template 'total and deterministic' (their statements: YtcbeaccdcbhmeaaGreatTotals.lean).
  GIVEN WITH THE SEED: the statements are not yours to turn. If you find one false, say at which input.
  Laid BY PROGRAM, IN A SANDBOX (cutbox-rows.mjs): the forced cells as the released guide's own fill.sh prints them over the translation 460882fc3e4aa01d… (all of the seat's roots in one cut). By AI agents, Wed Nov 11 2026. No macro, syntax, notation, axiom, sorry.
-/
import Derived.Test.YtcbeaccdcbhmeaaGreatChecked
import GoSem.Claim
import GoSem.ClaimJoined
import GoSem.ClaimMapViews
import Derived.JoinedTies
import Derived.KernelRfl
namespace Go.Proofs.YtcbeaccdcbhmeaaGreat
/- THE CELL 'sum', in the pinned program and in every row, IS THE sha256 OF THE DUMP (.gsa) THAT YtcbeaccdcbhmeaaGreatProg.lean LOADS. Nothing in Lean hashes anything: it is a label: what it is worth is what the hold of that sum in a sandbox is worth. -/
noncomputable def Tryz.pinned : Pinned := { name := "ytcbeaccdcbhmeaagreat", sum := "460882fc3e4aa01d02d3042ad534441e5a536406cabe4e500417c76238baf6a7", checked := Tryz.checked }
namespace Rows
def none {H : Type} : Left H := { results := [], args := [] }

/-- 'laws.FnExactCheckResult': WHATEVER THE INPUT: true; the input reads as it did. -/
def fnExactCheckResultSpec : ChangeSpec := { name := "fnExactCheckResult", fn := fun _ => fun
  | [d1, d2] => { results := [.lit (.bool true)], args := [d1, d2] }
  | _ => none }
def fnExactCheckResultRow : OpenClaim := { program := "ytcbeaccdcbhmeaagreat", sum := "460882fc3e4aa01d02d3042ad534441e5a536406cabe4e500417c76238baf6a7", func := "loop.example/g00710/laws.FnExactCheckResult", spec := "fnExactCheckResult", apart := false }
def FnExactCheckResultSaid : Prop := fnExactCheckResultRow.holds Tryz.pinned (OpenSpec.ofChange fnExactCheckResultSpec)

/-- ITS FALSE NEIGHBOUR: 'it returns false'. Refute it at one input. -/
def fnExactCheckResultWrong : ChangeSpec := { name := "fnExactCheckResult", fn := fun _ => fun
  | [d1, d2] => { results := [.lit (.bool false)], args := [d1, d2] }
  | _ => none }
def FnExactCheckResultWrongFalsely : Prop := fnExactCheckResultRow.holds Tryz.pinned (OpenSpec.ofChange fnExactCheckResultWrong)

/-- 'laws.FnExactRecovered': WHATEVER THE INPUT: true; the input reads as it did. -/
def fnExactRecoveredSpec : ChangeSpec := { name := "fnExactRecovered", fn := fun _ => fun
  | [d] => { results := [.lit (.bool true)], args := [d] }
  | _ => none }
def fnExactRecoveredRow : OpenClaim := { program := "ytcbeaccdcbhmeaagreat", sum := "460882fc3e4aa01d02d3042ad534441e5a536406cabe4e500417c76238baf6a7", func := "loop.example/g00710/laws.FnExactRecovered", spec := "fnExactRecovered", inPlace := ["slices.overlaps[loop.example/g00710/impl.Flow]"], unfollowed := true, recurses := true, apart := false }
def FnExactRecoveredSaid : Prop := fnExactRecoveredRow.holds Tryz.pinned (OpenSpec.ofChange fnExactRecoveredSpec)

/-- ITS FALSE NEIGHBOUR: 'it returns false'. Refute it at one input. -/
def fnExactRecoveredWrong : ChangeSpec := { name := "fnExactRecovered", fn := fun _ => fun
  | [d] => { results := [.lit (.bool false)], args := [d] }
  | _ => none }
def FnExactRecoveredWrongFalsely : Prop := fnExactRecoveredRow.holds Tryz.pinned (OpenSpec.ofChange fnExactRecoveredWrong)

/-- 'laws.FnExactCheckBatch': WHATEVER THE INPUT: true; the input reads as it did. -/
def fnExactCheckBatchSpec : ChangeSpec := { name := "fnExactCheckBatch", fn := fun _ => fun
  | [d1, d2] => { results := [.lit (.bool true)], args := [d1, d2] }
  | _ => none }
def fnExactCheckBatchRow : OpenClaim := { program := "ytcbeaccdcbhmeaagreat", sum := "460882fc3e4aa01d02d3042ad534441e5a536406cabe4e500417c76238baf6a7", func := "loop.example/g00710/laws.FnExactCheckBatch", spec := "fnExactCheckBatch", apart := false }
def FnExactCheckBatchSaid : Prop := fnExactCheckBatchRow.holds Tryz.pinned (OpenSpec.ofChange fnExactCheckBatchSpec)

/-- ITS FALSE NEIGHBOUR: 'it returns false'. Refute it at one input. -/
def fnExactCheckBatchWrong : ChangeSpec := { name := "fnExactCheckBatch", fn := fun _ => fun
  | [d1, d2] => { results := [.lit (.bool false)], args := [d1, d2] }
  | _ => none }
def FnExactCheckBatchWrongFalsely : Prop := fnExactCheckBatchRow.holds Tryz.pinned (OpenSpec.ofChange fnExactCheckBatchWrong)

/-- 'laws.FnExactRunAll': WHATEVER THE INPUT: true; the input reads as it did. -/
def fnExactRunAllSpec : ChangeSpec := { name := "fnExactRunAll", fn := fun _ => fun
  | [d1, d2] => { results := [.lit (.bool true)], args := [d1, d2] }
  | _ => none }
def fnExactRunAllRow : OpenClaim := { program := "ytcbeaccdcbhmeaagreat", sum := "460882fc3e4aa01d02d3042ad534441e5a536406cabe4e500417c76238baf6a7", func := "loop.example/g00710/laws.FnExactRunAll", spec := "fnExactRunAll", inPlace := ["slices.overlaps[loop.example/g00710/impl.Entry]"], unfollowed := true, recurses := true, apart := false }
def FnExactRunAllSaid : Prop := fnExactRunAllRow.holds Tryz.pinned (OpenSpec.ofChange fnExactRunAllSpec)

/-- ITS FALSE NEIGHBOUR: 'it returns false'. Refute it at one input. -/
def fnExactRunAllWrong : ChangeSpec := { name := "fnExactRunAll", fn := fun _ => fun
  | [d1, d2] => { results := [.lit (.bool false)], args := [d1, d2] }
  | _ => none }
def FnExactRunAllWrongFalsely : Prop := fnExactRunAllRow.holds Tryz.pinned (OpenSpec.ofChange fnExactRunAllWrong)

/-- 'laws.FnCacheHonest': WHATEVER THE INPUT: true; the input reads as it did. -/
def fnCacheHonestSpec : ChangeSpec := { name := "fnCacheHonest", fn := fun _ => fun
  | [d] => { results := [.lit (.bool true)], args := [d] }
  | _ => none }
def fnCacheHonestRow : OpenClaim := { program := "ytcbeaccdcbhmeaagreat", sum := "460882fc3e4aa01d02d3042ad534441e5a536406cabe4e500417c76238baf6a7", func := "loop.example/g00710/laws.FnCacheHonest", spec := "fnCacheHonest", inPlace := ["slices.overlaps[loop.example/g00710/impl.Entry]"], unfollowed := true, recurses := true, apart := false }
def FnCacheHonestSaid : Prop := fnCacheHonestRow.holds Tryz.pinned (OpenSpec.ofChange fnCacheHonestSpec)

/-- ITS FALSE NEIGHBOUR: 'it returns false'. Refute it at one input. -/
def fnCacheHonestWrong : ChangeSpec := { name := "fnCacheHonest", fn := fun _ => fun
  | [d] => { results := [.lit (.bool false)], args := [d] }
  | _ => none }
def FnCacheHonestWrongFalsely : Prop := fnCacheHonestRow.holds Tryz.pinned (OpenSpec.ofChange fnCacheHonestWrong)

/- THE SECOND FORM. 'bulk': how many values and letters a reading holds, each counted each time it is reached (what is shared counts as often as it is met; a slice's spare places count too). A statement '..UptoSaid' is the law's where the arguments, and the package variables that the reading takes, are together of bulk at most 1048576: NARROWER than '..Said'. Prove '..Said' where nothing that the law and all that it calls make is longer than what came in: it says more and counts as full. Else prove '..UptoSaid'. A law counts once. -/
mutual
def uptoBulk {H : Type} : DataW H → Nat
  | .lit (.string bytes) => bytes.length + 1
  | .lit _ => 1
  | .nil => 1
  | .ptr d => uptoBulk d + 1
  | .slice elems spare => uptoBulkAll elems + uptoBulkAll spare + 1
  | .agg parts => uptoBulkAll parts + 1
  | .iface _ d => uptoBulk d + 1
  | .map entries => uptoBulkEntries entries + 1
  | .held _ => 1
def uptoBulkAll {H : Type} : List (DataW H) → Nat
  | [] => 0
  | d :: r => uptoBulk d + uptoBulkAll r
def uptoBulkEntries {H : Type} : List (Lit × DataW H) → Nat
  | [] => 0
  | x :: r => uptoBulkEntry x + uptoBulkEntries r
def uptoBulkEntry {H : Type} : Lit × DataW H → Nat
  | (.string bytes, d) => bytes.length + uptoBulk d + 1
  | (_, d) => uptoBulk d + 1
 end
def uptoSmall : (H : Type) → List (DataW H) → Bool := fun _ ds => decide (uptoBulkAll ds ≤ 1048576)
def OpenSpec.upto (s : _root_.Go.ChangeSpec) : _root_.Go.OpenSpec := { _root_.Go.OpenSpec.ofChange s with cond := some uptoSmall }

/-- 'laws.FnExactCheckResult', WHERE WHAT IT READS IS OF BULK AT MOST 1048576: true; the input reads as it did. -/
def fnExactCheckResultUptoRow : OpenClaim := { program := "ytcbeaccdcbhmeaagreat", sum := "460882fc3e4aa01d02d3042ad534441e5a536406cabe4e500417c76238baf6a7", func := "loop.example/g00710/laws.FnExactCheckResult", spec := "fnExactCheckResult", apart := false, narrowed := true }
def FnExactCheckResultUptoSaid : Prop := fnExactCheckResultUptoRow.holds Tryz.pinned (OpenSpec.upto fnExactCheckResultSpec)

/-- 'laws.FnExactRecovered', WHERE WHAT IT READS IS OF BULK AT MOST 1048576: true; the input reads as it did. -/
def fnExactRecoveredUptoRow : OpenClaim := { program := "ytcbeaccdcbhmeaagreat", sum := "460882fc3e4aa01d02d3042ad534441e5a536406cabe4e500417c76238baf6a7", func := "loop.example/g00710/laws.FnExactRecovered", spec := "fnExactRecovered", inPlace := ["slices.overlaps[loop.example/g00710/impl.Flow]"], unfollowed := true, recurses := true, apart := false, narrowed := true }
def FnExactRecoveredUptoSaid : Prop := fnExactRecoveredUptoRow.holds Tryz.pinned (OpenSpec.upto fnExactRecoveredSpec)

/-- 'laws.FnExactCheckBatch', WHERE WHAT IT READS IS OF BULK AT MOST 1048576: true; the input reads as it did. -/
def fnExactCheckBatchUptoRow : OpenClaim := { program := "ytcbeaccdcbhmeaagreat", sum := "460882fc3e4aa01d02d3042ad534441e5a536406cabe4e500417c76238baf6a7", func := "loop.example/g00710/laws.FnExactCheckBatch", spec := "fnExactCheckBatch", apart := false, narrowed := true }
def FnExactCheckBatchUptoSaid : Prop := fnExactCheckBatchUptoRow.holds Tryz.pinned (OpenSpec.upto fnExactCheckBatchSpec)

/-- 'laws.FnExactRunAll', WHERE WHAT IT READS IS OF BULK AT MOST 1048576: true; the input reads as it did. -/
def fnExactRunAllUptoRow : OpenClaim := { program := "ytcbeaccdcbhmeaagreat", sum := "460882fc3e4aa01d02d3042ad534441e5a536406cabe4e500417c76238baf6a7", func := "loop.example/g00710/laws.FnExactRunAll", spec := "fnExactRunAll", inPlace := ["slices.overlaps[loop.example/g00710/impl.Entry]"], unfollowed := true, recurses := true, apart := false, narrowed := true }
def FnExactRunAllUptoSaid : Prop := fnExactRunAllUptoRow.holds Tryz.pinned (OpenSpec.upto fnExactRunAllSpec)

/-- 'laws.FnCacheHonest', WHERE WHAT IT READS IS OF BULK AT MOST 1048576: true; the input reads as it did. -/
def fnCacheHonestUptoRow : OpenClaim := { program := "ytcbeaccdcbhmeaagreat", sum := "460882fc3e4aa01d02d3042ad534441e5a536406cabe4e500417c76238baf6a7", func := "loop.example/g00710/laws.FnCacheHonest", spec := "fnCacheHonest", inPlace := ["slices.overlaps[loop.example/g00710/impl.Entry]"], unfollowed := true, recurses := true, apart := false, narrowed := true }
def FnCacheHonestUptoSaid : Prop := fnCacheHonestUptoRow.holds Tryz.pinned (OpenSpec.upto fnCacheHonestSpec)

end Rows
end Go.Proofs.YtcbeaccdcbhmeaaGreat
