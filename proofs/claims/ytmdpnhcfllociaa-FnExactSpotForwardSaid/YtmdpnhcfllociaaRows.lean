/-
  No cell of these rows narrows 'for every input' (looked for: loops, veiled, ifaces, maps, wideKeys, modest, calm, conditions, laid).
  DERIVED. THE GIVEN ROWS OF THIS SEAT. 12 by the template 'for every input the law returns true; each argument reads behind the call as it read before'; 0 by the template 'total and deterministic' (their statements: YtmdpnhcfllociaaTotals.lean).
  GIVEN WITH THE SEED: the statements are not yours to turn. If you find one false, say at which input.
  Laid BY PROGRAM, IN A SANDBOX (cutbox-rows.mjs): the forced cells as the released guide's own fill.sh prints them over the translation 33bf0015fe7c6ba1… (all of the seat's roots in one cut). By AI agents, Wed Nov 11 2026. No macro, syntax, notation, axiom, sorry.
-/
import Derived.Test.YtmdpnhcfllociaaChecked
import GoSem.Claim
import GoSem.ClaimJoined
import GoSem.ClaimMapViews
import Derived.JoinedTies
import Derived.KernelRfl
namespace Go.Proofs.Ytmdpnhcfllociaa
/- THE CELL 'sum', in the pinned program and in every row, IS THE sha256 OF THE DUMP (.gsa) THAT YtmdpnhcfllociaaProg.lean LOADS. Nothing in Lean hashes anything: it is a label: what it is worth is what the hold of that sum in a sandbox is worth. -/
noncomputable def Try.pinned : Pinned := { name := "ytmdpnhcfllociaa", sum := "33bf0015fe7c6ba1f8f53c0417b676ce2d7f60872ee62cf516ca00b709155d72", checked := Try.checked }
namespace Rows
def none {H : Type} : Left H := { results := [], args := [] }

/-- 'laws.FnExactPrice': WHATEVER THE INPUT: true; the input reads as it did. -/
def fnExactPriceSpec : ChangeSpec := { name := "fnExactPrice", fn := fun _ => fun
  | [d1, d2] => { results := [.lit (.bool true)], args := [d1, d2] }
  | _ => none }
def fnExactPriceRow : OpenClaim := { program := "ytmdpnhcfllociaa", sum := "33bf0015fe7c6ba1f8f53c0417b676ce2d7f60872ee62cf516ca00b709155d72", func := "loop.example/g00710/laws.FnExactPrice", spec := "fnExactPrice", apart := false }
def FnExactPriceSaid : Prop := fnExactPriceRow.holds Try.pinned (OpenSpec.ofChange fnExactPriceSpec)

/-- ITS FALSE NEIGHBOUR: 'it returns false'. Refute it at one input. -/
def fnExactPriceWrong : ChangeSpec := { name := "fnExactPrice", fn := fun _ => fun
  | [d1, d2] => { results := [.lit (.bool false)], args := [d1, d2] }
  | _ => none }
def FnExactPriceWrongFalsely : Prop := fnExactPriceRow.holds Try.pinned (OpenSpec.ofChange fnExactPriceWrong)

/-- 'laws.FnExactJainIndex': WHATEVER THE INPUT: true; the input reads as it did. -/
def fnExactJainIndexSpec : ChangeSpec := { name := "fnExactJainIndex", fn := fun _ => fun
  | [d] => { results := [.lit (.bool true)], args := [d] }
  | _ => none }
def fnExactJainIndexRow : OpenClaim := { program := "ytmdpnhcfllociaa", sum := "33bf0015fe7c6ba1f8f53c0417b676ce2d7f60872ee62cf516ca00b709155d72", func := "loop.example/g00710/laws.FnExactJainIndex", spec := "fnExactJainIndex", apart := false }
def FnExactJainIndexSaid : Prop := fnExactJainIndexRow.holds Try.pinned (OpenSpec.ofChange fnExactJainIndexSpec)

/-- ITS FALSE NEIGHBOUR: 'it returns false'. Refute it at one input. -/
def fnExactJainIndexWrong : ChangeSpec := { name := "fnExactJainIndex", fn := fun _ => fun
  | [d] => { results := [.lit (.bool false)], args := [d] }
  | _ => none }
def FnExactJainIndexWrongFalsely : Prop := fnExactJainIndexRow.holds Try.pinned (OpenSpec.ofChange fnExactJainIndexWrong)

/-- 'laws.FnExactDiskOk': WHATEVER THE INPUT: true; the input reads as it did. -/
def fnExactDiskOkSpec : ChangeSpec := { name := "fnExactDiskOk", fn := fun _ => fun
  | [d] => { results := [.lit (.bool true)], args := [d] }
  | _ => none }
def fnExactDiskOkRow : OpenClaim := { program := "ytmdpnhcfllociaa", sum := "33bf0015fe7c6ba1f8f53c0417b676ce2d7f60872ee62cf516ca00b709155d72", func := "loop.example/g00710/laws.FnExactDiskOk", spec := "fnExactDiskOk", apart := false }
def FnExactDiskOkSaid : Prop := fnExactDiskOkRow.holds Try.pinned (OpenSpec.ofChange fnExactDiskOkSpec)

/-- ITS FALSE NEIGHBOUR: 'it returns false'. Refute it at one input. -/
def fnExactDiskOkWrong : ChangeSpec := { name := "fnExactDiskOk", fn := fun _ => fun
  | [d] => { results := [.lit (.bool false)], args := [d] }
  | _ => none }
def FnExactDiskOkWrongFalsely : Prop := fnExactDiskOkRow.holds Try.pinned (OpenSpec.ofChange fnExactDiskOkWrong)

/-- 'laws.FnExactTotalUnits': WHATEVER THE INPUT: true; the input reads as it did. -/
def fnExactTotalUnitsSpec : ChangeSpec := { name := "fnExactTotalUnits", fn := fun _ => fun
  | [d] => { results := [.lit (.bool true)], args := [d] }
  | _ => none }
def fnExactTotalUnitsRow : OpenClaim := { program := "ytmdpnhcfllociaa", sum := "33bf0015fe7c6ba1f8f53c0417b676ce2d7f60872ee62cf516ca00b709155d72", func := "loop.example/g00710/laws.FnExactTotalUnits", spec := "fnExactTotalUnits", apart := false }
def FnExactTotalUnitsSaid : Prop := fnExactTotalUnitsRow.holds Try.pinned (OpenSpec.ofChange fnExactTotalUnitsSpec)

/-- ITS FALSE NEIGHBOUR: 'it returns false'. Refute it at one input. -/
def fnExactTotalUnitsWrong : ChangeSpec := { name := "fnExactTotalUnits", fn := fun _ => fun
  | [d] => { results := [.lit (.bool false)], args := [d] }
  | _ => none }
def FnExactTotalUnitsWrongFalsely : Prop := fnExactTotalUnitsRow.holds Try.pinned (OpenSpec.ofChange fnExactTotalUnitsWrong)

/-- 'laws.FnJain': WHATEVER THE INPUT: true; the input reads as it did. -/
def fnJainSpec : ChangeSpec := { name := "fnJain", fn := fun _ => fun
  | [d] => { results := [.lit (.bool true)], args := [d] }
  | _ => none }
def fnJainRow : OpenClaim := { program := "ytmdpnhcfllociaa", sum := "33bf0015fe7c6ba1f8f53c0417b676ce2d7f60872ee62cf516ca00b709155d72", func := "loop.example/g00710/laws.FnJain", spec := "fnJain", apart := false }
def FnJainSaid : Prop := fnJainRow.holds Try.pinned (OpenSpec.ofChange fnJainSpec)

/-- ITS FALSE NEIGHBOUR: 'it returns false'. Refute it at one input. -/
def fnJainWrong : ChangeSpec := { name := "fnJain", fn := fun _ => fun
  | [d] => { results := [.lit (.bool false)], args := [d] }
  | _ => none }
def FnJainWrongFalsely : Prop := fnJainRow.holds Try.pinned (OpenSpec.ofChange fnJainWrong)

/-- 'laws.FnExactSyncDisk': WHATEVER THE INPUT: true; the input reads as it did. -/
def fnExactSyncDiskSpec : ChangeSpec := { name := "fnExactSyncDisk", fn := fun _ => fun
  | [d] => { results := [.lit (.bool true)], args := [d] }
  | _ => none }
def fnExactSyncDiskRow : OpenClaim := { program := "ytmdpnhcfllociaa", sum := "33bf0015fe7c6ba1f8f53c0417b676ce2d7f60872ee62cf516ca00b709155d72", func := "loop.example/g00710/laws.FnExactSyncDisk", spec := "fnExactSyncDisk", apart := false }
def FnExactSyncDiskSaid : Prop := fnExactSyncDiskRow.holds Try.pinned (OpenSpec.ofChange fnExactSyncDiskSpec)

/-- ITS FALSE NEIGHBOUR: 'it returns false'. Refute it at one input. -/
def fnExactSyncDiskWrong : ChangeSpec := { name := "fnExactSyncDisk", fn := fun _ => fun
  | [d] => { results := [.lit (.bool false)], args := [d] }
  | _ => none }
def FnExactSyncDiskWrongFalsely : Prop := fnExactSyncDiskRow.holds Try.pinned (OpenSpec.ofChange fnExactSyncDiskWrong)

/-- 'laws.FnExactCrashDisk': WHATEVER THE INPUT: true; the input reads as it did. -/
def fnExactCrashDiskSpec : ChangeSpec := { name := "fnExactCrashDisk", fn := fun _ => fun
  | [d1, d2] => { results := [.lit (.bool true)], args := [d1, d2] }
  | _ => none }
def fnExactCrashDiskRow : OpenClaim := { program := "ytmdpnhcfllociaa", sum := "33bf0015fe7c6ba1f8f53c0417b676ce2d7f60872ee62cf516ca00b709155d72", func := "loop.example/g00710/laws.FnExactCrashDisk", spec := "fnExactCrashDisk", apart := false }
def FnExactCrashDiskSaid : Prop := fnExactCrashDiskRow.holds Try.pinned (OpenSpec.ofChange fnExactCrashDiskSpec)

/-- ITS FALSE NEIGHBOUR: 'it returns false'. Refute it at one input. -/
def fnExactCrashDiskWrong : ChangeSpec := { name := "fnExactCrashDisk", fn := fun _ => fun
  | [d1, d2] => { results := [.lit (.bool false)], args := [d1, d2] }
  | _ => none }
def FnExactCrashDiskWrongFalsely : Prop := fnExactCrashDiskRow.holds Try.pinned (OpenSpec.ofChange fnExactCrashDiskWrong)

/-- 'laws.FnExactCheckSeries': WHATEVER THE INPUT: true; the input reads as it did. -/
def fnExactCheckSeriesSpec : ChangeSpec := { name := "fnExactCheckSeries", fn := fun _ => fun
  | [d1, d2, d3] => { results := [.lit (.bool true)], args := [d1, d2, d3] }
  | _ => none }
def fnExactCheckSeriesRow : OpenClaim := { program := "ytmdpnhcfllociaa", sum := "33bf0015fe7c6ba1f8f53c0417b676ce2d7f60872ee62cf516ca00b709155d72", func := "loop.example/g00710/laws.FnExactCheckSeries", spec := "fnExactCheckSeries", apart := false }
def FnExactCheckSeriesSaid : Prop := fnExactCheckSeriesRow.holds Try.pinned (OpenSpec.ofChange fnExactCheckSeriesSpec)

/-- ITS FALSE NEIGHBOUR: 'it returns false'. Refute it at one input. -/
def fnExactCheckSeriesWrong : ChangeSpec := { name := "fnExactCheckSeries", fn := fun _ => fun
  | [d1, d2, d3] => { results := [.lit (.bool false)], args := [d1, d2, d3] }
  | _ => none }
def FnExactCheckSeriesWrongFalsely : Prop := fnExactCheckSeriesRow.holds Try.pinned (OpenSpec.ofChange fnExactCheckSeriesWrong)

/-- 'laws.FnExactSplitCents': WHATEVER THE INPUT: true; the input reads as it did. -/
def fnExactSplitCentsSpec : ChangeSpec := { name := "fnExactSplitCents", fn := fun _ => fun
  | [d1, d2] => { results := [.lit (.bool true)], args := [d1, d2] }
  | _ => none }
def fnExactSplitCentsRow : OpenClaim := { program := "ytmdpnhcfllociaa", sum := "33bf0015fe7c6ba1f8f53c0417b676ce2d7f60872ee62cf516ca00b709155d72", func := "loop.example/g00710/laws.FnExactSplitCents", spec := "fnExactSplitCents", unfollowed := true, recurses := true, apart := false }
def FnExactSplitCentsSaid : Prop := fnExactSplitCentsRow.holds Try.pinned (OpenSpec.ofChange fnExactSplitCentsSpec)

/-- ITS FALSE NEIGHBOUR: 'it returns false'. Refute it at one input. -/
def fnExactSplitCentsWrong : ChangeSpec := { name := "fnExactSplitCents", fn := fun _ => fun
  | [d1, d2] => { results := [.lit (.bool false)], args := [d1, d2] }
  | _ => none }
def FnExactSplitCentsWrongFalsely : Prop := fnExactSplitCentsRow.holds Try.pinned (OpenSpec.ofChange fnExactSplitCentsWrong)

/-- 'laws.FnExactCheckDivision': WHATEVER THE INPUT: true; the input reads as it did. -/
def fnExactCheckDivisionSpec : ChangeSpec := { name := "fnExactCheckDivision", fn := fun _ => fun
  | [d1, d2, d3, d4, d5] => { results := [.lit (.bool true)], args := [d1, d2, d3, d4, d5] }
  | _ => none }
def fnExactCheckDivisionRow : OpenClaim := { program := "ytmdpnhcfllociaa", sum := "33bf0015fe7c6ba1f8f53c0417b676ce2d7f60872ee62cf516ca00b709155d72", func := "loop.example/g00710/laws.FnExactCheckDivision", spec := "fnExactCheckDivision", apart := false }
def FnExactCheckDivisionSaid : Prop := fnExactCheckDivisionRow.holds Try.pinned (OpenSpec.ofChange fnExactCheckDivisionSpec)

/-- ITS FALSE NEIGHBOUR: 'it returns false'. Refute it at one input. -/
def fnExactCheckDivisionWrong : ChangeSpec := { name := "fnExactCheckDivision", fn := fun _ => fun
  | [d1, d2, d3, d4, d5] => { results := [.lit (.bool false)], args := [d1, d2, d3, d4, d5] }
  | _ => none }
def FnExactCheckDivisionWrongFalsely : Prop := fnExactCheckDivisionRow.holds Try.pinned (OpenSpec.ofChange fnExactCheckDivisionWrong)

/-- 'laws.FnShares': WHATEVER THE INPUT: true; the input reads as it did. -/
def fnSharesSpec : ChangeSpec := { name := "fnShares", fn := fun _ => fun
  | [d] => { results := [.lit (.bool true)], args := [d] }
  | _ => none }
def fnSharesRow : OpenClaim := { program := "ytmdpnhcfllociaa", sum := "33bf0015fe7c6ba1f8f53c0417b676ce2d7f60872ee62cf516ca00b709155d72", func := "loop.example/g00710/laws.FnShares", spec := "fnShares", unfollowed := true, recurses := true, apart := false }
def FnSharesSaid : Prop := fnSharesRow.holds Try.pinned (OpenSpec.ofChange fnSharesSpec)

/-- ITS FALSE NEIGHBOUR: 'it returns false'. Refute it at one input. -/
def fnSharesWrong : ChangeSpec := { name := "fnShares", fn := fun _ => fun
  | [d] => { results := [.lit (.bool false)], args := [d] }
  | _ => none }
def FnSharesWrongFalsely : Prop := fnSharesRow.holds Try.pinned (OpenSpec.ofChange fnSharesWrong)

/-- 'laws.FnExactSpotForward': WHATEVER THE INPUT: true; the input reads as it did. -/
def fnExactSpotForwardSpec : ChangeSpec := { name := "fnExactSpotForward", fn := fun _ => fun
  | [d1, d2, d3, d4] => { results := [.lit (.bool true)], args := [d1, d2, d3, d4] }
  | _ => none }
def fnExactSpotForwardRow : OpenClaim := { program := "ytmdpnhcfllociaa", sum := "33bf0015fe7c6ba1f8f53c0417b676ce2d7f60872ee62cf516ca00b709155d72", func := "loop.example/g00710/laws.FnExactSpotForward", spec := "fnExactSpotForward", apart := false }
def FnExactSpotForwardSaid : Prop := fnExactSpotForwardRow.holds Try.pinned (OpenSpec.ofChange fnExactSpotForwardSpec)

/-- ITS FALSE NEIGHBOUR: 'it returns false'. Refute it at one input. -/
def fnExactSpotForwardWrong : ChangeSpec := { name := "fnExactSpotForward", fn := fun _ => fun
  | [d1, d2, d3, d4] => { results := [.lit (.bool false)], args := [d1, d2, d3, d4] }
  | _ => none }
def FnExactSpotForwardWrongFalsely : Prop := fnExactSpotForwardRow.holds Try.pinned (OpenSpec.ofChange fnExactSpotForwardWrong)

/- THE SECOND FORM. 'bulk': how many values and letters a reading holds, each counted each time it is reached (what is shared counts as often as it is met; a slice's spare places count too). A statement '..UptoSaid' is the law's where the arguments, and the package variables that the reading takes, are together of bulk at most 1048576: NARROWER than '..Said'. Prove '..Said' where nothing that the law and all that it calls make is longer than what came in: it says more and counts as full. Else prove '..UptoSaid'. A law counts once. -/
mutual
def uptoBulk {H : Type} : DataW H → Nat
  | .lit (.string bytes) => bytes.length + 1
  | .lit _ => 1
  | .nil => 1
  | .ptr d => uptoBulk d + 1
  | .slice elems spare => uptoBulkAll elems + uptoBulkAll spare + 1
  | .agg parts => uptoBulkAll parts + 1
  | .iface _ d => uptoBulk d + 1
  | .map entries => uptoBulkEntries entries + 1
  | .held _ => 1
def uptoBulkAll {H : Type} : List (DataW H) → Nat
  | [] => 0
  | d :: r => uptoBulk d + uptoBulkAll r
def uptoBulkEntries {H : Type} : List (Lit × DataW H) → Nat
  | [] => 0
  | x :: r => uptoBulkEntry x + uptoBulkEntries r
def uptoBulkEntry {H : Type} : Lit × DataW H → Nat
  | (.string bytes, d) => bytes.length + uptoBulk d + 1
  | (_, d) => uptoBulk d + 1
 end
def uptoSmall : (H : Type) → List (DataW H) → Bool := fun _ ds => decide (uptoBulkAll ds ≤ 1048576)
def OpenSpec.upto (s : _root_.Go.ChangeSpec) : _root_.Go.OpenSpec := { _root_.Go.OpenSpec.ofChange s with cond := some uptoSmall }

/-- 'laws.FnExactPrice', WHERE WHAT IT READS IS OF BULK AT MOST 1048576: true; the input reads as it did. -/
def fnExactPriceUptoRow : OpenClaim := { program := "ytmdpnhcfllociaa", sum := "33bf0015fe7c6ba1f8f53c0417b676ce2d7f60872ee62cf516ca00b709155d72", func := "loop.example/g00710/laws.FnExactPrice", spec := "fnExactPrice", apart := false, narrowed := true }
def FnExactPriceUptoSaid : Prop := fnExactPriceUptoRow.holds Try.pinned (OpenSpec.upto fnExactPriceSpec)

/-- 'laws.FnExactJainIndex', WHERE WHAT IT READS IS OF BULK AT MOST 1048576: true; the input reads as it did. -/
def fnExactJainIndexUptoRow : OpenClaim := { program := "ytmdpnhcfllociaa", sum := "33bf0015fe7c6ba1f8f53c0417b676ce2d7f60872ee62cf516ca00b709155d72", func := "loop.example/g00710/laws.FnExactJainIndex", spec := "fnExactJainIndex", apart := false, narrowed := true }
def FnExactJainIndexUptoSaid : Prop := fnExactJainIndexUptoRow.holds Try.pinned (OpenSpec.upto fnExactJainIndexSpec)

/-- 'laws.FnExactDiskOk', WHERE WHAT IT READS IS OF BULK AT MOST 1048576: true; the input reads as it did. -/
def fnExactDiskOkUptoRow : OpenClaim := { program := "ytmdpnhcfllociaa", sum := "33bf0015fe7c6ba1f8f53c0417b676ce2d7f60872ee62cf516ca00b709155d72", func := "loop.example/g00710/laws.FnExactDiskOk", spec := "fnExactDiskOk", apart := false, narrowed := true }
def FnExactDiskOkUptoSaid : Prop := fnExactDiskOkUptoRow.holds Try.pinned (OpenSpec.upto fnExactDiskOkSpec)

/-- 'laws.FnExactTotalUnits', WHERE WHAT IT READS IS OF BULK AT MOST 1048576: true; the input reads as it did. -/
def fnExactTotalUnitsUptoRow : OpenClaim := { program := "ytmdpnhcfllociaa", sum := "33bf0015fe7c6ba1f8f53c0417b676ce2d7f60872ee62cf516ca00b709155d72", func := "loop.example/g00710/laws.FnExactTotalUnits", spec := "fnExactTotalUnits", apart := false, narrowed := true }
def FnExactTotalUnitsUptoSaid : Prop := fnExactTotalUnitsUptoRow.holds Try.pinned (OpenSpec.upto fnExactTotalUnitsSpec)

/-- 'laws.FnJain', WHERE WHAT IT READS IS OF BULK AT MOST 1048576: true; the input reads as it did. -/
def fnJainUptoRow : OpenClaim := { program := "ytmdpnhcfllociaa", sum := "33bf0015fe7c6ba1f8f53c0417b676ce2d7f60872ee62cf516ca00b709155d72", func := "loop.example/g00710/laws.FnJain", spec := "fnJain", apart := false, narrowed := true }
def FnJainUptoSaid : Prop := fnJainUptoRow.holds Try.pinned (OpenSpec.upto fnJainSpec)

/-- 'laws.FnExactSyncDisk', WHERE WHAT IT READS IS OF BULK AT MOST 1048576: true; the input reads as it did. -/
def fnExactSyncDiskUptoRow : OpenClaim := { program := "ytmdpnhcfllociaa", sum := "33bf0015fe7c6ba1f8f53c0417b676ce2d7f60872ee62cf516ca00b709155d72", func := "loop.example/g00710/laws.FnExactSyncDisk", spec := "fnExactSyncDisk", apart := false, narrowed := true }
def FnExactSyncDiskUptoSaid : Prop := fnExactSyncDiskUptoRow.holds Try.pinned (OpenSpec.upto fnExactSyncDiskSpec)

/-- 'laws.FnExactCrashDisk', WHERE WHAT IT READS IS OF BULK AT MOST 1048576: true; the input reads as it did. -/
def fnExactCrashDiskUptoRow : OpenClaim := { program := "ytmdpnhcfllociaa", sum := "33bf0015fe7c6ba1f8f53c0417b676ce2d7f60872ee62cf516ca00b709155d72", func := "loop.example/g00710/laws.FnExactCrashDisk", spec := "fnExactCrashDisk", apart := false, narrowed := true }
def FnExactCrashDiskUptoSaid : Prop := fnExactCrashDiskUptoRow.holds Try.pinned (OpenSpec.upto fnExactCrashDiskSpec)

/-- 'laws.FnExactCheckSeries', WHERE WHAT IT READS IS OF BULK AT MOST 1048576: true; the input reads as it did. -/
def fnExactCheckSeriesUptoRow : OpenClaim := { program := "ytmdpnhcfllociaa", sum := "33bf0015fe7c6ba1f8f53c0417b676ce2d7f60872ee62cf516ca00b709155d72", func := "loop.example/g00710/laws.FnExactCheckSeries", spec := "fnExactCheckSeries", apart := false, narrowed := true }
def FnExactCheckSeriesUptoSaid : Prop := fnExactCheckSeriesUptoRow.holds Try.pinned (OpenSpec.upto fnExactCheckSeriesSpec)

/-- 'laws.FnExactSplitCents', WHERE WHAT IT READS IS OF BULK AT MOST 1048576: true; the input reads as it did. -/
def fnExactSplitCentsUptoRow : OpenClaim := { program := "ytmdpnhcfllociaa", sum := "33bf0015fe7c6ba1f8f53c0417b676ce2d7f60872ee62cf516ca00b709155d72", func := "loop.example/g00710/laws.FnExactSplitCents", spec := "fnExactSplitCents", unfollowed := true, recurses := true, apart := false, narrowed := true }
def FnExactSplitCentsUptoSaid : Prop := fnExactSplitCentsUptoRow.holds Try.pinned (OpenSpec.upto fnExactSplitCentsSpec)

/-- 'laws.FnExactCheckDivision', WHERE WHAT IT READS IS OF BULK AT MOST 1048576: true; the input reads as it did. -/
def fnExactCheckDivisionUptoRow : OpenClaim := { program := "ytmdpnhcfllociaa", sum := "33bf0015fe7c6ba1f8f53c0417b676ce2d7f60872ee62cf516ca00b709155d72", func := "loop.example/g00710/laws.FnExactCheckDivision", spec := "fnExactCheckDivision", apart := false, narrowed := true }
def FnExactCheckDivisionUptoSaid : Prop := fnExactCheckDivisionUptoRow.holds Try.pinned (OpenSpec.upto fnExactCheckDivisionSpec)

/-- 'laws.FnShares', WHERE WHAT IT READS IS OF BULK AT MOST 1048576: true; the input reads as it did. -/
def fnSharesUptoRow : OpenClaim := { program := "ytmdpnhcfllociaa", sum := "33bf0015fe7c6ba1f8f53c0417b676ce2d7f60872ee62cf516ca00b709155d72", func := "loop.example/g00710/laws.FnShares", spec := "fnShares", unfollowed := true, recurses := true, apart := false, narrowed := true }
def FnSharesUptoSaid : Prop := fnSharesUptoRow.holds Try.pinned (OpenSpec.upto fnSharesSpec)

/-- 'laws.FnExactSpotForward', WHERE WHAT IT READS IS OF BULK AT MOST 1048576: true; the input reads as it did. -/
def fnExactSpotForwardUptoRow : OpenClaim := { program := "ytmdpnhcfllociaa", sum := "33bf0015fe7c6ba1f8f53c0417b676ce2d7f60872ee62cf516ca00b709155d72", func := "loop.example/g00710/laws.FnExactSpotForward", spec := "fnExactSpotForward", apart := false, narrowed := true }
def FnExactSpotForwardUptoSaid : Prop := fnExactSpotForwardUptoRow.holds Try.pinned (OpenSpec.upto fnExactSpotForwardSpec)

end Rows
end Go.Proofs.Ytmdpnhcfllociaa
