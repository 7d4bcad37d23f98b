/-
  No cell of these rows narrows 'for every input' (looked for: loops, veiled, ifaces, maps, wideKeys, modest, calm, conditions, laid).
  DERIVED. THE GIVEN ROWS OF THIS SEAT. 10 by the template 'for every input the law returns true; each argument reads behind the call as it read before'; 0 by the template 'total and deterministic' (their statements: YtebeafcdabkkfaaTotals.lean).
  GIVEN WITH THE SEED: the statements are not yours to turn. If you find one false, say at which input.
  Laid BY PROGRAM, IN A SANDBOX (cutbox-rows.mjs): the forced cells as the released guide's own fill.sh prints them over the translation fec60723dfc11adf… (all of the seat's roots in one cut). By AI agents, Wed Nov 11 2026. No macro, syntax, notation, axiom, sorry.
-/
import Derived.Test.YtebeafcdabkkfaaChecked
import GoSem.Claim
import GoSem.ClaimJoined
import GoSem.ClaimMapViews
import Derived.JoinedTies
import Derived.KernelRfl
namespace Go.Proofs.Ytebeafcdabkkfaa
/- THE CELL 'sum', in the pinned program and in every row, IS THE sha256 OF THE DUMP (.gsa) THAT YtebeafcdabkkfaaProg.lean LOADS. Nothing in Lean hashes anything: it is a label: what it is worth is what the hold of that sum in a sandbox is worth. -/
noncomputable def Try.pinned : Pinned := { name := "ytebeafcdabkkfaa", sum := "fec60723dfc11adf148484ddd9a30424ed742cc6970164e7d4b74a01e1c3b8b9", checked := Try.checked }
namespace Rows
def none {H : Type} : Left H := { results := [], args := [] }

/-- 'laws.FnExactWithFuel': WHATEVER THE INPUT: true; the input reads as it did. -/
def fnExactWithFuelSpec : ChangeSpec := { name := "fnExactWithFuel", fn := fun _ => fun
  | [d1, d2] => { results := [.lit (.bool true)], args := [d1, d2] }
  | _ => none }
def fnExactWithFuelRow : OpenClaim := { program := "ytebeafcdabkkfaa", sum := "fec60723dfc11adf148484ddd9a30424ed742cc6970164e7d4b74a01e1c3b8b9", func := "loop.example/g01397/laws.FnExactWithFuel", spec := "fnExactWithFuel", apart := false }
def FnExactWithFuelSaid : Prop := fnExactWithFuelRow.holds Try.pinned (OpenSpec.ofChange fnExactWithFuelSpec)

/-- ITS FALSE NEIGHBOUR: 'it returns false'. Refute it at one input. -/
def fnExactWithFuelWrong : ChangeSpec := { name := "fnExactWithFuel", fn := fun _ => fun
  | [d1, d2] => { results := [.lit (.bool false)], args := [d1, d2] }
  | _ => none }
def FnExactWithFuelWrongFalsely : Prop := fnExactWithFuelRow.holds Try.pinned (OpenSpec.ofChange fnExactWithFuelWrong)

/-- 'laws.FnExactReadRec': WHATEVER THE INPUT: true; the input reads as it did. -/
def fnExactReadRecSpec : ChangeSpec := { name := "fnExactReadRec", fn := fun _ => fun
  | [d] => { results := [.lit (.bool true)], args := [d] }
  | _ => none }
def fnExactReadRecRow : OpenClaim := { program := "ytebeafcdabkkfaa", sum := "fec60723dfc11adf148484ddd9a30424ed742cc6970164e7d4b74a01e1c3b8b9", func := "loop.example/g01397/laws.FnExactReadRec", spec := "fnExactReadRec", apart := false }
def FnExactReadRecSaid : Prop := fnExactReadRecRow.holds Try.pinned (OpenSpec.ofChange fnExactReadRecSpec)

/-- ITS FALSE NEIGHBOUR: 'it returns false'. Refute it at one input. -/
def fnExactReadRecWrong : ChangeSpec := { name := "fnExactReadRec", fn := fun _ => fun
  | [d] => { results := [.lit (.bool false)], args := [d] }
  | _ => none }
def FnExactReadRecWrongFalsely : Prop := fnExactReadRecRow.holds Try.pinned (OpenSpec.ofChange fnExactReadRecWrong)

/-- 'laws.FnExactSumOf': WHATEVER THE INPUT: true; the input reads as it did. -/
def fnExactSumOfSpec : ChangeSpec := { name := "fnExactSumOf", fn := fun _ => fun
  | [d] => { results := [.lit (.bool true)], args := [d] }
  | _ => none }
def fnExactSumOfRow : OpenClaim := { program := "ytebeafcdabkkfaa", sum := "fec60723dfc11adf148484ddd9a30424ed742cc6970164e7d4b74a01e1c3b8b9", func := "loop.example/g01397/laws.FnExactSumOf", spec := "fnExactSumOf", apart := false }
def FnExactSumOfSaid : Prop := fnExactSumOfRow.holds Try.pinned (OpenSpec.ofChange fnExactSumOfSpec)

/-- ITS FALSE NEIGHBOUR: 'it returns false'. Refute it at one input. -/
def fnExactSumOfWrong : ChangeSpec := { name := "fnExactSumOf", fn := fun _ => fun
  | [d] => { results := [.lit (.bool false)], args := [d] }
  | _ => none }
def FnExactSumOfWrongFalsely : Prop := fnExactSumOfRow.holds Try.pinned (OpenSpec.ofChange fnExactSumOfWrong)

/-- 'laws.FnExactShowHint': WHATEVER THE INPUT: true; the input reads as it did. -/
def fnExactShowHintSpec : ChangeSpec := { name := "fnExactShowHint", fn := fun _ => fun
  | [d] => { results := [.lit (.bool true)], args := [d] }
  | _ => none }
def fnExactShowHintRow : OpenClaim := { program := "ytebeafcdabkkfaa", sum := "fec60723dfc11adf148484ddd9a30424ed742cc6970164e7d4b74a01e1c3b8b9", func := "loop.example/g01397/laws.FnExactShowHint", spec := "fnExactShowHint", apart := false }
def FnExactShowHintSaid : Prop := fnExactShowHintRow.holds Try.pinned (OpenSpec.ofChange fnExactShowHintSpec)

/-- ITS FALSE NEIGHBOUR: 'it returns false'. Refute it at one input. -/
def fnExactShowHintWrong : ChangeSpec := { name := "fnExactShowHint", fn := fun _ => fun
  | [d] => { results := [.lit (.bool false)], args := [d] }
  | _ => none }
def FnExactShowHintWrongFalsely : Prop := fnExactShowHintRow.holds Try.pinned (OpenSpec.ofChange fnExactShowHintWrong)

/-- 'laws.FnExactPower': WHATEVER THE INPUT: true; the input reads as it did. -/
def fnExactPowerSpec : ChangeSpec := { name := "fnExactPower", fn := fun _ => fun
  | [d1, d2] => { results := [.lit (.bool true)], args := [d1, d2] }
  | _ => none }
def fnExactPowerRow : OpenClaim := { program := "ytebeafcdabkkfaa", sum := "fec60723dfc11adf148484ddd9a30424ed742cc6970164e7d4b74a01e1c3b8b9", func := "loop.example/g01397/laws.FnExactPower", spec := "fnExactPower", apart := false }
def FnExactPowerSaid : Prop := fnExactPowerRow.holds Try.pinned (OpenSpec.ofChange fnExactPowerSpec)

/-- ITS FALSE NEIGHBOUR: 'it returns false'. Refute it at one input. -/
def fnExactPowerWrong : ChangeSpec := { name := "fnExactPower", fn := fun _ => fun
  | [d1, d2] => { results := [.lit (.bool false)], args := [d1, d2] }
  | _ => none }
def FnExactPowerWrongFalsely : Prop := fnExactPowerRow.holds Try.pinned (OpenSpec.ofChange fnExactPowerWrong)

/-- 'laws.FnExactReadLive': WHATEVER THE INPUT: true; the input reads as it did. -/
def fnExactReadLiveSpec : ChangeSpec := { name := "fnExactReadLive", fn := fun _ => fun
  | [d] => { results := [.lit (.bool true)], args := [d] }
  | _ => none }
def fnExactReadLiveRow : OpenClaim := { program := "ytebeafcdabkkfaa", sum := "fec60723dfc11adf148484ddd9a30424ed742cc6970164e7d4b74a01e1c3b8b9", func := "loop.example/g01397/laws.FnExactReadLive", spec := "fnExactReadLive", apart := false }
def FnExactReadLiveSaid : Prop := fnExactReadLiveRow.holds Try.pinned (OpenSpec.ofChange fnExactReadLiveSpec)

/-- ITS FALSE NEIGHBOUR: 'it returns false'. Refute it at one input. -/
def fnExactReadLiveWrong : ChangeSpec := { name := "fnExactReadLive", fn := fun _ => fun
  | [d] => { results := [.lit (.bool false)], args := [d] }
  | _ => none }
def FnExactReadLiveWrongFalsely : Prop := fnExactReadLiveRow.holds Try.pinned (OpenSpec.ofChange fnExactReadLiveWrong)

/-- 'laws.FnRecords': WHATEVER THE INPUT: true; the input reads as it did. -/
def fnRecordsSpec : ChangeSpec := { name := "fnRecords", fn := fun _ => fun
  | [d] => { results := [.lit (.bool true)], args := [d] }
  | _ => none }
def fnRecordsRow : OpenClaim := { program := "ytebeafcdabkkfaa", sum := "fec60723dfc11adf148484ddd9a30424ed742cc6970164e7d4b74a01e1c3b8b9", func := "loop.example/g01397/laws.FnRecords", spec := "fnRecords", apart := false }
def FnRecordsSaid : Prop := fnRecordsRow.holds Try.pinned (OpenSpec.ofChange fnRecordsSpec)

/-- ITS FALSE NEIGHBOUR: 'it returns false'. Refute it at one input. -/
def fnRecordsWrong : ChangeSpec := { name := "fnRecords", fn := fun _ => fun
  | [d] => { results := [.lit (.bool false)], args := [d] }
  | _ => none }
def FnRecordsWrongFalsely : Prop := fnRecordsRow.holds Try.pinned (OpenSpec.ofChange fnRecordsWrong)

/-- 'laws.FnExactRecAt': WHATEVER THE INPUT: true; the input reads as it did. -/
def fnExactRecAtSpec : ChangeSpec := { name := "fnExactRecAt", fn := fun _ => fun
  | [d1, d2, d3] => { results := [.lit (.bool true)], args := [d1, d2, d3] }
  | _ => none }
def fnExactRecAtRow : OpenClaim := { program := "ytebeafcdabkkfaa", sum := "fec60723dfc11adf148484ddd9a30424ed742cc6970164e7d4b74a01e1c3b8b9", func := "loop.example/g01397/laws.FnExactRecAt", spec := "fnExactRecAt", apart := false }
def FnExactRecAtSaid : Prop := fnExactRecAtRow.holds Try.pinned (OpenSpec.ofChange fnExactRecAtSpec)

/-- ITS FALSE NEIGHBOUR: 'it returns false'. Refute it at one input. -/
def fnExactRecAtWrong : ChangeSpec := { name := "fnExactRecAt", fn := fun _ => fun
  | [d1, d2, d3] => { results := [.lit (.bool false)], args := [d1, d2, d3] }
  | _ => none }
def FnExactRecAtWrongFalsely : Prop := fnExactRecAtRow.holds Try.pinned (OpenSpec.ofChange fnExactRecAtWrong)

/-- 'laws.FnPower': WHATEVER THE INPUT: true; the input reads as it did. -/
def fnPowerSpec : ChangeSpec := { name := "fnPower", fn := fun _ => fun
  | [d] => { results := [.lit (.bool true)], args := [d] }
  | _ => none }
def fnPowerRow : OpenClaim := { program := "ytebeafcdabkkfaa", sum := "fec60723dfc11adf148484ddd9a30424ed742cc6970164e7d4b74a01e1c3b8b9", func := "loop.example/g01397/laws.FnPower", spec := "fnPower", apart := false }
def FnPowerSaid : Prop := fnPowerRow.holds Try.pinned (OpenSpec.ofChange fnPowerSpec)

/-- ITS FALSE NEIGHBOUR: 'it returns false'. Refute it at one input. -/
def fnPowerWrong : ChangeSpec := { name := "fnPower", fn := fun _ => fun
  | [d] => { results := [.lit (.bool false)], args := [d] }
  | _ => none }
def FnPowerWrongFalsely : Prop := fnPowerRow.holds Try.pinned (OpenSpec.ofChange fnPowerWrong)

/-- 'laws.FnExactReadHint': WHATEVER THE INPUT: true; the input reads as it did. -/
def fnExactReadHintSpec : ChangeSpec := { name := "fnExactReadHint", fn := fun _ => fun
  | [d] => { results := [.lit (.bool true)], args := [d] }
  | _ => none }
def fnExactReadHintRow : OpenClaim := { program := "ytebeafcdabkkfaa", sum := "fec60723dfc11adf148484ddd9a30424ed742cc6970164e7d4b74a01e1c3b8b9", func := "loop.example/g01397/laws.FnExactReadHint", spec := "fnExactReadHint", apart := false }
def FnExactReadHintSaid : Prop := fnExactReadHintRow.holds Try.pinned (OpenSpec.ofChange fnExactReadHintSpec)

/-- ITS FALSE NEIGHBOUR: 'it returns false'. Refute it at one input. -/
def fnExactReadHintWrong : ChangeSpec := { name := "fnExactReadHint", fn := fun _ => fun
  | [d] => { results := [.lit (.bool false)], args := [d] }
  | _ => none }
def FnExactReadHintWrongFalsely : Prop := fnExactReadHintRow.holds Try.pinned (OpenSpec.ofChange fnExactReadHintWrong)

/- THE SECOND FORM. 'bulk': how many values and letters a reading holds, each counted each time it is reached (what is shared counts as often as it is met; a slice's spare places count too). A statement '..UptoSaid' is the law's where the arguments, and the package variables that the reading takes, are together of bulk at most 1048576: NARROWER than '..Said'. Prove '..Said' where nothing that the law and all that it calls make is longer than what came in: it says more and counts as full. Else prove '..UptoSaid'. A law counts once. -/
mutual
def uptoBulk {H : Type} : DataW H → Nat
  | .lit (.string bytes) => bytes.length + 1
  | .lit _ => 1
  | .nil => 1
  | .ptr d => uptoBulk d + 1
  | .slice elems spare => uptoBulkAll elems + uptoBulkAll spare + 1
  | .agg parts => uptoBulkAll parts + 1
  | .iface _ d => uptoBulk d + 1
  | .map entries => uptoBulkEntries entries + 1
  | .held _ => 1
def uptoBulkAll {H : Type} : List (DataW H) → Nat
  | [] => 0
  | d :: r => uptoBulk d + uptoBulkAll r
def uptoBulkEntries {H : Type} : List (Lit × DataW H) → Nat
  | [] => 0
  | x :: r => uptoBulkEntry x + uptoBulkEntries r
def uptoBulkEntry {H : Type} : Lit × DataW H → Nat
  | (.string bytes, d) => bytes.length + uptoBulk d + 1
  | (_, d) => uptoBulk d + 1
 end
def uptoSmall : (H : Type) → List (DataW H) → Bool := fun _ ds => decide (uptoBulkAll ds ≤ 1048576)
def OpenSpec.upto (s : _root_.Go.ChangeSpec) : _root_.Go.OpenSpec := { _root_.Go.OpenSpec.ofChange s with cond := some uptoSmall }

/-- 'laws.FnExactWithFuel', WHERE WHAT IT READS IS OF BULK AT MOST 1048576: true; the input reads as it did. -/
def fnExactWithFuelUptoRow : OpenClaim := { program := "ytebeafcdabkkfaa", sum := "fec60723dfc11adf148484ddd9a30424ed742cc6970164e7d4b74a01e1c3b8b9", func := "loop.example/g01397/laws.FnExactWithFuel", spec := "fnExactWithFuel", apart := false, narrowed := true }
def FnExactWithFuelUptoSaid : Prop := fnExactWithFuelUptoRow.holds Try.pinned (OpenSpec.upto fnExactWithFuelSpec)

/-- 'laws.FnExactReadRec', WHERE WHAT IT READS IS OF BULK AT MOST 1048576: true; the input reads as it did. -/
def fnExactReadRecUptoRow : OpenClaim := { program := "ytebeafcdabkkfaa", sum := "fec60723dfc11adf148484ddd9a30424ed742cc6970164e7d4b74a01e1c3b8b9", func := "loop.example/g01397/laws.FnExactReadRec", spec := "fnExactReadRec", apart := false, narrowed := true }
def FnExactReadRecUptoSaid : Prop := fnExactReadRecUptoRow.holds Try.pinned (OpenSpec.upto fnExactReadRecSpec)

/-- 'laws.FnExactSumOf', WHERE WHAT IT READS IS OF BULK AT MOST 1048576: true; the input reads as it did. -/
def fnExactSumOfUptoRow : OpenClaim := { program := "ytebeafcdabkkfaa", sum := "fec60723dfc11adf148484ddd9a30424ed742cc6970164e7d4b74a01e1c3b8b9", func := "loop.example/g01397/laws.FnExactSumOf", spec := "fnExactSumOf", apart := false, narrowed := true }
def FnExactSumOfUptoSaid : Prop := fnExactSumOfUptoRow.holds Try.pinned (OpenSpec.upto fnExactSumOfSpec)

/-- 'laws.FnExactShowHint', WHERE WHAT IT READS IS OF BULK AT MOST 1048576: true; the input reads as it did. -/
def fnExactShowHintUptoRow : OpenClaim := { program := "ytebeafcdabkkfaa", sum := "fec60723dfc11adf148484ddd9a30424ed742cc6970164e7d4b74a01e1c3b8b9", func := "loop.example/g01397/laws.FnExactShowHint", spec := "fnExactShowHint", apart := false, narrowed := true }
def FnExactShowHintUptoSaid : Prop := fnExactShowHintUptoRow.holds Try.pinned (OpenSpec.upto fnExactShowHintSpec)

/-- 'laws.FnExactPower', WHERE WHAT IT READS IS OF BULK AT MOST 1048576: true; the input reads as it did. -/
def fnExactPowerUptoRow : OpenClaim := { program := "ytebeafcdabkkfaa", sum := "fec60723dfc11adf148484ddd9a30424ed742cc6970164e7d4b74a01e1c3b8b9", func := "loop.example/g01397/laws.FnExactPower", spec := "fnExactPower", apart := false, narrowed := true }
def FnExactPowerUptoSaid : Prop := fnExactPowerUptoRow.holds Try.pinned (OpenSpec.upto fnExactPowerSpec)

/-- 'laws.FnExactReadLive', WHERE WHAT IT READS IS OF BULK AT MOST 1048576: true; the input reads as it did. -/
def fnExactReadLiveUptoRow : OpenClaim := { program := "ytebeafcdabkkfaa", sum := "fec60723dfc11adf148484ddd9a30424ed742cc6970164e7d4b74a01e1c3b8b9", func := "loop.example/g01397/laws.FnExactReadLive", spec := "fnExactReadLive", apart := false, narrowed := true }
def FnExactReadLiveUptoSaid : Prop := fnExactReadLiveUptoRow.holds Try.pinned (OpenSpec.upto fnExactReadLiveSpec)

/-- 'laws.FnRecords', WHERE WHAT IT READS IS OF BULK AT MOST 1048576: true; the input reads as it did. -/
def fnRecordsUptoRow : OpenClaim := { program := "ytebeafcdabkkfaa", sum := "fec60723dfc11adf148484ddd9a30424ed742cc6970164e7d4b74a01e1c3b8b9", func := "loop.example/g01397/laws.FnRecords", spec := "fnRecords", apart := false, narrowed := true }
def FnRecordsUptoSaid : Prop := fnRecordsUptoRow.holds Try.pinned (OpenSpec.upto fnRecordsSpec)

/-- 'laws.FnExactRecAt', WHERE WHAT IT READS IS OF BULK AT MOST 1048576: true; the input reads as it did. -/
def fnExactRecAtUptoRow : OpenClaim := { program := "ytebeafcdabkkfaa", sum := "fec60723dfc11adf148484ddd9a30424ed742cc6970164e7d4b74a01e1c3b8b9", func := "loop.example/g01397/laws.FnExactRecAt", spec := "fnExactRecAt", apart := false, narrowed := true }
def FnExactRecAtUptoSaid : Prop := fnExactRecAtUptoRow.holds Try.pinned (OpenSpec.upto fnExactRecAtSpec)

/-- 'laws.FnPower', WHERE WHAT IT READS IS OF BULK AT MOST 1048576: true; the input reads as it did. -/
def fnPowerUptoRow : OpenClaim := { program := "ytebeafcdabkkfaa", sum := "fec60723dfc11adf148484ddd9a30424ed742cc6970164e7d4b74a01e1c3b8b9", func := "loop.example/g01397/laws.FnPower", spec := "fnPower", apart := false, narrowed := true }
def FnPowerUptoSaid : Prop := fnPowerUptoRow.holds Try.pinned (OpenSpec.upto fnPowerSpec)

/-- 'laws.FnExactReadHint', WHERE WHAT IT READS IS OF BULK AT MOST 1048576: true; the input reads as it did. -/
def fnExactReadHintUptoRow : OpenClaim := { program := "ytebeafcdabkkfaa", sum := "fec60723dfc11adf148484ddd9a30424ed742cc6970164e7d4b74a01e1c3b8b9", func := "loop.example/g01397/laws.FnExactReadHint", spec := "fnExactReadHint", apart := false, narrowed := true }
def FnExactReadHintUptoSaid : Prop := fnExactReadHintUptoRow.holds Try.pinned (OpenSpec.upto fnExactReadHintSpec)

end Rows
end Go.Proofs.Ytebeafcdabkkfaa
