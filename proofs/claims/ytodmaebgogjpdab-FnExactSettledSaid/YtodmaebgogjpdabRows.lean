/-
  No cell of these rows narrows 'for every input' (looked for: loops, veiled, ifaces, maps, wideKeys, modest, calm, conditions, laid).
  DERIVED. THE GIVEN ROWS OF THIS SEAT. 11 by the template 'for every input the law returns true; each argument reads behind the call as it read before'; 0 by the template 'total and deterministic' (their statements: YtodmaebgogjpdabTotals.lean).
  GIVEN WITH THE SEED: the statements are not yours to turn. If you find one false, say at which input.
  Laid BY PROGRAM, IN A SANDBOX (cutbox-rows.mjs): the forced cells as the released guide's own fill.sh prints them over the translation 34b7d019543819ba… (all of the seat's roots in one cut). By AI agents, Wed Nov 11 2026. No macro, syntax, notation, axiom, sorry.
-/
import Derived.Test.YtodmaebgogjpdabChecked
import GoSem.Claim
import GoSem.ClaimJoined
import GoSem.ClaimMapViews
import Derived.JoinedTies
import Derived.KernelRfl
namespace Go.Proofs.Ytodmaebgogjpdab
/- THE CELL 'sum', in the pinned program and in every row, IS THE sha256 OF THE DUMP (.gsa) THAT YtodmaebgogjpdabProg.lean LOADS. Nothing in Lean hashes anything: it is a label: what it is worth is what the hold of that sum in a sandbox is worth. -/
noncomputable def Try.pinned : Pinned := { name := "ytodmaebgogjpdab", sum := "34b7d019543819ba1c77dd45e021ab7ad3a5db2d43da76696399c336462a08ea", checked := Try.checked }
namespace Rows
def none {H : Type} : Left H := { results := [], args := [] }

/-- 'laws.FnDirs': WHATEVER THE INPUT: true; the input reads as it did. -/
def fnDirsSpec : ChangeSpec := { name := "fnDirs", fn := fun _ => fun
  | [d] => { results := [.lit (.bool true)], args := [d] }
  | _ => none }
def fnDirsRow : OpenClaim := { program := "ytodmaebgogjpdab", sum := "34b7d019543819ba1c77dd45e021ab7ad3a5db2d43da76696399c336462a08ea", func := "loop.example/g01397/laws.FnDirs", spec := "fnDirs", apart := false }
def FnDirsSaid : Prop := fnDirsRow.holds Try.pinned (OpenSpec.ofChange fnDirsSpec)

/-- ITS FALSE NEIGHBOUR: 'it returns false'. Refute it at one input. -/
def fnDirsWrong : ChangeSpec := { name := "fnDirs", fn := fun _ => fun
  | [d] => { results := [.lit (.bool false)], args := [d] }
  | _ => none }
def FnDirsWrongFalsely : Prop := fnDirsRow.holds Try.pinned (OpenSpec.ofChange fnDirsWrong)

/-- 'laws.FnExactDiskOk': WHATEVER THE INPUT: true; the input reads as it did. -/
def fnExactDiskOkSpec : ChangeSpec := { name := "fnExactDiskOk", fn := fun _ => fun
  | [d] => { results := [.lit (.bool true)], args := [d] }
  | _ => none }
def fnExactDiskOkRow : OpenClaim := { program := "ytodmaebgogjpdab", sum := "34b7d019543819ba1c77dd45e021ab7ad3a5db2d43da76696399c336462a08ea", func := "loop.example/g01397/laws.FnExactDiskOk", spec := "fnExactDiskOk", apart := false }
def FnExactDiskOkSaid : Prop := fnExactDiskOkRow.holds Try.pinned (OpenSpec.ofChange fnExactDiskOkSpec)

/-- ITS FALSE NEIGHBOUR: 'it returns false'. Refute it at one input. -/
def fnExactDiskOkWrong : ChangeSpec := { name := "fnExactDiskOk", fn := fun _ => fun
  | [d] => { results := [.lit (.bool false)], args := [d] }
  | _ => none }
def FnExactDiskOkWrongFalsely : Prop := fnExactDiskOkRow.holds Try.pinned (OpenSpec.ofChange fnExactDiskOkWrong)

/-- 'laws.FnExactShowRec': WHATEVER THE INPUT: true; the input reads as it did. -/
def fnExactShowRecSpec : ChangeSpec := { name := "fnExactShowRec", fn := fun _ => fun
  | [d] => { results := [.lit (.bool true)], args := [d] }
  | _ => none }
def fnExactShowRecRow : OpenClaim := { program := "ytodmaebgogjpdab", sum := "34b7d019543819ba1c77dd45e021ab7ad3a5db2d43da76696399c336462a08ea", func := "loop.example/g01397/laws.FnExactShowRec", spec := "fnExactShowRec", apart := false }
def FnExactShowRecSaid : Prop := fnExactShowRecRow.holds Try.pinned (OpenSpec.ofChange fnExactShowRecSpec)

/-- ITS FALSE NEIGHBOUR: 'it returns false'. Refute it at one input. -/
def fnExactShowRecWrong : ChangeSpec := { name := "fnExactShowRec", fn := fun _ => fun
  | [d] => { results := [.lit (.bool false)], args := [d] }
  | _ => none }
def FnExactShowRecWrongFalsely : Prop := fnExactShowRecRow.holds Try.pinned (OpenSpec.ofChange fnExactShowRecWrong)

/-- 'laws.FnExactUnframe': WHATEVER THE INPUT: true; the input reads as it did. -/
def fnExactUnframeSpec : ChangeSpec := { name := "fnExactUnframe", fn := fun _ => fun
  | [d] => { results := [.lit (.bool true)], args := [d] }
  | _ => none }
def fnExactUnframeRow : OpenClaim := { program := "ytodmaebgogjpdab", sum := "34b7d019543819ba1c77dd45e021ab7ad3a5db2d43da76696399c336462a08ea", func := "loop.example/g01397/laws.FnExactUnframe", spec := "fnExactUnframe", apart := false }
def FnExactUnframeSaid : Prop := fnExactUnframeRow.holds Try.pinned (OpenSpec.ofChange fnExactUnframeSpec)

/-- ITS FALSE NEIGHBOUR: 'it returns false'. Refute it at one input. -/
def fnExactUnframeWrong : ChangeSpec := { name := "fnExactUnframe", fn := fun _ => fun
  | [d] => { results := [.lit (.bool false)], args := [d] }
  | _ => none }
def FnExactUnframeWrongFalsely : Prop := fnExactUnframeRow.holds Try.pinned (OpenSpec.ofChange fnExactUnframeWrong)

/-- 'laws.FnExactDirPut': WHATEVER THE INPUT: true; the input reads as it did. -/
def fnExactDirPutSpec : ChangeSpec := { name := "fnExactDirPut", fn := fun _ => fun
  | [d1, d2] => { results := [.lit (.bool true)], args := [d1, d2] }
  | _ => none }
def fnExactDirPutRow : OpenClaim := { program := "ytodmaebgogjpdab", sum := "34b7d019543819ba1c77dd45e021ab7ad3a5db2d43da76696399c336462a08ea", func := "loop.example/g01397/laws.FnExactDirPut", spec := "fnExactDirPut", apart := false }
def FnExactDirPutSaid : Prop := fnExactDirPutRow.holds Try.pinned (OpenSpec.ofChange fnExactDirPutSpec)

/-- ITS FALSE NEIGHBOUR: 'it returns false'. Refute it at one input. -/
def fnExactDirPutWrong : ChangeSpec := { name := "fnExactDirPut", fn := fun _ => fun
  | [d1, d2] => { results := [.lit (.bool false)], args := [d1, d2] }
  | _ => none }
def FnExactDirPutWrongFalsely : Prop := fnExactDirPutRow.holds Try.pinned (OpenSpec.ofChange fnExactDirPutWrong)

/-- 'laws.FnExactUsed': WHATEVER THE INPUT: true; the input reads as it did. -/
def fnExactUsedSpec : ChangeSpec := { name := "fnExactUsed", fn := fun _ => fun
  | [d] => { results := [.lit (.bool true)], args := [d] }
  | _ => none }
def fnExactUsedRow : OpenClaim := { program := "ytodmaebgogjpdab", sum := "34b7d019543819ba1c77dd45e021ab7ad3a5db2d43da76696399c336462a08ea", func := "loop.example/g01397/laws.FnExactUsed", spec := "fnExactUsed", apart := false }
def FnExactUsedSaid : Prop := fnExactUsedRow.holds Try.pinned (OpenSpec.ofChange fnExactUsedSpec)

/-- ITS FALSE NEIGHBOUR: 'it returns false'. Refute it at one input. -/
def fnExactUsedWrong : ChangeSpec := { name := "fnExactUsed", fn := fun _ => fun
  | [d] => { results := [.lit (.bool false)], args := [d] }
  | _ => none }
def FnExactUsedWrongFalsely : Prop := fnExactUsedRow.holds Try.pinned (OpenSpec.ofChange fnExactUsedWrong)

/-- 'laws.FnExactVolatile': WHATEVER THE INPUT: true; the input reads as it did. -/
def fnExactVolatileSpec : ChangeSpec := { name := "fnExactVolatile", fn := fun _ => fun
  | [d] => { results := [.lit (.bool true)], args := [d] }
  | _ => none }
def fnExactVolatileRow : OpenClaim := { program := "ytodmaebgogjpdab", sum := "34b7d019543819ba1c77dd45e021ab7ad3a5db2d43da76696399c336462a08ea", func := "loop.example/g01397/laws.FnExactVolatile", spec := "fnExactVolatile", apart := false }
def FnExactVolatileSaid : Prop := fnExactVolatileRow.holds Try.pinned (OpenSpec.ofChange fnExactVolatileSpec)

/-- ITS FALSE NEIGHBOUR: 'it returns false'. Refute it at one input. -/
def fnExactVolatileWrong : ChangeSpec := { name := "fnExactVolatile", fn := fun _ => fun
  | [d] => { results := [.lit (.bool false)], args := [d] }
  | _ => none }
def FnExactVolatileWrongFalsely : Prop := fnExactVolatileRow.holds Try.pinned (OpenSpec.ofChange fnExactVolatileWrong)

/-- 'laws.FnExactSettled': WHATEVER THE INPUT: true; the input reads as it did. -/
def fnExactSettledSpec : ChangeSpec := { name := "fnExactSettled", fn := fun _ => fun
  | [d] => { results := [.lit (.bool true)], args := [d] }
  | _ => none }
def fnExactSettledRow : OpenClaim := { program := "ytodmaebgogjpdab", sum := "34b7d019543819ba1c77dd45e021ab7ad3a5db2d43da76696399c336462a08ea", func := "loop.example/g01397/laws.FnExactSettled", spec := "fnExactSettled", apart := false }
def FnExactSettledSaid : Prop := fnExactSettledRow.holds Try.pinned (OpenSpec.ofChange fnExactSettledSpec)

/-- ITS FALSE NEIGHBOUR: 'it returns false'. Refute it at one input. -/
def fnExactSettledWrong : ChangeSpec := { name := "fnExactSettled", fn := fun _ => fun
  | [d] => { results := [.lit (.bool false)], args := [d] }
  | _ => none }
def FnExactSettledWrongFalsely : Prop := fnExactSettledRow.holds Try.pinned (OpenSpec.ofChange fnExactSettledWrong)

/-- 'laws.FnExactFileText': WHATEVER THE INPUT: true; the input reads as it did. -/
def fnExactFileTextSpec : ChangeSpec := { name := "fnExactFileText", fn := fun _ => fun
  | [d1, d2] => { results := [.lit (.bool true)], args := [d1, d2] }
  | _ => none }
def fnExactFileTextRow : OpenClaim := { program := "ytodmaebgogjpdab", sum := "34b7d019543819ba1c77dd45e021ab7ad3a5db2d43da76696399c336462a08ea", func := "loop.example/g01397/laws.FnExactFileText", spec := "fnExactFileText", apart := false }
def FnExactFileTextSaid : Prop := fnExactFileTextRow.holds Try.pinned (OpenSpec.ofChange fnExactFileTextSpec)

/-- ITS FALSE NEIGHBOUR: 'it returns false'. Refute it at one input. -/
def fnExactFileTextWrong : ChangeSpec := { name := "fnExactFileText", fn := fun _ => fun
  | [d1, d2] => { results := [.lit (.bool false)], args := [d1, d2] }
  | _ => none }
def FnExactFileTextWrongFalsely : Prop := fnExactFileTextRow.holds Try.pinned (OpenSpec.ofChange fnExactFileTextWrong)

/-- 'laws.FnExactShowLive': WHATEVER THE INPUT: true; the input reads as it did. -/
def fnExactShowLiveSpec : ChangeSpec := { name := "fnExactShowLive", fn := fun _ => fun
  | [d] => { results := [.lit (.bool true)], args := [d] }
  | _ => none }
def fnExactShowLiveRow : OpenClaim := { program := "ytodmaebgogjpdab", sum := "34b7d019543819ba1c77dd45e021ab7ad3a5db2d43da76696399c336462a08ea", func := "loop.example/g01397/laws.FnExactShowLive", spec := "fnExactShowLive", apart := false }
def FnExactShowLiveSaid : Prop := fnExactShowLiveRow.holds Try.pinned (OpenSpec.ofChange fnExactShowLiveSpec)

/-- ITS FALSE NEIGHBOUR: 'it returns false'. Refute it at one input. -/
def fnExactShowLiveWrong : ChangeSpec := { name := "fnExactShowLive", fn := fun _ => fun
  | [d] => { results := [.lit (.bool false)], args := [d] }
  | _ => none }
def FnExactShowLiveWrongFalsely : Prop := fnExactShowLiveRow.holds Try.pinned (OpenSpec.ofChange fnExactShowLiveWrong)

/-- 'laws.FnExactSameStore': WHATEVER THE INPUT: true; the input reads as it did. -/
def fnExactSameStoreSpec : ChangeSpec := { name := "fnExactSameStore", fn := fun _ => fun
  | [d1, d2] => { results := [.lit (.bool true)], args := [d1, d2] }
  | _ => none }
def fnExactSameStoreRow : OpenClaim := { program := "ytodmaebgogjpdab", sum := "34b7d019543819ba1c77dd45e021ab7ad3a5db2d43da76696399c336462a08ea", func := "loop.example/g01397/laws.FnExactSameStore", spec := "fnExactSameStore", apart := false }
def FnExactSameStoreSaid : Prop := fnExactSameStoreRow.holds Try.pinned (OpenSpec.ofChange fnExactSameStoreSpec)

/-- ITS FALSE NEIGHBOUR: 'it returns false'. Refute it at one input. -/
def fnExactSameStoreWrong : ChangeSpec := { name := "fnExactSameStore", fn := fun _ => fun
  | [d1, d2] => { results := [.lit (.bool false)], args := [d1, d2] }
  | _ => none }
def FnExactSameStoreWrongFalsely : Prop := fnExactSameStoreRow.holds Try.pinned (OpenSpec.ofChange fnExactSameStoreWrong)

/- THE SECOND FORM. 'bulk': how many values and letters a reading holds, each counted each time it is reached (what is shared counts as often as it is met; a slice's spare places count too). A statement '..UptoSaid' is the law's where the arguments, and the package variables that the reading takes, are together of bulk at most 1048576: NARROWER than '..Said'. Prove '..Said' where nothing that the law and all that it calls make is longer than what came in: it says more and counts as full. Else prove '..UptoSaid'. A law counts once. -/
mutual
def uptoBulk {H : Type} : DataW H → Nat
  | .lit (.string bytes) => bytes.length + 1
  | .lit _ => 1
  | .nil => 1
  | .ptr d => uptoBulk d + 1
  | .slice elems spare => uptoBulkAll elems + uptoBulkAll spare + 1
  | .agg parts => uptoBulkAll parts + 1
  | .iface _ d => uptoBulk d + 1
  | .map entries => uptoBulkEntries entries + 1
  | .held _ => 1
def uptoBulkAll {H : Type} : List (DataW H) → Nat
  | [] => 0
  | d :: r => uptoBulk d + uptoBulkAll r
def uptoBulkEntries {H : Type} : List (Lit × DataW H) → Nat
  | [] => 0
  | x :: r => uptoBulkEntry x + uptoBulkEntries r
def uptoBulkEntry {H : Type} : Lit × DataW H → Nat
  | (.string bytes, d) => bytes.length + uptoBulk d + 1
  | (_, d) => uptoBulk d + 1
 end
def uptoSmall : (H : Type) → List (DataW H) → Bool := fun _ ds => decide (uptoBulkAll ds ≤ 1048576)
def OpenSpec.upto (s : _root_.Go.ChangeSpec) : _root_.Go.OpenSpec := { _root_.Go.OpenSpec.ofChange s with cond := some uptoSmall }

/-- 'laws.FnDirs', WHERE WHAT IT READS IS OF BULK AT MOST 1048576: true; the input reads as it did. -/
def fnDirsUptoRow : OpenClaim := { program := "ytodmaebgogjpdab", sum := "34b7d019543819ba1c77dd45e021ab7ad3a5db2d43da76696399c336462a08ea", func := "loop.example/g01397/laws.FnDirs", spec := "fnDirs", apart := false, narrowed := true }
def FnDirsUptoSaid : Prop := fnDirsUptoRow.holds Try.pinned (OpenSpec.upto fnDirsSpec)

/-- 'laws.FnExactDiskOk', WHERE WHAT IT READS IS OF BULK AT MOST 1048576: true; the input reads as it did. -/
def fnExactDiskOkUptoRow : OpenClaim := { program := "ytodmaebgogjpdab", sum := "34b7d019543819ba1c77dd45e021ab7ad3a5db2d43da76696399c336462a08ea", func := "loop.example/g01397/laws.FnExactDiskOk", spec := "fnExactDiskOk", apart := false, narrowed := true }
def FnExactDiskOkUptoSaid : Prop := fnExactDiskOkUptoRow.holds Try.pinned (OpenSpec.upto fnExactDiskOkSpec)

/-- 'laws.FnExactShowRec', WHERE WHAT IT READS IS OF BULK AT MOST 1048576: true; the input reads as it did. -/
def fnExactShowRecUptoRow : OpenClaim := { program := "ytodmaebgogjpdab", sum := "34b7d019543819ba1c77dd45e021ab7ad3a5db2d43da76696399c336462a08ea", func := "loop.example/g01397/laws.FnExactShowRec", spec := "fnExactShowRec", apart := false, narrowed := true }
def FnExactShowRecUptoSaid : Prop := fnExactShowRecUptoRow.holds Try.pinned (OpenSpec.upto fnExactShowRecSpec)

/-- 'laws.FnExactUnframe', WHERE WHAT IT READS IS OF BULK AT MOST 1048576: true; the input reads as it did. -/
def fnExactUnframeUptoRow : OpenClaim := { program := "ytodmaebgogjpdab", sum := "34b7d019543819ba1c77dd45e021ab7ad3a5db2d43da76696399c336462a08ea", func := "loop.example/g01397/laws.FnExactUnframe", spec := "fnExactUnframe", apart := false, narrowed := true }
def FnExactUnframeUptoSaid : Prop := fnExactUnframeUptoRow.holds Try.pinned (OpenSpec.upto fnExactUnframeSpec)

/-- 'laws.FnExactDirPut', WHERE WHAT IT READS IS OF BULK AT MOST 1048576: true; the input reads as it did. -/
def fnExactDirPutUptoRow : OpenClaim := { program := "ytodmaebgogjpdab", sum := "34b7d019543819ba1c77dd45e021ab7ad3a5db2d43da76696399c336462a08ea", func := "loop.example/g01397/laws.FnExactDirPut", spec := "fnExactDirPut", apart := false, narrowed := true }
def FnExactDirPutUptoSaid : Prop := fnExactDirPutUptoRow.holds Try.pinned (OpenSpec.upto fnExactDirPutSpec)

/-- 'laws.FnExactUsed', WHERE WHAT IT READS IS OF BULK AT MOST 1048576: true; the input reads as it did. -/
def fnExactUsedUptoRow : OpenClaim := { program := "ytodmaebgogjpdab", sum := "34b7d019543819ba1c77dd45e021ab7ad3a5db2d43da76696399c336462a08ea", func := "loop.example/g01397/laws.FnExactUsed", spec := "fnExactUsed", apart := false, narrowed := true }
def FnExactUsedUptoSaid : Prop := fnExactUsedUptoRow.holds Try.pinned (OpenSpec.upto fnExactUsedSpec)

/-- 'laws.FnExactVolatile', WHERE WHAT IT READS IS OF BULK AT MOST 1048576: true; the input reads as it did. -/
def fnExactVolatileUptoRow : OpenClaim := { program := "ytodmaebgogjpdab", sum := "34b7d019543819ba1c77dd45e021ab7ad3a5db2d43da76696399c336462a08ea", func := "loop.example/g01397/laws.FnExactVolatile", spec := "fnExactVolatile", apart := false, narrowed := true }
def FnExactVolatileUptoSaid : Prop := fnExactVolatileUptoRow.holds Try.pinned (OpenSpec.upto fnExactVolatileSpec)

/-- 'laws.FnExactSettled', WHERE WHAT IT READS IS OF BULK AT MOST 1048576: true; the input reads as it did. -/
def fnExactSettledUptoRow : OpenClaim := { program := "ytodmaebgogjpdab", sum := "34b7d019543819ba1c77dd45e021ab7ad3a5db2d43da76696399c336462a08ea", func := "loop.example/g01397/laws.FnExactSettled", spec := "fnExactSettled", apart := false, narrowed := true }
def FnExactSettledUptoSaid : Prop := fnExactSettledUptoRow.holds Try.pinned (OpenSpec.upto fnExactSettledSpec)

/-- 'laws.FnExactFileText', WHERE WHAT IT READS IS OF BULK AT MOST 1048576: true; the input reads as it did. -/
def fnExactFileTextUptoRow : OpenClaim := { program := "ytodmaebgogjpdab", sum := "34b7d019543819ba1c77dd45e021ab7ad3a5db2d43da76696399c336462a08ea", func := "loop.example/g01397/laws.FnExactFileText", spec := "fnExactFileText", apart := false, narrowed := true }
def FnExactFileTextUptoSaid : Prop := fnExactFileTextUptoRow.holds Try.pinned (OpenSpec.upto fnExactFileTextSpec)

/-- 'laws.FnExactShowLive', WHERE WHAT IT READS IS OF BULK AT MOST 1048576: true; the input reads as it did. -/
def fnExactShowLiveUptoRow : OpenClaim := { program := "ytodmaebgogjpdab", sum := "34b7d019543819ba1c77dd45e021ab7ad3a5db2d43da76696399c336462a08ea", func := "loop.example/g01397/laws.FnExactShowLive", spec := "fnExactShowLive", apart := false, narrowed := true }
def FnExactShowLiveUptoSaid : Prop := fnExactShowLiveUptoRow.holds Try.pinned (OpenSpec.upto fnExactShowLiveSpec)

/-- 'laws.FnExactSameStore', WHERE WHAT IT READS IS OF BULK AT MOST 1048576: true; the input reads as it did. -/
def fnExactSameStoreUptoRow : OpenClaim := { program := "ytodmaebgogjpdab", sum := "34b7d019543819ba1c77dd45e021ab7ad3a5db2d43da76696399c336462a08ea", func := "loop.example/g01397/laws.FnExactSameStore", spec := "fnExactSameStore", apart := false, narrowed := true }
def FnExactSameStoreUptoSaid : Prop := fnExactSameStoreUptoRow.holds Try.pinned (OpenSpec.upto fnExactSameStoreSpec)

end Rows
end Go.Proofs.Ytodmaebgogjpdab
