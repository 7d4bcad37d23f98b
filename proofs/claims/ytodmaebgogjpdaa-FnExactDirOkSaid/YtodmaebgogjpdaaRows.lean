/-
  No cell of these rows narrows 'for every input' (looked for: loops, veiled, ifaces, maps, wideKeys, modest, calm, conditions, laid).
  DERIVED. THE GIVEN ROWS OF THIS SEAT. 11 by the template 'for every input the law returns true; each argument reads behind the call as it read before'; 0 by the template 'total and deterministic' (their statements: YtodmaebgogjpdaaTotals.lean).
  GIVEN WITH THE SEED: the statements are not yours to turn. If you find one false, say at which input.
  Laid BY PROGRAM, IN A SANDBOX (cutbox-rows.mjs): the forced cells as the released guide's own fill.sh prints them over the translation b8227ab1b72ebc16… (all of the seat's roots in one cut). By AI agents, Wed Nov 11 2026. No macro, syntax, notation, axiom, sorry.
-/
import Derived.Test.YtodmaebgogjpdaaChecked
import GoSem.Claim
import GoSem.ClaimJoined
import GoSem.ClaimMapViews
import Derived.JoinedTies
import Derived.KernelRfl
namespace Go.Proofs.Ytodmaebgogjpdaa
/- THE CELL 'sum', in the pinned program and in every row, IS THE sha256 OF THE DUMP (.gsa) THAT YtodmaebgogjpdaaProg.lean LOADS. Nothing in Lean hashes anything: it is a label: what it is worth is what the hold of that sum in a sandbox is worth. -/
noncomputable def Try.pinned : Pinned := { name := "ytodmaebgogjpdaa", sum := "b8227ab1b72ebc160e4a4a28888726171b4221fc48143b523d764e8cda23a0c3", checked := Try.checked }
namespace Rows
def none {H : Type} : Left H := { results := [], args := [] }

/-- 'laws.FnExactLiveOk': WHATEVER THE INPUT: true; the input reads as it did. -/
def fnExactLiveOkSpec : ChangeSpec := { name := "fnExactLiveOk", fn := fun _ => fun
  | [d] => { results := [.lit (.bool true)], args := [d] }
  | _ => none }
def fnExactLiveOkRow : OpenClaim := { program := "ytodmaebgogjpdaa", sum := "b8227ab1b72ebc160e4a4a28888726171b4221fc48143b523d764e8cda23a0c3", func := "loop.example/g01397/laws.FnExactLiveOk", spec := "fnExactLiveOk", apart := false }
def FnExactLiveOkSaid : Prop := fnExactLiveOkRow.holds Try.pinned (OpenSpec.ofChange fnExactLiveOkSpec)

/-- ITS FALSE NEIGHBOUR: 'it returns false'. Refute it at one input. -/
def fnExactLiveOkWrong : ChangeSpec := { name := "fnExactLiveOk", fn := fun _ => fun
  | [d] => { results := [.lit (.bool false)], args := [d] }
  | _ => none }
def FnExactLiveOkWrongFalsely : Prop := fnExactLiveOkRow.holds Try.pinned (OpenSpec.ofChange fnExactLiveOkWrong)

/-- 'laws.FnHints': WHATEVER THE INPUT: true; the input reads as it did. -/
def fnHintsSpec : ChangeSpec := { name := "fnHints", fn := fun _ => fun
  | [d] => { results := [.lit (.bool true)], args := [d] }
  | _ => none }
def fnHintsRow : OpenClaim := { program := "ytodmaebgogjpdaa", sum := "b8227ab1b72ebc160e4a4a28888726171b4221fc48143b523d764e8cda23a0c3", func := "loop.example/g01397/laws.FnHints", spec := "fnHints", apart := false }
def FnHintsSaid : Prop := fnHintsRow.holds Try.pinned (OpenSpec.ofChange fnHintsSpec)

/-- ITS FALSE NEIGHBOUR: 'it returns false'. Refute it at one input. -/
def fnHintsWrong : ChangeSpec := { name := "fnHints", fn := fun _ => fun
  | [d] => { results := [.lit (.bool false)], args := [d] }
  | _ => none }
def FnHintsWrongFalsely : Prop := fnHintsRow.holds Try.pinned (OpenSpec.ofChange fnHintsWrong)

/-- 'laws.FnExactDirGet': WHATEVER THE INPUT: true; the input reads as it did. -/
def fnExactDirGetSpec : ChangeSpec := { name := "fnExactDirGet", fn := fun _ => fun
  | [d1, d2] => { results := [.lit (.bool true)], args := [d1, d2] }
  | _ => none }
def fnExactDirGetRow : OpenClaim := { program := "ytodmaebgogjpdaa", sum := "b8227ab1b72ebc160e4a4a28888726171b4221fc48143b523d764e8cda23a0c3", func := "loop.example/g01397/laws.FnExactDirGet", spec := "fnExactDirGet", apart := false }
def FnExactDirGetSaid : Prop := fnExactDirGetRow.holds Try.pinned (OpenSpec.ofChange fnExactDirGetSpec)

/-- ITS FALSE NEIGHBOUR: 'it returns false'. Refute it at one input. -/
def fnExactDirGetWrong : ChangeSpec := { name := "fnExactDirGet", fn := fun _ => fun
  | [d1, d2] => { results := [.lit (.bool false)], args := [d1, d2] }
  | _ => none }
def FnExactDirGetWrongFalsely : Prop := fnExactDirGetRow.holds Try.pinned (OpenSpec.ofChange fnExactDirGetWrong)

/-- 'laws.FnExactSameDir': WHATEVER THE INPUT: true; the input reads as it did. -/
def fnExactSameDirSpec : ChangeSpec := { name := "fnExactSameDir", fn := fun _ => fun
  | [d1, d2] => { results := [.lit (.bool true)], args := [d1, d2] }
  | _ => none }
def fnExactSameDirRow : OpenClaim := { program := "ytodmaebgogjpdaa", sum := "b8227ab1b72ebc160e4a4a28888726171b4221fc48143b523d764e8cda23a0c3", func := "loop.example/g01397/laws.FnExactSameDir", spec := "fnExactSameDir", apart := false }
def FnExactSameDirSaid : Prop := fnExactSameDirRow.holds Try.pinned (OpenSpec.ofChange fnExactSameDirSpec)

/-- ITS FALSE NEIGHBOUR: 'it returns false'. Refute it at one input. -/
def fnExactSameDirWrong : ChangeSpec := { name := "fnExactSameDir", fn := fun _ => fun
  | [d1, d2] => { results := [.lit (.bool false)], args := [d1, d2] }
  | _ => none }
def FnExactSameDirWrongFalsely : Prop := fnExactSameDirRow.holds Try.pinned (OpenSpec.ofChange fnExactSameDirWrong)

/-- 'laws.FnExactDirOk': WHATEVER THE INPUT: true; the input reads as it did. -/
def fnExactDirOkSpec : ChangeSpec := { name := "fnExactDirOk", fn := fun _ => fun
  | [d] => { results := [.lit (.bool true)], args := [d] }
  | _ => none }
def fnExactDirOkRow : OpenClaim := { program := "ytodmaebgogjpdaa", sum := "b8227ab1b72ebc160e4a4a28888726171b4221fc48143b523d764e8cda23a0c3", func := "loop.example/g01397/laws.FnExactDirOk", spec := "fnExactDirOk", apart := false }
def FnExactDirOkSaid : Prop := fnExactDirOkRow.holds Try.pinned (OpenSpec.ofChange fnExactDirOkSpec)

/-- ITS FALSE NEIGHBOUR: 'it returns false'. Refute it at one input. -/
def fnExactDirOkWrong : ChangeSpec := { name := "fnExactDirOk", fn := fun _ => fun
  | [d] => { results := [.lit (.bool false)], args := [d] }
  | _ => none }
def FnExactDirOkWrongFalsely : Prop := fnExactDirOkRow.holds Try.pinned (OpenSpec.ofChange fnExactDirOkWrong)

/-- 'laws.FnSums': WHATEVER THE INPUT: true; the input reads as it did. -/
def fnSumsSpec : ChangeSpec := { name := "fnSums", fn := fun _ => fun
  | [d] => { results := [.lit (.bool true)], args := [d] }
  | _ => none }
def fnSumsRow : OpenClaim := { program := "ytodmaebgogjpdaa", sum := "b8227ab1b72ebc160e4a4a28888726171b4221fc48143b523d764e8cda23a0c3", func := "loop.example/g01397/laws.FnSums", spec := "fnSums", apart := false }
def FnSumsSaid : Prop := fnSumsRow.holds Try.pinned (OpenSpec.ofChange fnSumsSpec)

/-- ITS FALSE NEIGHBOUR: 'it returns false'. Refute it at one input. -/
def fnSumsWrong : ChangeSpec := { name := "fnSums", fn := fun _ => fun
  | [d] => { results := [.lit (.bool false)], args := [d] }
  | _ => none }
def FnSumsWrongFalsely : Prop := fnSumsRow.holds Try.pinned (OpenSpec.ofChange fnSumsWrong)

/-- 'laws.FnExactFrame': WHATEVER THE INPUT: true; the input reads as it did. -/
def fnExactFrameSpec : ChangeSpec := { name := "fnExactFrame", fn := fun _ => fun
  | [d] => { results := [.lit (.bool true)], args := [d] }
  | _ => none }
def fnExactFrameRow : OpenClaim := { program := "ytodmaebgogjpdaa", sum := "b8227ab1b72ebc160e4a4a28888726171b4221fc48143b523d764e8cda23a0c3", func := "loop.example/g01397/laws.FnExactFrame", spec := "fnExactFrame", apart := false }
def FnExactFrameSaid : Prop := fnExactFrameRow.holds Try.pinned (OpenSpec.ofChange fnExactFrameSpec)

/-- ITS FALSE NEIGHBOUR: 'it returns false'. Refute it at one input. -/
def fnExactFrameWrong : ChangeSpec := { name := "fnExactFrame", fn := fun _ => fun
  | [d] => { results := [.lit (.bool false)], args := [d] }
  | _ => none }
def FnExactFrameWrongFalsely : Prop := fnExactFrameRow.holds Try.pinned (OpenSpec.ofChange fnExactFrameWrong)

/-- 'laws.FnExactDiskNew': WHATEVER THE INPUT: true; the input reads as it did. -/
def fnExactDiskNewSpec : ChangeSpec := { name := "fnExactDiskNew", fn := fun _ => fun
  | [d] => { results := [.lit (.bool true)], args := [d] }
  | _ => none }
def fnExactDiskNewRow : OpenClaim := { program := "ytodmaebgogjpdaa", sum := "b8227ab1b72ebc160e4a4a28888726171b4221fc48143b523d764e8cda23a0c3", func := "loop.example/g01397/laws.FnExactDiskNew", spec := "fnExactDiskNew", apart := false }
def FnExactDiskNewSaid : Prop := fnExactDiskNewRow.holds Try.pinned (OpenSpec.ofChange fnExactDiskNewSpec)

/-- ITS FALSE NEIGHBOUR: 'it returns false'. Refute it at one input. -/
def fnExactDiskNewWrong : ChangeSpec := { name := "fnExactDiskNew", fn := fun _ => fun
  | [d] => { results := [.lit (.bool false)], args := [d] }
  | _ => none }
def FnExactDiskNewWrongFalsely : Prop := fnExactDiskNewRow.holds Try.pinned (OpenSpec.ofChange fnExactDiskNewWrong)

/-- 'laws.FnExactSameDisk': WHATEVER THE INPUT: true; the input reads as it did. -/
def fnExactSameDiskSpec : ChangeSpec := { name := "fnExactSameDisk", fn := fun _ => fun
  | [d1, d2] => { results := [.lit (.bool true)], args := [d1, d2] }
  | _ => none }
def fnExactSameDiskRow : OpenClaim := { program := "ytodmaebgogjpdaa", sum := "b8227ab1b72ebc160e4a4a28888726171b4221fc48143b523d764e8cda23a0c3", func := "loop.example/g01397/laws.FnExactSameDisk", spec := "fnExactSameDisk", apart := false }
def FnExactSameDiskSaid : Prop := fnExactSameDiskRow.holds Try.pinned (OpenSpec.ofChange fnExactSameDiskSpec)

/-- ITS FALSE NEIGHBOUR: 'it returns false'. Refute it at one input. -/
def fnExactSameDiskWrong : ChangeSpec := { name := "fnExactSameDisk", fn := fun _ => fun
  | [d1, d2] => { results := [.lit (.bool false)], args := [d1, d2] }
  | _ => none }
def FnExactSameDiskWrongFalsely : Prop := fnExactSameDiskRow.holds Try.pinned (OpenSpec.ofChange fnExactSameDiskWrong)

/-- 'laws.FnExactDirKeys': WHATEVER THE INPUT: true; the input reads as it did. -/
def fnExactDirKeysSpec : ChangeSpec := { name := "fnExactDirKeys", fn := fun _ => fun
  | [d] => { results := [.lit (.bool true)], args := [d] }
  | _ => none }
def fnExactDirKeysRow : OpenClaim := { program := "ytodmaebgogjpdaa", sum := "b8227ab1b72ebc160e4a4a28888726171b4221fc48143b523d764e8cda23a0c3", func := "loop.example/g01397/laws.FnExactDirKeys", spec := "fnExactDirKeys", apart := false }
def FnExactDirKeysSaid : Prop := fnExactDirKeysRow.holds Try.pinned (OpenSpec.ofChange fnExactDirKeysSpec)

/-- ITS FALSE NEIGHBOUR: 'it returns false'. Refute it at one input. -/
def fnExactDirKeysWrong : ChangeSpec := { name := "fnExactDirKeys", fn := fun _ => fun
  | [d] => { results := [.lit (.bool false)], args := [d] }
  | _ => none }
def FnExactDirKeysWrongFalsely : Prop := fnExactDirKeysRow.holds Try.pinned (OpenSpec.ofChange fnExactDirKeysWrong)

/-- 'laws.FnExactDirDrop': WHATEVER THE INPUT: true; the input reads as it did. -/
def fnExactDirDropSpec : ChangeSpec := { name := "fnExactDirDrop", fn := fun _ => fun
  | [d1, d2] => { results := [.lit (.bool true)], args := [d1, d2] }
  | _ => none }
def fnExactDirDropRow : OpenClaim := { program := "ytodmaebgogjpdaa", sum := "b8227ab1b72ebc160e4a4a28888726171b4221fc48143b523d764e8cda23a0c3", func := "loop.example/g01397/laws.FnExactDirDrop", spec := "fnExactDirDrop", apart := false }
def FnExactDirDropSaid : Prop := fnExactDirDropRow.holds Try.pinned (OpenSpec.ofChange fnExactDirDropSpec)

/-- ITS FALSE NEIGHBOUR: 'it returns false'. Refute it at one input. -/
def fnExactDirDropWrong : ChangeSpec := { name := "fnExactDirDrop", fn := fun _ => fun
  | [d1, d2] => { results := [.lit (.bool false)], args := [d1, d2] }
  | _ => none }
def FnExactDirDropWrongFalsely : Prop := fnExactDirDropRow.holds Try.pinned (OpenSpec.ofChange fnExactDirDropWrong)

/- THE SECOND FORM. 'bulk': how many values and letters a reading holds, each counted each time it is reached (what is shared counts as often as it is met; a slice's spare places count too). A statement '..UptoSaid' is the law's where the arguments, and the package variables that the reading takes, are together of bulk at most 1048576: NARROWER than '..Said'. Prove '..Said' where nothing that the law and all that it calls make is longer than what came in: it says more and counts as full. Else prove '..UptoSaid'. A law counts once. -/
mutual
def uptoBulk {H : Type} : DataW H → Nat
  | .lit (.string bytes) => bytes.length + 1
  | .lit _ => 1
  | .nil => 1
  | .ptr d => uptoBulk d + 1
  | .slice elems spare => uptoBulkAll elems + uptoBulkAll spare + 1
  | .agg parts => uptoBulkAll parts + 1
  | .iface _ d => uptoBulk d + 1
  | .map entries => uptoBulkEntries entries + 1
  | .held _ => 1
def uptoBulkAll {H : Type} : List (DataW H) → Nat
  | [] => 0
  | d :: r => uptoBulk d + uptoBulkAll r
def uptoBulkEntries {H : Type} : List (Lit × DataW H) → Nat
  | [] => 0
  | x :: r => uptoBulkEntry x + uptoBulkEntries r
def uptoBulkEntry {H : Type} : Lit × DataW H → Nat
  | (.string bytes, d) => bytes.length + uptoBulk d + 1
  | (_, d) => uptoBulk d + 1
 end
def uptoSmall : (H : Type) → List (DataW H) → Bool := fun _ ds => decide (uptoBulkAll ds ≤ 1048576)
def OpenSpec.upto (s : _root_.Go.ChangeSpec) : _root_.Go.OpenSpec := { _root_.Go.OpenSpec.ofChange s with cond := some uptoSmall }

/-- 'laws.FnExactLiveOk', WHERE WHAT IT READS IS OF BULK AT MOST 1048576: true; the input reads as it did. -/
def fnExactLiveOkUptoRow : OpenClaim := { program := "ytodmaebgogjpdaa", sum := "b8227ab1b72ebc160e4a4a28888726171b4221fc48143b523d764e8cda23a0c3", func := "loop.example/g01397/laws.FnExactLiveOk", spec := "fnExactLiveOk", apart := false, narrowed := true }
def FnExactLiveOkUptoSaid : Prop := fnExactLiveOkUptoRow.holds Try.pinned (OpenSpec.upto fnExactLiveOkSpec)

/-- 'laws.FnHints', WHERE WHAT IT READS IS OF BULK AT MOST 1048576: true; the input reads as it did. -/
def fnHintsUptoRow : OpenClaim := { program := "ytodmaebgogjpdaa", sum := "b8227ab1b72ebc160e4a4a28888726171b4221fc48143b523d764e8cda23a0c3", func := "loop.example/g01397/laws.FnHints", spec := "fnHints", apart := false, narrowed := true }
def FnHintsUptoSaid : Prop := fnHintsUptoRow.holds Try.pinned (OpenSpec.upto fnHintsSpec)

/-- 'laws.FnExactDirGet', WHERE WHAT IT READS IS OF BULK AT MOST 1048576: true; the input reads as it did. -/
def fnExactDirGetUptoRow : OpenClaim := { program := "ytodmaebgogjpdaa", sum := "b8227ab1b72ebc160e4a4a28888726171b4221fc48143b523d764e8cda23a0c3", func := "loop.example/g01397/laws.FnExactDirGet", spec := "fnExactDirGet", apart := false, narrowed := true }
def FnExactDirGetUptoSaid : Prop := fnExactDirGetUptoRow.holds Try.pinned (OpenSpec.upto fnExactDirGetSpec)

/-- 'laws.FnExactSameDir', WHERE WHAT IT READS IS OF BULK AT MOST 1048576: true; the input reads as it did. -/
def fnExactSameDirUptoRow : OpenClaim := { program := "ytodmaebgogjpdaa", sum := "b8227ab1b72ebc160e4a4a28888726171b4221fc48143b523d764e8cda23a0c3", func := "loop.example/g01397/laws.FnExactSameDir", spec := "fnExactSameDir", apart := false, narrowed := true }
def FnExactSameDirUptoSaid : Prop := fnExactSameDirUptoRow.holds Try.pinned (OpenSpec.upto fnExactSameDirSpec)

/-- 'laws.FnExactDirOk', WHERE WHAT IT READS IS OF BULK AT MOST 1048576: true; the input reads as it did. -/
def fnExactDirOkUptoRow : OpenClaim := { program := "ytodmaebgogjpdaa", sum := "b8227ab1b72ebc160e4a4a28888726171b4221fc48143b523d764e8cda23a0c3", func := "loop.example/g01397/laws.FnExactDirOk", spec := "fnExactDirOk", apart := false, narrowed := true }
def FnExactDirOkUptoSaid : Prop := fnExactDirOkUptoRow.holds Try.pinned (OpenSpec.upto fnExactDirOkSpec)

/-- 'laws.FnSums', WHERE WHAT IT READS IS OF BULK AT MOST 1048576: true; the input reads as it did. -/
def fnSumsUptoRow : OpenClaim := { program := "ytodmaebgogjpdaa", sum := "b8227ab1b72ebc160e4a4a28888726171b4221fc48143b523d764e8cda23a0c3", func := "loop.example/g01397/laws.FnSums", spec := "fnSums", apart := false, narrowed := true }
def FnSumsUptoSaid : Prop := fnSumsUptoRow.holds Try.pinned (OpenSpec.upto fnSumsSpec)

/-- 'laws.FnExactFrame', WHERE WHAT IT READS IS OF BULK AT MOST 1048576: true; the input reads as it did. -/
def fnExactFrameUptoRow : OpenClaim := { program := "ytodmaebgogjpdaa", sum := "b8227ab1b72ebc160e4a4a28888726171b4221fc48143b523d764e8cda23a0c3", func := "loop.example/g01397/laws.FnExactFrame", spec := "fnExactFrame", apart := false, narrowed := true }
def FnExactFrameUptoSaid : Prop := fnExactFrameUptoRow.holds Try.pinned (OpenSpec.upto fnExactFrameSpec)

/-- 'laws.FnExactDiskNew', WHERE WHAT IT READS IS OF BULK AT MOST 1048576: true; the input reads as it did. -/
def fnExactDiskNewUptoRow : OpenClaim := { program := "ytodmaebgogjpdaa", sum := "b8227ab1b72ebc160e4a4a28888726171b4221fc48143b523d764e8cda23a0c3", func := "loop.example/g01397/laws.FnExactDiskNew", spec := "fnExactDiskNew", apart := false, narrowed := true }
def FnExactDiskNewUptoSaid : Prop := fnExactDiskNewUptoRow.holds Try.pinned (OpenSpec.upto fnExactDiskNewSpec)

/-- 'laws.FnExactSameDisk', WHERE WHAT IT READS IS OF BULK AT MOST 1048576: true; the input reads as it did. -/
def fnExactSameDiskUptoRow : OpenClaim := { program := "ytodmaebgogjpdaa", sum := "b8227ab1b72ebc160e4a4a28888726171b4221fc48143b523d764e8cda23a0c3", func := "loop.example/g01397/laws.FnExactSameDisk", spec := "fnExactSameDisk", apart := false, narrowed := true }
def FnExactSameDiskUptoSaid : Prop := fnExactSameDiskUptoRow.holds Try.pinned (OpenSpec.upto fnExactSameDiskSpec)

/-- 'laws.FnExactDirKeys', WHERE WHAT IT READS IS OF BULK AT MOST 1048576: true; the input reads as it did. -/
def fnExactDirKeysUptoRow : OpenClaim := { program := "ytodmaebgogjpdaa", sum := "b8227ab1b72ebc160e4a4a28888726171b4221fc48143b523d764e8cda23a0c3", func := "loop.example/g01397/laws.FnExactDirKeys", spec := "fnExactDirKeys", apart := false, narrowed := true }
def FnExactDirKeysUptoSaid : Prop := fnExactDirKeysUptoRow.holds Try.pinned (OpenSpec.upto fnExactDirKeysSpec)

/-- 'laws.FnExactDirDrop', WHERE WHAT IT READS IS OF BULK AT MOST 1048576: true; the input reads as it did. -/
def fnExactDirDropUptoRow : OpenClaim := { program := "ytodmaebgogjpdaa", sum := "b8227ab1b72ebc160e4a4a28888726171b4221fc48143b523d764e8cda23a0c3", func := "loop.example/g01397/laws.FnExactDirDrop", spec := "fnExactDirDrop", apart := false, narrowed := true }
def FnExactDirDropUptoSaid : Prop := fnExactDirDropUptoRow.holds Try.pinned (OpenSpec.upto fnExactDirDropSpec)

end Rows
end Go.Proofs.Ytodmaebgogjpdaa
