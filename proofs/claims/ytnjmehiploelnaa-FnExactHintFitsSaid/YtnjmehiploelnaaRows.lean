/-
  No cell of these rows narrows 'for every input' (looked for: loops, veiled, ifaces, maps, wideKeys, modest, calm, conditions, laid).
  DERIVED. THE GIVEN ROWS OF THIS SEAT. 3 by the template 'for every input the law returns true; each argument reads behind the call as it read before'; 0 by the template 'total and deterministic' (their statements: YtnjmehiploelnaaTotals.lean).
  GIVEN WITH THE SEED: the statements are not yours to turn. If you find one false, say at which input.
  Laid BY PROGRAM, IN A SANDBOX (cutbox-rows.mjs): the forced cells as the released guide's own fill.sh prints them over the translation ddd9cb328486f63d… (all of the seat's roots in one cut). By AI agents, Wed Nov 11 2026. No macro, syntax, notation, axiom, sorry.
-/
import Derived.Test.YtnjmehiploelnaaChecked
import GoSem.Claim
import GoSem.ClaimJoined
import GoSem.ClaimMapViews
import Derived.JoinedTies
import Derived.KernelRfl
namespace Go.Proofs.Ytnjmehiploelnaa
/- THE CELL 'sum', in the pinned program and in every row, IS THE sha256 OF THE DUMP (.gsa) THAT YtnjmehiploelnaaProg.lean LOADS. Nothing in Lean hashes anything: it is a label: what it is worth is what the hold of that sum in a sandbox is worth. -/
noncomputable def Try.pinned : Pinned := { name := "ytnjmehiploelnaa", sum := "ddd9cb328486f63d581af835dab729467e90bfe2410206b2538f42ae3000f839", checked := Try.checked }
namespace Rows
def none {H : Type} : Left H := { results := [], args := [] }

/-- 'laws.FnFrames': WHATEVER THE INPUT: true; the input reads as it did. -/
def fnFramesSpec : ChangeSpec := { name := "fnFrames", fn := fun _ => fun
  | [d] => { results := [.lit (.bool true)], args := [d] }
  | _ => none }
def fnFramesRow : OpenClaim := { program := "ytnjmehiploelnaa", sum := "ddd9cb328486f63d581af835dab729467e90bfe2410206b2538f42ae3000f839", func := "loop.example/g01397/laws.FnFrames", spec := "fnFrames", apart := false }
def FnFramesSaid : Prop := fnFramesRow.holds Try.pinned (OpenSpec.ofChange fnFramesSpec)

/-- ITS FALSE NEIGHBOUR: 'it returns false'. Refute it at one input. -/
def fnFramesWrong : ChangeSpec := { name := "fnFrames", fn := fun _ => fun
  | [d] => { results := [.lit (.bool false)], args := [d] }
  | _ => none }
def FnFramesWrongFalsely : Prop := fnFramesRow.holds Try.pinned (OpenSpec.ofChange fnFramesWrong)

/-- 'laws.FnExactHintOf': WHATEVER THE INPUT: true; the input reads as it did. -/
def fnExactHintOfSpec : ChangeSpec := { name := "fnExactHintOf", fn := fun _ => fun
  | [d1, d2] => { results := [.lit (.bool true)], args := [d1, d2] }
  | _ => none }
def fnExactHintOfRow : OpenClaim := { program := "ytnjmehiploelnaa", sum := "ddd9cb328486f63d581af835dab729467e90bfe2410206b2538f42ae3000f839", func := "loop.example/g01397/laws.FnExactHintOf", spec := "fnExactHintOf", apart := false }
def FnExactHintOfSaid : Prop := fnExactHintOfRow.holds Try.pinned (OpenSpec.ofChange fnExactHintOfSpec)

/-- ITS FALSE NEIGHBOUR: 'it returns false'. Refute it at one input. -/
def fnExactHintOfWrong : ChangeSpec := { name := "fnExactHintOf", fn := fun _ => fun
  | [d1, d2] => { results := [.lit (.bool false)], args := [d1, d2] }
  | _ => none }
def FnExactHintOfWrongFalsely : Prop := fnExactHintOfRow.holds Try.pinned (OpenSpec.ofChange fnExactHintOfWrong)

/-- 'laws.FnExactHintFits': WHATEVER THE INPUT: true; the input reads as it did. -/
def fnExactHintFitsSpec : ChangeSpec := { name := "fnExactHintFits", fn := fun _ => fun
  | [d1, d2, d3] => { results := [.lit (.bool true)], args := [d1, d2, d3] }
  | _ => none }
def fnExactHintFitsRow : OpenClaim := { program := "ytnjmehiploelnaa", sum := "ddd9cb328486f63d581af835dab729467e90bfe2410206b2538f42ae3000f839", func := "loop.example/g01397/laws.FnExactHintFits", spec := "fnExactHintFits", apart := false }
def FnExactHintFitsSaid : Prop := fnExactHintFitsRow.holds Try.pinned (OpenSpec.ofChange fnExactHintFitsSpec)

/-- ITS FALSE NEIGHBOUR: 'it returns false'. Refute it at one input. -/
def fnExactHintFitsWrong : ChangeSpec := { name := "fnExactHintFits", fn := fun _ => fun
  | [d1, d2, d3] => { results := [.lit (.bool false)], args := [d1, d2, d3] }
  | _ => none }
def FnExactHintFitsWrongFalsely : Prop := fnExactHintFitsRow.holds Try.pinned (OpenSpec.ofChange fnExactHintFitsWrong)

/- THE SECOND FORM. 'bulk': how many values and letters a reading holds, each counted each time it is reached (what is shared counts as often as it is met; a slice's spare places count too). A statement '..UptoSaid' is the law's where the arguments, and the package variables that the reading takes, are together of bulk at most 1048576: NARROWER than '..Said'. Prove '..Said' where nothing that the law and all that it calls make is longer than what came in: it says more and counts as full. Else prove '..UptoSaid'. A law counts once. -/
mutual
def uptoBulk {H : Type} : DataW H → Nat
  | .lit (.string bytes) => bytes.length + 1
  | .lit _ => 1
  | .nil => 1
  | .ptr d => uptoBulk d + 1
  | .slice elems spare => uptoBulkAll elems + uptoBulkAll spare + 1
  | .agg parts => uptoBulkAll parts + 1
  | .iface _ d => uptoBulk d + 1
  | .map entries => uptoBulkEntries entries + 1
  | .held _ => 1
def uptoBulkAll {H : Type} : List (DataW H) → Nat
  | [] => 0
  | d :: r => uptoBulk d + uptoBulkAll r
def uptoBulkEntries {H : Type} : List (Lit × DataW H) → Nat
  | [] => 0
  | x :: r => uptoBulkEntry x + uptoBulkEntries r
def uptoBulkEntry {H : Type} : Lit × DataW H → Nat
  | (.string bytes, d) => bytes.length + uptoBulk d + 1
  | (_, d) => uptoBulk d + 1
 end
def uptoSmall : (H : Type) → List (DataW H) → Bool := fun _ ds => decide (uptoBulkAll ds ≤ 1048576)
def OpenSpec.upto (s : _root_.Go.ChangeSpec) : _root_.Go.OpenSpec := { _root_.Go.OpenSpec.ofChange s with cond := some uptoSmall }

/-- 'laws.FnFrames', WHERE WHAT IT READS IS OF BULK AT MOST 1048576: true; the input reads as it did. -/
def fnFramesUptoRow : OpenClaim := { program := "ytnjmehiploelnaa", sum := "ddd9cb328486f63d581af835dab729467e90bfe2410206b2538f42ae3000f839", func := "loop.example/g01397/laws.FnFrames", spec := "fnFrames", apart := false, narrowed := true }
def FnFramesUptoSaid : Prop := fnFramesUptoRow.holds Try.pinned (OpenSpec.upto fnFramesSpec)

/-- 'laws.FnExactHintOf', WHERE WHAT IT READS IS OF BULK AT MOST 1048576: true; the input reads as it did. -/
def fnExactHintOfUptoRow : OpenClaim := { program := "ytnjmehiploelnaa", sum := "ddd9cb328486f63d581af835dab729467e90bfe2410206b2538f42ae3000f839", func := "loop.example/g01397/laws.FnExactHintOf", spec := "fnExactHintOf", apart := false, narrowed := true }
def FnExactHintOfUptoSaid : Prop := fnExactHintOfUptoRow.holds Try.pinned (OpenSpec.upto fnExactHintOfSpec)

/-- 'laws.FnExactHintFits', WHERE WHAT IT READS IS OF BULK AT MOST 1048576: true; the input reads as it did. -/
def fnExactHintFitsUptoRow : OpenClaim := { program := "ytnjmehiploelnaa", sum := "ddd9cb328486f63d581af835dab729467e90bfe2410206b2538f42ae3000f839", func := "loop.example/g01397/laws.FnExactHintFits", spec := "fnExactHintFits", apart := false, narrowed := true }
def FnExactHintFitsUptoSaid : Prop := fnExactHintFitsUptoRow.holds Try.pinned (OpenSpec.upto fnExactHintFitsSpec)

end Rows
end Go.Proofs.Ytnjmehiploelnaa
