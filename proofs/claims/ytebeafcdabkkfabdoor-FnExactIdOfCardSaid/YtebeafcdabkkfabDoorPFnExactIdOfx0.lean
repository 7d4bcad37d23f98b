-- Laid by a program of this session, a copy of the kit's printer with additions (wip/patch_print.py): myhead. Lean checks it.
import Derived.Test.YtebeafcdabkkfabDoorProg
import Derived.Below
import Derived.Deep.Draws
import Derived.Deep.AppendLies
import Derived.Maps.AppendAt
import Derived.OwnWalk
import Derived.Laws.BytesArg
import Derived.Laws.MakeOwn
import Derived.Laws.OwnMore
import Derived.Deep.OwnRows
import Derived.Tactics
import Derived.Lib.ConvBytes
import Derived.Laws.Slices
import Derived.WalkKit
import Derived.KernelRfl
import Derived.RowKit3
import Derived.Deep.LoopGhost
import Derived.Deep.QuietTactic
import Derived.BigQuiet
import Derived.WideLaws
import Derived.Deep.DeepCutAuto
import Derived.Deep.CutBlock
import Derived.Deep.RegionHeld3
import Derived.Laws.Rows
import Derived.Lib.AppendStr
import Derived.ArgAppend
import Derived.Laws.IdiomCopy
import Derived.OrdersHeld
import Derived.Laws.BitsLemmas
import Derived.RowKit
import Derived.Lib.LaidTab
import Derived.Lib.AppendIntMem
import Derived.Test.YtebeafcdabkkfabDoorShelf
import Derived.Lib.AtoiErrMem
import Derived.Lib.AtoiAll
import Derived.Test.YtebeafcdabkkfabDoorWWords
import Derived.Test.YtebeafcdabkkfabDoorWLast
import Derived.Test.YtebeafcdabkkfabDoorWTab
import Derived.Test.YtebeafcdabkkfabDoorWFour
import Derived.Test.YtebeafcdabkkfabDoorWQPut
import Derived.Test.YtebeafcdabkkfabDoorWApart
import Derived.Test.YtebeafcdabkkfabDoorWArr
import Derived.Test.YtebeafcdabkkfabDoorWZeros
import Derived.Test.YtebeafcdabkkfabDoorWFoot
import Derived.Test.YtebeafcdabkkfabDoorWKept
import Derived.Test.YtebeafcdabkkfabDoorWShare
import Derived.Test.YtebeafcdabkkfabDoorWN
import Derived.Test.YtebeafcdabkkfabDoorWFootNe
import Derived.Test.YtebeafcdabkkfabDoorWAt
import Derived.Test.YtebeafcdabkkfabDoorWEqStruct
import Derived.Test.YtebeafcdabkkfabDoorWRepsOne
import Derived.Test.YtebeafcdabkkfabDoorWInv
import Derived.Test.YtebeafcdabkkfabDoorWInvWords
import Derived.Test.YtebeafcdabkkfabDoorWGuard
import Derived.Test.YtebeafcdabkkfabDoorWNEv
import Derived.Test.YtebeafcdabkkfabDoorWMore
namespace Go.Proofs.YtebeafcdabkkfabDoor.PFnExactIdOf
open Go.RowKit Go.Proofs.YtebeafcdabkkfabDoorW.PrintWords Go.Proofs.YtebeafcdabkkfabDoorW.PrintLast Go.Proofs.YtebeafcdabkkfabDoorW.PrintMore
attribute [local go_sem] max2_int min2_int max_two min_two max_three min_three max_four min_four   -- for this text's walks alone
set_option linter.unusedVariables false
set_option linter.unusedSimpArgs false



def errW : Option Int → Value
  | none => .nilIface
  | some c => .iface 0 (.int .i64 c)
theorem errW_none : errW none = .nilIface := rfl
theorem errW_some (c : Int) : errW (some c) = .iface 0 (.int .i64 c) := rfl

theorem info5 : (Tryd.prog.info? 5).map (fun i => (i.zero, i.size, i.bytes)) = some (some (.int .u8 0), 1, 1) := by kernel_rfl
-- the values' own types

/-! ### what the row's list gives -/
def Tabs (w : World) : Prop := Lib.TabIs Tryd.prog w "internal/strconv.uint64pow10" .u64 Lib.pow10Tab ∧ (∃ tp p_, w.cell? ⟨0, 0, none⟩ = some (.iface tp p_)) ∧ (∃ tp p_, w.cell? ⟨1, 0, none⟩ = some (.iface tp p_))
theorem tabIs_below {n : String} {k : IntKind} {zs : List Int} {w w' : World} (h : Lib.TabIs Tryd.prog w n k zs) (hb : Below w.heap.size w w') : Lib.TabIs Tryd.prog w' n k zs := by
  unfold Lib.TabIs World.var? at h ⊢
  cases hg : Tryd.prog.globalNamed n with
  | none => rw [hg] at h; cases h
  | some g =>
    rw [hg] at h
    simp only [Option.bind_some] at h ⊢
    have hlt : g < w.heap.size := by
      rcases Nat.lt_or_ge g w.heap.size with h' | h'
      · exact h'
      · rw [Array.getElem?_eq_none h'] at h; cases h
    rw [hb.block g hlt]
    exact h
theorem cell_below' {w w' : World} (hb : Below w.heap.size w w') {a : Addr} {v : Value} (hc : w.cell? a = some v) : w'.cell? a = some v := (hb.cell (World.block_lt_of_cell? w a hc)).trans hc
theorem Tabs.below {w w' : World} (h : Tabs w) (hb : Below w.heap.size w w') : Tabs w' := by
  obtain ⟨h1, ⟨a, b, e⟩, ⟨a', b', e'⟩⟩ := h
  exact ⟨tabIs_below h1 hb, ⟨a, b, cell_below' hb e⟩, ⟨a', b', cell_below' hb e'⟩⟩
theorem Tabs.pow {w : World} (h : Tabs w) : Lib.TabIs Tryd.prog w "internal/strconv.uint64pow10" .u64 Lib.pow10Tab := h.1
theorem below_grow' (w : World) (k : Nat) (os : Array Obj) : Below w.heap.size w (Go.Sort.grow (w.drewN k) os) := Go.Lib.below_grow w.heap.size w (Nat.le_refl _) k os
end Go.Proofs.YtebeafcdabkkfabDoor.PFnExactIdOf
