-- Laid by a program of this session, a copy of the kit's printer with additions (wip/patch_print.py): myhead. Lean checks it.
import Derived.Test.YtmoagpjmackmpaaProg
import Derived.Below
import Derived.Deep.Draws
import Derived.Deep.AppendLies
import Derived.Maps.AppendAt
import Derived.OwnWalk
import Derived.Laws.BytesArg
import Derived.Laws.MakeOwn
import Derived.Laws.OwnMore
import Derived.Deep.OwnRows
import Derived.Tactics
import Derived.Lib.ConvBytes
import Derived.Laws.Slices
import Derived.WalkKit
import Derived.KernelRfl
import Derived.RowKit3
import Derived.Deep.LoopGhost
import Derived.Deep.QuietTactic
import Derived.BigQuiet
import Derived.WideLaws
import Derived.Deep.DeepCutAuto
import Derived.Deep.CutBlock
import Derived.Deep.RegionHeld3
import Derived.Laws.Rows
import Derived.Lib.AppendStr
import Derived.ArgAppend
import Derived.Laws.IdiomCopy
import Derived.OrdersHeld
import Derived.Laws.BitsLemmas
import Derived.RowKit
import Derived.Test.YtmoagpjmackmpaaWWords
import Derived.Test.YtmoagpjmackmpaaWLast
import Derived.Test.YtmoagpjmackmpaaWTab
import Derived.Test.YtmoagpjmackmpaaWFour
import Derived.Test.YtmoagpjmackmpaaWQPut
import Derived.Test.YtmoagpjmackmpaaWApart
import Derived.Test.YtmoagpjmackmpaaWArr
import Derived.Test.YtmoagpjmackmpaaWZeros
import Derived.Test.YtmoagpjmackmpaaWFoot
import Derived.Test.YtmoagpjmackmpaaWKept
import Derived.Test.YtmoagpjmackmpaaWShare
import Derived.Test.YtmoagpjmackmpaaWN
import Derived.Test.YtmoagpjmackmpaaWFootNe
import Derived.Test.YtmoagpjmackmpaaWAt
import Derived.Test.YtmoagpjmackmpaaWEqStruct
import Derived.Test.YtmoagpjmackmpaaWRepsOne
import Derived.Test.YtmoagpjmackmpaaWInv
import Derived.Test.YtmoagpjmackmpaaWInvWords
import Derived.Test.YtmoagpjmackmpaaWGuard
import Derived.Test.YtmoagpjmackmpaaWNEv
import Derived.Test.YtmoagpjmackmpaaWMore
namespace Go.Proofs.Ytmoagpjmackmpaa.PFnSums
open Go.RowKit Go.Proofs.YtmoagpjmackmpaaW.PrintWords Go.Proofs.YtmoagpjmackmpaaW.PrintLast Go.Proofs.YtmoagpjmackmpaaW.PrintMore
attribute [local go_sem] max2_int min2_int max_two min_two max_three min_three max_four min_four   -- for this text's walks alone
set_option linter.unusedVariables false
set_option linter.unusedSimpArgs false



def errW : Option Int → Value
  | none => .nilIface
  | some c => .iface 0 (.int .i64 c)
theorem errW_none : errW none = .nilIface := rfl
theorem errW_some (c : Int) : errW (some c) = .iface 0 (.int .i64 c) := rfl

theorem info5 : (Try.prog.info? 5).map (fun i => (i.zero, i.size, i.bytes)) = some (some (.int .u8 0), 1, 1) := by kernel_rfl
-- the values' own types

theorem sd_ (w : World) (n : Nat) (a : Addr) (v : Value) : (w.drewN n).setCell a v = (w.setCell a v).drewN n := by unfold World.setCell World.drewN; split <;> rfl
theorem cd_ (w : World) (n : Nat) (a : Addr) : (w.drewN n).cell? a = w.cell? a := rfl
theorem cdk1_ (n : Nat) {w : World} {a0 : Addr} {v0 : Value} {a : Addr} {v : Value} (h : (w.setCell a0 v0).cell? a = some v) : ((w.drewN n).setCell a0 v0).cell? a = some v := by rw [sd_, cd_]; exact h
theorem cdk2_ (n : Nat) {w : World} {a0 a1 : Addr} {v0 v1 : Value} {a : Addr} {v : Value} (h : ((w.setCell a0 v0).setCell a1 v1).cell? a = some v) : (((w.drewN n).setCell a0 v0).setCell a1 v1).cell? a = some v := by rw [sd_, sd_, cd_]; exact h
theorem cdk3_ (n : Nat) {w : World} {a0 a1 a2 : Addr} {v0 v1 v2 : Value} {a : Addr} {v : Value} (h : (((w.setCell a0 v0).setCell a1 v1).setCell a2 v2).cell? a = some v) : ((((w.drewN n).setCell a0 v0).setCell a1 v1).setCell a2 v2).cell? a = some v := by rw [sd_, sd_, sd_, cd_]; exact h
theorem cdk4_ (n : Nat) {w : World} {a0 a1 a2 a3 : Addr} {v0 v1 v2 v3 : Value} {a : Addr} {v : Value} (h : ((((w.setCell a0 v0).setCell a1 v1).setCell a2 v2).setCell a3 v3).cell? a = some v) : (((((w.drewN n).setCell a0 v0).setCell a1 v1).setCell a2 v2).setCell a3 v3).cell? a = some v := by rw [sd_, sd_, sd_, sd_, cd_]; exact h
theorem cdk5_ (n : Nat) {w : World} {a0 a1 a2 a3 a4 : Addr} {v0 v1 v2 v3 v4 : Value} {a : Addr} {v : Value} (h : (((((w.setCell a0 v0).setCell a1 v1).setCell a2 v2).setCell a3 v3).setCell a4 v4).cell? a = some v) : ((((((w.drewN n).setCell a0 v0).setCell a1 v1).setCell a2 v2).setCell a3 v3).setCell a4 v4).cell? a = some v := by rw [sd_, sd_, sd_, sd_, sd_, cd_]; exact h
theorem cdk6_ (n : Nat) {w : World} {a0 a1 a2 a3 a4 a5 : Addr} {v0 v1 v2 v3 v4 v5 : Value} {a : Addr} {v : Value} (h : ((((((w.setCell a0 v0).setCell a1 v1).setCell a2 v2).setCell a3 v3).setCell a4 v4).setCell a5 v5).cell? a = some v) : (((((((w.drewN n).setCell a0 v0).setCell a1 v1).setCell a2 v2).setCell a3 v3).setCell a4 v4).setCell a5 v5).cell? a = some v := by rw [sd_, sd_, sd_, sd_, sd_, sd_, cd_]; exact h
theorem cdk7_ (n : Nat) {w : World} {a0 a1 a2 a3 a4 a5 a6 : Addr} {v0 v1 v2 v3 v4 v5 v6 : Value} {a : Addr} {v : Value} (h : (((((((w.setCell a0 v0).setCell a1 v1).setCell a2 v2).setCell a3 v3).setCell a4 v4).setCell a5 v5).setCell a6 v6).cell? a = some v) : ((((((((w.drewN n).setCell a0 v0).setCell a1 v1).setCell a2 v2).setCell a3 v3).setCell a4 v4).setCell a5 v5).setCell a6 v6).cell? a = some v := by rw [sd_, sd_, sd_, sd_, sd_, sd_, sd_, cd_]; exact h
theorem cdk8_ (n : Nat) {w : World} {a0 a1 a2 a3 a4 a5 a6 a7 : Addr} {v0 v1 v2 v3 v4 v5 v6 v7 : Value} {a : Addr} {v : Value} (h : ((((((((w.setCell a0 v0).setCell a1 v1).setCell a2 v2).setCell a3 v3).setCell a4 v4).setCell a5 v5).setCell a6 v6).setCell a7 v7).cell? a = some v) : (((((((((w.drewN n).setCell a0 v0).setCell a1 v1).setCell a2 v2).setCell a3 v3).setCell a4 v4).setCell a5 v5).setCell a6 v6).setCell a7 v7).cell? a = some v := by rw [sd_, sd_, sd_, sd_, sd_, sd_, sd_, sd_, cd_]; exact h
theorem cdk9_ (n : Nat) {w : World} {a0 a1 a2 a3 a4 a5 a6 a7 a8 : Addr} {v0 v1 v2 v3 v4 v5 v6 v7 v8 : Value} {a : Addr} {v : Value} (h : (((((((((w.setCell a0 v0).setCell a1 v1).setCell a2 v2).setCell a3 v3).setCell a4 v4).setCell a5 v5).setCell a6 v6).setCell a7 v7).setCell a8 v8).cell? a = some v) : ((((((((((w.drewN n).setCell a0 v0).setCell a1 v1).setCell a2 v2).setCell a3 v3).setCell a4 v4).setCell a5 v5).setCell a6 v6).setCell a7 v7).setCell a8 v8).cell? a = some v := by rw [sd_, sd_, sd_, sd_, sd_, sd_, sd_, sd_, sd_, cd_]; exact h
theorem cdk10_ (n : Nat) {w : World} {a0 a1 a2 a3 a4 a5 a6 a7 a8 a9 : Addr} {v0 v1 v2 v3 v4 v5 v6 v7 v8 v9 : Value} {a : Addr} {v : Value} (h : ((((((((((w.setCell a0 v0).setCell a1 v1).setCell a2 v2).setCell a3 v3).setCell a4 v4).setCell a5 v5).setCell a6 v6).setCell a7 v7).setCell a8 v8).setCell a9 v9).cell? a = some v) : (((((((((((w.drewN n).setCell a0 v0).setCell a1 v1).setCell a2 v2).setCell a3 v3).setCell a4 v4).setCell a5 v5).setCell a6 v6).setCell a7 v7).setCell a8 v8).setCell a9 v9).cell? a = some v := by rw [sd_, sd_, sd_, sd_, sd_, sd_, sd_, sd_, sd_, sd_, cd_]; exact h
theorem cdk11_ (n : Nat) {w : World} {a0 a1 a2 a3 a4 a5 a6 a7 a8 a9 a10 : Addr} {v0 v1 v2 v3 v4 v5 v6 v7 v8 v9 v10 : Value} {a : Addr} {v : Value} (h : (((((((((((w.setCell a0 v0).setCell a1 v1).setCell a2 v2).setCell a3 v3).setCell a4 v4).setCell a5 v5).setCell a6 v6).setCell a7 v7).setCell a8 v8).setCell a9 v9).setCell a10 v10).cell? a = some v) : ((((((((((((w.drewN n).setCell a0 v0).setCell a1 v1).setCell a2 v2).setCell a3 v3).setCell a4 v4).setCell a5 v5).setCell a6 v6).setCell a7 v7).setCell a8 v8).setCell a9 v9).setCell a10 v10).cell? a = some v := by rw [sd_, sd_, sd_, sd_, sd_, sd_, sd_, sd_, sd_, sd_, sd_, cd_]; exact h
theorem cdk12_ (n : Nat) {w : World} {a0 a1 a2 a3 a4 a5 a6 a7 a8 a9 a10 a11 : Addr} {v0 v1 v2 v3 v4 v5 v6 v7 v8 v9 v10 v11 : Value} {a : Addr} {v : Value} (h : ((((((((((((w.setCell a0 v0).setCell a1 v1).setCell a2 v2).setCell a3 v3).setCell a4 v4).setCell a5 v5).setCell a6 v6).setCell a7 v7).setCell a8 v8).setCell a9 v9).setCell a10 v10).setCell a11 v11).cell? a = some v) : (((((((((((((w.drewN n).setCell a0 v0).setCell a1 v1).setCell a2 v2).setCell a3 v3).setCell a4 v4).setCell a5 v5).setCell a6 v6).setCell a7 v7).setCell a8 v8).setCell a9 v9).setCell a10 v10).setCell a11 v11).cell? a = some v := by rw [sd_, sd_, sd_, sd_, sd_, sd_, sd_, sd_, sd_, sd_, sd_, sd_, cd_]; exact h
end Go.Proofs.Ytmoagpjmackmpaa.PFnSums
