-- Laid by a program of this session, a copy of the kit's printer with additions (wip/patch_print.py): myhead. Lean checks it.
import Derived.Test.YtebeafcdabkkfaaProg
import Derived.Below
import Derived.Deep.Draws
import Derived.Deep.AppendLies
import Derived.Maps.AppendAt
import Derived.OwnWalk
import Derived.Laws.BytesArg
import Derived.Laws.MakeOwn
import Derived.Laws.OwnMore
import Derived.Deep.OwnRows
import Derived.Tactics
import Derived.Lib.ConvBytes
import Derived.Laws.Slices
import Derived.WalkKit
import Derived.KernelRfl
import Derived.RowKit3
import Derived.Deep.LoopGhost
import Derived.Deep.QuietTactic
import Derived.BigQuiet
import Derived.WideLaws
import Derived.Deep.DeepCutAuto
import Derived.Deep.CutBlock
import Derived.Deep.RegionHeld3
import Derived.Laws.Rows
import Derived.Lib.AppendStr
import Derived.ArgAppend
import Derived.Laws.IdiomCopy
import Derived.OrdersHeld
import Derived.Laws.BitsLemmas
import Derived.RowKit
import Derived.Test.YtebeafcdabkkfaaWWords
import Derived.Test.YtebeafcdabkkfaaWLast
import Derived.Test.YtebeafcdabkkfaaWTab
import Derived.Test.YtebeafcdabkkfaaWFour
import Derived.Test.YtebeafcdabkkfaaWQPut
import Derived.Test.YtebeafcdabkkfaaWApart
import Derived.Test.YtebeafcdabkkfaaWArr
import Derived.Test.YtebeafcdabkkfaaWZeros
import Derived.Test.YtebeafcdabkkfaaWFoot
import Derived.Test.YtebeafcdabkkfaaWKept
import Derived.Test.YtebeafcdabkkfaaWShare
import Derived.Test.YtebeafcdabkkfaaWN
import Derived.Test.YtebeafcdabkkfaaWFootNe
import Derived.Test.YtebeafcdabkkfaaWAt
import Derived.Test.YtebeafcdabkkfaaWEqStruct
import Derived.Test.YtebeafcdabkkfaaWRepsOne
import Derived.Test.YtebeafcdabkkfaaWInv
import Derived.Test.YtebeafcdabkkfaaWInvWords
import Derived.Test.YtebeafcdabkkfaaWGuard
import Derived.Test.YtebeafcdabkkfaaWNEv
import Derived.Test.YtebeafcdabkkfaaWMore
namespace Go.Proofs.Ytebeafcdabkkfaa.PFnRecords
open Go.RowKit Go.Proofs.YtebeafcdabkkfaaW.PrintWords Go.Proofs.YtebeafcdabkkfaaW.PrintLast Go.Proofs.YtebeafcdabkkfaaW.PrintMore
attribute [local go_sem] max2_int min2_int max_two min_two max_three min_three max_four min_four   -- for this text's walks alone
set_option linter.unusedVariables false
set_option linter.unusedSimpArgs false



def errW : Option Int → Value
  | none => .nilIface
  | some c => .iface 0 (.int .i64 c)
theorem errW_none : errW none = .nilIface := rfl
theorem errW_some (c : Int) : errW (some c) = .iface 0 (.int .i64 c) := rfl

theorem info3 : (Try.prog.info? 3).map (fun i => (i.zero, i.size, i.bytes)) = some (some (.int .i64 0), 1, 8) := by kernel_rfl
theorem info5 : (Try.prog.info? 5).map (fun i => (i.zero, i.size, i.bytes)) = some (some (.int .u8 0), 1, 1) := by kernel_rfl
theorem info9 : (Try.prog.info? 9).map (fun i => (i.zero, i.size, i.bytes)) = some (some (.string ⟨#[]⟩), 1, 16) := by kernel_rfl
-- the values' own types

/-! tactic blocks as theorems' default arguments, and short names -/
theorem hb_ {p q : Prop} (h : Aside0 p) (k : p → q := by intro h_; repeat (first | (with_reducible first | exact h_ | apply below_alloc | apply pw_below_drewN | apply below_drew1) | exact h_)) : q := k h.out
theorem hs_ {p q r : Prop} (h : Aside0 p) (g : Aside0 r) (k : p → r → q := by intro h_ g_; repeat (first | (with_reducible first | exact h_ | apply below_alloc | apply pw_below_drewN | apply below_drew1 | refine below_set ?_ g_) | exact h_)) : q := k h.out g.out
theorem bk_ {p q : Prop} (h : Aside0 p) (k : p → q := by intro h_; (with_reducible repeat (first | refine blk_drewN ?_ _ | refine blk_drew ?_ | refine blk_alloc ?_ _)); exact h_) : q := k h.out
theorem rr_ {p q : Prop} (h : Aside0 p) (k : p → q := by intro h_; (with_reducible repeat (first | apply Kd.R_alloc | apply Kd.R_drewN | apply Kd.R_drew)); exact h_) : q := k h.out
theorem ar_ {p : Prop} (k : p := by (try simp only [List.map_toArray, List.map_cons, List.map_nil]); first | done | rfl | (simp only [List.length_drop, List.length_take]; rfl)) : p := k
theorem rs_ {p : Prop} (k : p := by first | rfl | (simp; done) | (simp [*]; done)) : p := k
theorem re_ {p : Prop} (k : p := by first | rfl | (simp [errW_none, errW_some] <;> rfl) | (simp [*, errW_none, errW_some] <;> rfl)) : p := k
theorem as_ {p : Prop} (k : p := by first | (with_reducible assumption) | assumption) : p := k
theorem la_ {α : Type _} (l : List α) (i : Nat) (a : α) : l.toArray.setIfInBounds i a = (l.set i a).toArray := List.setIfInBounds_toArray ..
theorem lz_ {α : Type _} (x : α) (xs : List α) (a : α) : (x :: xs).set 0 a = a :: xs := rfl
theorem ls_ {α : Type _} (x : α) (xs : List α) (n : Nat) (a : α) : (x :: xs).set (n + 1) a = x :: xs.set n a := rfl
theorem pu_ {P : Program} {md : Region.Mode} {ops : Array Oper} {Q : Exit → Act → World → Prop} {S : World → Prop} {ds : List Nat} {T : Bool × List (List Nat × List Nat)} {i : Nat} {N : Option Tmp} {oi : Oper} {v : Value} {fuel : Nat} {l : Array Bool} {a : Act} {w : World} (l' : Array Bool) (hi : ops[i]? = some oi) (hN : oi.dst = N) (hT : Aside0 (rtab md ops = T)) (hy : Yields P ops oi v a) {a' : Act} (ha : a.put N v = a') (h : wpAnyLast P md ops Q S ds fuel l' a' w) (hc : anyT T l.toList l'.toList i = true := by kernel_rfl) (hQ : ∀ c a w, Q (.panic c) (a.put oi.dst v) w → Q (.panic c) a w := by exact fun _ _ _ h => h) : wpAnyLast P md ops Q S ds (fuel + 1) l a w := pure_ l' hi hN (any_of hT.out hc) hQ hy ha h
theorem cb_ {w W : World} {a : Addr} {v : Value} (h : Aside0 (Below w.heap.size w W)) (hx : w.cell? a = some v) : W.cell? a = some v := (h.out.cell (World.block_lt_of_cell? w _ hx)).trans hx
theorem nb_ {p q : Prop} (h : p) (k : p → q := by intro h_; first | (rw [add_block]; exact h_) | (show (Addr.add _ _).block ≠ _; rw [add_block]; exact h_) | exact h_) : q := k h
abbrev i' : Bool := true
abbrev o' : Bool := false
theorem sd_ (w : World) (n : Nat) (a : Addr) (v : Value) : (w.drewN n).setCell a v = (w.setCell a v).drewN n := by unfold World.setCell World.drewN; split <;> rfl
theorem cd_ (w : World) (n : Nat) (a : Addr) : (w.drewN n).cell? a = w.cell? a := rfl
theorem cdk1_ (n : Nat) {w : World} {a0 : Addr} {v0 : Value} {a : Addr} {v : Value} (h : (w.setCell a0 v0).cell? a = some v) : ((w.drewN n).setCell a0 v0).cell? a = some v := by rw [sd_, cd_]; exact h
theorem cdk2_ (n : Nat) {w : World} {a0 a1 : Addr} {v0 v1 : Value} {a : Addr} {v : Value} (h : ((w.setCell a0 v0).setCell a1 v1).cell? a = some v) : (((w.drewN n).setCell a0 v0).setCell a1 v1).cell? a = some v := by rw [sd_, sd_, cd_]; exact h
theorem cdk3_ (n : Nat) {w : World} {a0 a1 a2 : Addr} {v0 v1 v2 : Value} {a : Addr} {v : Value} (h : (((w.setCell a0 v0).setCell a1 v1).setCell a2 v2).cell? a = some v) : ((((w.drewN n).setCell a0 v0).setCell a1 v1).setCell a2 v2).cell? a = some v := by rw [sd_, sd_, sd_, cd_]; exact h
theorem cdk4_ (n : Nat) {w : World} {a0 a1 a2 a3 : Addr} {v0 v1 v2 v3 : Value} {a : Addr} {v : Value} (h : ((((w.setCell a0 v0).setCell a1 v1).setCell a2 v2).setCell a3 v3).cell? a = some v) : (((((w.drewN n).setCell a0 v0).setCell a1 v1).setCell a2 v2).setCell a3 v3).cell? a = some v := by rw [sd_, sd_, sd_, sd_, cd_]; exact h
theorem cdk5_ (n : Nat) {w : World} {a0 a1 a2 a3 a4 : Addr} {v0 v1 v2 v3 v4 : Value} {a : Addr} {v : Value} (h : (((((w.setCell a0 v0).setCell a1 v1).setCell a2 v2).setCell a3 v3).setCell a4 v4).cell? a = some v) : ((((((w.drewN n).setCell a0 v0).setCell a1 v1).setCell a2 v2).setCell a3 v3).setCell a4 v4).cell? a = some v := by rw [sd_, sd_, sd_, sd_, sd_, cd_]; exact h
theorem cdk6_ (n : Nat) {w : World} {a0 a1 a2 a3 a4 a5 : Addr} {v0 v1 v2 v3 v4 v5 : Value} {a : Addr} {v : Value} (h : ((((((w.setCell a0 v0).setCell a1 v1).setCell a2 v2).setCell a3 v3).setCell a4 v4).setCell a5 v5).cell? a = some v) : (((((((w.drewN n).setCell a0 v0).setCell a1 v1).setCell a2 v2).setCell a3 v3).setCell a4 v4).setCell a5 v5).cell? a = some v := by rw [sd_, sd_, sd_, sd_, sd_, sd_, cd_]; exact h
theorem cdk7_ (n : Nat) {w : World} {a0 a1 a2 a3 a4 a5 a6 : Addr} {v0 v1 v2 v3 v4 v5 v6 : Value} {a : Addr} {v : Value} (h : (((((((w.setCell a0 v0).setCell a1 v1).setCell a2 v2).setCell a3 v3).setCell a4 v4).setCell a5 v5).setCell a6 v6).cell? a = some v) : ((((((((w.drewN n).setCell a0 v0).setCell a1 v1).setCell a2 v2).setCell a3 v3).setCell a4 v4).setCell a5 v5).setCell a6 v6).cell? a = some v := by rw [sd_, sd_, sd_, sd_, sd_, sd_, sd_, cd_]; exact h
theorem cdk8_ (n : Nat) {w : World} {a0 a1 a2 a3 a4 a5 a6 a7 : Addr} {v0 v1 v2 v3 v4 v5 v6 v7 : Value} {a : Addr} {v : Value} (h : ((((((((w.setCell a0 v0).setCell a1 v1).setCell a2 v2).setCell a3 v3).setCell a4 v4).setCell a5 v5).setCell a6 v6).setCell a7 v7).cell? a = some v) : (((((((((w.drewN n).setCell a0 v0).setCell a1 v1).setCell a2 v2).setCell a3 v3).setCell a4 v4).setCell a5 v5).setCell a6 v6).setCell a7 v7).cell? a = some v := by rw [sd_, sd_, sd_, sd_, sd_, sd_, sd_, sd_, cd_]; exact h
theorem cdk9_ (n : Nat) {w : World} {a0 a1 a2 a3 a4 a5 a6 a7 a8 : Addr} {v0 v1 v2 v3 v4 v5 v6 v7 v8 : Value} {a : Addr} {v : Value} (h : (((((((((w.setCell a0 v0).setCell a1 v1).setCell a2 v2).setCell a3 v3).setCell a4 v4).setCell a5 v5).setCell a6 v6).setCell a7 v7).setCell a8 v8).cell? a = some v) : ((((((((((w.drewN n).setCell a0 v0).setCell a1 v1).setCell a2 v2).setCell a3 v3).setCell a4 v4).setCell a5 v5).setCell a6 v6).setCell a7 v7).setCell a8 v8).cell? a = some v := by rw [sd_, sd_, sd_, sd_, sd_, sd_, sd_, sd_, sd_, cd_]; exact h
theorem cdk10_ (n : Nat) {w : World} {a0 a1 a2 a3 a4 a5 a6 a7 a8 a9 : Addr} {v0 v1 v2 v3 v4 v5 v6 v7 v8 v9 : Value} {a : Addr} {v : Value} (h : ((((((((((w.setCell a0 v0).setCell a1 v1).setCell a2 v2).setCell a3 v3).setCell a4 v4).setCell a5 v5).setCell a6 v6).setCell a7 v7).setCell a8 v8).setCell a9 v9).cell? a = some v) : (((((((((((w.drewN n).setCell a0 v0).setCell a1 v1).setCell a2 v2).setCell a3 v3).setCell a4 v4).setCell a5 v5).setCell a6 v6).setCell a7 v7).setCell a8 v8).setCell a9 v9).cell? a = some v := by rw [sd_, sd_, sd_, sd_, sd_, sd_, sd_, sd_, sd_, sd_, cd_]; exact h
theorem cdk11_ (n : Nat) {w : World} {a0 a1 a2 a3 a4 a5 a6 a7 a8 a9 a10 : Addr} {v0 v1 v2 v3 v4 v5 v6 v7 v8 v9 v10 : Value} {a : Addr} {v : Value} (h : (((((((((((w.setCell a0 v0).setCell a1 v1).setCell a2 v2).setCell a3 v3).setCell a4 v4).setCell a5 v5).setCell a6 v6).setCell a7 v7).setCell a8 v8).setCell a9 v9).setCell a10 v10).cell? a = some v) : ((((((((((((w.drewN n).setCell a0 v0).setCell a1 v1).setCell a2 v2).setCell a3 v3).setCell a4 v4).setCell a5 v5).setCell a6 v6).setCell a7 v7).setCell a8 v8).setCell a9 v9).setCell a10 v10).cell? a = some v := by rw [sd_, sd_, sd_, sd_, sd_, sd_, sd_, sd_, sd_, sd_, sd_, cd_]; exact h
theorem cdk12_ (n : Nat) {w : World} {a0 a1 a2 a3 a4 a5 a6 a7 a8 a9 a10 a11 : Addr} {v0 v1 v2 v3 v4 v5 v6 v7 v8 v9 v10 v11 : Value} {a : Addr} {v : Value} (h : ((((((((((((w.setCell a0 v0).setCell a1 v1).setCell a2 v2).setCell a3 v3).setCell a4 v4).setCell a5 v5).setCell a6 v6).setCell a7 v7).setCell a8 v8).setCell a9 v9).setCell a10 v10).setCell a11 v11).cell? a = some v) : (((((((((((((w.drewN n).setCell a0 v0).setCell a1 v1).setCell a2 v2).setCell a3 v3).setCell a4 v4).setCell a5 v5).setCell a6 v6).setCell a7 v7).setCell a8 v8).setCell a9 v9).setCell a10 v10).setCell a11 v11).cell? a = some v := by rw [sd_, sd_, sd_, sd_, sd_, sd_, sd_, sd_, sd_, sd_, sd_, sd_, cd_]; exact h
end Go.Proofs.Ytebeafcdabkkfaa.PFnRecords
