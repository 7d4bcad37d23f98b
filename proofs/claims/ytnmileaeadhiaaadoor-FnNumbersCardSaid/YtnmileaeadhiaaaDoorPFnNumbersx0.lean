-- Laid by a program of this session, a copy of the kit's printer with additions (wip/patch_print.py): myhead. Lean checks it.
import Derived.Test.YtnmileaeadhiaaaDoorProg
import Derived.Below
import Derived.Deep.Draws
import Derived.Deep.AppendLies
import Derived.Maps.AppendAt
import Derived.OwnWalk
import Derived.Laws.BytesArg
import Derived.Laws.MakeOwn
import Derived.Laws.OwnMore
import Derived.Deep.OwnRows
import Derived.Tactics
import Derived.Lib.ConvBytes
import Derived.Laws.Slices
import Derived.WalkKit
import Derived.KernelRfl
import Derived.RowKit3
import Derived.Deep.LoopGhost
import Derived.Deep.QuietTactic
import Derived.BigQuiet
import Derived.WideLaws
import Derived.Deep.DeepCutAuto
import Derived.Deep.CutBlock
import Derived.Deep.RegionHeld3
import Derived.Laws.Rows
import Derived.Lib.AppendStr
import Derived.ArgAppend
import Derived.Laws.IdiomCopy
import Derived.OrdersHeld
import Derived.Laws.BitsLemmas
import Derived.RowKit
import Derived.Lib.LaidTab
import Derived.Lib.AppendIntMem
import Derived.Test.YtnmileaeadhiaaaDoorShelf
import Derived.Lib.AtoiErrMem
import Derived.Lib.AtoiAll
import Derived.Test.YtnmileaeadhiaaaDoorWWords
import Derived.Test.YtnmileaeadhiaaaDoorWLast
import Derived.Test.YtnmileaeadhiaaaDoorWTab
import Derived.Test.YtnmileaeadhiaaaDoorWFour
import Derived.Test.YtnmileaeadhiaaaDoorWQPut
import Derived.Test.YtnmileaeadhiaaaDoorWApart
import Derived.Test.YtnmileaeadhiaaaDoorWArr
import Derived.Test.YtnmileaeadhiaaaDoorWZeros
import Derived.Test.YtnmileaeadhiaaaDoorWFoot
import Derived.Test.YtnmileaeadhiaaaDoorWKept
import Derived.Test.YtnmileaeadhiaaaDoorWShare
import Derived.Test.YtnmileaeadhiaaaDoorWN
import Derived.Test.YtnmileaeadhiaaaDoorWFootNe
import Derived.Test.YtnmileaeadhiaaaDoorWAt
import Derived.Test.YtnmileaeadhiaaaDoorWEqStruct
import Derived.Test.YtnmileaeadhiaaaDoorWRepsOne
import Derived.Test.YtnmileaeadhiaaaDoorWInv
import Derived.Test.YtnmileaeadhiaaaDoorWInvWords
import Derived.Test.YtnmileaeadhiaaaDoorWGuard
import Derived.Test.YtnmileaeadhiaaaDoorWNEv
import Derived.Test.YtnmileaeadhiaaaDoorWMore
namespace Go.Proofs.YtnmileaeadhiaaaDoor.PFnNumbers
open Go.RowKit Go.Proofs.YtnmileaeadhiaaaDoorW.PrintWords Go.Proofs.YtnmileaeadhiaaaDoorW.PrintLast Go.Proofs.YtnmileaeadhiaaaDoorW.PrintMore
attribute [local go_sem] max2_int min2_int max_two min_two max_three min_three max_four min_four   -- for this text's walks alone
set_option linter.unusedVariables false
set_option linter.unusedSimpArgs false



def errW : Option Int → Value
  | none => .nilIface
  | some c => .iface 0 (.int .i64 c)
theorem errW_none : errW none = .nilIface := rfl
theorem errW_some (c : Int) : errW (some c) = .iface 0 (.int .i64 c) := rfl

theorem info3 : (Tryd.prog.info? 3).map (fun i => (i.zero, i.size, i.bytes)) = some (some (.int .i64 0), 1, 8) := by kernel_rfl
theorem info5 : (Tryd.prog.info? 5).map (fun i => (i.zero, i.size, i.bytes)) = some (some (.int .u8 0), 1, 1) := by kernel_rfl
-- the values' own types

/-! ### what the row's list gives -/
def Tabs (w : World) : Prop := Lib.TabIs Tryd.prog w "internal/strconv.uint64pow10" .u64 Lib.pow10Tab ∧ (∃ tp p_, w.cell? ⟨0, 0, none⟩ = some (.iface tp p_)) ∧ (∃ tp p_, w.cell? ⟨1, 0, none⟩ = some (.iface tp p_))
theorem tabIs_below {n : String} {k : IntKind} {zs : List Int} {w w' : World} (h : Lib.TabIs Tryd.prog w n k zs) (hb : Below w.heap.size w w') : Lib.TabIs Tryd.prog w' n k zs := by
  unfold Lib.TabIs World.var? at h ⊢
  cases hg : Tryd.prog.globalNamed n with
  | none => rw [hg] at h; cases h
  | some g =>
    rw [hg] at h
    simp only [Option.bind_some] at h ⊢
    have hlt : g < w.heap.size := by
      rcases Nat.lt_or_ge g w.heap.size with h' | h'
      · exact h'
      · rw [Array.getElem?_eq_none h'] at h; cases h
    rw [hb.block g hlt]
    exact h
theorem cell_below' {w w' : World} (hb : Below w.heap.size w w') {a : Addr} {v : Value} (hc : w.cell? a = some v) : w'.cell? a = some v := (hb.cell (World.block_lt_of_cell? w a hc)).trans hc
theorem Tabs.below {w w' : World} (h : Tabs w) (hb : Below w.heap.size w w') : Tabs w' := by
  obtain ⟨h1, ⟨a, b, e⟩, ⟨a', b', e'⟩⟩ := h
  exact ⟨tabIs_below h1 hb, ⟨a, b, cell_below' hb e⟩, ⟨a', b', cell_below' hb e'⟩⟩
theorem Tabs.pow {w : World} (h : Tabs w) : Lib.TabIs Tryd.prog w "internal/strconv.uint64pow10" .u64 Lib.pow10Tab := h.1
theorem below_grow' (w : World) (k : Nat) (os : Array Obj) : Below w.heap.size w (Go.Sort.grow (w.drewN k) os) := Go.Lib.below_grow w.heap.size w (Nat.le_refl _) k os
/-! tactic blocks as theorems' default arguments, and short names -/
theorem hb_ {p q : Prop} (h : Aside0 p) (k : p → q := by intro h_; repeat (first | (with_reducible first | exact h_ | apply below_alloc | apply pw_below_drewN | apply below_drew1) | exact h_)) : q := k h.out
theorem hs_ {p q r : Prop} (h : Aside0 p) (g : Aside0 r) (k : p → r → q := by intro h_ g_; repeat (first | (with_reducible first | exact h_ | apply below_alloc | apply pw_below_drewN | apply below_drew1 | refine below_set ?_ g_) | exact h_)) : q := k h.out g.out
theorem bk_ {p q : Prop} (h : Aside0 p) (k : p → q := by intro h_; (with_reducible repeat (first | refine blk_drewN ?_ _ | refine blk_drew ?_ | refine blk_alloc ?_ _)); exact h_) : q := k h.out
theorem rr_ {p q : Prop} (h : Aside0 p) (k : p → q := by intro h_; (with_reducible repeat (first | apply Kd.R_alloc | apply Kd.R_drewN | apply Kd.R_drew)); exact h_) : q := k h.out
theorem ar_ {p : Prop} (k : p := by (try simp only [List.map_toArray, List.map_cons, List.map_nil]); first | done | rfl | (simp only [List.length_drop, List.length_take]; rfl)) : p := k
theorem rs_ {p : Prop} (k : p := by first | rfl | (simp; done) | (simp [*]; done)) : p := k
theorem re_ {p : Prop} (k : p := by first | rfl | (simp [errW_none, errW_some] <;> rfl) | (simp [*, errW_none, errW_some] <;> rfl)) : p := k
theorem as_ {p : Prop} (k : p := by first | (with_reducible assumption) | assumption) : p := k
theorem la_ {α : Type _} (l : List α) (i : Nat) (a : α) : l.toArray.setIfInBounds i a = (l.set i a).toArray := List.setIfInBounds_toArray ..
theorem lz_ {α : Type _} (x : α) (xs : List α) (a : α) : (x :: xs).set 0 a = a :: xs := rfl
theorem ls_ {α : Type _} (x : α) (xs : List α) (n : Nat) (a : α) : (x :: xs).set (n + 1) a = x :: xs.set n a := rfl
theorem nb_ {p q : Prop} (h : p) (k : p → q := by intro h_; first | (rw [add_block]; exact h_) | (show (Addr.add _ _).block ≠ _; rw [add_block]; exact h_) | exact h_) : q := k h
theorem pv_ {P : Program} {md : Region.Mode} {ops : Array Oper} {Q : Exit → Act → World → Prop} {S : World → Prop} {ds : List Nat} {T : Bool × List (List Nat × List Nat)} {i : Nat} {N : Option Tmp} {oi : Oper} {v : Value} {fuel : Nat} {l : Array Bool} {a : Act} {w : World} (l' : Array Bool) (hi : ops[i]? = some oi) (hN : oi.dst = N) (hT : Aside0 (rtab md ops = T)) {a' : Act} (h : wpAnyLast P md ops Q S ds fuel l' a' w) (hw : Region.wanted oi (yielded ops a.tmps) = true := by rfl) (hy : ∀ w, (execOp a.eval oi).run P w = .ok (.value v) w := by intro w'; go_simp; with_reducible rfl) (ha : a.put N v = a' := by simp only [Act.put, la_, lz_, ls_, i64_w, i32_w]; rfl) (hc : anyT T l.toList l'.toList i = true := by kernel_rfl) (hQ : ∀ c a w, Q (.panic c) (a.put oi.dst v) w → Q (.panic c) a w := by exact fun _ _ _ h => h) : wpAnyLast P md ops Q S ds (fuel + 1) l a w := pure_ l' hi hN (any_of hT.out hc) hQ (Or.inl ⟨hw, hy⟩) ha h
abbrev i' : Bool := true
abbrev o' : Bool := false
abbrev on_ (k m : Nat) : Array Bool := (List.replicate k true ++ List.replicate m false).toArray
theorem bs_ {w W0 W W2 : World} (h : Aside0 (Below w.heap.size w W0)) (hb : Below W.heap.size W W2) (k : Below w.heap.size w W0 → Below w.heap.size w W := by intro h_; repeat (first | (with_reducible first | exact h_ | apply below_alloc | apply pw_below_drewN | apply below_drew1) | exact h_)) : Aside0 (Below w.heap.size w W2) := ⟨below_step (k h.out) hb⟩
theorem ge_ {g : Nat} {w W : World} (hg : g = W.heap.size) (h : Below w.heap.size w W) : Aside0 (w.heap.size ≤ g) := ⟨by rw [hg]; exact below_size h⟩
theorem rd_ {α : Type} {d : Kd α} {e b : Nat} {W : World} {ok : Nat → Prop} {v : Value} {xs : List α} (h : Aside0 (d.R e W b ok v xs)) : Aside0 (d.R e W.drew b ok v xs) := ⟨Kd.R_drew h.out⟩
theorem hd_ {B : Nat} {w W : World} (h : Aside0 (Below B w W)) : Aside0 (Below B w W.drew) := ⟨below_drew1 h.out⟩
abbrev k1_ (g : Nat) (a0 : Value) (T : World → Prop) : World → Prop := fun w => w.cell? ⟨g, 0, none⟩ = some a0 ∧ T w
theorem f1_ {w : World} {g : Nat} {a0 : Value} {p : Addr} {u : Value} (n : Aside0 (g ≠ p.block)) {T : World → Prop} (h : k1_ g a0 T w) (r : T (w.setCell p u)) : k1_ g a0 T (w.setCell p u) := ⟨(cell_far n.out _).trans (h.1), r⟩
abbrev k2_ (g : Nat) (a0 a1 : Value) (T : World → Prop) : World → Prop := fun w => w.cell? ⟨g, 0, none⟩ = some a0 ∧ w.cell? ⟨g, 1, none⟩ = some a1 ∧ T w
theorem f2_ {w : World} {g : Nat} {a0 a1 : Value} {p : Addr} {u : Value} (n : Aside0 (g ≠ p.block)) {T : World → Prop} (h : k2_ g a0 a1 T w) (r : T (w.setCell p u)) : k2_ g a0 a1 T (w.setCell p u) := ⟨(cell_far n.out _).trans (h.1), (cell_far n.out _).trans (h.2.1), r⟩
abbrev k3_ (g : Nat) (a0 a1 a2 : Value) (T : World → Prop) : World → Prop := fun w => w.cell? ⟨g, 0, none⟩ = some a0 ∧ w.cell? ⟨g, 1, none⟩ = some a1 ∧ w.cell? ⟨g, 2, none⟩ = some a2 ∧ T w
theorem f3_ {w : World} {g : Nat} {a0 a1 a2 : Value} {p : Addr} {u : Value} (n : Aside0 (g ≠ p.block)) {T : World → Prop} (h : k3_ g a0 a1 a2 T w) (r : T (w.setCell p u)) : k3_ g a0 a1 a2 T (w.setCell p u) := ⟨(cell_far n.out _).trans (h.1), (cell_far n.out _).trans (h.2.1), (cell_far n.out _).trans (h.2.2.1), r⟩
abbrev k4_ (g : Nat) (a0 a1 a2 a3 : Value) (T : World → Prop) : World → Prop := fun w => w.cell? ⟨g, 0, none⟩ = some a0 ∧ w.cell? ⟨g, 1, none⟩ = some a1 ∧ w.cell? ⟨g, 2, none⟩ = some a2 ∧ w.cell? ⟨g, 3, none⟩ = some a3 ∧ T w
theorem f4_ {w : World} {g : Nat} {a0 a1 a2 a3 : Value} {p : Addr} {u : Value} (n : Aside0 (g ≠ p.block)) {T : World → Prop} (h : k4_ g a0 a1 a2 a3 T w) (r : T (w.setCell p u)) : k4_ g a0 a1 a2 a3 T (w.setCell p u) := ⟨(cell_far n.out _).trans (h.1), (cell_far n.out _).trans (h.2.1), (cell_far n.out _).trans (h.2.2.1), (cell_far n.out _).trans (h.2.2.2.1), r⟩
abbrev k5_ (g : Nat) (a0 a1 a2 a3 a4 : Value) (T : World → Prop) : World → Prop := fun w => w.cell? ⟨g, 0, none⟩ = some a0 ∧ w.cell? ⟨g, 1, none⟩ = some a1 ∧ w.cell? ⟨g, 2, none⟩ = some a2 ∧ w.cell? ⟨g, 3, none⟩ = some a3 ∧ w.cell? ⟨g, 4, none⟩ = some a4 ∧ T w
theorem f5_ {w : World} {g : Nat} {a0 a1 a2 a3 a4 : Value} {p : Addr} {u : Value} (n : Aside0 (g ≠ p.block)) {T : World → Prop} (h : k5_ g a0 a1 a2 a3 a4 T w) (r : T (w.setCell p u)) : k5_ g a0 a1 a2 a3 a4 T (w.setCell p u) := ⟨(cell_far n.out _).trans (h.1), (cell_far n.out _).trans (h.2.1), (cell_far n.out _).trans (h.2.2.1), (cell_far n.out _).trans (h.2.2.2.1), (cell_far n.out _).trans (h.2.2.2.2.1), r⟩
theorem pv_' {P : Program} {md : Region.Mode} {ops : Array Oper} {Q : Exit → Act → World → Prop} {S : World → Prop} {ds : List Nat} {T : Bool × List (List Nat × List Nat)} (i : Nat) (N : Nat) {oi : Oper} {v : Value} {fuel : Nat} {l : Array Bool} {a : Act} {w : World} (l' : Array Bool) (hi : ops[i]? = some oi) (hN : oi.dst = some N) (hT : Aside0 (rtab md ops = T)) {a' : Act} (h : wpAnyLast P md ops Q S ds fuel l' a' w) (hw : Region.wanted oi (yielded ops a.tmps) = true := by rfl) (hy : ∀ w, (execOp a.eval oi).run P w = .ok (.value v) w := by intro w'; go_simp; with_reducible rfl) (ha : a.put (some N) v = a' := by simp only [Act.put, la_, lz_, ls_, i64_w, i32_w]; rfl) (hc : anyT T l.toList l'.toList i = true := by kernel_rfl) (hQ : ∀ c a w, Q (.panic c) (a.put oi.dst v) w → Q (.panic c) a w := by exact fun _ _ _ h => h) : wpAnyLast P md ops Q S ds (fuel + 1) l a w := pv_ l' hi hN hT h hw hy ha hc hQ
theorem sd_ (w : World) (n : Nat) (a : Addr) (v : Value) : (w.drewN n).setCell a v = (w.setCell a v).drewN n := by unfold World.setCell World.drewN; split <;> rfl
theorem cd_ (w : World) (n : Nat) (a : Addr) : (w.drewN n).cell? a = w.cell? a := rfl
theorem cdk1_ (n : Nat) {w : World} {a0 : Addr} {v0 : Value} {a : Addr} {v : Value} (h : (w.setCell a0 v0).cell? a = some v) : ((w.drewN n).setCell a0 v0).cell? a = some v := by rw [sd_, cd_]; exact h
end Go.Proofs.YtnmileaeadhiaaaDoor.PFnNumbers
