-- Laid by a program of this session, a copy of the kit's printer with additions (wip/patch_print.py): myhead. Lean checks it.
import Derived.Test.YtigbekefjbfopaaProg
import Derived.Below
import Derived.Deep.Draws
import Derived.Deep.AppendLies
import Derived.Maps.AppendAt
import Derived.OwnWalk
import Derived.Laws.BytesArg
import Derived.Laws.MakeOwn
import Derived.Laws.OwnMore
import Derived.Deep.OwnRows
import Derived.Tactics
import Derived.Lib.ConvBytes
import Derived.Laws.Slices
import Derived.WalkKit
import Derived.KernelRfl
import Derived.RowKit3
import Derived.Deep.LoopGhost
import Derived.Deep.QuietTactic
import Derived.BigQuiet
import Derived.WideLaws
import Derived.Deep.DeepCutAuto
import Derived.Deep.CutBlock
import Derived.Deep.RegionHeld3
import Derived.Laws.Rows
import Derived.Lib.AppendStr
import Derived.ArgAppend
import Derived.Laws.IdiomCopy
import Derived.OrdersHeld
import Derived.Laws.BitsLemmas
import Derived.RowKit
import Derived.Test.YtigbekefjbfopaaWWords
import Derived.Test.YtigbekefjbfopaaWLast
import Derived.Test.YtigbekefjbfopaaWTab
import Derived.Test.YtigbekefjbfopaaWFour
import Derived.Test.YtigbekefjbfopaaWQPut
import Derived.Test.YtigbekefjbfopaaWApart
import Derived.Test.YtigbekefjbfopaaWArr
import Derived.Test.YtigbekefjbfopaaWZeros
import Derived.Test.YtigbekefjbfopaaWFoot
import Derived.Test.YtigbekefjbfopaaWKept
import Derived.Test.YtigbekefjbfopaaWShare
import Derived.Test.YtigbekefjbfopaaWN
import Derived.Test.YtigbekefjbfopaaWFootNe
import Derived.Test.YtigbekefjbfopaaWAt
import Derived.Test.YtigbekefjbfopaaWEqStruct
import Derived.Test.YtigbekefjbfopaaWRepsOne
import Derived.Test.YtigbekefjbfopaaWInv
import Derived.Test.YtigbekefjbfopaaWInvWords
import Derived.Test.YtigbekefjbfopaaWGuard
import Derived.Test.YtigbekefjbfopaaWNEv
import Derived.Test.YtigbekefjbfopaaWMore
namespace Go.Proofs.Ytigbekefjbfopaa.PFnPower
open Go.RowKit Go.Proofs.YtigbekefjbfopaaW.PrintWords Go.Proofs.YtigbekefjbfopaaW.PrintLast Go.Proofs.YtigbekefjbfopaaW.PrintMore
attribute [local go_sem] max2_int min2_int max_two min_two max_three min_three max_four min_four   -- for this text's walks alone
set_option linter.unusedVariables false
set_option linter.unusedSimpArgs false



def errW : Option Int → Value
  | none => .nilIface
  | some c => .iface 0 (.int .i64 c)
theorem errW_none : errW none = .nilIface := rfl
theorem errW_some (c : Int) : errW (some c) = .iface 0 (.int .i64 c) := rfl

theorem info3 : (Try.prog.info? 3).map (fun i => (i.zero, i.size, i.bytes)) = some (some (.int .i64 0), 1, 8) := by kernel_rfl
theorem info5 : (Try.prog.info? 5).map (fun i => (i.zero, i.size, i.bytes)) = some (some (.int .u8 0), 1, 1) := by kernel_rfl
theorem info9 : (Try.prog.info? 9).map (fun i => (i.zero, i.size, i.bytes)) = some (some (.string ⟨#[]⟩), 1, 16) := by kernel_rfl
theorem info45 : (Try.prog.info? 45).map (fun i => (i.zero, i.size, i.bytes)) = some (some (.agg #[(.string ⟨#[]⟩), (.string ⟨#[]⟩), (.int .i64 0)]), 3, 40) := by kernel_rfl
-- the values' own types
/-! #### struct type 45 -/
structure S45 where
  f0 : ByteArray
  f1 : ByteArray
  f2 : Int
def z45 : S45 := ⟨(⟨#[]⟩ : ByteArray), (⟨#[]⟩ : ByteArray), (0 : Int)⟩
def k45 : Kd S45 := Kd.iso (Kd.pair Kd.string (Kd.pair Kd.string (Kd.int .i64))) (fun x : S45 => (x.f0, x.f1, x.f2))
theorem k45_open {w : World} {x : S45} {cs : List Value} (h : k45.K w x cs) : cs = [.string x.f0, .string x.f1, .int .i64 x.f2] := by
  obtain ⟨_, _, rfl, rfl, ⟨_, _, rfl, rfl, rfl⟩⟩ := h
  exact rfl
theorem k45_openM {w : World} {base : Nat} {ok : Nat → Prop} {x : S45} {cs : List Value} (h : k45.M w base ok x cs) : cs = [.string x.f0, .string x.f1, .int .i64 x.f2] := by
  obtain ⟨_, _, rfl, rfl, ⟨_, _, rfl, rfl, rfl⟩⟩ := h
  exact rfl
theorem k45_mk (w : World) (x : S45)  : k45.K w x [.string x.f0, .string x.f1, .int .i64 x.f2] := ⟨[.string x.f0], [.string x.f1, .int .i64 x.f2], rfl, rfl, ⟨[.string x.f1], [.int .i64 x.f2], rfl, rfl, rfl⟩⟩
theorem k45_mkM (w : World) (base : Nat) (ok : Nat → Prop) (x : S45)  : k45.M w base ok x [.string x.f0, .string x.f1, .int .i64 x.f2] := ⟨[.string x.f0], [.string x.f1, .int .i64 x.f2], rfl, rfl, ⟨[.string x.f1], [.int .i64 x.f2], rfl, rfl, rfl⟩⟩
def rd_T45 (xs : List S45) (i : Int) : S45 := xs.getD i.toNat z45
theorem at_T45 {w : World} {A : Option Addr} {n : Nat} {xs : List S45} (h : Kd.C k45 w A n xs) (i : Int) (h0 : 0 ≤ i) (h1 : i < n) : ∃ ad , A = some ad ∧ w.cell? (ad.add (i.toNat * 3)) = some (.string (rd_T45 xs i).f0) ∧ w.cell? ⟨(ad.add (i.toNat * 3)).block, (ad.add (i.toNat * 3)).off + 1, none⟩ = some (.string (rd_T45 xs i).f1) ∧ w.cell? ⟨(ad.add (i.toNat * 3)).block, (ad.add (i.toNat * 3)).off + 2, none⟩ = some (.int .i64 (rd_T45 xs i).f2) := by
  obtain ⟨ad, c, e, _, hK, hc0⟩ := Kd.C_get h z45 i h0 h1
  have hc : ∀ j u, c[j]? = some u → w.cell? (ad.add (i.toNat * 3 + j)) = some u := hc0
  obtain rfl := k45_open hK
  exact ⟨ad, e, hc 0 _ rfl, by rw [← add_field _ _ 1 (by omega)]; exact hc 1 _ rfl, by rw [← add_field _ _ 2 (by omega)]; exact hc 2 _ rfl⟩

/-! tactic blocks as theorems' default arguments, and short names -/
theorem hb_ {p q : Prop} (h : Aside0 p) (k : p → q := by intro h_; repeat (first | (with_reducible first | exact h_ | apply below_alloc | apply pw_below_drewN | apply below_drew1) | exact h_)) : q := k h.out
theorem hs_ {p q r : Prop} (h : Aside0 p) (g : Aside0 r) (k : p → r → q := by intro h_ g_; repeat (first | (with_reducible first | exact h_ | apply below_alloc | apply pw_below_drewN | apply below_drew1 | refine below_set ?_ g_) | exact h_)) : q := k h.out g.out
theorem bk_ {p q : Prop} (h : Aside0 p) (k : p → q := by intro h_; (with_reducible repeat (first | refine blk_drewN ?_ _ | refine blk_drew ?_ | refine blk_alloc ?_ _)); exact h_) : q := k h.out
theorem rr_ {p q : Prop} (h : Aside0 p) (k : p → q := by intro h_; (with_reducible repeat (first | apply Kd.R_alloc | apply Kd.R_drewN | apply Kd.R_drew)); exact h_) : q := k h.out
theorem ar_ {p : Prop} (k : p := by (try simp only [List.map_toArray, List.map_cons, List.map_nil]); first | done | rfl | (simp only [List.length_drop, List.length_take]; rfl)) : p := k
theorem rs_ {p : Prop} (k : p := by first | rfl | (simp; done) | (simp [*]; done)) : p := k
theorem re_ {p : Prop} (k : p := by first | rfl | (simp [errW_none, errW_some] <;> rfl) | (simp [*, errW_none, errW_some] <;> rfl)) : p := k
theorem as_ {p : Prop} (k : p := by first | (with_reducible assumption) | assumption) : p := k
theorem la_ {α : Type _} (l : List α) (i : Nat) (a : α) : l.toArray.setIfInBounds i a = (l.set i a).toArray := List.setIfInBounds_toArray ..
theorem lz_ {α : Type _} (x : α) (xs : List α) (a : α) : (x :: xs).set 0 a = a :: xs := rfl
theorem ls_ {α : Type _} (x : α) (xs : List α) (n : Nat) (a : α) : (x :: xs).set (n + 1) a = x :: xs.set n a := rfl
theorem cb_ {w W : World} {a : Addr} {v : Value} (h : Aside0 (Below w.heap.size w W)) (hx : w.cell? a = some v) : W.cell? a = some v := (h.out.cell (World.block_lt_of_cell? w _ hx)).trans hx
theorem nb_ {p q : Prop} (h : p) (k : p → q := by intro h_; first | (rw [add_block]; exact h_) | (show (Addr.add _ _).block ≠ _; rw [add_block]; exact h_) | exact h_) : q := k h
theorem pun_ {P : Program} {md : Region.Mode} {ops : Array Oper} {Q : Exit → Act → World → Prop} {S : World → Prop} {ds : List Nat} {T : Bool × List (List Nat × List Nat)} {i : Nat} {N : Option Tmp} {oi : Oper} {fuel : Nat} {l : Array Bool} {a : Act} {w : World} (l' : Array Bool) (hi : ops[i]? = some oi) (hN : oi.dst = N) (hT : Aside0 (rtab md ops = T)) {a' : Act} (h : wpAnyLast P md ops Q S ds fuel l' a' w) (hw : Region.wanted oi (yielded ops a.tmps) = false := by rfl) (ha : a.put N undef = a' := by simp only [Act.put, la_, lz_, ls_, i64_w, i32_w]; rfl) (hc : anyT T l.toList l'.toList i = true := by kernel_rfl) (hQ : ∀ c a w, Q (.panic c) (a.put oi.dst undef) w → Q (.panic c) a w := by exact fun _ _ _ h => h) : wpAnyLast P md ops Q S ds (fuel + 1) l a w := pure_ l' hi hN (any_of hT.out hc) hQ (Or.inr ⟨hw, rfl⟩) ha h
theorem pv_ {P : Program} {md : Region.Mode} {ops : Array Oper} {Q : Exit → Act → World → Prop} {S : World → Prop} {ds : List Nat} {T : Bool × List (List Nat × List Nat)} {i : Nat} {N : Option Tmp} {oi : Oper} {v : Value} {fuel : Nat} {l : Array Bool} {a : Act} {w : World} (l' : Array Bool) (hi : ops[i]? = some oi) (hN : oi.dst = N) (hT : Aside0 (rtab md ops = T)) {a' : Act} (h : wpAnyLast P md ops Q S ds fuel l' a' w) (hw : Region.wanted oi (yielded ops a.tmps) = true := by rfl) (hy : ∀ w, (execOp a.eval oi).run P w = .ok (.value v) w := by intro w'; go_simp; with_reducible rfl) (ha : a.put N v = a' := by simp only [Act.put, la_, lz_, ls_, i64_w, i32_w]; rfl) (hc : anyT T l.toList l'.toList i = true := by kernel_rfl) (hQ : ∀ c a w, Q (.panic c) (a.put oi.dst v) w → Q (.panic c) a w := by exact fun _ _ _ h => h) : wpAnyLast P md ops Q S ds (fuel + 1) l a w := pure_ l' hi hN (any_of hT.out hc) hQ (Or.inl ⟨hw, hy⟩) ha h
abbrev i' : Bool := true
abbrev o' : Bool := false
abbrev on_ (k m : Nat) : Array Bool := (List.replicate k true ++ List.replicate m false).toArray
theorem bb_ {W0 W W2 : World} {g : Nat} {o : Obj} (h : Aside0 (W0.heap[g]? = some o)) (hb : Below W.heap.size W W2) (k : W0.heap[g]? = some o → W.heap[g]? = some o := by intro h_; (with_reducible repeat (first | refine blk_drewN ?_ _ | refine blk_drew ?_ | refine blk_alloc ?_ _)); exact h_) : Aside0 (W2.heap[g]? = some o) := ⟨blk_below (k h.out) hb⟩
theorem bf_ {q : Prop} {W0 W W2 : World} {g : Nat} {o : Obj} (h : Aside0 (W0.heap[g]? = some o)) (n : Aside0 q) (hb : Below W.heap.size W W2) (k : W0.heap[g]? = some o → q → W.heap[g]? = some o := by intro h_ n_; repeat (first | (with_reducible first | exact h_ | refine blk_drewN ?_ _ | refine blk_drew ?_ | refine blk_alloc ?_ _) | refine blk_far ?_ n_ _ | exact h_)) : Aside0 (W2.heap[g]? = some o) := ⟨blk_below (k h.out n.out) hb⟩
theorem bp_ {W0 W W2 : World} {g : Nat} {cs0 : Array Value} {t : TypeId} (cs : Array Value) (h : Aside0 (W0.heap[g]? = some (.cells cs0 t (0, 0)))) (hb : Below W.heap.size W W2) (k : W0.heap[g]? = some (.cells cs0 t (0, 0)) → ∃ c, W.heap[g]? = some (.cells c t (0, 0)) ∧ c = cs := by intro h_; exact ⟨_, by repeat (first | (with_reducible first | exact h_ | refine blk_drewN ?_ _ | refine blk_drew ?_ | refine blk_alloc ?_ _) | apply blk_set), by rfl⟩) : Aside0 (W2.heap[g]? = some (.cells cs t (0, 0))) := by obtain ⟨c, h1, h2⟩ := k h.out; subst h2; exact ⟨blk_below h1 hb⟩
theorem bg_ {W0 W W2 : World} {g : Nat} {o : Obj} {row : Option Nat} (h : Aside0 (W0.heap[g]? = some o)) (hg : W.grownBy W2 row) (hn : some g ≠ row) (k : W0.heap[g]? = some o → W.heap[g]? = some o := by intro h_; (with_reducible repeat (first | refine blk_drewN ?_ _ | refine blk_drew ?_ | refine blk_alloc ?_ _)); exact h_) : Aside0 (W2.heap[g]? = some o) := ⟨blk_grown (k h.out) hg hn⟩
theorem bs_ {w W0 W W2 : World} (h : Aside0 (Below w.heap.size w W0)) (hb : Below W.heap.size W W2) (k : Below w.heap.size w W0 → Below w.heap.size w W := by intro h_; repeat (first | (with_reducible first | exact h_ | apply below_alloc | apply pw_below_drewN | apply below_drew1) | exact h_)) : Aside0 (Below w.heap.size w W2) := ⟨below_step (k h.out) hb⟩
theorem bt_ {q : Prop} {w W0 W W2 : World} (h : Aside0 (Below w.heap.size w W0)) (n : Aside0 q) (hb : Below W.heap.size W W2) (k : Below w.heap.size w W0 → q → Below w.heap.size w W := by intro h_ g_; repeat (first | (with_reducible first | exact h_ | apply below_alloc | apply pw_below_drewN | apply below_drew1 | refine below_set ?_ g_) | exact h_)) : Aside0 (Below w.heap.size w W2) := ⟨below_step (k h.out n.out) hb⟩
theorem bu_ {q r : Prop} {w W0 W W2 : World} (h : Aside0 (Below w.heap.size w W0)) (n : Aside0 q) (m : Aside0 r) (hb : Below W.heap.size W W2) (k : Below w.heap.size w W0 → q → r → Below w.heap.size w W := by intro h_ g_ i_; repeat (first | (with_reducible first | exact h_ | apply below_alloc | apply pw_below_drewN | apply below_drew1 | refine below_set ?_ g_ | refine below_set ?_ i_) | exact h_)) : Aside0 (Below w.heap.size w W2) := ⟨below_step (k h.out n.out m.out) hb⟩
theorem hu_ {p q r s : Prop} (h : Aside0 p) (n : Aside0 q) (m : Aside0 r) (k : p → q → r → s := by intro h_ g_ i_; repeat (first | (with_reducible first | exact h_ | apply below_alloc | apply pw_below_drewN | apply below_drew1 | refine below_set ?_ g_ | refine below_set ?_ i_) | exact h_)) : s := k h.out n.out m.out
theorem hv_ {p q r q' s : Prop} (h : Aside0 p) (n : Aside0 q) (m : Aside0 r) (o : Aside0 q') (k : p → q → r → q' → s := by intro h_ g_ i_ j_; repeat (first | (with_reducible first | exact h_ | apply below_alloc | apply pw_below_drewN | apply below_drew1 | refine below_set ?_ g_ | refine below_set ?_ i_ | refine below_set ?_ j_) | exact h_)) : s := k h.out n.out m.out o.out
theorem hw_ {p q r q' r' s : Prop} (h : Aside0 p) (n : Aside0 q) (m : Aside0 r) (o : Aside0 q') (o2 : Aside0 r') (k : p → q → r → q' → r' → s := by intro h_ g_ i_ j_ l_; repeat (first | (with_reducible first | exact h_ | apply below_alloc | apply pw_below_drewN | apply below_drew1 | refine below_set ?_ g_ | refine below_set ?_ i_ | refine below_set ?_ j_ | refine below_set ?_ l_) | exact h_)) : s := k h.out n.out m.out o.out o2.out
theorem ge_ {g : Nat} {w W : World} (hg : g = W.heap.size) (h : Below w.heap.size w W) : Aside0 (w.heap.size ≤ g) := ⟨by rw [hg]; exact below_size h⟩
theorem nl_ {W0 W : World} {g g' : Nat} {o : Obj} (h : Aside0 (W0.heap[g]? = some o)) (hg : g' = W.heap.size) (k : W0.heap[g]? = some o → W.heap[g]? = some o := by intro h_; (with_reducible repeat (first | refine blk_drewN ?_ _ | refine blk_drew ?_ | refine blk_alloc ?_ _)); exact h_) : Aside0 (g ≠ g') := ⟨by rw [hg]; exact Nat.ne_of_lt (blk_lt (k h.out))⟩
theorem ng_ {W0 W : World} {g g' : Nat} {o : Obj} (h : Aside0 (W0.heap[g]? = some o)) (hg : g' = W.heap.size) (k : W0.heap[g]? = some o → W.heap[g]? = some o := by intro h_; (with_reducible repeat (first | refine blk_drewN ?_ _ | refine blk_drew ?_ | refine blk_alloc ?_ _)); exact h_) : Aside0 (g' ≠ g) := ⟨by rw [hg]; exact Nat.ne_of_gt (blk_lt (k h.out))⟩
theorem rb_ {α : Type} {d : Kd α} {e b : Nat} {w0 W W2 : World} {ok : Nat → Prop} {v : Value} {xs : List α} (h : Aside0 (d.R e w0 b ok v xs)) (hb : Below W.heap.size W W2) (k : d.R e w0 b ok v xs → d.R e W b ok v xs := by intro h_; (with_reducible repeat (first | apply Kd.R_alloc | apply Kd.R_drewN | apply Kd.R_drew)); exact h_) : Aside0 (d.R e W2 b ok v xs) := ⟨Kd.R_below (k h.out) hb⟩
theorem rfb_ {g t : Nat} {cells : Array Value} {α : Type} {d : Kd α} {e b : Nat} {w0 W W2 : World} {ok : Nat → Prop} {v : Value} {xs : List α} (h : Aside0 (d.R e w0 b ok v xs)) (n : Aside0 (w0.heap[g]? = some (.cells cells t (0, 0)))) (hb : Below W.heap.size W W2) (ht : ∀ q, q ∈ e :: d.E → q ≠ t := by decide) (k : d.R e w0 b (fun k => ok k ∧ k ≠ g) v xs → d.R e W b (fun k => ok k ∧ k ≠ g) v xs := by intro h1_; repeat (first | (with_reducible first | exact h1_ | apply Kd.R_alloc | apply Kd.R_drewN | apply Kd.R_drew) | refine Kd.R_far ?_ (fun _ hk => hk.2) _)) : Aside0 (d.R e W2 b ok v xs) := ⟨Kd.R_below (Kd.R_mono (k (Kd.R_types h.out n.out ht)) (fun _ hk => hk.1)) hb⟩
theorem ur_ {g t : Nat} {cells : Array Value} {α : Type} {d : Kd α} {e b : Nat} {w0 W W2 : World} {ok : Nat → Prop} {v : Value} {xs : List α} (ok' : Nat → Prop) (h : Aside0 (d.R e w0 b ok v xs)) (n : Aside0 (w0.heap[g]? = some (.cells cells t (0, 0)))) (hw : W = W2) (ht : ∀ q, q ∈ e :: d.E → q ≠ t := by decide) (k : d.R e w0 b (fun k => ok k ∧ k ≠ g) v xs → d.R e W b (fun k => ok k ∧ k ≠ g) v xs := by intro h1_; repeat (first | (with_reducible first | exact h1_ | apply Kd.R_alloc | apply Kd.R_drewN | apply Kd.R_drew) | refine Kd.R_far ?_ (fun _ hk => hk.2) _)) (hok : ∀ k, (ok k ∧ k ≠ g) → ok' k := by first | exact fun _ _ => trivial | exact fun _ hk => hk.1 | exact fun _ hk => ⟨hk.1.2, hk.1.1⟩ | exact fun _ hk => ⟨hk.1.1, hk.1.2⟩ | exact fun _ hk => hk.1.2) : Aside0 (d.R e W2 b ok' v xs) := ⟨hw ▸ Kd.R_mono (k (Kd.R_types h.out n.out ht)) hok⟩
theorem uf_ {q : Prop} {W0 W W2 : World} {g : Nat} {o : Obj} (h : Aside0 (W0.heap[g]? = some o)) (n : Aside0 q) (hw : W = W2) (k : W0.heap[g]? = some o → q → W.heap[g]? = some o := by intro h_ n_; repeat (first | (with_reducible first | exact h_ | refine blk_drewN ?_ _ | refine blk_drew ?_ | refine blk_alloc ?_ _) | refine blk_far ?_ n_ _ | exact h_)) : Aside0 (W2.heap[g]? = some o) := ⟨hw ▸ k h.out n.out⟩
theorem up_ {W0 W W2 : World} {g : Nat} {cs0 : Array Value} {t : TypeId} (cs : Array Value) (h : Aside0 (W0.heap[g]? = some (.cells cs0 t (0, 0)))) (hw : W = W2) (k : W0.heap[g]? = some (.cells cs0 t (0, 0)) → ∃ c, W.heap[g]? = some (.cells c t (0, 0)) ∧ c = cs := by intro h_; exact ⟨_, by repeat (first | (with_reducible first | exact h_ | refine blk_drewN ?_ _ | refine blk_drew ?_ | refine blk_alloc ?_ _) | apply blk_set), by rfl⟩) : Aside0 (W2.heap[g]? = some (.cells cs t (0, 0))) := by obtain ⟨c, h1, h2⟩ := k h.out; subst h2; exact ⟨hw ▸ h1⟩
theorem us_ {w W W2 : World} (hw : W = W2) (h : Below w.heap.size w W) : Aside0 (Below w.heap.size w W2) := ⟨hw ▸ h⟩
theorem rd_ {α : Type} {d : Kd α} {e b : Nat} {W : World} {ok : Nat → Prop} {v : Value} {xs : List α} (h : Aside0 (d.R e W b ok v xs)) : Aside0 (d.R e W.drew b ok v xs) := ⟨Kd.R_drew h.out⟩
theorem bd_ {W : World} {g : Nat} {o : Obj} (h : Aside0 (W.heap[g]? = some o)) : Aside0 (W.drew.heap[g]? = some o) := ⟨blk_drew h.out⟩
theorem hd_ {B : Nat} {w W : World} (h : Aside0 (Below B w W)) : Aside0 (Below B w W.drew) := ⟨below_drew1 h.out⟩
theorem ob_ {α : Type} {d : Kd α} {e b g t n c : Nat} {w : World} {ok : Nat → Prop} {ad : Addr} {xs : List α} {cells : Array Value} (h : Aside0 (d.R e w b ok (.slice (some ad) n c) xs)) (hb : Aside0 (w.heap[g]? = some (.cells cells t (0, 0)))) (k : e ≠ t ∨ (∀ k, ok k → k ≠ g) := by first | exact .inl (by decide) | exact .inr (fun _ hk => hk.2) | exact .inr (fun _ hk => hk.1.2) | exact .inr (fun _ hk => hk.1) | exact .inr (fun _ hk => hk.2.1) | exact .inr (fun _ hk => hk.2.2)) : ad.block ≠ g := k.elim (fun h1 => Kd.own_blk (Kd.R_ne h.out hb.out h1)) (fun h2 => Kd.own_blk (n := n) (c := c) (fun h_ => h2 _ (h.out.1 _ h_.symm) rfl))
abbrev k1_ (g : Nat) (a0 : Value) (T : World → Prop) : World → Prop := fun w => w.cell? ⟨g, 0, none⟩ = some a0 ∧ T w
theorem f1_ {w : World} {g : Nat} {a0 : Value} {p : Addr} {u : Value} (n : Aside0 (g ≠ p.block)) {T : World → Prop} (h : k1_ g a0 T w) (r : T (w.setCell p u)) : k1_ g a0 T (w.setCell p u) := ⟨(cell_far n.out _).trans (h.1), r⟩
abbrev k2_ (g : Nat) (a0 a1 : Value) (T : World → Prop) : World → Prop := fun w => w.cell? ⟨g, 0, none⟩ = some a0 ∧ w.cell? ⟨g, 1, none⟩ = some a1 ∧ T w
theorem f2_ {w : World} {g : Nat} {a0 a1 : Value} {p : Addr} {u : Value} (n : Aside0 (g ≠ p.block)) {T : World → Prop} (h : k2_ g a0 a1 T w) (r : T (w.setCell p u)) : k2_ g a0 a1 T (w.setCell p u) := ⟨(cell_far n.out _).trans (h.1), (cell_far n.out _).trans (h.2.1), r⟩
theorem bc3_ {w : World} {g : Nat} {t : TypeId} {a0 a1 a2 : Value} (h : Aside0 (w.heap[g]? = some (.cells #[a0, a1, a2] t (0, 0)))) : w.cell? ⟨g, 0, none⟩ = some a0 ∧ w.cell? ⟨g, 1, none⟩ = some a1 ∧ w.cell? ⟨g, 2, none⟩ = some a2 ∧ w.frozen? ⟨g, 0, none⟩ = false ∧ w.frozen? ⟨g, 1, none⟩ = false ∧ w.frozen? ⟨g, 2, none⟩ = false := ⟨(blk_cell h.out 0).trans rfl, (blk_cell h.out 1).trans rfl, (blk_cell h.out 2).trans rfl, blk_frozen h.out 0, blk_frozen h.out 1, blk_frozen h.out 2⟩
abbrev k3_ (g : Nat) (a0 a1 a2 : Value) (T : World → Prop) : World → Prop := fun w => w.cell? ⟨g, 0, none⟩ = some a0 ∧ w.cell? ⟨g, 1, none⟩ = some a1 ∧ w.cell? ⟨g, 2, none⟩ = some a2 ∧ T w
abbrev k3e_ (g : Nat) (a0 a1 a2 : Value) : World → Prop := fun w => w.cell? ⟨g, 0, none⟩ = some a0 ∧ w.cell? ⟨g, 1, none⟩ = some a1 ∧ w.cell? ⟨g, 2, none⟩ = some a2
theorem p3_ {w : World} {g : Nat} {t : TypeId} {a0 a1 a2 : Value} (h : Aside0 (w.heap[g]? = some (.cells #[a0, a1, a2] t (0, 0)))) {T : World → Prop} (r : T w) : k3_ g a0 a1 a2 T w := ⟨(blk_cell h.out 0).trans rfl, (blk_cell h.out 1).trans rfl, (blk_cell h.out 2).trans rfl, r⟩
theorem p3e_ {w : World} {g : Nat} {t : TypeId} {a0 a1 a2 : Value} (h : Aside0 (w.heap[g]? = some (.cells #[a0, a1, a2] t (0, 0)))) : k3e_ g a0 a1 a2 w := ⟨(blk_cell h.out 0).trans rfl, (blk_cell h.out 1).trans rfl, (blk_cell h.out 2).trans rfl⟩
theorem f3_ {w : World} {g : Nat} {a0 a1 a2 : Value} {p : Addr} {u : Value} (n : Aside0 (g ≠ p.block)) {T : World → Prop} (h : k3_ g a0 a1 a2 T w) (r : T (w.setCell p u)) : k3_ g a0 a1 a2 T (w.setCell p u) := ⟨(cell_far n.out _).trans (h.1), (cell_far n.out _).trans (h.2.1), (cell_far n.out _).trans (h.2.2.1), r⟩
abbrev e3_ (ad : Addr) (a0 a1 a2 : Value) (T : World → Prop) : World → Prop := fun w => w.cell? ad = some a0 ∧ w.cell? ⟨ad.block, ad.off + 1, none⟩ = some a1 ∧ w.cell? ⟨ad.block, ad.off + 2, none⟩ = some a2 ∧ T w
abbrev e3e_ (ad : Addr) (a0 a1 a2 : Value) : World → Prop := fun w => w.cell? ad = some a0 ∧ w.cell? ⟨ad.block, ad.off + 1, none⟩ = some a1 ∧ w.cell? ⟨ad.block, ad.off + 2, none⟩ = some a2
theorem q3_ {w : World} {ad : Addr} {a0 a1 a2 : Value} {T : World → Prop} (h0 : w.cell? ad = some a0) (h1 : w.cell? ⟨ad.block, ad.off + 1, none⟩ = some a1) (h2 : w.cell? ⟨ad.block, ad.off + 2, none⟩ = some a2) (r : T w) : e3_ ad a0 a1 a2 T w := ⟨h0, h1, h2, r⟩
theorem q3e_ {w : World} {ad : Addr} {a0 a1 a2 : Value} (h0 : w.cell? ad = some a0) (h1 : w.cell? ⟨ad.block, ad.off + 1, none⟩ = some a1) (h2 : w.cell? ⟨ad.block, ad.off + 2, none⟩ = some a2) : e3e_ ad a0 a1 a2 w := ⟨h0, h1, h2⟩
theorem bc4_ {w : World} {g : Nat} {t : TypeId} {a0 a1 a2 a3 : Value} (h : Aside0 (w.heap[g]? = some (.cells #[a0, a1, a2, a3] t (0, 0)))) : w.cell? ⟨g, 0, none⟩ = some a0 ∧ w.cell? ⟨g, 1, none⟩ = some a1 ∧ w.cell? ⟨g, 2, none⟩ = some a2 ∧ w.cell? ⟨g, 3, none⟩ = some a3 ∧ w.frozen? ⟨g, 0, none⟩ = false ∧ w.frozen? ⟨g, 1, none⟩ = false ∧ w.frozen? ⟨g, 2, none⟩ = false ∧ w.frozen? ⟨g, 3, none⟩ = false := ⟨(blk_cell h.out 0).trans rfl, (blk_cell h.out 1).trans rfl, (blk_cell h.out 2).trans rfl, (blk_cell h.out 3).trans rfl, blk_frozen h.out 0, blk_frozen h.out 1, blk_frozen h.out 2, blk_frozen h.out 3⟩
abbrev k4_ (g : Nat) (a0 a1 a2 a3 : Value) (T : World → Prop) : World → Prop := fun w => w.cell? ⟨g, 0, none⟩ = some a0 ∧ w.cell? ⟨g, 1, none⟩ = some a1 ∧ w.cell? ⟨g, 2, none⟩ = some a2 ∧ w.cell? ⟨g, 3, none⟩ = some a3 ∧ T w
abbrev k4e_ (g : Nat) (a0 a1 a2 a3 : Value) : World → Prop := fun w => w.cell? ⟨g, 0, none⟩ = some a0 ∧ w.cell? ⟨g, 1, none⟩ = some a1 ∧ w.cell? ⟨g, 2, none⟩ = some a2 ∧ w.cell? ⟨g, 3, none⟩ = some a3
theorem p4_ {w : World} {g : Nat} {t : TypeId} {a0 a1 a2 a3 : Value} (h : Aside0 (w.heap[g]? = some (.cells #[a0, a1, a2, a3] t (0, 0)))) {T : World → Prop} (r : T w) : k4_ g a0 a1 a2 a3 T w := ⟨(blk_cell h.out 0).trans rfl, (blk_cell h.out 1).trans rfl, (blk_cell h.out 2).trans rfl, (blk_cell h.out 3).trans rfl, r⟩
theorem p4e_ {w : World} {g : Nat} {t : TypeId} {a0 a1 a2 a3 : Value} (h : Aside0 (w.heap[g]? = some (.cells #[a0, a1, a2, a3] t (0, 0)))) : k4e_ g a0 a1 a2 a3 w := ⟨(blk_cell h.out 0).trans rfl, (blk_cell h.out 1).trans rfl, (blk_cell h.out 2).trans rfl, (blk_cell h.out 3).trans rfl⟩
theorem f4_ {w : World} {g : Nat} {a0 a1 a2 a3 : Value} {p : Addr} {u : Value} (n : Aside0 (g ≠ p.block)) {T : World → Prop} (h : k4_ g a0 a1 a2 a3 T w) (r : T (w.setCell p u)) : k4_ g a0 a1 a2 a3 T (w.setCell p u) := ⟨(cell_far n.out _).trans (h.1), (cell_far n.out _).trans (h.2.1), (cell_far n.out _).trans (h.2.2.1), (cell_far n.out _).trans (h.2.2.2.1), r⟩
theorem r4e_ {w : World} {g : Nat} {a0 a1 a2 a3 : Value} (h0 : w.cell? ⟨g, 0, none⟩ = some a0) (h1 : w.cell? ⟨g, 1, none⟩ = some a1) (h2 : w.cell? ⟨g, 2, none⟩ = some a2) (h3 : w.cell? ⟨g, 3, none⟩ = some a3) : k4e_ g a0 a1 a2 a3 w := ⟨h0, h1, h2, h3⟩
abbrev k5_ (g : Nat) (a0 a1 a2 a3 a4 : Value) (T : World → Prop) : World → Prop := fun w => w.cell? ⟨g, 0, none⟩ = some a0 ∧ w.cell? ⟨g, 1, none⟩ = some a1 ∧ w.cell? ⟨g, 2, none⟩ = some a2 ∧ w.cell? ⟨g, 3, none⟩ = some a3 ∧ w.cell? ⟨g, 4, none⟩ = some a4 ∧ T w
theorem f5_ {w : World} {g : Nat} {a0 a1 a2 a3 a4 : Value} {p : Addr} {u : Value} (n : Aside0 (g ≠ p.block)) {T : World → Prop} (h : k5_ g a0 a1 a2 a3 a4 T w) (r : T (w.setCell p u)) : k5_ g a0 a1 a2 a3 a4 T (w.setCell p u) := ⟨(cell_far n.out _).trans (h.1), (cell_far n.out _).trans (h.2.1), (cell_far n.out _).trans (h.2.2.1), (cell_far n.out _).trans (h.2.2.2.1), (cell_far n.out _).trans (h.2.2.2.2.1), r⟩
theorem pv_' {P : Program} {md : Region.Mode} {ops : Array Oper} {Q : Exit → Act → World → Prop} {S : World → Prop} {ds : List Nat} {T : Bool × List (List Nat × List Nat)} (i : Nat) (N : Nat) {oi : Oper} {v : Value} {fuel : Nat} {l : Array Bool} {a : Act} {w : World} (l' : Array Bool) (hi : ops[i]? = some oi) (hN : oi.dst = some N) (hT : Aside0 (rtab md ops = T)) {a' : Act} (h : wpAnyLast P md ops Q S ds fuel l' a' w) (hw : Region.wanted oi (yielded ops a.tmps) = true := by rfl) (hy : ∀ w, (execOp a.eval oi).run P w = .ok (.value v) w := by intro w'; go_simp; with_reducible rfl) (ha : a.put (some N) v = a' := by simp only [Act.put, la_, lz_, ls_, i64_w, i32_w]; rfl) (hc : anyT T l.toList l'.toList i = true := by kernel_rfl) (hQ : ∀ c a w, Q (.panic c) (a.put oi.dst v) w → Q (.panic c) a w := by exact fun _ _ _ h => h) : wpAnyLast P md ops Q S ds (fuel + 1) l a w := pv_ l' hi hN hT h hw hy ha hc hQ
theorem pun_' {P : Program} {md : Region.Mode} {ops : Array Oper} {Q : Exit → Act → World → Prop} {S : World → Prop} {ds : List Nat} {T : Bool × List (List Nat × List Nat)} (i : Nat) (N : Nat) {oi : Oper} {fuel : Nat} {l : Array Bool} {a : Act} {w : World} (l' : Array Bool) (hi : ops[i]? = some oi) (hN : oi.dst = some N) (hT : Aside0 (rtab md ops = T)) {a' : Act} (h : wpAnyLast P md ops Q S ds fuel l' a' w) (hw : Region.wanted oi (yielded ops a.tmps) = false := by rfl) (ha : a.put (some N) undef = a' := by simp only [Act.put, la_, lz_, ls_, i64_w, i32_w]; rfl) (hc : anyT T l.toList l'.toList i = true := by kernel_rfl) (hQ : ∀ c a w, Q (.panic c) (a.put oi.dst undef) w → Q (.panic c) a w := by exact fun _ _ _ h => h) : wpAnyLast P md ops Q S ds (fuel + 1) l a w := pun_ l' hi hN hT h hw ha hc hQ
theorem sd_ (w : World) (n : Nat) (a : Addr) (v : Value) : (w.drewN n).setCell a v = (w.setCell a v).drewN n := by unfold World.setCell World.drewN; split <;> rfl
theorem cd_ (w : World) (n : Nat) (a : Addr) : (w.drewN n).cell? a = w.cell? a := rfl
theorem cdk1_ (n : Nat) {w : World} {a0 : Addr} {v0 : Value} {a : Addr} {v : Value} (h : (w.setCell a0 v0).cell? a = some v) : ((w.drewN n).setCell a0 v0).cell? a = some v := by rw [sd_, cd_]; exact h
end Go.Proofs.Ytigbekefjbfopaa.PFnPower
