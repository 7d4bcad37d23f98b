-- Laid by a program of this session, a copy of the kit's printer with additions (wip/patch_print.py): myhead. Lean checks it.
import Derived.Test.YtebeafcdabkkfaaPFnExactShowHintx0
import Derived.Test.YtebeafcdabkkfaaPFnExactShowHintx1
namespace Go.Proofs.Ytebeafcdabkkfaa.PFnExactShowHint
open Go.RowKit Go.Proofs.YtebeafcdabkkfaaW.PrintWords Go.Proofs.YtebeafcdabkkfaaW.PrintLast Go.Proofs.YtebeafcdabkkfaaW.PrintMore
theorem bl_swq20547 : ∀ x y : List UInt8, (Op.bytesLess x y || x == y) = !(Op.bytesLess y x)
 | [], [] => by simp [Op.bytesLess]
 | [], _ :: _ => by simp [Op.bytesLess]
 | _ :: _, [] => by simp [Op.bytesLess]
 | a :: x, b :: y => by
  have ih := bl_swq20547 x y
  by_cases e : a = b
  ·subst e
   simp only [Op.bytesLess, List.cons_beq_cons, BEq.rfl, Bool.true_and, UInt8.lt_irrefl, decide_false, Bool.false_or]
   exact ih
  ·have e' : ¬ b = a := fun h => e h.symm
   have h1 : (a == b) = false := by simpa using e
   have h2 : (b == a) = false := by simpa using e'
   simp only [Op.bytesLess, List.cons_beq_cons, h1, h2, Bool.false_and, Bool.or_false]
   by_cases l : a < b
   ·have : ¬ b < a := fun h => UInt8.lt_asymm h l
    simp [l, this]
   ·have : b < a := UInt8.lt_of_le_of_ne (UInt8.not_lt.1 l) e'
    simp [l, this]
theorem bl_leqq20547 (t : TypeId) (a b : ByteArray) : binOp .leq t (.string a) (.string b) = pure (.bool (!(Op.bytesLess b.toList a.toList))) := by simp only [binOp, Op.stringOp, bl_swq20547]
theorem bl_gtrq20547 (t : TypeId) (a b : ByteArray) : binOp .gtr t (.string a) (.string b) = pure (.bool (Op.bytesLess b.toList a.toList)) := by simp only [binOp, Op.stringOp, bl_swq20547, Bool.not_not]
theorem bl_geqq20547 (t : TypeId) (a b : ByteArray) : binOp .geq t (.string a) (.string b) = pure (.bool (!(Op.bytesLess a.toList b.toList))) := by simp only [binOp, Op.stringOp]
attribute [local go_sem] bl_leqq20547 bl_gtrq20547 bl_geqq20547
attribute [local go_sem] max2_int min2_int max_two min_two max_three min_three max_four min_four   -- for this text's walks alone
set_option linter.unusedVariables false
set_option linter.unusedSimpArgs false

/-! ### spec_DirOk: function 123 -/
def spec_DirOk.l0 : Nat → List (S113) → Int → Option (Bool)
 | 0, _, _ => none
 | k + 1, x0, x3 => if x3 < (x0.length : Int) then (if 0 ≤ x3 then ((spec_KeyOk.f ((rd_T113 x0 x3).f0)).bind fun t109 => (if t109 = true then ((spec_l1In.f ((rd_T113 x0 x3).f1) 1 100000).bind fun t110 => (if t110 = true then (if ((rd_T113 x0 x3).f2) < 0 then (some false) else ((spec_l1In.f ((rd_T113 x0 x3).f3) 1 210).bind fun t111 => (if t111 = true then ((spec_l1In.f ((rd_T113 x0 x3).f4) 1 1000000).bind fun t112 => (if t112 = true then (if x3 > 0 then (if 0 ≤ (wrap64 (x3 - 1)) then (if (wrap64 (x3 - 1)) < (x0.length : Int) then (if ((Op.bytesLess (((rd_T113 x0 (wrap64 (x3 - 1))).f0).toList) (((rd_T113 x0 x3).f0).toList)) = true) then (spec_DirOk.l0 k x0 (wrap64 (x3 + 1))) else (some false)) else (none)) else (none)) else (spec_DirOk.l0 k x0 (wrap64 (x3 + 1)))) else (some false))) else (some false)))) else (some false))) else (some false))) else (none)) else (some true)
def spec_DirOk.f (k : Nat) (l0 : List (S113)) : Option (Bool) := if (l0.length : Int) > 20 then (some false) else (spec_DirOk.l0 k l0 0)
theorem spec_DirOk.mono_l : ∀ k, (∀ y0 y1, LeO (spec_DirOk.l0 k y0 y1) (spec_DirOk.l0 (k + 1) y0 y1))
 | 0 => fun _ _ r h => by simp [spec_DirOk.l0] at h
 | k + 1 => by
  have ih0 := spec_DirOk.mono_l k
  ·intro y0 y1
   unfold spec_DirOk.l0
   repeat' first
   | (with_reducible exact ih0 _ _)
   | (with_reducible exact LeO.refl _)
   | (with_reducible exact LeO.none _)
   | (with_reducible refine LeO.ite ?_ ?_)
   | (with_reducible refine LeO.bind ?_ (fun _ => ?_))
   | exact ih0 _ _
   | exact LeO.none _
   | refine LeO.ite ?_ ?_
   | refine LeO.bind ?_ (fun _ => ?_)
theorem spec_DirOk.mono : ∀ a0 k, LeO (spec_DirOk.f k a0) (spec_DirOk.f (k + 1) a0) := by
 intro a0 k
 have ih0 := spec_DirOk.mono_l k
 unfold spec_DirOk.f
 repeat' first
   | (with_reducible exact ih0 _ _)
   | (with_reducible exact LeO.refl _)
   | (with_reducible exact LeO.none _)
   | (with_reducible refine LeO.ite ?_ ?_)
   | (with_reducible refine LeO.bind ?_ (fun _ => ?_))
   | exact ih0 _ _
   | exact LeO.none _
   | refine LeO.ite ?_ ?_
   | refine LeO.bind ?_ (fun _ => ?_)
def spec_DirOk.T7 : Bool × List (List Nat × List Nat) := (true, [([], []), ([0], [0]), ([1], [1]), ([2], [2]), ([3, 2], [3]), ([4], [4]), ([5, 4], [4, 5]), ([6, 4, 4], [4, 6]), ([7, 4], [4, 7]), ([4, 8], [4, 8]), ([9, 7], [9]), ([10], [10]), ([11, 10], [10, 11]), ([12, 10], [10, 12]), ([10, 13], [10, 13]), ([14, 10], [14]), ([15], [15]), ([16, 15], [15, 16]), ([17, 15, 15], [15, 17]), ([18, 15], [15, 18]), ([15, 19], [15, 19]), ([20, 18], [20]), ([21], [21]), ([22, 21], [21, 22]), ([23, 21, 21], [21, 23]), ([24, 21], [21, 24]), ([21, 25], [21, 25]), ([26, 24], [26]), ([27], [27]), ([28, 27], [27, 28]), ([29, 27, 27], [27, 29]), ([30], [30]), ([31, 30], [30, 31]), ([30], [30]), ([30], [30]), ([34, 30], [30, 34]), ([33, 35, 30], [30, 33, 35]), ([36, 30], [30, 36]), ([37, 30], [30, 37]), ([32, 38, 30], [30, 32, 38]), ([30, 39, 27], [27, 30, 39]), ([27, 40], [27, 40])])
def spec_DirOk.B7 : List Nat := [0, 1, 3, 7, 15, 31, 63, 127, 255, 511, 1023, 2047, 4095, 8191, 16383, 32767, 65535, 131071, 262143, 524287, 1048575, 2097151, 4194303, 8388607, 16777215, 33554431, 67108863, 134217727, 268435455, 536870911, 1073741823, 2147483647, 4294967295, 2147483647, 2147483647, 19327352831, 62277025791, 130996502527, 268435455999, 549755813887, 1099511627775, 2199023255551]
theorem spec_DirOk.tab7 : rtab .any (opsOf Try.f123 7) = spec_DirOk.T7 := by kernel_rfl
theorem spec_DirOk.bits7 : waitsOk spec_DirOk.T7.2 spec_DirOk.B7 = true := by kernel_rfl
set_option maxHeartbeats 8000000 in
set_option maxRecDepth 100000 in
theorem spec_DirOk.calls (k : Nat) (A0 : Option Addr) (c0 : Nat) (l0 : List (S113)) (r : Bool) (w : World) (hr0 : Kd.C k113 w A0 l0.length l0) (hc0 : l0.length ≤ c0) (h : spec_DirOk.f k l0 = some r) :
  Calls Try.prog 123 #[.slice A0 l0.length c0] w fun e w' => e = .returned (.bool r) ∧ Below w.heap.size w w' := by
 have hu113 := Try.underlying113
 have HR0 := Aside0.mk hr0
 have HC0 := Aside0.mk hc0
 clear hr0 hc0
 have HB := Aside0.mk (Below.refl w.heap.size w)
 have H : (if (l0.length : Int) > 20 then (some false) else (spec_DirOk.l0 k l0 0)) = some r := h
 clear h
 by_cases c2 : (l0.length : Int) > 20
 ·rw [if_pos c2] at H
  have c2b0 : decide (20 < (l0.length : Int)) = true := decide_eq_true c2
  have c2b1 : decide (20 < l0.length) = true := decide_eq_true (by omega)
  clear c2
  obtain rfl := Option.some.inj H
  go_enter Try.func123, Try.ntmps123
  go_wp2
  go_ret
  exact ⟨re_, hb_ HB⟩
 ·rw [if_neg c2] at H
  have c2b0 : decide (20 < (l0.length : Int)) = false := decide_eq_false c2
  have c2b1 : decide (20 < l0.length) = false := decide_eq_false (by omega)
  clear c2
  have H' := Aside0.mk H
  clear H
  go_enter Try.func123, Try.ntmps123
  go_wp2
  go_loopg [3] k (fun kq v3 w' => ∃ (x3_1 : Int), v3 = .int .i64 x3_1 ∧ Aside0 (spec_DirOk.l0 kq l0 x3_1 = some r) ∧ Aside0 (kq ≤ k) ∧ Aside0 (Below w.heap.size w w'))
  case atStart => exact ⟨(0), rs_, H', ⟨Nat.le_refl _⟩, ⟨hb_ HB⟩⟩
  case round =>
   clear H'
   try clear c1
   try clear c2
   try clear c2b0
   try clear c2b1
   try clear p2
   obtain ⟨x3_1, rfl, HA, HK1, HB⟩ := hrel
   cases gk with
   | zero => exact absurd HA.out (by simp [spec_DirOk.l0])
   | succ k1 =>
    have H := HA.out
    clear HA
    simp only [spec_DirOk.l0] at H
    by_cases c3 : x3_1 < (l0.length : Int)
    ·rw [if_pos c3] at H
     have c3b0 : decide (x3_1 < (l0.length : Int)) = true := decide_eq_true c3
     clear c3
     by_cases c4 : 0 ≤ x3_1
     ·rw [if_pos c4] at H
      have c4b0 : decide (0 ≤ x3_1) = true := decide_eq_true c4
      clear c4
      replace H := Option.bind_eq_some_iff.mp H
      obtain ⟨t109, A50, H⟩ := H
      replace H : (if t109 = true then ((spec_l1In.f ((rd_T113 l0 x3_1).f1) 1 100000).bind fun t110 => (if t110 = true then (if ((rd_T113 l0 x3_1).f2) < 0 then (some false) else ((spec_l1In.f ((rd_T113 l0 x3_1).f3) 1 210).bind fun t111 => (if t111 = true then ((spec_l1In.f ((rd_T113 l0 x3_1).f4) 1 1000000).bind fun t112 => (if t112 = true then (if x3_1 > 0 then (if 0 ≤ (wrap64 (x3_1 - 1)) then (if (wrap64 (x3_1 - 1)) < (l0.length : Int) then (if ((Op.bytesLess (((rd_T113 l0 (wrap64 (x3_1 - 1))).f0).toList) (((rd_T113 l0 x3_1).f0).toList)) = true) then (spec_DirOk.l0 k1 l0 (wrap64 (x3_1 + 1))) else (some false)) else (none)) else (none)) else (spec_DirOk.l0 k1 l0 (wrap64 (x3_1 + 1)))) else (some false))) else (some false)))) else (some false))) else (some false)) = some r := H
      have A5 := Aside0.mk A50
      clear A50
      by_cases c6 : t109 = true
      ·subst c6
       have H1 : ((spec_l1In.f ((rd_T113 l0 x3_1).f1) 1 100000).bind fun t110 => (if t110 = true then (if ((rd_T113 l0 x3_1).f2) < 0 then (some false) else ((spec_l1In.f ((rd_T113 l0 x3_1).f3) 1 210).bind fun t111 => (if t111 = true then ((spec_l1In.f ((rd_T113 l0 x3_1).f4) 1 1000000).bind fun t112 => (if t112 = true then (if x3_1 > 0 then (if 0 ≤ (wrap64 (x3_1 - 1)) then (if (wrap64 (x3_1 - 1)) < (l0.length : Int) then (if ((Op.bytesLess (((rd_T113 l0 (wrap64 (x3_1 - 1))).f0).toList) (((rd_T113 l0 x3_1).f0).toList)) = true) then (spec_DirOk.l0 k1 l0 (wrap64 (x3_1 + 1))) else (some false)) else (none)) else (none)) else (spec_DirOk.l0 k1 l0 (wrap64 (x3_1 + 1)))) else (some false))) else (some false)))) else (some false))) = some r := by rw [if_pos rfl] at H; exact H
       clear H
       have H := H1
       clear H1
       replace H := Option.bind_eq_some_iff.mp H
       obtain ⟨t110, A70, H⟩ := H
       replace H : (if t110 = true then (if ((rd_T113 l0 x3_1).f2) < 0 then (some false) else ((spec_l1In.f ((rd_T113 l0 x3_1).f3) 1 210).bind fun t111 => (if t111 = true then ((spec_l1In.f ((rd_T113 l0 x3_1).f4) 1 1000000).bind fun t112 => (if t112 = true then (if x3_1 > 0 then (if 0 ≤ (wrap64 (x3_1 - 1)) then (if (wrap64 (x3_1 - 1)) < (l0.length : Int) then (if ((Op.bytesLess (((rd_T113 l0 (wrap64 (x3_1 - 1))).f0).toList) (((rd_T113 l0 x3_1).f0).toList)) = true) then (spec_DirOk.l0 k1 l0 (wrap64 (x3_1 + 1))) else (some false)) else (none)) else (none)) else (spec_DirOk.l0 k1 l0 (wrap64 (x3_1 + 1)))) else (some false))) else (some false)))) else (some false)) = some r := H
       have A7 := Aside0.mk A70
       clear A70
       by_cases c8 : t110 = true
       ·subst c8
        have H1 : (if ((rd_T113 l0 x3_1).f2) < 0 then (some false) else ((spec_l1In.f ((rd_T113 l0 x3_1).f3) 1 210).bind fun t111 => (if t111 = true then ((spec_l1In.f ((rd_T113 l0 x3_1).f4) 1 1000000).bind fun t112 => (if t112 = true then (if x3_1 > 0 then (if 0 ≤ (wrap64 (x3_1 - 1)) then (if (wrap64 (x3_1 - 1)) < (l0.length : Int) then (if ((Op.bytesLess (((rd_T113 l0 (wrap64 (x3_1 - 1))).f0).toList) (((rd_T113 l0 x3_1).f0).toList)) = true) then (spec_DirOk.l0 k1 l0 (wrap64 (x3_1 + 1))) else (some false)) else (none)) else (none)) else (spec_DirOk.l0 k1 l0 (wrap64 (x3_1 + 1)))) else (some false))) else (some false)))) = some r := by rw [if_pos rfl] at H; exact H
        clear H
        have H := H1
        clear H1
        by_cases c9 : ((rd_T113 l0 x3_1).f2) < 0
        ·rw [if_pos c9] at H
         have c9b0 : decide (((rd_T113 l0 x3_1).f2) < 0) = true := decide_eq_true c9
         clear c9
         obtain rfl := Option.some.inj H
         have p107 : 0 ≤ (x3_1 : Int) := of_decide_eq_true as_
         have q107 : x3_1 < (l0.length : Int) := of_decide_eq_true as_
         obtain ⟨ad107, e107, hx107_0, hx107_1, hx107_2, hx107_3, hx107_4⟩ := at_T113 HR0.out x3_1 p107 q107
         cases e107
         replace hx107_0 := (HB.out.cell (World.block_lt_of_cell? w _ hx107_0)).trans hx107_0
         replace hx107_1 := (HB.out.cell (World.block_lt_of_cell? w _ hx107_1)).trans hx107_1
         replace hx107_2 := (HB.out.cell (World.block_lt_of_cell? w _ hx107_2)).trans hx107_2
         replace hx107_3 := (HB.out.cell (World.block_lt_of_cell? w _ hx107_3)).trans hx107_3
         replace hx107_4 := (HB.out.cell (World.block_lt_of_cell? w _ hx107_4)).trans hx107_4
         replace p107 := eq_true p107
         replace q107 := eq_true q107
         try go_wp2_with (first | ((with_reducible refine gate_dst (N := 4) rfl ?_); refine box_event ?hg (N := 4) ?hd (cs := #[.string (⟨#[]⟩ : ByteArray), .int .i64 0, .int .i64 0, .int .i64 0, .int .i64 0]) (t := 113) ?hr ?_; (case hd => rfl); (case hg => rfl); (case hr => first | (go_simp; done) | (go_simp; rfl)); intro gb108 hg w10 hbox hb; have n0_ := Aside0.mk (below_step (hb_ HB) hb); have n1_ := Aside0.mk (hbox); have n2_ := Aside0.mk ((by rw [hg]; exact (below_size (hb_ HB)) : w.heap.size ≤ gb108)); have n3_ := Aside0.mk ((by rw [hg]; exact (below_size (hb_ HB)) : w.heap.size ≤ gb108)); clear HB; have HB := n0_; have BK108 := n1_; have GW108 := n2_; have GE108 := n3_; clear n0_ n1_ n2_ n3_; clear hb hbox hg; have hcz11_0 : w10.cell? ⟨gb108, 0, none⟩ = some (.string (⟨#[]⟩ : ByteArray)) := (blk_cell BK108.out 0).trans rfl; have hcz11_1 : w10.cell? ⟨gb108, 1, none⟩ = some (.int .i64 0) := (blk_cell BK108.out 1).trans rfl; have hcz11_2 : w10.cell? ⟨gb108, 2, none⟩ = some (.int .i64 0) := (blk_cell BK108.out 2).trans rfl; have hcz11_3 : w10.cell? ⟨gb108, 3, none⟩ = some (.int .i64 0) := (blk_cell BK108.out 3).trans rfl; have hcz11_4 : w10.cell? ⟨gb108, 4, none⟩ = some (.int .i64 0) := (blk_cell BK108.out 4).trans rfl; have hfz11_0 := blk_frozen BK108.out 0; have hfz11_1 := blk_frozen BK108.out 1; have hfz11_2 := blk_frozen BK108.out 2; have hfz11_3 := blk_frozen BK108.out 3; have hfz11_4 := blk_frozen BK108.out 4))
         have n0_ : Aside0 ((((((w10.setCell ⟨gb108, 0, none⟩ (.string ((rd_T113 l0 x3_1).f0))).setCell ⟨gb108, 1, none⟩ (.int .i64 ((rd_T113 l0 x3_1).f1))).setCell ⟨gb108, 2, none⟩ (.int .i64 ((rd_T113 l0 x3_1).f2))).setCell ⟨gb108, 3, none⟩ (.int .i64 ((rd_T113 l0 x3_1).f3))).setCell ⟨gb108, 4, none⟩ (.int .i64 ((rd_T113 l0 x3_1).f4))).heap[gb108]? = some (.cells #[.string ((rd_T113 l0 x3_1).f0), .int .i64 ((rd_T113 l0 x3_1).f1), .int .i64 ((rd_T113 l0 x3_1).f2), .int .i64 ((rd_T113 l0 x3_1).f3), .int .i64 ((rd_T113 l0 x3_1).f4)] 113 (0, 0))) := ⟨by (with_reducible repeat (first | refine blk_drewN ?_ _ | refine blk_drew ?_ | refine blk_alloc ?_ _)); refine blk_put (cs := #[.string ((rd_T113 l0 x3_1).f0), .int .i64 ((rd_T113 l0 x3_1).f1), .int .i64 ((rd_T113 l0 x3_1).f2), .int .i64 ((rd_T113 l0 x3_1).f3), .int .i64 0]) ?_ 4 _ rfl; (with_reducible repeat (first | refine blk_drewN ?_ _ | refine blk_drew ?_ | refine blk_alloc ?_ _)); refine blk_put (cs := #[.string ((rd_T113 l0 x3_1).f0), .int .i64 ((rd_T113 l0 x3_1).f1), .int .i64 ((rd_T113 l0 x3_1).f2), .int .i64 0, .int .i64 0]) ?_ 3 _ rfl; (with_reducible repeat (first | refine blk_drewN ?_ _ | refine blk_drew ?_ | refine blk_alloc ?_ _)); refine blk_put (cs := #[.string ((rd_T113 l0 x3_1).f0), .int .i64 ((rd_T113 l0 x3_1).f1), .int .i64 0, .int .i64 0, .int .i64 0]) ?_ 2 _ rfl; (with_reducible repeat (first | refine blk_drewN ?_ _ | refine blk_drew ?_ | refine blk_alloc ?_ _)); refine blk_put (cs := #[.string ((rd_T113 l0 x3_1).f0), .int .i64 0, .int .i64 0, .int .i64 0, .int .i64 0]) ?_ 1 _ rfl; (with_reducible repeat (first | refine blk_drewN ?_ _ | refine blk_drew ?_ | refine blk_alloc ?_ _)); refine blk_put (cs := #[.string (⟨#[]⟩ : ByteArray), .int .i64 0, .int .i64 0, .int .i64 0, .int .i64 0]) ?_ 0 _ rfl; (with_reducible repeat (first | refine blk_drewN ?_ _ | refine blk_drew ?_ | refine blk_alloc ?_ _)); exact BK108.out⟩
         have n1_ : Aside0 (Below w.heap.size w (((((w10.setCell ⟨gb108, 0, none⟩ (.string ((rd_T113 l0 x3_1).f0))).setCell ⟨gb108, 1, none⟩ (.int .i64 ((rd_T113 l0 x3_1).f1))).setCell ⟨gb108, 2, none⟩ (.int .i64 ((rd_T113 l0 x3_1).f2))).setCell ⟨gb108, 3, none⟩ (.int .i64 ((rd_T113 l0 x3_1).f3))).setCell ⟨gb108, 4, none⟩ (.int .i64 ((rd_T113 l0 x3_1).f4)))) := ⟨hs_ HB GE108⟩
         (try clear BK108)
         (try clear HB)
         generalize (((((w10.setCell ⟨gb108, 0, none⟩ (.string ((rd_T113 l0 x3_1).f0))).setCell ⟨gb108, 1, none⟩ (.int .i64 ((rd_T113 l0 x3_1).f1))).setCell ⟨gb108, 2, none⟩ (.int .i64 ((rd_T113 l0 x3_1).f2))).setCell ⟨gb108, 3, none⟩ (.int .i64 ((rd_T113 l0 x3_1).f3))).setCell ⟨gb108, 4, none⟩ (.int .i64 ((rd_T113 l0 x3_1).f4))) = w12 at n0_ n1_ ⊢
         have BK108 := n0_
         have HB := n1_
         clear n0_ n1_
         have n0_ := Aside0.mk (blk_drew BK108.out)
         have n1_ := Aside0.mk (below_drew1 HB.out)
         clear BK108
         clear HB
         have BK108 := n0_
         have HB := n1_
         clear n0_ n1_
         refine start_ (n := 42) (S := fun w' => w'.cell? ⟨gb108, 0, none⟩ = some (.string ((rd_T113 l0 x3_1).f0)) ∧ w'.cell? ⟨gb108, 1, none⟩ = some (.int .i64 ((rd_T113 l0 x3_1).f1)) ∧ w'.cell? ⟨gb108, 2, none⟩ = some (.int .i64 ((rd_T113 l0 x3_1).f2)) ∧ w'.cell? ⟨gb108, 3, none⟩ = some (.int .i64 ((rd_T113 l0 x3_1).f3)) ∧ w'.cell? ⟨gb108, 4, none⟩ = some (.int .i64 ((rd_T113 l0 x3_1).f4))) (ds := []) #[o',o',o',o',o',o',o',o',o',o',o',o',o',o',o',o',o',o',o',o',o',o',o',o',o',o',o',o',o',o',o',o',o',o',o',o',o',o',o',o',o',o'] (by kernel_rfl) rfl rfl ⟨(blk_cell BK108.out 0).trans rfl, (blk_cell BK108.out 1).trans rfl, (blk_cell BK108.out 2).trans rfl, (blk_cell BK108.out 3).trans rfl, (blk_cell BK108.out 4).trans rfl⟩ (fun hHeld => ?_); refine with_tabW spec_DirOk.tab7 spec_DirOk.bits7 (fun HT_ HW_ => ?_)
         generalize w12.drew = w13 at BK108 HB hHeld ⊢
         refine pure_ (i := 0) (N := some 18) (v := ?_) (a' := ?_) #[i',o',o',o',o',o',o',o',o',o',o',o',o',o',o',o',o',o',o',o',o',o',o',o',o',o',o',o',o',o',o',o',o',o',o',o',o',o',o',o',o',o'] rfl rfl (any_of HT_.out (by kernel_rfl)) (fun _ _ _ h => h) (Or.inl ⟨by rfl, ?_⟩) ?_ ?_
         rotate_left;·intro w';go_simp;with_reducible rfl
         rotate_left;·simp only [Act.put, la_, lz_, ls_, i64_w, i32_w];rfl
         refine take_ (i := 1) (N := some 19) (v := ?_) (a' := ?_) #[i',i',o',o',o',o',o',o',o',o',o',o',o',o',o',o',o',o',o',o',o',o',o',o',o',o',o',o',o',o',o',o',o',o',o',o',o',o',o',o',o',o'] rfl rfl (take_ofW HT_.out HW_.out (by kernel_rfl)) (fun _ _ _ h => h) (Or.inl ⟨by rfl, ?_⟩) hHeld ?_ ?_
         rotate_left
         ·rintro w' ⟨s0, s1, s2, s3, s4⟩
          go_simp
          with_reducible rfl
         rotate_left
         ·simp only [Act.put, la_, lz_, ls_, i64_w, i32_w]
          rfl
         refine one_ (i := 2) (N := some 20) #[i',i',i',o',o',o',o',o',o',o',o',o',o',o',o',o',o',o',o',o',o',o',o',o',o',o',o',o',o',o',o',o',o',o',o',o',o',o',o',o',o',o'] rfl rfl (one_of HT_.out (by kernel_rfl)) (by decide) (fun K hK => ?_)
         refine goes_ Try.func106 (by kernel_rfl) rfl #[.string ((rd_T113 l0 x3_1).f0)] (by rfl) rfl rfl ar_ ?_
         with_reducible refine (spec_KeyOk.calls ((rd_T113 l0 x3_1).f0) true _ A5.out).mono ?_
         rintro e w' ⟨rfl, ⟨nd, rfl⟩⟩
         refine ⟨_, rfl, ?_⟩
         refine hK.out _ _ ⟨(blk_cell BK108.out 0).trans rfl, (blk_cell BK108.out 1).trans rfl, (blk_cell BK108.out 2).trans rfl, (blk_cell BK108.out 3).trans rfl, (blk_cell BK108.out 4).trans rfl⟩ (fun hHeld => ?_)
         clear hK K
         refine norm_ (a' := ?_) ?_ ?_
         rotate_left
         ·show Act.put _ (some 20) _ = _
          simp only [Act.put, la_, lz_, ls_, i64_w, i32_w]
          rfl
         refine pure_ (i := 3) (N := some 21) (v := ?_) (a' := ?_) #[i',i',i',i',o',o',o',o',o',o',o',o',o',o',o',o',o',o',o',o',o',o',o',o',o',o',o',o',o',o',o',o',o',o',o',o',o',o',o',o',o',o'] rfl rfl (any_of HT_.out (by kernel_rfl)) (fun _ _ _ h => h) (Or.inl ⟨by rfl, ?_⟩) ?_ ?_
         rotate_left;·intro w';go_simp;with_reducible rfl
         rotate_left;·simp only [Act.put, la_, lz_, ls_, i64_w, i32_w];rfl
         refine pure_ (i := 4) (N := some 22) (v := ?_) (a' := ?_) #[i',i',i',i',i',o',o',o',o',o',o',o',o',o',o',o',o',o',o',o',o',o',o',o',o',o',o',o',o',o',o',o',o',o',o',o',o',o',o',o',o',o'] rfl rfl (any_of HT_.out (by kernel_rfl)) (fun _ _ _ h => h) (Or.inl ⟨by rfl, ?_⟩) ?_ ?_
         rotate_left;·intro w';go_simp;with_reducible rfl
         rotate_left;·simp only [Act.put, la_, lz_, ls_, i64_w, i32_w];rfl
         refine pure_ (i := 5) (N := some 23) (v := ?_) (a' := ?_) #[i',i',i',i',i',i',o',o',o',o',o',o',o',o',o',o',o',o',o',o',o',o',o',o',o',o',o',o',o',o',o',o',o',o',o',o',o',o',o',o',o',o'] rfl rfl (any_of HT_.out (by kernel_rfl)) (fun _ _ _ h => h) (Or.inl ⟨by rfl, ?_⟩) ?_ ?_
         rotate_left;·intro w';go_simp;with_reducible rfl
         rotate_left;·simp only [Act.put, la_, lz_, ls_, i64_w, i32_w];rfl
         refine take_ (i := 6) (N := some 24) (v := ?_) (a' := ?_) #[i',i',i',i',i',i',i',o',o',o',o',o',o',o',o',o',o',o',o',o',o',o',o',o',o',o',o',o',o',o',o',o',o',o',o',o',o',o',o',o',o',o'] rfl rfl (take_ofW HT_.out HW_.out (by kernel_rfl)) (fun _ _ _ h => h) (Or.inl ⟨by rfl, ?_⟩) hHeld ?_ ?_
         rotate_left
         ·rintro w' ⟨s0, s1, s2, s3, s4⟩
          go_simp
          with_reducible rfl
         rotate_left
         ·simp only [Act.put, la_, lz_, ls_, i64_w, i32_w]
          rfl
         refine one_ (i := 7) (N := some 25) #[i',i',i',i',i',i',i',i',o',o',o',o',o',o',o',o',o',o',o',o',o',o',o',o',o',o',o',o',o',o',o',o',o',o',o',o',o',o',o',o',o',o'] rfl rfl (one_of HT_.out (by kernel_rfl)) (by decide) (fun K hK => ?_)
         refine goes_ Try.func64 (by kernel_rfl) rfl #[.int .i64 ((rd_T113 l0 x3_1).f1), .int .i64 1, .int .i64 100000] (by rfl) rfl rfl ar_ ?_
         with_reducible refine (spec_l1In.calls ((rd_T113 l0 x3_1).f1) 1 100000 true _ A7.out).mono ?_
         rintro e w' ⟨rfl, ⟨nd, rfl⟩⟩
         refine ⟨_, rfl, ?_⟩
         refine hK.out _ _ ⟨(blk_cell BK108.out 0).trans rfl, (blk_cell BK108.out 1).trans rfl, (blk_cell BK108.out 2).trans rfl, (blk_cell BK108.out 3).trans rfl, (blk_cell BK108.out 4).trans rfl⟩ (fun hHeld => ?_)
         clear hK K
         refine norm_ (a' := ?_) ?_ ?_
         rotate_left
         ·show Act.put _ (some 25) _ = _
          simp only [Act.put, la_, lz_, ls_, i64_w, i32_w]
          rfl
         refine pure_ (i := 8) (N := some 26) (v := ?_) (a' := ?_) #[i',i',i',i',i',i',i',i',i',o',o',o',o',o',o',o',o',o',o',o',o',o',o',o',o',o',o',o',o',o',o',o',o',o',o',o',o',o',o',o',o',o'] rfl rfl (any_of HT_.out (by kernel_rfl)) (fun _ _ _ h => h) (Or.inl ⟨by rfl, ?_⟩) ?_ ?_
         rotate_left;·intro w';go_simp;with_reducible rfl
         rotate_left;·simp only [Act.put, la_, lz_, ls_, i64_w, i32_w];rfl
         refine pure_ (i := 9) (N := some 27) (v := ?_) (a' := ?_) #[i',i',i',i',i',i',i',i',i',i',o',o',o',o',o',o',o',o',o',o',o',o',o',o',o',o',o',o',o',o',o',o',o',o',o',o',o',o',o',o',o',o'] rfl rfl (any_of HT_.out (by kernel_rfl)) (fun _ _ _ h => h) (Or.inl ⟨by rfl, ?_⟩) ?_ ?_
         rotate_left;·intro w';go_simp;with_reducible rfl
         rotate_left;·simp only [Act.put, la_, lz_, ls_, i64_w, i32_w];rfl
         refine pure_ (i := 10) (N := some 28) (v := ?_) (a' := ?_) #[i',i',i',i',i',i',i',i',i',i',i',o',o',o',o',o',o',o',o',o',o',o',o',o',o',o',o',o',o',o',o',o',o',o',o',o',o',o',o',o',o',o'] rfl rfl (any_of HT_.out (by kernel_rfl)) (fun _ _ _ h => h) (Or.inl ⟨by rfl, ?_⟩) ?_ ?_
         rotate_left;·intro w';go_simp;with_reducible rfl
         rotate_left;·simp only [Act.put, la_, lz_, ls_, i64_w, i32_w];rfl
         refine pure_ (i := 11) (N := some 29) (v := ?_) (a' := ?_) #[i',i',i',i',i',i',i',i',i',i',i',i',o',o',o',o',o',o',o',o',o',o',o',o',o',o',o',o',o',o',o',o',o',o',o',o',o',o',o',o',o',o'] rfl rfl (any_of HT_.out (by kernel_rfl)) (fun _ _ _ h => h) (Or.inl ⟨by rfl, ?_⟩) ?_ ?_
         rotate_left;·intro w';go_simp;with_reducible rfl
         rotate_left;·simp only [Act.put, la_, lz_, ls_, i64_w, i32_w];rfl
         refine take_ (i := 12) (N := some 30) (v := ?_) (a' := ?_) #[i',i',i',i',i',i',i',i',i',i',i',i',i',o',o',o',o',o',o',o',o',o',o',o',o',o',o',o',o',o',o',o',o',o',o',o',o',o',o',o',o',o'] rfl rfl (take_ofW HT_.out HW_.out (by kernel_rfl)) (fun _ _ _ h => h) (Or.inl ⟨by rfl, ?_⟩) hHeld ?_ ?_
         rotate_left
         ·rintro w' ⟨s0, s1, s2, s3, s4⟩
          go_simp
          with_reducible rfl
         rotate_left
         ·simp only [Act.put, la_, lz_, ls_, i64_w, i32_w]
          rfl
         refine pure_ (i := 13) (N := some 31) (v := ?_) (a' := ?_) #[i',i',i',i',i',i',i',i',i',i',i',i',i',i',o',o',o',o',o',o',o',o',o',o',o',o',o',o',o',o',o',o',o',o',o',o',o',o',o',o',o',o'] rfl rfl (any_of HT_.out (by kernel_rfl)) (fun _ _ _ h => h) (Or.inl ⟨by rfl, ?_⟩) ?_ ?_
         rotate_left;·intro w';go_simp;with_reducible rfl
         rotate_left;·simp only [Act.put, la_, lz_, ls_, i64_w, i32_w];rfl
         refine pure_ (i := 14) (N := some 32) (v := ?_) (a' := ?_) #[i',i',i',i',i',i',i',i',i',i',i',i',i',i',i',o',o',o',o',o',o',o',o',o',o',o',o',o',o',o',o',o',o',o',o',o',o',o',o',o',o',o'] rfl rfl (any_of HT_.out (by kernel_rfl)) (fun _ _ _ h => h) (Or.inl ⟨by rfl, ?_⟩) ?_ ?_
         rotate_left;·intro w';go_simp;with_reducible rfl
         rotate_left;·simp only [Act.put, la_, lz_, ls_, i64_w, i32_w];rfl
         refine pure_ (i := 15) (N := some 33) (v := ?_) (a' := ?_) #[i',i',i',i',i',i',i',i',i',i',i',i',i',i',i',i',o',o',o',o',o',o',o',o',o',o',o',o',o',o',o',o',o',o',o',o',o',o',o',o',o',o'] rfl rfl (any_of HT_.out (by kernel_rfl)) (fun _ _ _ h => h) (Or.inl ⟨by rfl, ?_⟩) ?_ ?_
         rotate_left;·intro w';go_simp;with_reducible rfl
         rotate_left;·simp only [Act.put, la_, lz_, ls_, i64_w, i32_w];rfl
         refine pure_ (i := 16) (N := some 34) (v := undef) (a' := ?_) #[i',i',i',i',i',i',i',i',i',i',i',i',i',i',i',i',i',o',o',o',o',o',o',o',o',o',o',o',o',o',o',o',o',o',o',o',o',o',o',o',o',o'] rfl rfl (any_of HT_.out (by kernel_rfl)) (fun _ _ _ h => h) (Or.inr ⟨by rfl, rfl⟩) ?_ ?_
         rotate_left
         ·simp only [Act.put, la_, lz_, ls_, i64_w, i32_w]
          rfl
         refine pure_ (i := 17) (N := some 35) (v := undef) (a' := ?_) #[i',i',i',i',i',i',i',i',i',i',i',i',i',i',i',i',i',i',o',o',o',o',o',o',o',o',o',o',o',o',o',o',o',o',o',o',o',o',o',o',o',o'] rfl rfl (any_of HT_.out (by kernel_rfl)) (fun _ _ _ h => h) (Or.inr ⟨by rfl, rfl⟩) ?_ ?_
         rotate_left
         ·simp only [Act.put, la_, lz_, ls_, i64_w, i32_w]
          rfl
         refine pure_ (i := 18) (N := some 36) (v := undef) (a' := ?_) #[i',i',i',i',i',i',i',i',i',i',i',i',i',i',i',i',i',i',i',o',o',o',o',o',o',o',o',o',o',o',o',o',o',o',o',o',o',o',o',o',o',o'] rfl rfl (any_of HT_.out (by kernel_rfl)) (fun _ _ _ h => h) (Or.inr ⟨by rfl, rfl⟩) ?_ ?_
         rotate_left
         ·simp only [Act.put, la_, lz_, ls_, i64_w, i32_w]
          rfl
         refine pure_ (i := 19) (N := some 37) (v := undef) (a' := ?_) #[i',i',i',i',i',i',i',i',i',i',i',i',i',i',i',i',i',i',i',i',o',o',o',o',o',o',o',o',o',o',o',o',o',o',o',o',o',o',o',o',o',o'] rfl rfl (any_of HT_.out (by kernel_rfl)) (fun _ _ _ h => h) (Or.inr ⟨by rfl, rfl⟩) ?_ ?_
         rotate_left
         ·simp only [Act.put, la_, lz_, ls_, i64_w, i32_w]
          rfl
         refine pure_ (i := 20) (N := some 38) (v := ?_) (a' := ?_) #[i',i',i',i',i',i',i',i',i',i',i',i',i',i',i',i',i',i',i',i',i',o',o',o',o',o',o',o',o',o',o',o',o',o',o',o',o',o',o',o',o',o'] rfl rfl (any_of HT_.out (by kernel_rfl)) (fun _ _ _ h => h) (Or.inl ⟨by rfl, ?_⟩) ?_ ?_
         rotate_left;·intro w';go_simp;with_reducible rfl
         rotate_left;·simp only [Act.put, la_, lz_, ls_, i64_w, i32_w];rfl
         refine pure_ (i := 21) (N := some 39) (v := ?_) (a' := ?_) #[i',i',i',i',i',i',i',i',i',i',i',i',i',i',i',i',i',i',i',i',i',i',o',o',o',o',o',o',o',o',o',o',o',o',o',o',o',o',o',o',o',o'] rfl rfl (any_of HT_.out (by kernel_rfl)) (fun _ _ _ h => h) (Or.inl ⟨by rfl, ?_⟩) ?_ ?_
         rotate_left;·intro w';go_simp;with_reducible rfl
         rotate_left;·simp only [Act.put, la_, lz_, ls_, i64_w, i32_w];rfl
         refine pure_ (i := 22) (N := some 40) (v := undef) (a' := ?_) #[i',i',i',i',i',i',i',i',i',i',i',i',i',i',i',i',i',i',i',i',i',i',i',o',o',o',o',o',o',o',o',o',o',o',o',o',o',o',o',o',o',o'] rfl rfl (any_of HT_.out (by kernel_rfl)) (fun _ _ _ h => h) (Or.inr ⟨by rfl, rfl⟩) ?_ ?_
         rotate_left
         ·simp only [Act.put, la_, lz_, ls_, i64_w, i32_w]
          rfl
         refine pure_ (i := 23) (N := some 41) (v := undef) (a' := ?_) #[i',i',i',i',i',i',i',i',i',i',i',i',i',i',i',i',i',i',i',i',i',i',i',i',o',o',o',o',o',o',o',o',o',o',o',o',o',o',o',o',o',o'] rfl rfl (any_of HT_.out (by kernel_rfl)) (fun _ _ _ h => h) (Or.inr ⟨by rfl, rfl⟩) ?_ ?_
         rotate_left
         ·simp only [Act.put, la_, lz_, ls_, i64_w, i32_w]
          rfl
         refine pure_ (i := 24) (N := some 42) (v := undef) (a' := ?_) #[i',i',i',i',i',i',i',i',i',i',i',i',i',i',i',i',i',i',i',i',i',i',i',i',i',o',o',o',o',o',o',o',o',o',o',o',o',o',o',o',o',o'] rfl rfl (any_of HT_.out (by kernel_rfl)) (fun _ _ _ h => h) (Or.inr ⟨by rfl, rfl⟩) ?_ ?_
         rotate_left
         ·simp only [Act.put, la_, lz_, ls_, i64_w, i32_w]
          rfl
         refine pure_ (i := 25) (N := some 43) (v := undef) (a' := ?_) #[i',i',i',i',i',i',i',i',i',i',i',i',i',i',i',i',i',i',i',i',i',i',i',i',i',i',o',o',o',o',o',o',o',o',o',o',o',o',o',o',o',o'] rfl rfl (any_of HT_.out (by kernel_rfl)) (fun _ _ _ h => h) (Or.inr ⟨by rfl, rfl⟩) ?_ ?_
         rotate_left
         ·simp only [Act.put, la_, lz_, ls_, i64_w, i32_w]
          rfl
         refine pure_ (i := 26) (N := some 44) (v := ?_) (a' := ?_) #[i',i',i',i',i',i',i',i',i',i',i',i',i',i',i',i',i',i',i',i',i',i',i',i',i',i',i',o',o',o',o',o',o',o',o',o',o',o',o',o',o',o'] rfl rfl (any_of HT_.out (by kernel_rfl)) (fun _ _ _ h => h) (Or.inl ⟨by rfl, ?_⟩) ?_ ?_
         rotate_left;·intro w';go_simp;with_reducible rfl
         rotate_left;·simp only [Act.put, la_, lz_, ls_, i64_w, i32_w];rfl
         refine pure_ (i := 27) (N := some 45) (v := ?_) (a' := ?_) #[i',i',i',i',i',i',i',i',i',i',i',i',i',i',i',i',i',i',i',i',i',i',i',i',i',i',i',i',o',o',o',o',o',o',o',o',o',o',o',o',o',o'] rfl rfl (any_of HT_.out (by kernel_rfl)) (fun _ _ _ h => h) (Or.inl ⟨by rfl, ?_⟩) ?_ ?_
         rotate_left;·intro w';go_simp;with_reducible rfl
         rotate_left;·simp only [Act.put, la_, lz_, ls_, i64_w, i32_w];rfl
         refine pure_ (i := 28) (N := some 46) (v := undef) (a' := ?_) #[i',i',i',i',i',i',i',i',i',i',i',i',i',i',i',i',i',i',i',i',i',i',i',i',i',i',i',i',i',o',o',o',o',o',o',o',o',o',o',o',o',o'] rfl rfl (any_of HT_.out (by kernel_rfl)) (fun _ _ _ h => h) (Or.inr ⟨by rfl, rfl⟩) ?_ ?_
         rotate_left
         ·simp only [Act.put, la_, lz_, ls_, i64_w, i32_w]
          rfl
         refine pure_ (i := 29) (N := some 47) (v := undef) (a' := ?_) #[i',i',i',i',i',i',i',i',i',i',i',i',i',i',i',i',i',i',i',i',i',i',i',i',i',i',i',i',i',i',o',o',o',o',o',o',o',o',o',o',o',o'] rfl rfl (any_of HT_.out (by kernel_rfl)) (fun _ _ _ h => h) (Or.inr ⟨by rfl, rfl⟩) ?_ ?_
         rotate_left
         ·simp only [Act.put, la_, lz_, ls_, i64_w, i32_w]
          rfl
         refine pure_ (i := 30) (N := some 48) (v := undef) (a' := ?_) #[i',i',i',i',i',i',i',i',i',i',i',i',i',i',i',i',i',i',i',i',i',i',i',i',i',i',i',i',i',i',i',o',o',o',o',o',o',o',o',o',o',o'] rfl rfl (any_of HT_.out (by kernel_rfl)) (fun _ _ _ h => h) (Or.inr ⟨by rfl, rfl⟩) ?_ ?_
         rotate_left
         ·simp only [Act.put, la_, lz_, ls_, i64_w, i32_w]
          rfl
         refine pure_ (i := 31) (N := some 49) (v := undef) (a' := ?_) #[i',i',i',i',i',i',i',i',i',i',i',i',i',i',i',i',i',i',i',i',i',i',i',i',i',i',i',i',i',i',i',i',o',o',o',o',o',o',o',o',o',o'] rfl rfl (any_of HT_.out (by kernel_rfl)) (fun _ _ _ h => h) (Or.inr ⟨by rfl, rfl⟩) ?_ ?_
         rotate_left
         ·simp only [Act.put, la_, lz_, ls_, i64_w, i32_w]
          rfl
         refine pure_ (i := 32) (N := some 50) (v := undef) (a' := ?_) #[i',i',i',i',i',i',i',i',i',i',i',i',i',i',i',i',i',i',i',i',i',i',i',i',i',i',i',i',i',i',i',i',i',o',o',o',o',o',o',o',o',o'] rfl rfl (any_of HT_.out (by kernel_rfl)) (fun _ _ _ h => h) (Or.inr ⟨by rfl, rfl⟩) ?_ ?_
         rotate_left
         ·simp only [Act.put, la_, lz_, ls_, i64_w, i32_w]
          rfl
         refine pure_ (i := 33) (N := some 51) (v := undef) (a' := ?_) #[i',i',i',i',i',i',i',i',i',i',i',i',i',i',i',i',i',i',i',i',i',i',i',i',i',i',i',i',i',i',i',i',i',i',o',o',o',o',o',o',o',o'] rfl rfl (any_of HT_.out (by kernel_rfl)) (fun _ _ _ h => h) (Or.inr ⟨by rfl, rfl⟩) ?_ ?_
         rotate_left
         ·simp only [Act.put, la_, lz_, ls_, i64_w, i32_w]
          rfl
         refine pure_ (i := 34) (N := some 52) (v := undef) (a' := ?_) #[i',i',i',i',i',i',i',i',i',i',i',i',i',i',i',i',i',i',i',i',i',i',i',i',i',i',i',i',i',i',i',i',i',i',i',o',o',o',o',o',o',o'] rfl rfl (any_of HT_.out (by kernel_rfl)) (fun _ _ _ h => h) (Or.inr ⟨by rfl, rfl⟩) ?_ ?_
         rotate_left
         ·simp only [Act.put, la_, lz_, ls_, i64_w, i32_w]
          rfl
         refine pure_ (i := 35) (N := some 53) (v := undef) (a' := ?_) #[i',i',i',i',i',i',i',i',i',i',i',i',i',i',i',i',i',i',i',i',i',i',i',i',i',i',i',i',i',i',i',i',i',i',i',i',o',o',o',o',o',o'] rfl rfl (any_of HT_.out (by kernel_rfl)) (fun _ _ _ h => h) (Or.inr ⟨by rfl, rfl⟩) ?_ ?_
         rotate_left
         ·simp only [Act.put, la_, lz_, ls_, i64_w, i32_w]
          rfl
         refine pure_ (i := 36) (N := some 54) (v := undef) (a' := ?_) #[i',i',i',i',i',i',i',i',i',i',i',i',i',i',i',i',i',i',i',i',i',i',i',i',i',i',i',i',i',i',i',i',i',i',i',i',i',o',o',o',o',o'] rfl rfl (any_of HT_.out (by kernel_rfl)) (fun _ _ _ h => h) (Or.inr ⟨by rfl, rfl⟩) ?_ ?_
         rotate_left
         ·simp only [Act.put, la_, lz_, ls_, i64_w, i32_w]
          rfl
         refine pure_ (i := 37) (N := some 55) (v := undef) (a' := ?_) #[i',i',i',i',i',i',i',i',i',i',i',i',i',i',i',i',i',i',i',i',i',i',i',i',i',i',i',i',i',i',i',i',i',i',i',i',i',i',o',o',o',o'] rfl rfl (any_of HT_.out (by kernel_rfl)) (fun _ _ _ h => h) (Or.inr ⟨by rfl, rfl⟩) ?_ ?_
         rotate_left
         ·simp only [Act.put, la_, lz_, ls_, i64_w, i32_w]
          rfl
         refine pure_ (i := 38) (N := some 56) (v := undef) (a' := ?_) #[i',i',i',i',i',i',i',i',i',i',i',i',i',i',i',i',i',i',i',i',i',i',i',i',i',i',i',i',i',i',i',i',i',i',i',i',i',i',i',o',o',o'] rfl rfl (any_of HT_.out (by kernel_rfl)) (fun _ _ _ h => h) (Or.inr ⟨by rfl, rfl⟩) ?_ ?_
         rotate_left
         ·simp only [Act.put, la_, lz_, ls_, i64_w, i32_w]
          rfl
         refine pure_ (i := 39) (N := some 57) (v := undef) (a' := ?_) #[i',i',i',i',i',i',i',i',i',i',i',i',i',i',i',i',i',i',i',i',i',i',i',i',i',i',i',i',i',i',i',i',i',i',i',i',i',i',i',i',o',o'] rfl rfl (any_of HT_.out (by kernel_rfl)) (fun _ _ _ h => h) (Or.inr ⟨by rfl, rfl⟩) ?_ ?_
         rotate_left
         ·simp only [Act.put, la_, lz_, ls_, i64_w, i32_w]
          rfl
         refine pure_ (i := 40) (N := some 58) (v := undef) (a' := ?_) #[i',i',i',i',i',i',i',i',i',i',i',i',i',i',i',i',i',i',i',i',i',i',i',i',i',i',i',i',i',i',i',i',i',i',i',i',i',i',i',i',i',o'] rfl rfl (any_of HT_.out (by kernel_rfl)) (fun _ _ _ h => h) (Or.inr ⟨by rfl, rfl⟩) ?_ ?_
         rotate_left
         ·simp only [Act.put, la_, lz_, ls_, i64_w, i32_w]
          rfl
         refine pure_ (i := 41) (N := some 59) (v := ?_) (a' := ?_) #[i',i',i',i',i',i',i',i',i',i',i',i',i',i',i',i',i',i',i',i',i',i',i',i',i',i',i',i',i',i',i',i',i',i',i',i',i',i',i',i',i',i'] rfl rfl (any_of HT_.out (by kernel_rfl)) (fun _ _ _ h => h) (Or.inl ⟨by rfl, ?_⟩) ?_ ?_
         rotate_left;·intro w';go_simp;with_reducible rfl
         rotate_left;·simp only [Act.put, la_, lz_, ls_, i64_w, i32_w];rfl
         refine done_ (done_of HT_.out (by kernel_rfl)) ?_
         try go_wp2
         go_ret
         exact ⟨re_, hs_ HB GE108⟩
        ·rw [if_neg c9] at H
         have c9b0 : decide (((rd_T113 l0 x3_1).f2) < 0) = false := decide_eq_false c9
         clear c9
         replace H := Option.bind_eq_some_iff.mp H
         obtain ⟨t111, A140, H⟩ := H
         replace H : (if t111 = true then ((spec_l1In.f ((rd_T113 l0 x3_1).f4) 1 1000000).bind fun t112 => (if t112 = true then (if x3_1 > 0 then (if 0 ≤ (wrap64 (x3_1 - 1)) then (if (wrap64 (x3_1 - 1)) < (l0.length : Int) then (if ((Op.bytesLess (((rd_T113 l0 (wrap64 (x3_1 - 1))).f0).toList) (((rd_T113 l0 x3_1).f0).toList)) = true) then (spec_DirOk.l0 k1 l0 (wrap64 (x3_1 + 1))) else (some false)) else (none)) else (none)) else (spec_DirOk.l0 k1 l0 (wrap64 (x3_1 + 1)))) else (some false))) else (some false)) = some r := H
         have A14 := Aside0.mk A140
         clear A140
         by_cases c15 : t111 = true
         ·subst c15
          have H1 : ((spec_l1In.f ((rd_T113 l0 x3_1).f4) 1 1000000).bind fun t112 => (if t112 = true then (if x3_1 > 0 then (if 0 ≤ (wrap64 (x3_1 - 1)) then (if (wrap64 (x3_1 - 1)) < (l0.length : Int) then (if ((Op.bytesLess (((rd_T113 l0 (wrap64 (x3_1 - 1))).f0).toList) (((rd_T113 l0 x3_1).f0).toList)) = true) then (spec_DirOk.l0 k1 l0 (wrap64 (x3_1 + 1))) else (some false)) else (none)) else (none)) else (spec_DirOk.l0 k1 l0 (wrap64 (x3_1 + 1)))) else (some false))) = some r := by rw [if_pos rfl] at H; exact H
          clear H
          have H := H1
          clear H1
          replace H := Option.bind_eq_some_iff.mp H
          obtain ⟨t112, A160, H⟩ := H
          replace H : (if t112 = true then (if x3_1 > 0 then (if 0 ≤ (wrap64 (x3_1 - 1)) then (if (wrap64 (x3_1 - 1)) < (l0.length : Int) then (if ((Op.bytesLess (((rd_T113 l0 (wrap64 (x3_1 - 1))).f0).toList) (((rd_T113 l0 x3_1).f0).toList)) = true) then (spec_DirOk.l0 k1 l0 (wrap64 (x3_1 + 1))) else (some false)) else (none)) else (none)) else (spec_DirOk.l0 k1 l0 (wrap64 (x3_1 + 1)))) else (some false)) = some r := H
          have A16 := Aside0.mk A160
          clear A160
          by_cases c17 : t112 = true
          ·subst c17
           have H1 : (if x3_1 > 0 then (if 0 ≤ (wrap64 (x3_1 - 1)) then (if (wrap64 (x3_1 - 1)) < (l0.length : Int) then (if ((Op.bytesLess (((rd_T113 l0 (wrap64 (x3_1 - 1))).f0).toList) (((rd_T113 l0 x3_1).f0).toList)) = true) then (spec_DirOk.l0 k1 l0 (wrap64 (x3_1 + 1))) else (some false)) else (none)) else (none)) else (spec_DirOk.l0 k1 l0 (wrap64 (x3_1 + 1)))) = some r := by rw [if_pos rfl] at H; exact H
           clear H
           have H := H1
           clear H1
           by_cases c18 : x3_1 > 0
           ·rw [if_pos c18] at H
            have c18b0 : decide (0 < x3_1) = true := decide_eq_true c18
            clear c18
            obtain ⟨ji19, hji19⟩ : ∃ j_ : Int, (wrap64 (x3_1 - 1)) = j_ := ⟨_, rfl⟩
            replace H : (if 0 ≤ (ji19) then (if (ji19) < (l0.length : Int) then (if ((Op.bytesLess (((rd_T113 l0 (ji19)).f0).toList) (((rd_T113 l0 x3_1).f0).toList)) = true) then (spec_DirOk.l0 k1 l0 (wrap64 (x3_1 + 1))) else (some false)) else (none)) else (none)) = some r := by first | (rw [hji19] at H; exact H) | (simp only [hji19] at H ⊢; exact H)
            (try rw [hji19] at A5)
            (try rw [hji19] at A7)
            (try rw [hji19] at A14)
            (try rw [hji19] at A16)
            have hji19w : (IntKind.i64.wrap (x3_1 - 1)) = ji19 := (i64_w _).trans hji19
            by_cases c20 : 0 ≤ (ji19)
            ·rw [if_pos c20] at H
             have c20b0 : decide (0 ≤ (ji19)) = true := decide_eq_true c20
             clear c20
             by_cases c21 : (ji19) < (l0.length : Int)
             ·rw [if_pos c21] at H
              have c21b0 : decide ((ji19) < (l0.length : Int)) = true := decide_eq_true c21
              clear c21
              by_cases c22 : ((Op.bytesLess (((rd_T113 l0 (ji19)).f0).toList) (((rd_T113 l0 x3_1).f0).toList)) = true)
              ·rw [if_pos c22] at H
               have c22b0 : (Op.bytesLess (((rd_T113 l0 (ji19)).f0).toList) (((rd_T113 l0 x3_1).f0).toList)) = true := c22
               clear c22
               have H' := Aside0.mk H
               clear H
               have p107 : 0 ≤ (x3_1 : Int) := of_decide_eq_true as_
               have q107 : x3_1 < (l0.length : Int) := of_decide_eq_true as_
               obtain ⟨ad107, e107, hx107_0, hx107_1, hx107_2, hx107_3, hx107_4⟩ := at_T113 HR0.out x3_1 p107 q107
               cases e107
               replace hx107_0 := (HB.out.cell (World.block_lt_of_cell? w _ hx107_0)).trans hx107_0
               replace hx107_1 := (HB.out.cell (World.block_lt_of_cell? w _ hx107_1)).trans hx107_1
               replace hx107_2 := (HB.out.cell (World.block_lt_of_cell? w _ hx107_2)).trans hx107_2
               replace hx107_3 := (HB.out.cell (World.block_lt_of_cell? w _ hx107_3)).trans hx107_3
               replace hx107_4 := (HB.out.cell (World.block_lt_of_cell? w _ hx107_4)).trans hx107_4
               replace p107 := eq_true p107
               replace q107 := eq_true q107
               try go_wp2_with (first | ((with_reducible refine gate_dst (N := 4) rfl ?_); refine box_event ?hg (N := 4) ?hd (cs := #[.string (⟨#[]⟩ : ByteArray), .int .i64 0, .int .i64 0, .int .i64 0, .int .i64 0]) (t := 113) ?hr ?_; (case hd => rfl); (case hg => rfl); (case hr => first | (go_simp; done) | (go_simp; rfl)); intro gb108 hg w23 hbox hb; have n0_ := Aside0.mk (below_step (hb_ HB) hb); have n1_ := Aside0.mk (hbox); have n2_ := Aside0.mk ((by rw [hg]; exact (below_size (hb_ HB)) : w.heap.size ≤ gb108)); have n3_ := Aside0.mk ((by rw [hg]; exact (below_size (hb_ HB)) : w.heap.size ≤ gb108)); clear HB; have HB := n0_; have BK108 := n1_; have GW108 := n2_; have GE108 := n3_; clear n0_ n1_ n2_ n3_; clear hb hbox hg; have hcz24_0 : w23.cell? ⟨gb108, 0, none⟩ = some (.string (⟨#[]⟩ : ByteArray)) := (blk_cell BK108.out 0).trans rfl; have hcz24_1 : w23.cell? ⟨gb108, 1, none⟩ = some (.int .i64 0) := (blk_cell BK108.out 1).trans rfl; have hcz24_2 : w23.cell? ⟨gb108, 2, none⟩ = some (.int .i64 0) := (blk_cell BK108.out 2).trans rfl; have hcz24_3 : w23.cell? ⟨gb108, 3, none⟩ = some (.int .i64 0) := (blk_cell BK108.out 3).trans rfl; have hcz24_4 : w23.cell? ⟨gb108, 4, none⟩ = some (.int .i64 0) := (blk_cell BK108.out 4).trans rfl; have hfz24_0 := blk_frozen BK108.out 0; have hfz24_1 := blk_frozen BK108.out 1; have hfz24_2 := blk_frozen BK108.out 2; have hfz24_3 := blk_frozen BK108.out 3; have hfz24_4 := blk_frozen BK108.out 4))
               have n0_ : Aside0 ((((((w23.setCell ⟨gb108, 0, none⟩ (.string ((rd_T113 l0 x3_1).f0))).setCell ⟨gb108, 1, none⟩ (.int .i64 ((rd_T113 l0 x3_1).f1))).setCell ⟨gb108, 2, none⟩ (.int .i64 ((rd_T113 l0 x3_1).f2))).setCell ⟨gb108, 3, none⟩ (.int .i64 ((rd_T113 l0 x3_1).f3))).setCell ⟨gb108, 4, none⟩ (.int .i64 ((rd_T113 l0 x3_1).f4))).heap[gb108]? = some (.cells #[.string ((rd_T113 l0 x3_1).f0), .int .i64 ((rd_T113 l0 x3_1).f1), .int .i64 ((rd_T113 l0 x3_1).f2), .int .i64 ((rd_T113 l0 x3_1).f3), .int .i64 ((rd_T113 l0 x3_1).f4)] 113 (0, 0))) := ⟨by (with_reducible repeat (first | refine blk_drewN ?_ _ | refine blk_drew ?_ | refine blk_alloc ?_ _)); refine blk_put (cs := #[.string ((rd_T113 l0 x3_1).f0), .int .i64 ((rd_T113 l0 x3_1).f1), .int .i64 ((rd_T113 l0 x3_1).f2), .int .i64 ((rd_T113 l0 x3_1).f3), .int .i64 0]) ?_ 4 _ rfl; (with_reducible repeat (first | refine blk_drewN ?_ _ | refine blk_drew ?_ | refine blk_alloc ?_ _)); refine blk_put (cs := #[.string ((rd_T113 l0 x3_1).f0), .int .i64 ((rd_T113 l0 x3_1).f1), .int .i64 ((rd_T113 l0 x3_1).f2), .int .i64 0, .int .i64 0]) ?_ 3 _ rfl; (with_reducible repeat (first | refine blk_drewN ?_ _ | refine blk_drew ?_ | refine blk_alloc ?_ _)); refine blk_put (cs := #[.string ((rd_T113 l0 x3_1).f0), .int .i64 ((rd_T113 l0 x3_1).f1), .int .i64 0, .int .i64 0, .int .i64 0]) ?_ 2 _ rfl; (with_reducible repeat (first | refine blk_drewN ?_ _ | refine blk_drew ?_ | refine blk_alloc ?_ _)); refine blk_put (cs := #[.string ((rd_T113 l0 x3_1).f0), .int .i64 0, .int .i64 0, .int .i64 0, .int .i64 0]) ?_ 1 _ rfl; (with_reducible repeat (first | refine blk_drewN ?_ _ | refine blk_drew ?_ | refine blk_alloc ?_ _)); refine blk_put (cs := #[.string (⟨#[]⟩ : ByteArray), .int .i64 0, .int .i64 0, .int .i64 0, .int .i64 0]) ?_ 0 _ rfl; (with_reducible repeat (first | refine blk_drewN ?_ _ | refine blk_drew ?_ | refine blk_alloc ?_ _)); exact BK108.out⟩
               have n1_ : Aside0 (Below w.heap.size w (((((w23.setCell ⟨gb108, 0, none⟩ (.string ((rd_T113 l0 x3_1).f0))).setCell ⟨gb108, 1, none⟩ (.int .i64 ((rd_T113 l0 x3_1).f1))).setCell ⟨gb108, 2, none⟩ (.int .i64 ((rd_T113 l0 x3_1).f2))).setCell ⟨gb108, 3, none⟩ (.int .i64 ((rd_T113 l0 x3_1).f3))).setCell ⟨gb108, 4, none⟩ (.int .i64 ((rd_T113 l0 x3_1).f4)))) := ⟨hs_ HB GE108⟩
               (try clear BK108)
               (try clear HB)
               generalize (((((w23.setCell ⟨gb108, 0, none⟩ (.string ((rd_T113 l0 x3_1).f0))).setCell ⟨gb108, 1, none⟩ (.int .i64 ((rd_T113 l0 x3_1).f1))).setCell ⟨gb108, 2, none⟩ (.int .i64 ((rd_T113 l0 x3_1).f2))).setCell ⟨gb108, 3, none⟩ (.int .i64 ((rd_T113 l0 x3_1).f3))).setCell ⟨gb108, 4, none⟩ (.int .i64 ((rd_T113 l0 x3_1).f4))) = w25 at n0_ n1_ ⊢
               have BK108 := n0_
               have HB := n1_
               clear n0_ n1_
               have n0_ := Aside0.mk (blk_drew BK108.out)
               have n1_ := Aside0.mk (below_drew1 HB.out)
               clear BK108
               clear HB
               have BK108 := n0_
               have HB := n1_
               clear n0_ n1_
               have p113 : 0 ≤ ((ji19) : Int) := of_decide_eq_true as_
               have q113 : (ji19) < (l0.length : Int) := of_decide_eq_true as_
               obtain ⟨ad113, e113, hx113_0, hx113_1, hx113_2, hx113_3, hx113_4⟩ := at_T113 HR0.out (ji19) p113 q113
               have hw113_4 := hx113_4
               have hw113_3 := hx113_3
               have hw113_2 := hx113_2
               have hw113_1 := hx113_1
               have hw113_0 := hx113_0
               obtain rfl : ad107 = ad113 := (by injection e113)
               replace hx113_0 := (HB.out.cell (World.block_lt_of_cell? w _ hx113_0)).trans hx113_0
               replace hx113_1 := (HB.out.cell (World.block_lt_of_cell? w _ hx113_1)).trans hx113_1
               replace hx113_2 := (HB.out.cell (World.block_lt_of_cell? w _ hx113_2)).trans hx113_2
               replace hx113_3 := (HB.out.cell (World.block_lt_of_cell? w _ hx113_3)).trans hx113_3
               replace hx113_4 := (HB.out.cell (World.block_lt_of_cell? w _ hx113_4)).trans hx113_4
               replace p113 := eq_true p113
               replace q113 := eq_true q113
               refine start_ (n := 42) (S := fun w' => w'.cell? ⟨gb108, 0, none⟩ = some (.string ((rd_T113 l0 x3_1).f0)) ∧ w'.cell? ⟨gb108, 1, none⟩ = some (.int .i64 ((rd_T113 l0 x3_1).f1)) ∧ w'.cell? ⟨gb108, 2, none⟩ = some (.int .i64 ((rd_T113 l0 x3_1).f2)) ∧ w'.cell? ⟨gb108, 3, none⟩ = some (.int .i64 ((rd_T113 l0 x3_1).f3)) ∧ w'.cell? ⟨gb108, 4, none⟩ = some (.int .i64 ((rd_T113 l0 x3_1).f4)) ∧ w'.cell? (ad107.add (((ji19)).toNat * 5)) = some (.string ((rd_T113 l0 (ji19)).f0)) ∧ w'.cell? ⟨(ad107.add (((ji19)).toNat * 5)).block, (ad107.add (((ji19)).toNat * 5)).off + 1, none⟩ = some (.int .i64 ((rd_T113 l0 (ji19)).f1)) ∧ w'.cell? ⟨(ad107.add (((ji19)).toNat * 5)).block, (ad107.add (((ji19)).toNat * 5)).off + 2, none⟩ = some (.int .i64 ((rd_T113 l0 (ji19)).f2)) ∧ w'.cell? ⟨(ad107.add (((ji19)).toNat * 5)).block, (ad107.add (((ji19)).toNat * 5)).off + 3, none⟩ = some (.int .i64 ((rd_T113 l0 (ji19)).f3)) ∧ w'.cell? ⟨(ad107.add (((ji19)).toNat * 5)).block, (ad107.add (((ji19)).toNat * 5)).off + 4, none⟩ = some (.int .i64 ((rd_T113 l0 (ji19)).f4))) (ds := []) #[o',o',o',o',o',o',o',o',o',o',o',o',o',o',o',o',o',o',o',o',o',o',o',o',o',o',o',o',o',o',o',o',o',o',o',o',o',o',o',o',o',o'] (by kernel_rfl) rfl rfl ⟨(blk_cell BK108.out 0).trans rfl, (blk_cell BK108.out 1).trans rfl, (blk_cell BK108.out 2).trans rfl, (blk_cell BK108.out 3).trans rfl, (blk_cell BK108.out 4).trans rfl, ((HB.out.cell (World.block_lt_of_cell? w _ hw113_0)).trans hw113_0), ((HB.out.cell (World.block_lt_of_cell? w _ hw113_1)).trans hw113_1), ((HB.out.cell (World.block_lt_of_cell? w _ hw113_2)).trans hw113_2), ((HB.out.cell (World.block_lt_of_cell? w _ hw113_3)).trans hw113_3), ((HB.out.cell (World.block_lt_of_cell? w _ hw113_4)).trans hw113_4)⟩ (fun hHeld => ?_); refine with_tabW spec_DirOk.tab7 spec_DirOk.bits7 (fun HT_ HW_ => ?_)
               generalize w25.drew = w26 at BK108 HB hx113_0 hx113_1 hx113_2 hx113_3 hx113_4 hHeld ⊢
               refine pure_ (i := 0) (N := some 18) (v := ?_) (a' := ?_) #[i',o',o',o',o',o',o',o',o',o',o',o',o',o',o',o',o',o',o',o',o',o',o',o',o',o',o',o',o',o',o',o',o',o',o',o',o',o',o',o',o',o'] rfl rfl (any_of HT_.out (by kernel_rfl)) (fun _ _ _ h => h) (Or.inl ⟨by rfl, ?_⟩) ?_ ?_
               rotate_left;·intro w';go_simp;with_reducible rfl
               rotate_left;·simp only [Act.put, la_, lz_, ls_, i64_w, i32_w];rfl
               refine take_ (i := 1) (N := some 19) (v := ?_) (a' := ?_) #[i',i',o',o',o',o',o',o',o',o',o',o',o',o',o',o',o',o',o',o',o',o',o',o',o',o',o',o',o',o',o',o',o',o',o',o',o',o',o',o',o',o'] rfl rfl (take_ofW HT_.out HW_.out (by kernel_rfl)) (fun _ _ _ h => h) (Or.inl ⟨by rfl, ?_⟩) hHeld ?_ ?_
               rotate_left
               ·rintro w' ⟨s0, s1, s2, s3, s4, s5, s6, s7, s8, s9⟩
                go_simp
                with_reducible rfl
               rotate_left
               ·simp only [Act.put, la_, lz_, ls_, i64_w, i32_w]
                rfl
               refine one_ (i := 2) (N := some 20) #[i',i',i',o',o',o',o',o',o',o',o',o',o',o',o',o',o',o',o',o',o',o',o',o',o',o',o',o',o',o',o',o',o',o',o',o',o',o',o',o',o',o'] rfl rfl (one_of HT_.out (by kernel_rfl)) (by decide) (fun K hK => ?_)
               refine goes_ Try.func106 (by kernel_rfl) rfl #[.string ((rd_T113 l0 x3_1).f0)] (by rfl) rfl rfl ar_ ?_
               with_reducible refine (spec_KeyOk.calls ((rd_T113 l0 x3_1).f0) true _ A5.out).mono ?_
               rintro e w' ⟨rfl, ⟨nd, rfl⟩⟩
               refine ⟨_, rfl, ?_⟩
               refine hK.out _ _ ⟨(blk_cell BK108.out 0).trans rfl, (blk_cell BK108.out 1).trans rfl, (blk_cell BK108.out 2).trans rfl, (blk_cell BK108.out 3).trans rfl, (blk_cell BK108.out 4).trans rfl, ((HB.out.cell (World.block_lt_of_cell? w _ hw113_0)).trans hw113_0), ((HB.out.cell (World.block_lt_of_cell? w _ hw113_1)).trans hw113_1), ((HB.out.cell (World.block_lt_of_cell? w _ hw113_2)).trans hw113_2), ((HB.out.cell (World.block_lt_of_cell? w _ hw113_3)).trans hw113_3), ((HB.out.cell (World.block_lt_of_cell? w _ hw113_4)).trans hw113_4)⟩ (fun hHeld => ?_)
               clear hK K
               refine norm_ (a' := ?_) ?_ ?_
               rotate_left
               ·show Act.put _ (some 20) _ = _
                simp only [Act.put, la_, lz_, ls_, i64_w, i32_w]
                rfl
               refine pure_ (i := 3) (N := some 21) (v := ?_) (a' := ?_) #[i',i',i',i',o',o',o',o',o',o',o',o',o',o',o',o',o',o',o',o',o',o',o',o',o',o',o',o',o',o',o',o',o',o',o',o',o',o',o',o',o',o'] rfl rfl (any_of HT_.out (by kernel_rfl)) (fun _ _ _ h => h) (Or.inl ⟨by rfl, ?_⟩) ?_ ?_
               rotate_left;·intro w';go_simp;with_reducible rfl
               rotate_left;·simp only [Act.put, la_, lz_, ls_, i64_w, i32_w];rfl
               refine pure_ (i := 4) (N := some 22) (v := ?_) (a' := ?_) #[i',i',i',i',i',o',o',o',o',o',o',o',o',o',o',o',o',o',o',o',o',o',o',o',o',o',o',o',o',o',o',o',o',o',o',o',o',o',o',o',o',o'] rfl rfl (any_of HT_.out (by kernel_rfl)) (fun _ _ _ h => h) (Or.inl ⟨by rfl, ?_⟩) ?_ ?_
               rotate_left;·intro w';go_simp;with_reducible rfl
               rotate_left;·simp only [Act.put, la_, lz_, ls_, i64_w, i32_w];rfl
               refine pure_ (i := 5) (N := some 23) (v := ?_) (a' := ?_) #[i',i',i',i',i',i',o',o',o',o',o',o',o',o',o',o',o',o',o',o',o',o',o',o',o',o',o',o',o',o',o',o',o',o',o',o',o',o',o',o',o',o'] rfl rfl (any_of HT_.out (by kernel_rfl)) (fun _ _ _ h => h) (Or.inl ⟨by rfl, ?_⟩) ?_ ?_
               rotate_left;·intro w';go_simp;with_reducible rfl
               rotate_left;·simp only [Act.put, la_, lz_, ls_, i64_w, i32_w];rfl
               refine take_ (i := 6) (N := some 24) (v := ?_) (a' := ?_) #[i',i',i',i',i',i',i',o',o',o',o',o',o',o',o',o',o',o',o',o',o',o',o',o',o',o',o',o',o',o',o',o',o',o',o',o',o',o',o',o',o',o'] rfl rfl (take_ofW HT_.out HW_.out (by kernel_rfl)) (fun _ _ _ h => h) (Or.inl ⟨by rfl, ?_⟩) hHeld ?_ ?_
               rotate_left
               ·rintro w' ⟨s0, s1, s2, s3, s4, s5, s6, s7, s8, s9⟩
                go_simp
                with_reducible rfl
               rotate_left
               ·simp only [Act.put, la_, lz_, ls_, i64_w, i32_w]
                rfl
               refine one_ (i := 7) (N := some 25) #[i',i',i',i',i',i',i',i',o',o',o',o',o',o',o',o',o',o',o',o',o',o',o',o',o',o',o',o',o',o',o',o',o',o',o',o',o',o',o',o',o',o'] rfl rfl (one_of HT_.out (by kernel_rfl)) (by decide) (fun K hK => ?_)
               refine goes_ Try.func64 (by kernel_rfl) rfl #[.int .i64 ((rd_T113 l0 x3_1).f1), .int .i64 1, .int .i64 100000] (by rfl) rfl rfl ar_ ?_
               with_reducible refine (spec_l1In.calls ((rd_T113 l0 x3_1).f1) 1 100000 true _ A7.out).mono ?_
               rintro e w' ⟨rfl, ⟨nd, rfl⟩⟩
               refine ⟨_, rfl, ?_⟩
               refine hK.out _ _ ⟨(blk_cell BK108.out 0).trans rfl, (blk_cell BK108.out 1).trans rfl, (blk_cell BK108.out 2).trans rfl, (blk_cell BK108.out 3).trans rfl, (blk_cell BK108.out 4).trans rfl, ((HB.out.cell (World.block_lt_of_cell? w _ hw113_0)).trans hw113_0), ((HB.out.cell (World.block_lt_of_cell? w _ hw113_1)).trans hw113_1), ((HB.out.cell (World.block_lt_of_cell? w _ hw113_2)).trans hw113_2), ((HB.out.cell (World.block_lt_of_cell? w _ hw113_3)).trans hw113_3), ((HB.out.cell (World.block_lt_of_cell? w _ hw113_4)).trans hw113_4)⟩ (fun hHeld => ?_)
               clear hK K
               refine norm_ (a' := ?_) ?_ ?_
               rotate_left
               ·show Act.put _ (some 25) _ = _
                simp only [Act.put, la_, lz_, ls_, i64_w, i32_w]
                rfl
               refine pure_ (i := 8) (N := some 26) (v := ?_) (a' := ?_) #[i',i',i',i',i',i',i',i',i',o',o',o',o',o',o',o',o',o',o',o',o',o',o',o',o',o',o',o',o',o',o',o',o',o',o',o',o',o',o',o',o',o'] rfl rfl (any_of HT_.out (by kernel_rfl)) (fun _ _ _ h => h) (Or.inl ⟨by rfl, ?_⟩) ?_ ?_
               rotate_left;·intro w';go_simp;with_reducible rfl
               rotate_left;·simp only [Act.put, la_, lz_, ls_, i64_w, i32_w];rfl
               refine pure_ (i := 9) (N := some 27) (v := ?_) (a' := ?_) #[i',i',i',i',i',i',i',i',i',i',o',o',o',o',o',o',o',o',o',o',o',o',o',o',o',o',o',o',o',o',o',o',o',o',o',o',o',o',o',o',o',o'] rfl rfl (any_of HT_.out (by kernel_rfl)) (fun _ _ _ h => h) (Or.inl ⟨by rfl, ?_⟩) ?_ ?_
               rotate_left;·intro w';go_simp;with_reducible rfl
               rotate_left;·simp only [Act.put, la_, lz_, ls_, i64_w, i32_w];rfl
               refine pure_ (i := 10) (N := some 28) (v := ?_) (a' := ?_) #[i',i',i',i',i',i',i',i',i',i',i',o',o',o',o',o',o',o',o',o',o',o',o',o',o',o',o',o',o',o',o',o',o',o',o',o',o',o',o',o',o',o'] rfl rfl (any_of HT_.out (by kernel_rfl)) (fun _ _ _ h => h) (Or.inl ⟨by rfl, ?_⟩) ?_ ?_
               rotate_left;·intro w';go_simp;with_reducible rfl
               rotate_left;·simp only [Act.put, la_, lz_, ls_, i64_w, i32_w];rfl
               refine pure_ (i := 11) (N := some 29) (v := ?_) (a' := ?_) #[i',i',i',i',i',i',i',i',i',i',i',i',o',o',o',o',o',o',o',o',o',o',o',o',o',o',o',o',o',o',o',o',o',o',o',o',o',o',o',o',o',o'] rfl rfl (any_of HT_.out (by kernel_rfl)) (fun _ _ _ h => h) (Or.inl ⟨by rfl, ?_⟩) ?_ ?_
               rotate_left;·intro w';go_simp;with_reducible rfl
               rotate_left;·simp only [Act.put, la_, lz_, ls_, i64_w, i32_w];rfl
               refine take_ (i := 12) (N := some 30) (v := ?_) (a' := ?_) #[i',i',i',i',i',i',i',i',i',i',i',i',i',o',o',o',o',o',o',o',o',o',o',o',o',o',o',o',o',o',o',o',o',o',o',o',o',o',o',o',o',o'] rfl rfl (take_ofW HT_.out HW_.out (by kernel_rfl)) (fun _ _ _ h => h) (Or.inl ⟨by rfl, ?_⟩) hHeld ?_ ?_
               rotate_left
               ·rintro w' ⟨s0, s1, s2, s3, s4, s5, s6, s7, s8, s9⟩
                go_simp
                with_reducible rfl
               rotate_left
               ·simp only [Act.put, la_, lz_, ls_, i64_w, i32_w]
                rfl
               refine pure_ (i := 13) (N := some 31) (v := ?_) (a' := ?_) #[i',i',i',i',i',i',i',i',i',i',i',i',i',i',o',o',o',o',o',o',o',o',o',o',o',o',o',o',o',o',o',o',o',o',o',o',o',o',o',o',o',o'] rfl rfl (any_of HT_.out (by kernel_rfl)) (fun _ _ _ h => h) (Or.inl ⟨by rfl, ?_⟩) ?_ ?_
               rotate_left;·intro w';go_simp;with_reducible rfl
               rotate_left;·simp only [Act.put, la_, lz_, ls_, i64_w, i32_w];rfl
               refine pure_ (i := 14) (N := some 32) (v := ?_) (a' := ?_) #[i',i',i',i',i',i',i',i',i',i',i',i',i',i',i',o',o',o',o',o',o',o',o',o',o',o',o',o',o',o',o',o',o',o',o',o',o',o',o',o',o',o'] rfl rfl (any_of HT_.out (by kernel_rfl)) (fun _ _ _ h => h) (Or.inl ⟨by rfl, ?_⟩) ?_ ?_
               rotate_left;·intro w';go_simp;with_reducible rfl
               rotate_left;·simp only [Act.put, la_, lz_, ls_, i64_w, i32_w];rfl
               refine pure_ (i := 15) (N := some 33) (v := ?_) (a' := ?_) #[i',i',i',i',i',i',i',i',i',i',i',i',i',i',i',i',o',o',o',o',o',o',o',o',o',o',o',o',o',o',o',o',o',o',o',o',o',o',o',o',o',o'] rfl rfl (any_of HT_.out (by kernel_rfl)) (fun _ _ _ h => h) (Or.inl ⟨by rfl, ?_⟩) ?_ ?_
               rotate_left;·intro w';go_simp;with_reducible rfl
               rotate_left;·simp only [Act.put, la_, lz_, ls_, i64_w, i32_w];rfl
               refine pure_ (i := 16) (N := some 34) (v := ?_) (a' := ?_) #[i',i',i',i',i',i',i',i',i',i',i',i',i',i',i',i',i',o',o',o',o',o',o',o',o',o',o',o',o',o',o',o',o',o',o',o',o',o',o',o',o',o'] rfl rfl (any_of HT_.out (by kernel_rfl)) (fun _ _ _ h => h) (Or.inl ⟨by rfl, ?_⟩) ?_ ?_
               rotate_left;·intro w';go_simp;with_reducible rfl
               rotate_left;·simp only [Act.put, la_, lz_, ls_, i64_w, i32_w];rfl
               refine take_ (i := 17) (N := some 35) (v := ?_) (a' := ?_) #[i',i',i',i',i',i',i',i',i',i',i',i',i',i',i',i',i',i',o',o',o',o',o',o',o',o',o',o',o',o',o',o',o',o',o',o',o',o',o',o',o',o'] rfl rfl (take_ofW HT_.out HW_.out (by kernel_rfl)) (fun _ _ _ h => h) (Or.inl ⟨by rfl, ?_⟩) hHeld ?_ ?_
               rotate_left
               ·rintro w' ⟨s0, s1, s2, s3, s4, s5, s6, s7, s8, s9⟩
                go_simp
                with_reducible rfl
               rotate_left
               ·simp only [Act.put, la_, lz_, ls_, i64_w, i32_w]
                rfl
               refine one_ (i := 18) (N := some 36) #[i',i',i',i',i',i',i',i',i',i',i',i',i',i',i',i',i',i',i',o',o',o',o',o',o',o',o',o',o',o',o',o',o',o',o',o',o',o',o',o',o',o'] rfl rfl (one_of HT_.out (by kernel_rfl)) (by decide) (fun K hK => ?_)
               refine goes_ Try.func64 (by kernel_rfl) rfl #[.int .i64 ((rd_T113 l0 x3_1).f3), .int .i64 1, .int .i64 210] (by rfl) rfl rfl ar_ ?_
               with_reducible refine (spec_l1In.calls ((rd_T113 l0 x3_1).f3) 1 210 true _ A14.out).mono ?_
               rintro e w' ⟨rfl, ⟨nd, rfl⟩⟩
               refine ⟨_, rfl, ?_⟩
               refine hK.out _ _ ⟨(blk_cell BK108.out 0).trans rfl, (blk_cell BK108.out 1).trans rfl, (blk_cell BK108.out 2).trans rfl, (blk_cell BK108.out 3).trans rfl, (blk_cell BK108.out 4).trans rfl, ((HB.out.cell (World.block_lt_of_cell? w _ hw113_0)).trans hw113_0), ((HB.out.cell (World.block_lt_of_cell? w _ hw113_1)).trans hw113_1), ((HB.out.cell (World.block_lt_of_cell? w _ hw113_2)).trans hw113_2), ((HB.out.cell (World.block_lt_of_cell? w _ hw113_3)).trans hw113_3), ((HB.out.cell (World.block_lt_of_cell? w _ hw113_4)).trans hw113_4)⟩ (fun hHeld => ?_)
               clear hK K
               refine norm_ (a' := ?_) ?_ ?_
               rotate_left
               ·show Act.put _ (some 36) _ = _
                simp only [Act.put, la_, lz_, ls_, i64_w, i32_w]
                rfl
               refine pure_ (i := 19) (N := some 37) (v := ?_) (a' := ?_) #[i',i',i',i',i',i',i',i',i',i',i',i',i',i',i',i',i',i',i',i',o',o',o',o',o',o',o',o',o',o',o',o',o',o',o',o',o',o',o',o',o',o'] rfl rfl (any_of HT_.out (by kernel_rfl)) (fun _ _ _ h => h) (Or.inl ⟨by rfl, ?_⟩) ?_ ?_
               rotate_left;·intro w';go_simp;with_reducible rfl
               rotate_left;·simp only [Act.put, la_, lz_, ls_, i64_w, i32_w];rfl
               refine pure_ (i := 20) (N := some 38) (v := ?_) (a' := ?_) #[i',i',i',i',i',i',i',i',i',i',i',i',i',i',i',i',i',i',i',i',i',o',o',o',o',o',o',o',o',o',o',o',o',o',o',o',o',o',o',o',o',o'] rfl rfl (any_of HT_.out (by kernel_rfl)) (fun _ _ _ h => h) (Or.inl ⟨by rfl, ?_⟩) ?_ ?_
               rotate_left;·intro w';go_simp;with_reducible rfl
               rotate_left;·simp only [Act.put, la_, lz_, ls_, i64_w, i32_w];rfl
               refine pure_ (i := 21) (N := some 39) (v := ?_) (a' := ?_) #[i',i',i',i',i',i',i',i',i',i',i',i',i',i',i',i',i',i',i',i',i',i',o',o',o',o',o',o',o',o',o',o',o',o',o',o',o',o',o',o',o',o'] rfl rfl (any_of HT_.out (by kernel_rfl)) (fun _ _ _ h => h) (Or.inl ⟨by rfl, ?_⟩) ?_ ?_
               rotate_left;·intro w';go_simp;with_reducible rfl
               rotate_left;·simp only [Act.put, la_, lz_, ls_, i64_w, i32_w];rfl
               refine pure_ (i := 22) (N := some 40) (v := ?_) (a' := ?_) #[i',i',i',i',i',i',i',i',i',i',i',i',i',i',i',i',i',i',i',i',i',i',i',o',o',o',o',o',o',o',o',o',o',o',o',o',o',o',o',o',o',o'] rfl rfl (any_of HT_.out (by kernel_rfl)) (fun _ _ _ h => h) (Or.inl ⟨by rfl, ?_⟩) ?_ ?_
               rotate_left;·intro w';go_simp;with_reducible rfl
               rotate_left;·simp only [Act.put, la_, lz_, ls_, i64_w, i32_w];rfl
               refine take_ (i := 23) (N := some 41) (v := ?_) (a' := ?_) #[i',i',i',i',i',i',i',i',i',i',i',i',i',i',i',i',i',i',i',i',i',i',i',i',o',o',o',o',o',o',o',o',o',o',o',o',o',o',o',o',o',o'] rfl rfl (take_ofW HT_.out HW_.out (by kernel_rfl)) (fun _ _ _ h => h) (Or.inl ⟨by rfl, ?_⟩) hHeld ?_ ?_
               rotate_left
               ·rintro w' ⟨s0, s1, s2, s3, s4, s5, s6, s7, s8, s9⟩
                go_simp
                with_reducible rfl
               rotate_left
               ·simp only [Act.put, la_, lz_, ls_, i64_w, i32_w]
                rfl
               refine one_ (i := 24) (N := some 42) #[i',i',i',i',i',i',i',i',i',i',i',i',i',i',i',i',i',i',i',i',i',i',i',i',i',o',o',o',o',o',o',o',o',o',o',o',o',o',o',o',o',o'] rfl rfl (one_of HT_.out (by kernel_rfl)) (by decide) (fun K hK => ?_)
               refine goes_ Try.func64 (by kernel_rfl) rfl #[.int .i64 ((rd_T113 l0 x3_1).f4), .int .i64 1, .int .i64 1000000] (by rfl) rfl rfl ar_ ?_
               with_reducible refine (spec_l1In.calls ((rd_T113 l0 x3_1).f4) 1 1000000 true _ A16.out).mono ?_
               rintro e w' ⟨rfl, ⟨nd, rfl⟩⟩
               refine ⟨_, rfl, ?_⟩
               refine hK.out _ _ ⟨(blk_cell BK108.out 0).trans rfl, (blk_cell BK108.out 1).trans rfl, (blk_cell BK108.out 2).trans rfl, (blk_cell BK108.out 3).trans rfl, (blk_cell BK108.out 4).trans rfl, ((HB.out.cell (World.block_lt_of_cell? w _ hw113_0)).trans hw113_0), ((HB.out.cell (World.block_lt_of_cell? w _ hw113_1)).trans hw113_1), ((HB.out.cell (World.block_lt_of_cell? w _ hw113_2)).trans hw113_2), ((HB.out.cell (World.block_lt_of_cell? w _ hw113_3)).trans hw113_3), ((HB.out.cell (World.block_lt_of_cell? w _ hw113_4)).trans hw113_4)⟩ (fun hHeld => ?_)
               clear hK K
               refine norm_ (a' := ?_) ?_ ?_
               rotate_left
               ·show Act.put _ (some 42) _ = _
                simp only [Act.put, la_, lz_, ls_, i64_w, i32_w]
                rfl
               refine pure_ (i := 25) (N := some 43) (v := ?_) (a' := ?_) #[i',i',i',i',i',i',i',i',i',i',i',i',i',i',i',i',i',i',i',i',i',i',i',i',i',i',o',o',o',o',o',o',o',o',o',o',o',o',o',o',o',o'] rfl rfl (any_of HT_.out (by kernel_rfl)) (fun _ _ _ h => h) (Or.inl ⟨by rfl, ?_⟩) ?_ ?_
               rotate_left;·intro w';go_simp;with_reducible rfl
               rotate_left;·simp only [Act.put, la_, lz_, ls_, i64_w, i32_w];rfl
               refine pure_ (i := 26) (N := some 44) (v := ?_) (a' := ?_) #[i',i',i',i',i',i',i',i',i',i',i',i',i',i',i',i',i',i',i',i',i',i',i',i',i',i',i',o',o',o',o',o',o',o',o',o',o',o',o',o',o',o'] rfl rfl (any_of HT_.out (by kernel_rfl)) (fun _ _ _ h => h) (Or.inl ⟨by rfl, ?_⟩) ?_ ?_
               rotate_left;·intro w';go_simp;with_reducible rfl
               rotate_left;·simp only [Act.put, la_, lz_, ls_, i64_w, i32_w];rfl
               refine pure_ (i := 27) (N := some 45) (v := ?_) (a' := ?_) #[i',i',i',i',i',i',i',i',i',i',i',i',i',i',i',i',i',i',i',i',i',i',i',i',i',i',i',i',o',o',o',o',o',o',o',o',o',o',o',o',o',o'] rfl rfl (any_of HT_.out (by kernel_rfl)) (fun _ _ _ h => h) (Or.inl ⟨by rfl, ?_⟩) ?_ ?_
               rotate_left;·intro w';go_simp;with_reducible rfl
               rotate_left;·simp only [Act.put, la_, lz_, ls_, i64_w, i32_w];rfl
               refine pure_ (i := 28) (N := some 46) (v := ?_) (a' := ?_) #[i',i',i',i',i',i',i',i',i',i',i',i',i',i',i',i',i',i',i',i',i',i',i',i',i',i',i',i',i',o',o',o',o',o',o',o',o',o',o',o',o',o'] rfl rfl (any_of HT_.out (by kernel_rfl)) (fun _ _ _ h => h) (Or.inl ⟨by rfl, ?_⟩) ?_ ?_
               rotate_left;·intro w';go_simp;with_reducible rfl
               rotate_left;·simp only [Act.put, la_, lz_, ls_, i64_w, i32_w];rfl
               refine pure_ (i := 29) (N := some 47) (v := ?_) (a' := ?_) #[i',i',i',i',i',i',i',i',i',i',i',i',i',i',i',i',i',i',i',i',i',i',i',i',i',i',i',i',i',i',o',o',o',o',o',o',o',o',o',o',o',o'] rfl rfl (any_of HT_.out (by kernel_rfl)) (fun _ _ _ h => h) (Or.inl ⟨by rfl, ?_⟩) ?_ ?_
               rotate_left;·intro w';go_simp;with_reducible rfl
               rotate_left;·simp only [Act.put, la_, lz_, ls_, i64_w, i32_w];rfl
               refine pure_ (i := 30) (N := some 48) (v := ?_) (a' := ?_) #[i',i',i',i',i',i',i',i',i',i',i',i',i',i',i',i',i',i',i',i',i',i',i',i',i',i',i',i',i',i',i',o',o',o',o',o',o',o',o',o',o',o'] rfl rfl (any_of HT_.out (by kernel_rfl)) (fun _ _ _ h => h) (Or.inl ⟨by rfl, ?_⟩) ?_ ?_
               rotate_left;·intro w';go_simp;with_reducible rfl
               rotate_left;·simp only [Act.put, la_, lz_, ls_, i64_w, i32_w];rfl
               refine pure_ (i := 31) (N := some 49) (v := ?_) (a' := ?_) #[i',i',i',i',i',i',i',i',i',i',i',i',i',i',i',i',i',i',i',i',i',i',i',i',i',i',i',i',i',i',i',i',o',o',o',o',o',o',o',o',o',o'] rfl rfl (any_of HT_.out (by kernel_rfl)) (fun _ _ _ h => h) (Or.inl ⟨by rfl, ?_⟩) ?_ ?_
               rotate_left;·intro w';go_simp;with_reducible rfl
               rotate_left;·simp only [Act.put, la_, lz_, ls_, i64_w, i32_w];rfl
               refine pure_ (i := 33) (N := some 51) (v := ?_) (a' := ?_) #[i',i',i',i',i',i',i',i',i',i',i',i',i',i',i',i',i',i',i',i',i',i',i',i',i',i',i',i',i',i',i',i',o',i',o',o',o',o',o',o',o',o'] rfl rfl (any_of HT_.out (by kernel_rfl)) (fun _ _ _ h => h) (Or.inl ⟨by rfl, ?_⟩) ?_ ?_
               rotate_left;·intro w';go_simp;with_reducible rfl
               rotate_left;·simp only [Act.put, la_, lz_, ls_, i64_w, i32_w];rfl
               refine pure_ (i := 34) (N := some 52) (v := ?_) (a' := ?_) #[i',i',i',i',i',i',i',i',i',i',i',i',i',i',i',i',i',i',i',i',i',i',i',i',i',i',i',i',i',i',i',i',o',i',i',o',o',o',o',o',o',o'] rfl rfl (any_of HT_.out (by kernel_rfl)) (fun _ _ _ h => h) (Or.inl ⟨by rfl, ?_⟩) ?_ ?_
               rotate_left;·intro w';go_simp;with_reducible rfl
               rotate_left;·simp only [Act.put, la_, lz_, ls_, i64_w, i32_w];rfl
               refine pure_ (i := 35) (N := some 53) (v := ?_) (a' := ?_) #[i',i',i',i',i',i',i',i',i',i',i',i',i',i',i',i',i',i',i',i',i',i',i',i',i',i',i',i',i',i',i',i',o',i',i',i',o',o',o',o',o',o'] rfl rfl (any_of HT_.out (by kernel_rfl)) (fun _ _ _ h => h) (Or.inl ⟨by rfl, ?_⟩) ?_ ?_
               rotate_left;·intro w';go_simp;with_reducible rfl
               rotate_left;·simp only [Act.put, la_, lz_, ls_, i64_w, i32_w];rfl
               refine pure_ (i := 36) (N := some 54) (v := ?_) (a' := ?_) #[i',i',i',i',i',i',i',i',i',i',i',i',i',i',i',i',i',i',i',i',i',i',i',i',i',i',i',i',i',i',i',i',o',i',i',i',i',o',o',o',o',o'] rfl rfl (any_of HT_.out (by kernel_rfl)) (fun _ _ _ h => h) (Or.inl ⟨by rfl, ?_⟩) ?_ ?_
               rotate_left;·intro w';go_simp;with_reducible rfl
               rotate_left;·simp only [Act.put, la_, lz_, ls_, i64_w, i32_w];rfl
               refine pure_ (i := 37) (N := some 55) (v := ?_) (a' := ?_) #[i',i',i',i',i',i',i',i',i',i',i',i',i',i',i',i',i',i',i',i',i',i',i',i',i',i',i',i',i',i',i',i',o',i',i',i',i',i',o',o',o',o'] rfl rfl (any_of HT_.out (by kernel_rfl)) (fun _ _ _ h => h) (Or.inl ⟨by rfl, ?_⟩) ?_ ?_
               rotate_left;·intro w';go_simp;with_reducible rfl
               rotate_left;·simp only [Act.put, la_, lz_, ls_, i64_w, i32_w];rfl
               refine take_ (i := 32) (N := some 50) (v := ?_) (a' := ?_) #[i',i',i',i',i',i',i',i',i',i',i',i',i',i',i',i',i',i',i',i',i',i',i',i',i',i',i',i',i',i',i',i',i',i',i',i',i',i',o',o',o',o'] rfl rfl (take_ofW HT_.out HW_.out (by kernel_rfl)) (fun _ _ _ h => h) (Or.inl ⟨by rfl, ?_⟩) hHeld ?_ ?_
               rotate_left
               ·rintro w' ⟨s0, s1, s2, s3, s4, s5, s6, s7, s8, s9⟩
                go_simp
                with_reducible rfl
               rotate_left
               ·simp only [Act.put, la_, lz_, ls_, i64_w, i32_w]
                rfl
               refine take_ (i := 38) (N := some 56) (v := ?_) (a' := ?_) #[i',i',i',i',i',i',i',i',i',i',i',i',i',i',i',i',i',i',i',i',i',i',i',i',i',i',i',i',i',i',i',i',i',i',i',i',i',i',i',o',o',o'] rfl rfl (take_ofW HT_.out HW_.out (by kernel_rfl)) (fun _ _ _ h => h) (Or.inl ⟨by rfl, ?_⟩) hHeld ?_ ?_
               rotate_left
               ·rintro w' ⟨s0, s1, s2, s3, s4, s5, s6, s7, s8, s9⟩
                go_simp
                with_reducible rfl
               rotate_left
               ·simp only [Act.put, la_, lz_, ls_, i64_w, i32_w]
                rfl
               refine pure_ (i := 39) (N := some 57) (v := ?_) (a' := ?_) #[i',i',i',i',i',i',i',i',i',i',i',i',i',i',i',i',i',i',i',i',i',i',i',i',i',i',i',i',i',i',i',i',i',i',i',i',i',i',i',i',o',o'] rfl rfl (any_of HT_.out (by kernel_rfl)) (fun _ _ _ h => h) (Or.inl ⟨by rfl, ?_⟩) ?_ ?_
               rotate_left;·intro w';go_simp;with_reducible rfl
               rotate_left;·simp only [Act.put, la_, lz_, ls_, i64_w, i32_w];rfl
               refine pure_ (i := 40) (N := some 58) (v := ?_) (a' := ?_) #[i',i',i',i',i',i',i',i',i',i',i',i',i',i',i',i',i',i',i',i',i',i',i',i',i',i',i',i',i',i',i',i',i',i',i',i',i',i',i',i',i',o'] rfl rfl (any_of HT_.out (by kernel_rfl)) (fun _ _ _ h => h) (Or.inl ⟨by rfl, ?_⟩) ?_ ?_
               rotate_left;·intro w';go_simp;with_reducible rfl
               rotate_left;·simp only [Act.put, la_, lz_, ls_, i64_w, i32_w];rfl
               refine pure_ (i := 41) (N := some 59) (v := ?_) (a' := ?_) #[i',i',i',i',i',i',i',i',i',i',i',i',i',i',i',i',i',i',i',i',i',i',i',i',i',i',i',i',i',i',i',i',i',i',i',i',i',i',i',i',i',i'] rfl rfl (any_of HT_.out (by kernel_rfl)) (fun _ _ _ h => h) (Or.inl ⟨by rfl, ?_⟩) ?_ ?_
               rotate_left;·intro w';go_simp;with_reducible rfl
               rotate_left;·simp only [Act.put, la_, lz_, ls_, i64_w, i32_w];rfl
               refine done_ (done_of HT_.out (by kernel_rfl)) ?_
               have Nji19_ := Aside0.mk hji19
               clear hji19
               (try clear hji19w)
               try go_wp2
               have hji19 := Nji19_.out
               clear Nji19_
               (try have hji19w := (i64_w _).trans hji19)
               go_roundg k1
               case measure => have := HK1.out; first | exact this | exact Nat.le_of_succ_le this | exact Nat.le_refl _ | omega
               case rel => exact ⟨(wrap64 (x3_1 + 1)), rs_, H', ⟨by have := HK1.out; first | exact this | exact Nat.le_of_succ_le this | exact Nat.le_refl _ | omega⟩, ⟨hs_ HB GE108⟩⟩
              ·rw [if_neg c22] at H
               have c22b0 : (Op.bytesLess (((rd_T113 l0 (ji19)).f0).toList) (((rd_T113 l0 x3_1).f0).toList)) = false := by simpa using c22
               clear c22
               obtain rfl := Option.some.inj H
               have p107 : 0 ≤ (x3_1 : Int) := of_decide_eq_true as_
               have q107 : x3_1 < (l0.length : Int) := of_decide_eq_true as_
               obtain ⟨ad107, e107, hx107_0, hx107_1, hx107_2, hx107_3, hx107_4⟩ := at_T113 HR0.out x3_1 p107 q107
               cases e107
               replace hx107_0 := (HB.out.cell (World.block_lt_of_cell? w _ hx107_0)).trans hx107_0
               replace hx107_1 := (HB.out.cell (World.block_lt_of_cell? w _ hx107_1)).trans hx107_1
               replace hx107_2 := (HB.out.cell (World.block_lt_of_cell? w _ hx107_2)).trans hx107_2
               replace hx107_3 := (HB.out.cell (World.block_lt_of_cell? w _ hx107_3)).trans hx107_3
               replace hx107_4 := (HB.out.cell (World.block_lt_of_cell? w _ hx107_4)).trans hx107_4
               replace p107 := eq_true p107
               replace q107 := eq_true q107
               try go_wp2_with (first | ((with_reducible refine gate_dst (N := 4) rfl ?_); refine box_event ?hg (N := 4) ?hd (cs := #[.string (⟨#[]⟩ : ByteArray), .int .i64 0, .int .i64 0, .int .i64 0, .int .i64 0]) (t := 113) ?hr ?_; (case hd => rfl); (case hg => rfl); (case hr => first | (go_simp; done) | (go_simp; rfl)); intro gb108 hg w27 hbox hb; have n0_ := Aside0.mk (below_step (hb_ HB) hb); have n1_ := Aside0.mk (hbox); have n2_ := Aside0.mk ((by rw [hg]; exact (below_size (hb_ HB)) : w.heap.size ≤ gb108)); have n3_ := Aside0.mk ((by rw [hg]; exact (below_size (hb_ HB)) : w.heap.size ≤ gb108)); clear HB; have HB := n0_; have BK108 := n1_; have GW108 := n2_; have GE108 := n3_; clear n0_ n1_ n2_ n3_; clear hb hbox hg; have hcz28_0 : w27.cell? ⟨gb108, 0, none⟩ = some (.string (⟨#[]⟩ : ByteArray)) := (blk_cell BK108.out 0).trans rfl; have hcz28_1 : w27.cell? ⟨gb108, 1, none⟩ = some (.int .i64 0) := (blk_cell BK108.out 1).trans rfl; have hcz28_2 : w27.cell? ⟨gb108, 2, none⟩ = some (.int .i64 0) := (blk_cell BK108.out 2).trans rfl; have hcz28_3 : w27.cell? ⟨gb108, 3, none⟩ = some (.int .i64 0) := (blk_cell BK108.out 3).trans rfl; have hcz28_4 : w27.cell? ⟨gb108, 4, none⟩ = some (.int .i64 0) := (blk_cell BK108.out 4).trans rfl; have hfz28_0 := blk_frozen BK108.out 0; have hfz28_1 := blk_frozen BK108.out 1; have hfz28_2 := blk_frozen BK108.out 2; have hfz28_3 := blk_frozen BK108.out 3; have hfz28_4 := blk_frozen BK108.out 4))
               have n0_ : Aside0 ((((((w27.setCell ⟨gb108, 0, none⟩ (.string ((rd_T113 l0 x3_1).f0))).setCell ⟨gb108, 1, none⟩ (.int .i64 ((rd_T113 l0 x3_1).f1))).setCell ⟨gb108, 2, none⟩ (.int .i64 ((rd_T113 l0 x3_1).f2))).setCell ⟨gb108, 3, none⟩ (.int .i64 ((rd_T113 l0 x3_1).f3))).setCell ⟨gb108, 4, none⟩ (.int .i64 ((rd_T113 l0 x3_1).f4))).heap[gb108]? = some (.cells #[.string ((rd_T113 l0 x3_1).f0), .int .i64 ((rd_T113 l0 x3_1).f1), .int .i64 ((rd_T113 l0 x3_1).f2), .int .i64 ((rd_T113 l0 x3_1).f3), .int .i64 ((rd_T113 l0 x3_1).f4)] 113 (0, 0))) := ⟨by (with_reducible repeat (first | refine blk_drewN ?_ _ | refine blk_drew ?_ | refine blk_alloc ?_ _)); refine blk_put (cs := #[.string ((rd_T113 l0 x3_1).f0), .int .i64 ((rd_T113 l0 x3_1).f1), .int .i64 ((rd_T113 l0 x3_1).f2), .int .i64 ((rd_T113 l0 x3_1).f3), .int .i64 0]) ?_ 4 _ rfl; (with_reducible repeat (first | refine blk_drewN ?_ _ | refine blk_drew ?_ | refine blk_alloc ?_ _)); refine blk_put (cs := #[.string ((rd_T113 l0 x3_1).f0), .int .i64 ((rd_T113 l0 x3_1).f1), .int .i64 ((rd_T113 l0 x3_1).f2), .int .i64 0, .int .i64 0]) ?_ 3 _ rfl; (with_reducible repeat (first | refine blk_drewN ?_ _ | refine blk_drew ?_ | refine blk_alloc ?_ _)); refine blk_put (cs := #[.string ((rd_T113 l0 x3_1).f0), .int .i64 ((rd_T113 l0 x3_1).f1), .int .i64 0, .int .i64 0, .int .i64 0]) ?_ 2 _ rfl; (with_reducible repeat (first | refine blk_drewN ?_ _ | refine blk_drew ?_ | refine blk_alloc ?_ _)); refine blk_put (cs := #[.string ((rd_T113 l0 x3_1).f0), .int .i64 0, .int .i64 0, .int .i64 0, .int .i64 0]) ?_ 1 _ rfl; (with_reducible repeat (first | refine blk_drewN ?_ _ | refine blk_drew ?_ | refine blk_alloc ?_ _)); refine blk_put (cs := #[.string (⟨#[]⟩ : ByteArray), .int .i64 0, .int .i64 0, .int .i64 0, .int .i64 0]) ?_ 0 _ rfl; (with_reducible repeat (first | refine blk_drewN ?_ _ | refine blk_drew ?_ | refine blk_alloc ?_ _)); exact BK108.out⟩
               have n1_ : Aside0 (Below w.heap.size w (((((w27.setCell ⟨gb108, 0, none⟩ (.string ((rd_T113 l0 x3_1).f0))).setCell ⟨gb108, 1, none⟩ (.int .i64 ((rd_T113 l0 x3_1).f1))).setCell ⟨gb108, 2, none⟩ (.int .i64 ((rd_T113 l0 x3_1).f2))).setCell ⟨gb108, 3, none⟩ (.int .i64 ((rd_T113 l0 x3_1).f3))).setCell ⟨gb108, 4, none⟩ (.int .i64 ((rd_T113 l0 x3_1).f4)))) := ⟨hs_ HB GE108⟩
               (try clear BK108)
               (try clear HB)
               generalize (((((w27.setCell ⟨gb108, 0, none⟩ (.string ((rd_T113 l0 x3_1).f0))).setCell ⟨gb108, 1, none⟩ (.int .i64 ((rd_T113 l0 x3_1).f1))).setCell ⟨gb108, 2, none⟩ (.int .i64 ((rd_T113 l0 x3_1).f2))).setCell ⟨gb108, 3, none⟩ (.int .i64 ((rd_T113 l0 x3_1).f3))).setCell ⟨gb108, 4, none⟩ (.int .i64 ((rd_T113 l0 x3_1).f4))) = w29 at n0_ n1_ ⊢
               have BK108 := n0_
               have HB := n1_
               clear n0_ n1_
               have n0_ := Aside0.mk (blk_drew BK108.out)
               have n1_ := Aside0.mk (below_drew1 HB.out)
               clear BK108
               clear HB
               have BK108 := n0_
               have HB := n1_
               clear n0_ n1_
               have p113 : 0 ≤ ((ji19) : Int) := of_decide_eq_true as_
               have q113 : (ji19) < (l0.length : Int) := of_decide_eq_true as_
               obtain ⟨ad113, e113, hx113_0, hx113_1, hx113_2, hx113_3, hx113_4⟩ := at_T113 HR0.out (ji19) p113 q113
               have hw113_4 := hx113_4
               have hw113_3 := hx113_3
               have hw113_2 := hx113_2
               have hw113_1 := hx113_1
               have hw113_0 := hx113_0
               obtain rfl : ad107 = ad113 := (by injection e113)
               replace hx113_0 := (HB.out.cell (World.block_lt_of_cell? w _ hx113_0)).trans hx113_0
               replace hx113_1 := (HB.out.cell (World.block_lt_of_cell? w _ hx113_1)).trans hx113_1
               replace hx113_2 := (HB.out.cell (World.block_lt_of_cell? w _ hx113_2)).trans hx113_2
               replace hx113_3 := (HB.out.cell (World.block_lt_of_cell? w _ hx113_3)).trans hx113_3
               replace hx113_4 := (HB.out.cell (World.block_lt_of_cell? w _ hx113_4)).trans hx113_4
               replace p113 := eq_true p113
               replace q113 := eq_true q113
               refine start_ (n := 42) (S := fun w' => w'.cell? ⟨gb108, 0, none⟩ = some (.string ((rd_T113 l0 x3_1).f0)) ∧ w'.cell? ⟨gb108, 1, none⟩ = some (.int .i64 ((rd_T113 l0 x3_1).f1)) ∧ w'.cell? ⟨gb108, 2, none⟩ = some (.int .i64 ((rd_T113 l0 x3_1).f2)) ∧ w'.cell? ⟨gb108, 3, none⟩ = some (.int .i64 ((rd_T113 l0 x3_1).f3)) ∧ w'.cell? ⟨gb108, 4, none⟩ = some (.int .i64 ((rd_T113 l0 x3_1).f4)) ∧ w'.cell? (ad107.add (((ji19)).toNat * 5)) = some (.string ((rd_T113 l0 (ji19)).f0)) ∧ w'.cell? ⟨(ad107.add (((ji19)).toNat * 5)).block, (ad107.add (((ji19)).toNat * 5)).off + 1, none⟩ = some (.int .i64 ((rd_T113 l0 (ji19)).f1)) ∧ w'.cell? ⟨(ad107.add (((ji19)).toNat * 5)).block, (ad107.add (((ji19)).toNat * 5)).off + 2, none⟩ = some (.int .i64 ((rd_T113 l0 (ji19)).f2)) ∧ w'.cell? ⟨(ad107.add (((ji19)).toNat * 5)).block, (ad107.add (((ji19)).toNat * 5)).off + 3, none⟩ = some (.int .i64 ((rd_T113 l0 (ji19)).f3)) ∧ w'.cell? ⟨(ad107.add (((ji19)).toNat * 5)).block, (ad107.add (((ji19)).toNat * 5)).off + 4, none⟩ = some (.int .i64 ((rd_T113 l0 (ji19)).f4))) (ds := []) #[o',o',o',o',o',o',o',o',o',o',o',o',o',o',o',o',o',o',o',o',o',o',o',o',o',o',o',o',o',o',o',o',o',o',o',o',o',o',o',o',o',o'] (by kernel_rfl) rfl rfl ⟨(blk_cell BK108.out 0).trans rfl, (blk_cell BK108.out 1).trans rfl, (blk_cell BK108.out 2).trans rfl, (blk_cell BK108.out 3).trans rfl, (blk_cell BK108.out 4).trans rfl, ((HB.out.cell (World.block_lt_of_cell? w _ hw113_0)).trans hw113_0), ((HB.out.cell (World.block_lt_of_cell? w _ hw113_1)).trans hw113_1), ((HB.out.cell (World.block_lt_of_cell? w _ hw113_2)).trans hw113_2), ((HB.out.cell (World.block_lt_of_cell? w _ hw113_3)).trans hw113_3), ((HB.out.cell (World.block_lt_of_cell? w _ hw113_4)).trans hw113_4)⟩ (fun hHeld => ?_); refine with_tabW spec_DirOk.tab7 spec_DirOk.bits7 (fun HT_ HW_ => ?_)
               generalize w29.drew = w30 at BK108 HB hx113_0 hx113_1 hx113_2 hx113_3 hx113_4 hHeld ⊢
               refine pure_ (i := 0) (N := some 18) (v := ?_) (a' := ?_) #[i',o',o',o',o',o',o',o',o',o',o',o',o',o',o',o',o',o',o',o',o',o',o',o',o',o',o',o',o',o',o',o',o',o',o',o',o',o',o',o',o',o'] rfl rfl (any_of HT_.out (by kernel_rfl)) (fun _ _ _ h => h) (Or.inl ⟨by rfl, ?_⟩) ?_ ?_
               rotate_left;·intro w';go_simp;with_reducible rfl
               rotate_left;·simp only [Act.put, la_, lz_, ls_, i64_w, i32_w];rfl
               refine take_ (i := 1) (N := some 19) (v := ?_) (a' := ?_) #[i',i',o',o',o',o',o',o',o',o',o',o',o',o',o',o',o',o',o',o',o',o',o',o',o',o',o',o',o',o',o',o',o',o',o',o',o',o',o',o',o',o'] rfl rfl (take_ofW HT_.out HW_.out (by kernel_rfl)) (fun _ _ _ h => h) (Or.inl ⟨by rfl, ?_⟩) hHeld ?_ ?_
               rotate_left
               ·rintro w' ⟨s0, s1, s2, s3, s4, s5, s6, s7, s8, s9⟩
                go_simp
                with_reducible rfl
               rotate_left
               ·simp only [Act.put, la_, lz_, ls_, i64_w, i32_w]
                rfl
               refine one_ (i := 2) (N := some 20) #[i',i',i',o',o',o',o',o',o',o',o',o',o',o',o',o',o',o',o',o',o',o',o',o',o',o',o',o',o',o',o',o',o',o',o',o',o',o',o',o',o',o'] rfl rfl (one_of HT_.out (by kernel_rfl)) (by decide) (fun K hK => ?_)
               refine goes_ Try.func106 (by kernel_rfl) rfl #[.string ((rd_T113 l0 x3_1).f0)] (by rfl) rfl rfl ar_ ?_
               with_reducible refine (spec_KeyOk.calls ((rd_T113 l0 x3_1).f0) true _ A5.out).mono ?_
               rintro e w' ⟨rfl, ⟨nd, rfl⟩⟩
               refine ⟨_, rfl, ?_⟩
               refine hK.out _ _ ⟨(blk_cell BK108.out 0).trans rfl, (blk_cell BK108.out 1).trans rfl, (blk_cell BK108.out 2).trans rfl, (blk_cell BK108.out 3).trans rfl, (blk_cell BK108.out 4).trans rfl, ((HB.out.cell (World.block_lt_of_cell? w _ hw113_0)).trans hw113_0), ((HB.out.cell (World.block_lt_of_cell? w _ hw113_1)).trans hw113_1), ((HB.out.cell (World.block_lt_of_cell? w _ hw113_2)).trans hw113_2), ((HB.out.cell (World.block_lt_of_cell? w _ hw113_3)).trans hw113_3), ((HB.out.cell (World.block_lt_of_cell? w _ hw113_4)).trans hw113_4)⟩ (fun hHeld => ?_)
               clear hK K
               refine norm_ (a' := ?_) ?_ ?_
               rotate_left
               ·show Act.put _ (some 20) _ = _
                simp only [Act.put, la_, lz_, ls_, i64_w, i32_w]
                rfl
               refine pure_ (i := 3) (N := some 21) (v := ?_) (a' := ?_) #[i',i',i',i',o',o',o',o',o',o',o',o',o',o',o',o',o',o',o',o',o',o',o',o',o',o',o',o',o',o',o',o',o',o',o',o',o',o',o',o',o',o'] rfl rfl (any_of HT_.out (by kernel_rfl)) (fun _ _ _ h => h) (Or.inl ⟨by rfl, ?_⟩) ?_ ?_
               rotate_left;·intro w';go_simp;with_reducible rfl
               rotate_left;·simp only [Act.put, la_, lz_, ls_, i64_w, i32_w];rfl
               refine pure_ (i := 4) (N := some 22) (v := ?_) (a' := ?_) #[i',i',i',i',i',o',o',o',o',o',o',o',o',o',o',o',o',o',o',o',o',o',o',o',o',o',o',o',o',o',o',o',o',o',o',o',o',o',o',o',o',o'] rfl rfl (any_of HT_.out (by kernel_rfl)) (fun _ _ _ h => h) (Or.inl ⟨by rfl, ?_⟩) ?_ ?_
               rotate_left;·intro w';go_simp;with_reducible rfl
               rotate_left;·simp only [Act.put, la_, lz_, ls_, i64_w, i32_w];rfl
               refine pure_ (i := 5) (N := some 23) (v := ?_) (a' := ?_) #[i',i',i',i',i',i',o',o',o',o',o',o',o',o',o',o',o',o',o',o',o',o',o',o',o',o',o',o',o',o',o',o',o',o',o',o',o',o',o',o',o',o'] rfl rfl (any_of HT_.out (by kernel_rfl)) (fun _ _ _ h => h) (Or.inl ⟨by rfl, ?_⟩) ?_ ?_
               rotate_left;·intro w';go_simp;with_reducible rfl
               rotate_left;·simp only [Act.put, la_, lz_, ls_, i64_w, i32_w];rfl
               refine take_ (i := 6) (N := some 24) (v := ?_) (a' := ?_) #[i',i',i',i',i',i',i',o',o',o',o',o',o',o',o',o',o',o',o',o',o',o',o',o',o',o',o',o',o',o',o',o',o',o',o',o',o',o',o',o',o',o'] rfl rfl (take_ofW HT_.out HW_.out (by kernel_rfl)) (fun _ _ _ h => h) (Or.inl ⟨by rfl, ?_⟩) hHeld ?_ ?_
               rotate_left
               ·rintro w' ⟨s0, s1, s2, s3, s4, s5, s6, s7, s8, s9⟩
                go_simp
                with_reducible rfl
               rotate_left
               ·simp only [Act.put, la_, lz_, ls_, i64_w, i32_w]
                rfl
               refine one_ (i := 7) (N := some 25) #[i',i',i',i',i',i',i',i',o',o',o',o',o',o',o',o',o',o',o',o',o',o',o',o',o',o',o',o',o',o',o',o',o',o',o',o',o',o',o',o',o',o'] rfl rfl (one_of HT_.out (by kernel_rfl)) (by decide) (fun K hK => ?_)
               refine goes_ Try.func64 (by kernel_rfl) rfl #[.int .i64 ((rd_T113 l0 x3_1).f1), .int .i64 1, .int .i64 100000] (by rfl) rfl rfl ar_ ?_
               with_reducible refine (spec_l1In.calls ((rd_T113 l0 x3_1).f1) 1 100000 true _ A7.out).mono ?_
               rintro e w' ⟨rfl, ⟨nd, rfl⟩⟩
               refine ⟨_, rfl, ?_⟩
               refine hK.out _ _ ⟨(blk_cell BK108.out 0).trans rfl, (blk_cell BK108.out 1).trans rfl, (blk_cell BK108.out 2).trans rfl, (blk_cell BK108.out 3).trans rfl, (blk_cell BK108.out 4).trans rfl, ((HB.out.cell (World.block_lt_of_cell? w _ hw113_0)).trans hw113_0), ((HB.out.cell (World.block_lt_of_cell? w _ hw113_1)).trans hw113_1), ((HB.out.cell (World.block_lt_of_cell? w _ hw113_2)).trans hw113_2), ((HB.out.cell (World.block_lt_of_cell? w _ hw113_3)).trans hw113_3), ((HB.out.cell (World.block_lt_of_cell? w _ hw113_4)).trans hw113_4)⟩ (fun hHeld => ?_)
               clear hK K
               refine norm_ (a' := ?_) ?_ ?_
               rotate_left
               ·show Act.put _ (some 25) _ = _
                simp only [Act.put, la_, lz_, ls_, i64_w, i32_w]
                rfl
               refine pure_ (i := 8) (N := some 26) (v := ?_) (a' := ?_) #[i',i',i',i',i',i',i',i',i',o',o',o',o',o',o',o',o',o',o',o',o',o',o',o',o',o',o',o',o',o',o',o',o',o',o',o',o',o',o',o',o',o'] rfl rfl (any_of HT_.out (by kernel_rfl)) (fun _ _ _ h => h) (Or.inl ⟨by rfl, ?_⟩) ?_ ?_
               rotate_left;·intro w';go_simp;with_reducible rfl
               rotate_left;·simp only [Act.put, la_, lz_, ls_, i64_w, i32_w];rfl
               refine pure_ (i := 9) (N := some 27) (v := ?_) (a' := ?_) #[i',i',i',i',i',i',i',i',i',i',o',o',o',o',o',o',o',o',o',o',o',o',o',o',o',o',o',o',o',o',o',o',o',o',o',o',o',o',o',o',o',o'] rfl rfl (any_of HT_.out (by kernel_rfl)) (fun _ _ _ h => h) (Or.inl ⟨by rfl, ?_⟩) ?_ ?_
               rotate_left;·intro w';go_simp;with_reducible rfl
               rotate_left;·simp only [Act.put, la_, lz_, ls_, i64_w, i32_w];rfl
               refine pure_ (i := 10) (N := some 28) (v := ?_) (a' := ?_) #[i',i',i',i',i',i',i',i',i',i',i',o',o',o',o',o',o',o',o',o',o',o',o',o',o',o',o',o',o',o',o',o',o',o',o',o',o',o',o',o',o',o'] rfl rfl (any_of HT_.out (by kernel_rfl)) (fun _ _ _ h => h) (Or.inl ⟨by rfl, ?_⟩) ?_ ?_
               rotate_left;·intro w';go_simp;with_reducible rfl
               rotate_left;·simp only [Act.put, la_, lz_, ls_, i64_w, i32_w];rfl
               refine pure_ (i := 11) (N := some 29) (v := ?_) (a' := ?_) #[i',i',i',i',i',i',i',i',i',i',i',i',o',o',o',o',o',o',o',o',o',o',o',o',o',o',o',o',o',o',o',o',o',o',o',o',o',o',o',o',o',o'] rfl rfl (any_of HT_.out (by kernel_rfl)) (fun _ _ _ h => h) (Or.inl ⟨by rfl, ?_⟩) ?_ ?_
               rotate_left;·intro w';go_simp;with_reducible rfl
               rotate_left;·simp only [Act.put, la_, lz_, ls_, i64_w, i32_w];rfl
               refine take_ (i := 12) (N := some 30) (v := ?_) (a' := ?_) #[i',i',i',i',i',i',i',i',i',i',i',i',i',o',o',o',o',o',o',o',o',o',o',o',o',o',o',o',o',o',o',o',o',o',o',o',o',o',o',o',o',o'] rfl rfl (take_ofW HT_.out HW_.out (by kernel_rfl)) (fun _ _ _ h => h) (Or.inl ⟨by rfl, ?_⟩) hHeld ?_ ?_
               rotate_left
               ·rintro w' ⟨s0, s1, s2, s3, s4, s5, s6, s7, s8, s9⟩
                go_simp
                with_reducible rfl
               rotate_left
               ·simp only [Act.put, la_, lz_, ls_, i64_w, i32_w]
                rfl
               refine pure_ (i := 13) (N := some 31) (v := ?_) (a' := ?_) #[i',i',i',i',i',i',i',i',i',i',i',i',i',i',o',o',o',o',o',o',o',o',o',o',o',o',o',o',o',o',o',o',o',o',o',o',o',o',o',o',o',o'] rfl rfl (any_of HT_.out (by kernel_rfl)) (fun _ _ _ h => h) (Or.inl ⟨by rfl, ?_⟩) ?_ ?_
               rotate_left;·intro w';go_simp;with_reducible rfl
               rotate_left;·simp only [Act.put, la_, lz_, ls_, i64_w, i32_w];rfl
               refine pure_ (i := 14) (N := some 32) (v := ?_) (a' := ?_) #[i',i',i',i',i',i',i',i',i',i',i',i',i',i',i',o',o',o',o',o',o',o',o',o',o',o',o',o',o',o',o',o',o',o',o',o',o',o',o',o',o',o'] rfl rfl (any_of HT_.out (by kernel_rfl)) (fun _ _ _ h => h) (Or.inl ⟨by rfl, ?_⟩) ?_ ?_
               rotate_left;·intro w';go_simp;with_reducible rfl
               rotate_left;·simp only [Act.put, la_, lz_, ls_, i64_w, i32_w];rfl
               refine pure_ (i := 15) (N := some 33) (v := ?_) (a' := ?_) #[i',i',i',i',i',i',i',i',i',i',i',i',i',i',i',i',o',o',o',o',o',o',o',o',o',o',o',o',o',o',o',o',o',o',o',o',o',o',o',o',o',o'] rfl rfl (any_of HT_.out (by kernel_rfl)) (fun _ _ _ h => h) (Or.inl ⟨by rfl, ?_⟩) ?_ ?_
               rotate_left;·intro w';go_simp;with_reducible rfl
               rotate_left;·simp only [Act.put, la_, lz_, ls_, i64_w, i32_w];rfl
               refine pure_ (i := 16) (N := some 34) (v := ?_) (a' := ?_) #[i',i',i',i',i',i',i',i',i',i',i',i',i',i',i',i',i',o',o',o',o',o',o',o',o',o',o',o',o',o',o',o',o',o',o',o',o',o',o',o',o',o'] rfl rfl (any_of HT_.out (by kernel_rfl)) (fun _ _ _ h => h) (Or.inl ⟨by rfl, ?_⟩) ?_ ?_
               rotate_left;·intro w';go_simp;with_reducible rfl
               rotate_left;·simp only [Act.put, la_, lz_, ls_, i64_w, i32_w];rfl
               refine take_ (i := 17) (N := some 35) (v := ?_) (a' := ?_) #[i',i',i',i',i',i',i',i',i',i',i',i',i',i',i',i',i',i',o',o',o',o',o',o',o',o',o',o',o',o',o',o',o',o',o',o',o',o',o',o',o',o'] rfl rfl (take_ofW HT_.out HW_.out (by kernel_rfl)) (fun _ _ _ h => h) (Or.inl ⟨by rfl, ?_⟩) hHeld ?_ ?_
               rotate_left
               ·rintro w' ⟨s0, s1, s2, s3, s4, s5, s6, s7, s8, s9⟩
                go_simp
                with_reducible rfl
               rotate_left
               ·simp only [Act.put, la_, lz_, ls_, i64_w, i32_w]
                rfl
               refine one_ (i := 18) (N := some 36) #[i',i',i',i',i',i',i',i',i',i',i',i',i',i',i',i',i',i',i',o',o',o',o',o',o',o',o',o',o',o',o',o',o',o',o',o',o',o',o',o',o',o'] rfl rfl (one_of HT_.out (by kernel_rfl)) (by decide) (fun K hK => ?_)
               refine goes_ Try.func64 (by kernel_rfl) rfl #[.int .i64 ((rd_T113 l0 x3_1).f3), .int .i64 1, .int .i64 210] (by rfl) rfl rfl ar_ ?_
               with_reducible refine (spec_l1In.calls ((rd_T113 l0 x3_1).f3) 1 210 true _ A14.out).mono ?_
               rintro e w' ⟨rfl, ⟨nd, rfl⟩⟩
               refine ⟨_, rfl, ?_⟩
               refine hK.out _ _ ⟨(blk_cell BK108.out 0).trans rfl, (blk_cell BK108.out 1).trans rfl, (blk_cell BK108.out 2).trans rfl, (blk_cell BK108.out 3).trans rfl, (blk_cell BK108.out 4).trans rfl, ((HB.out.cell (World.block_lt_of_cell? w _ hw113_0)).trans hw113_0), ((HB.out.cell (World.block_lt_of_cell? w _ hw113_1)).trans hw113_1), ((HB.out.cell (World.block_lt_of_cell? w _ hw113_2)).trans hw113_2), ((HB.out.cell (World.block_lt_of_cell? w _ hw113_3)).trans hw113_3), ((HB.out.cell (World.block_lt_of_cell? w _ hw113_4)).trans hw113_4)⟩ (fun hHeld => ?_)
               clear hK K
               refine norm_ (a' := ?_) ?_ ?_
               rotate_left
               ·show Act.put _ (some 36) _ = _
                simp only [Act.put, la_, lz_, ls_, i64_w, i32_w]
                rfl
               refine pure_ (i := 19) (N := some 37) (v := ?_) (a' := ?_) #[i',i',i',i',i',i',i',i',i',i',i',i',i',i',i',i',i',i',i',i',o',o',o',o',o',o',o',o',o',o',o',o',o',o',o',o',o',o',o',o',o',o'] rfl rfl (any_of HT_.out (by kernel_rfl)) (fun _ _ _ h => h) (Or.inl ⟨by rfl, ?_⟩) ?_ ?_
               rotate_left;·intro w';go_simp;with_reducible rfl
               rotate_left;·simp only [Act.put, la_, lz_, ls_, i64_w, i32_w];rfl
               refine pure_ (i := 20) (N := some 38) (v := ?_) (a' := ?_) #[i',i',i',i',i',i',i',i',i',i',i',i',i',i',i',i',i',i',i',i',i',o',o',o',o',o',o',o',o',o',o',o',o',o',o',o',o',o',o',o',o',o'] rfl rfl (any_of HT_.out (by kernel_rfl)) (fun _ _ _ h => h) (Or.inl ⟨by rfl, ?_⟩) ?_ ?_
               rotate_left;·intro w';go_simp;with_reducible rfl
               rotate_left;·simp only [Act.put, la_, lz_, ls_, i64_w, i32_w];rfl
               refine pure_ (i := 21) (N := some 39) (v := ?_) (a' := ?_) #[i',i',i',i',i',i',i',i',i',i',i',i',i',i',i',i',i',i',i',i',i',i',o',o',o',o',o',o',o',o',o',o',o',o',o',o',o',o',o',o',o',o'] rfl rfl (any_of HT_.out (by kernel_rfl)) (fun _ _ _ h => h) (Or.inl ⟨by rfl, ?_⟩) ?_ ?_
               rotate_left;·intro w';go_simp;with_reducible rfl
               rotate_left;·simp only [Act.put, la_, lz_, ls_, i64_w, i32_w];rfl
               refine pure_ (i := 22) (N := some 40) (v := ?_) (a' := ?_) #[i',i',i',i',i',i',i',i',i',i',i',i',i',i',i',i',i',i',i',i',i',i',i',o',o',o',o',o',o',o',o',o',o',o',o',o',o',o',o',o',o',o'] rfl rfl (any_of HT_.out (by kernel_rfl)) (fun _ _ _ h => h) (Or.inl ⟨by rfl, ?_⟩) ?_ ?_
               rotate_left;·intro w';go_simp;with_reducible rfl
               rotate_left;·simp only [Act.put, la_, lz_, ls_, i64_w, i32_w];rfl
               refine take_ (i := 23) (N := some 41) (v := ?_) (a' := ?_) #[i',i',i',i',i',i',i',i',i',i',i',i',i',i',i',i',i',i',i',i',i',i',i',i',o',o',o',o',o',o',o',o',o',o',o',o',o',o',o',o',o',o'] rfl rfl (take_ofW HT_.out HW_.out (by kernel_rfl)) (fun _ _ _ h => h) (Or.inl ⟨by rfl, ?_⟩) hHeld ?_ ?_
               rotate_left
               ·rintro w' ⟨s0, s1, s2, s3, s4, s5, s6, s7, s8, s9⟩
                go_simp
                with_reducible rfl
               rotate_left
               ·simp only [Act.put, la_, lz_, ls_, i64_w, i32_w]
                rfl
               refine one_ (i := 24) (N := some 42) #[i',i',i',i',i',i',i',i',i',i',i',i',i',i',i',i',i',i',i',i',i',i',i',i',i',o',o',o',o',o',o',o',o',o',o',o',o',o',o',o',o',o'] rfl rfl (one_of HT_.out (by kernel_rfl)) (by decide) (fun K hK => ?_)
               refine goes_ Try.func64 (by kernel_rfl) rfl #[.int .i64 ((rd_T113 l0 x3_1).f4), .int .i64 1, .int .i64 1000000] (by rfl) rfl rfl ar_ ?_
               with_reducible refine (spec_l1In.calls ((rd_T113 l0 x3_1).f4) 1 1000000 true _ A16.out).mono ?_
               rintro e w' ⟨rfl, ⟨nd, rfl⟩⟩
               refine ⟨_, rfl, ?_⟩
               refine hK.out _ _ ⟨(blk_cell BK108.out 0).trans rfl, (blk_cell BK108.out 1).trans rfl, (blk_cell BK108.out 2).trans rfl, (blk_cell BK108.out 3).trans rfl, (blk_cell BK108.out 4).trans rfl, ((HB.out.cell (World.block_lt_of_cell? w _ hw113_0)).trans hw113_0), ((HB.out.cell (World.block_lt_of_cell? w _ hw113_1)).trans hw113_1), ((HB.out.cell (World.block_lt_of_cell? w _ hw113_2)).trans hw113_2), ((HB.out.cell (World.block_lt_of_cell? w _ hw113_3)).trans hw113_3), ((HB.out.cell (World.block_lt_of_cell? w _ hw113_4)).trans hw113_4)⟩ (fun hHeld => ?_)
               clear hK K
               refine norm_ (a' := ?_) ?_ ?_
               rotate_left
               ·show Act.put _ (some 42) _ = _
                simp only [Act.put, la_, lz_, ls_, i64_w, i32_w]
                rfl
               refine pure_ (i := 25) (N := some 43) (v := ?_) (a' := ?_) #[i',i',i',i',i',i',i',i',i',i',i',i',i',i',i',i',i',i',i',i',i',i',i',i',i',i',o',o',o',o',o',o',o',o',o',o',o',o',o',o',o',o'] rfl rfl (any_of HT_.out (by kernel_rfl)) (fun _ _ _ h => h) (Or.inl ⟨by rfl, ?_⟩) ?_ ?_
               rotate_left;·intro w';go_simp;with_reducible rfl
               rotate_left;·simp only [Act.put, la_, lz_, ls_, i64_w, i32_w];rfl
               refine pure_ (i := 26) (N := some 44) (v := ?_) (a' := ?_) #[i',i',i',i',i',i',i',i',i',i',i',i',i',i',i',i',i',i',i',i',i',i',i',i',i',i',i',o',o',o',o',o',o',o',o',o',o',o',o',o',o',o'] rfl rfl (any_of HT_.out (by kernel_rfl)) (fun _ _ _ h => h) (Or.inl ⟨by rfl, ?_⟩) ?_ ?_
               rotate_left;·intro w';go_simp;with_reducible rfl
               rotate_left;·simp only [Act.put, la_, lz_, ls_, i64_w, i32_w];rfl
               refine pure_ (i := 27) (N := some 45) (v := ?_) (a' := ?_) #[i',i',i',i',i',i',i',i',i',i',i',i',i',i',i',i',i',i',i',i',i',i',i',i',i',i',i',i',o',o',o',o',o',o',o',o',o',o',o',o',o',o'] rfl rfl (any_of HT_.out (by kernel_rfl)) (fun _ _ _ h => h) (Or.inl ⟨by rfl, ?_⟩) ?_ ?_
               rotate_left;·intro w';go_simp;with_reducible rfl
               rotate_left;·simp only [Act.put, la_, lz_, ls_, i64_w, i32_w];rfl
               refine pure_ (i := 28) (N := some 46) (v := ?_) (a' := ?_) #[i',i',i',i',i',i',i',i',i',i',i',i',i',i',i',i',i',i',i',i',i',i',i',i',i',i',i',i',i',o',o',o',o',o',o',o',o',o',o',o',o',o'] rfl rfl (any_of HT_.out (by kernel_rfl)) (fun _ _ _ h => h) (Or.inl ⟨by rfl, ?_⟩) ?_ ?_
               rotate_left;·intro w';go_simp;with_reducible rfl
               rotate_left;·simp only [Act.put, la_, lz_, ls_, i64_w, i32_w];rfl
               refine pure_ (i := 29) (N := some 47) (v := ?_) (a' := ?_) #[i',i',i',i',i',i',i',i',i',i',i',i',i',i',i',i',i',i',i',i',i',i',i',i',i',i',i',i',i',i',o',o',o',o',o',o',o',o',o',o',o',o'] rfl rfl (any_of HT_.out (by kernel_rfl)) (fun _ _ _ h => h) (Or.inl ⟨by rfl, ?_⟩) ?_ ?_
               rotate_left;·intro w';go_simp;with_reducible rfl
               rotate_left;·simp only [Act.put, la_, lz_, ls_, i64_w, i32_w];rfl
               refine pure_ (i := 30) (N := some 48) (v := ?_) (a' := ?_) #[i',i',i',i',i',i',i',i',i',i',i',i',i',i',i',i',i',i',i',i',i',i',i',i',i',i',i',i',i',i',i',o',o',o',o',o',o',o',o',o',o',o'] rfl rfl (any_of HT_.out (by kernel_rfl)) (fun _ _ _ h => h) (Or.inl ⟨by rfl, ?_⟩) ?_ ?_
               rotate_left;·intro w';go_simp;with_reducible rfl
               rotate_left;·simp only [Act.put, la_, lz_, ls_, i64_w, i32_w];rfl
               refine pure_ (i := 31) (N := some 49) (v := ?_) (a' := ?_) #[i',i',i',i',i',i',i',i',i',i',i',i',i',i',i',i',i',i',i',i',i',i',i',i',i',i',i',i',i',i',i',i',o',o',o',o',o',o',o',o',o',o'] rfl rfl (any_of HT_.out (by kernel_rfl)) (fun _ _ _ h => h) (Or.inl ⟨by rfl, ?_⟩) ?_ ?_
               rotate_left;·intro w';go_simp;with_reducible rfl
               rotate_left;·simp only [Act.put, la_, lz_, ls_, i64_w, i32_w];rfl
               refine pure_ (i := 33) (N := some 51) (v := ?_) (a' := ?_) #[i',i',i',i',i',i',i',i',i',i',i',i',i',i',i',i',i',i',i',i',i',i',i',i',i',i',i',i',i',i',i',i',o',i',o',o',o',o',o',o',o',o'] rfl rfl (any_of HT_.out (by kernel_rfl)) (fun _ _ _ h => h) (Or.inl ⟨by rfl, ?_⟩) ?_ ?_
               rotate_left;·intro w';go_simp;with_reducible rfl
               rotate_left;·simp only [Act.put, la_, lz_, ls_, i64_w, i32_w];rfl
               refine pure_ (i := 34) (N := some 52) (v := ?_) (a' := ?_) #[i',i',i',i',i',i',i',i',i',i',i',i',i',i',i',i',i',i',i',i',i',i',i',i',i',i',i',i',i',i',i',i',o',i',i',o',o',o',o',o',o',o'] rfl rfl (any_of HT_.out (by kernel_rfl)) (fun _ _ _ h => h) (Or.inl ⟨by rfl, ?_⟩) ?_ ?_
               rotate_left;·intro w';go_simp;with_reducible rfl
               rotate_left;·simp only [Act.put, la_, lz_, ls_, i64_w, i32_w];rfl
               refine pure_ (i := 35) (N := some 53) (v := ?_) (a' := ?_) #[i',i',i',i',i',i',i',i',i',i',i',i',i',i',i',i',i',i',i',i',i',i',i',i',i',i',i',i',i',i',i',i',o',i',i',i',o',o',o',o',o',o'] rfl rfl (any_of HT_.out (by kernel_rfl)) (fun _ _ _ h => h) (Or.inl ⟨by rfl, ?_⟩) ?_ ?_
               rotate_left;·intro w';go_simp;with_reducible rfl
               rotate_left;·simp only [Act.put, la_, lz_, ls_, i64_w, i32_w];rfl
               refine pure_ (i := 36) (N := some 54) (v := ?_) (a' := ?_) #[i',i',i',i',i',i',i',i',i',i',i',i',i',i',i',i',i',i',i',i',i',i',i',i',i',i',i',i',i',i',i',i',o',i',i',i',i',o',o',o',o',o'] rfl rfl (any_of HT_.out (by kernel_rfl)) (fun _ _ _ h => h) (Or.inl ⟨by rfl, ?_⟩) ?_ ?_
               rotate_left;·intro w';go_simp;with_reducible rfl
               rotate_left;·simp only [Act.put, la_, lz_, ls_, i64_w, i32_w];rfl
               refine pure_ (i := 37) (N := some 55) (v := ?_) (a' := ?_) #[i',i',i',i',i',i',i',i',i',i',i',i',i',i',i',i',i',i',i',i',i',i',i',i',i',i',i',i',i',i',i',i',o',i',i',i',i',i',o',o',o',o'] rfl rfl (any_of HT_.out (by kernel_rfl)) (fun _ _ _ h => h) (Or.inl ⟨by rfl, ?_⟩) ?_ ?_
               rotate_left;·intro w';go_simp;with_reducible rfl
               rotate_left;·simp only [Act.put, la_, lz_, ls_, i64_w, i32_w];rfl
               refine take_ (i := 32) (N := some 50) (v := ?_) (a' := ?_) #[i',i',i',i',i',i',i',i',i',i',i',i',i',i',i',i',i',i',i',i',i',i',i',i',i',i',i',i',i',i',i',i',i',i',i',i',i',i',o',o',o',o'] rfl rfl (take_ofW HT_.out HW_.out (by kernel_rfl)) (fun _ _ _ h => h) (Or.inl ⟨by rfl, ?_⟩) hHeld ?_ ?_
               rotate_left
               ·rintro w' ⟨s0, s1, s2, s3, s4, s5, s6, s7, s8, s9⟩
                go_simp
                with_reducible rfl
               rotate_left
               ·simp only [Act.put, la_, lz_, ls_, i64_w, i32_w]
                rfl
               refine take_ (i := 38) (N := some 56) (v := ?_) (a' := ?_) #[i',i',i',i',i',i',i',i',i',i',i',i',i',i',i',i',i',i',i',i',i',i',i',i',i',i',i',i',i',i',i',i',i',i',i',i',i',i',i',o',o',o'] rfl rfl (take_ofW HT_.out HW_.out (by kernel_rfl)) (fun _ _ _ h => h) (Or.inl ⟨by rfl, ?_⟩) hHeld ?_ ?_
               rotate_left
               ·rintro w' ⟨s0, s1, s2, s3, s4, s5, s6, s7, s8, s9⟩
                go_simp
                with_reducible rfl
               rotate_left
               ·simp only [Act.put, la_, lz_, ls_, i64_w, i32_w]
                rfl
               refine pure_ (i := 39) (N := some 57) (v := ?_) (a' := ?_) #[i',i',i',i',i',i',i',i',i',i',i',i',i',i',i',i',i',i',i',i',i',i',i',i',i',i',i',i',i',i',i',i',i',i',i',i',i',i',i',i',o',o'] rfl rfl (any_of HT_.out (by kernel_rfl)) (fun _ _ _ h => h) (Or.inl ⟨by rfl, ?_⟩) ?_ ?_
               rotate_left;·intro w';go_simp;with_reducible rfl
               rotate_left;·simp only [Act.put, la_, lz_, ls_, i64_w, i32_w];rfl
               refine pure_ (i := 40) (N := some 58) (v := ?_) (a' := ?_) #[i',i',i',i',i',i',i',i',i',i',i',i',i',i',i',i',i',i',i',i',i',i',i',i',i',i',i',i',i',i',i',i',i',i',i',i',i',i',i',i',i',o'] rfl rfl (any_of HT_.out (by kernel_rfl)) (fun _ _ _ h => h) (Or.inl ⟨by rfl, ?_⟩) ?_ ?_
               rotate_left;·intro w';go_simp;with_reducible rfl
               rotate_left;·simp only [Act.put, la_, lz_, ls_, i64_w, i32_w];rfl
               refine pure_ (i := 41) (N := some 59) (v := ?_) (a' := ?_) #[i',i',i',i',i',i',i',i',i',i',i',i',i',i',i',i',i',i',i',i',i',i',i',i',i',i',i',i',i',i',i',i',i',i',i',i',i',i',i',i',i',i'] rfl rfl (any_of HT_.out (by kernel_rfl)) (fun _ _ _ h => h) (Or.inl ⟨by rfl, ?_⟩) ?_ ?_
               rotate_left;·intro w';go_simp;with_reducible rfl
               rotate_left;·simp only [Act.put, la_, lz_, ls_, i64_w, i32_w];rfl
               refine done_ (done_of HT_.out (by kernel_rfl)) ?_
               have Nji19_ := Aside0.mk hji19
               clear hji19
               (try clear hji19w)
               try go_wp2
               have hji19 := Nji19_.out
               clear Nji19_
               (try have hji19w := (i64_w _).trans hji19)
               go_ret
               exact ⟨by first | rfl | (simp [errW_none, errW_some] <;> rfl) | (simp only [← hji19]; first | rfl | (simp [errW_none, errW_some] <;> rfl)) | (simp [*, errW_none, errW_some] <;> rfl), hs_ HB GE108⟩
             ·rw [if_neg c21] at H
              exact absurd H (by simp)
            ·rw [if_neg c20] at H
             exact absurd H (by simp)
           ·rw [if_neg c18] at H
            have c18b0 : decide (0 < x3_1) = false := decide_eq_false c18
            clear c18
            have H' := Aside0.mk H
            clear H
            have p107 : 0 ≤ (x3_1 : Int) := of_decide_eq_true as_
            have q107 : x3_1 < (l0.length : Int) := of_decide_eq_true as_
            obtain ⟨ad107, e107, hx107_0, hx107_1, hx107_2, hx107_3, hx107_4⟩ := at_T113 HR0.out x3_1 p107 q107
            cases e107
            replace hx107_0 := (HB.out.cell (World.block_lt_of_cell? w _ hx107_0)).trans hx107_0
            replace hx107_1 := (HB.out.cell (World.block_lt_of_cell? w _ hx107_1)).trans hx107_1
            replace hx107_2 := (HB.out.cell (World.block_lt_of_cell? w _ hx107_2)).trans hx107_2
            replace hx107_3 := (HB.out.cell (World.block_lt_of_cell? w _ hx107_3)).trans hx107_3
            replace hx107_4 := (HB.out.cell (World.block_lt_of_cell? w _ hx107_4)).trans hx107_4
            replace p107 := eq_true p107
            replace q107 := eq_true q107
            try go_wp2_with (first | ((with_reducible refine gate_dst (N := 4) rfl ?_); refine box_event ?hg (N := 4) ?hd (cs := #[.string (⟨#[]⟩ : ByteArray), .int .i64 0, .int .i64 0, .int .i64 0, .int .i64 0]) (t := 113) ?hr ?_; (case hd => rfl); (case hg => rfl); (case hr => first | (go_simp; done) | (go_simp; rfl)); intro gb108 hg w31 hbox hb; have n0_ := Aside0.mk (below_step (hb_ HB) hb); have n1_ := Aside0.mk (hbox); have n2_ := Aside0.mk ((by rw [hg]; exact (below_size (hb_ HB)) : w.heap.size ≤ gb108)); have n3_ := Aside0.mk ((by rw [hg]; exact (below_size (hb_ HB)) : w.heap.size ≤ gb108)); clear HB; have HB := n0_; have BK108 := n1_; have GW108 := n2_; have GE108 := n3_; clear n0_ n1_ n2_ n3_; clear hb hbox hg; have hcz32_0 : w31.cell? ⟨gb108, 0, none⟩ = some (.string (⟨#[]⟩ : ByteArray)) := (blk_cell BK108.out 0).trans rfl; have hcz32_1 : w31.cell? ⟨gb108, 1, none⟩ = some (.int .i64 0) := (blk_cell BK108.out 1).trans rfl; have hcz32_2 : w31.cell? ⟨gb108, 2, none⟩ = some (.int .i64 0) := (blk_cell BK108.out 2).trans rfl; have hcz32_3 : w31.cell? ⟨gb108, 3, none⟩ = some (.int .i64 0) := (blk_cell BK108.out 3).trans rfl; have hcz32_4 : w31.cell? ⟨gb108, 4, none⟩ = some (.int .i64 0) := (blk_cell BK108.out 4).trans rfl; have hfz32_0 := blk_frozen BK108.out 0; have hfz32_1 := blk_frozen BK108.out 1; have hfz32_2 := blk_frozen BK108.out 2; have hfz32_3 := blk_frozen BK108.out 3; have hfz32_4 := blk_frozen BK108.out 4))
            have n0_ : Aside0 ((((((w31.setCell ⟨gb108, 0, none⟩ (.string ((rd_T113 l0 x3_1).f0))).setCell ⟨gb108, 1, none⟩ (.int .i64 ((rd_T113 l0 x3_1).f1))).setCell ⟨gb108, 2, none⟩ (.int .i64 ((rd_T113 l0 x3_1).f2))).setCell ⟨gb108, 3, none⟩ (.int .i64 ((rd_T113 l0 x3_1).f3))).setCell ⟨gb108, 4, none⟩ (.int .i64 ((rd_T113 l0 x3_1).f4))).heap[gb108]? = some (.cells #[.string ((rd_T113 l0 x3_1).f0), .int .i64 ((rd_T113 l0 x3_1).f1), .int .i64 ((rd_T113 l0 x3_1).f2), .int .i64 ((rd_T113 l0 x3_1).f3), .int .i64 ((rd_T113 l0 x3_1).f4)] 113 (0, 0))) := ⟨by (with_reducible repeat (first | refine blk_drewN ?_ _ | refine blk_drew ?_ | refine blk_alloc ?_ _)); refine blk_put (cs := #[.string ((rd_T113 l0 x3_1).f0), .int .i64 ((rd_T113 l0 x3_1).f1), .int .i64 ((rd_T113 l0 x3_1).f2), .int .i64 ((rd_T113 l0 x3_1).f3), .int .i64 0]) ?_ 4 _ rfl; (with_reducible repeat (first | refine blk_drewN ?_ _ | refine blk_drew ?_ | refine blk_alloc ?_ _)); refine blk_put (cs := #[.string ((rd_T113 l0 x3_1).f0), .int .i64 ((rd_T113 l0 x3_1).f1), .int .i64 ((rd_T113 l0 x3_1).f2), .int .i64 0, .int .i64 0]) ?_ 3 _ rfl; (with_reducible repeat (first | refine blk_drewN ?_ _ | refine blk_drew ?_ | refine blk_alloc ?_ _)); refine blk_put (cs := #[.string ((rd_T113 l0 x3_1).f0), .int .i64 ((rd_T113 l0 x3_1).f1), .int .i64 0, .int .i64 0, .int .i64 0]) ?_ 2 _ rfl; (with_reducible repeat (first | refine blk_drewN ?_ _ | refine blk_drew ?_ | refine blk_alloc ?_ _)); refine blk_put (cs := #[.string ((rd_T113 l0 x3_1).f0), .int .i64 0, .int .i64 0, .int .i64 0, .int .i64 0]) ?_ 1 _ rfl; (with_reducible repeat (first | refine blk_drewN ?_ _ | refine blk_drew ?_ | refine blk_alloc ?_ _)); refine blk_put (cs := #[.string (⟨#[]⟩ : ByteArray), .int .i64 0, .int .i64 0, .int .i64 0, .int .i64 0]) ?_ 0 _ rfl; (with_reducible repeat (first | refine blk_drewN ?_ _ | refine blk_drew ?_ | refine blk_alloc ?_ _)); exact BK108.out⟩
            have n1_ : Aside0 (Below w.heap.size w (((((w31.setCell ⟨gb108, 0, none⟩ (.string ((rd_T113 l0 x3_1).f0))).setCell ⟨gb108, 1, none⟩ (.int .i64 ((rd_T113 l0 x3_1).f1))).setCell ⟨gb108, 2, none⟩ (.int .i64 ((rd_T113 l0 x3_1).f2))).setCell ⟨gb108, 3, none⟩ (.int .i64 ((rd_T113 l0 x3_1).f3))).setCell ⟨gb108, 4, none⟩ (.int .i64 ((rd_T113 l0 x3_1).f4)))) := ⟨hs_ HB GE108⟩
            (try clear BK108)
            (try clear HB)
            generalize (((((w31.setCell ⟨gb108, 0, none⟩ (.string ((rd_T113 l0 x3_1).f0))).setCell ⟨gb108, 1, none⟩ (.int .i64 ((rd_T113 l0 x3_1).f1))).setCell ⟨gb108, 2, none⟩ (.int .i64 ((rd_T113 l0 x3_1).f2))).setCell ⟨gb108, 3, none⟩ (.int .i64 ((rd_T113 l0 x3_1).f3))).setCell ⟨gb108, 4, none⟩ (.int .i64 ((rd_T113 l0 x3_1).f4))) = w33 at n0_ n1_ ⊢
            have BK108 := n0_
            have HB := n1_
            clear n0_ n1_
            have n0_ := Aside0.mk (blk_drew BK108.out)
            have n1_ := Aside0.mk (below_drew1 HB.out)
            clear BK108
            clear HB
            have BK108 := n0_
            have HB := n1_
            clear n0_ n1_
            refine start_ (n := 42) (S := fun w' => w'.cell? ⟨gb108, 0, none⟩ = some (.string ((rd_T113 l0 x3_1).f0)) ∧ w'.cell? ⟨gb108, 1, none⟩ = some (.int .i64 ((rd_T113 l0 x3_1).f1)) ∧ w'.cell? ⟨gb108, 2, none⟩ = some (.int .i64 ((rd_T113 l0 x3_1).f2)) ∧ w'.cell? ⟨gb108, 3, none⟩ = some (.int .i64 ((rd_T113 l0 x3_1).f3)) ∧ w'.cell? ⟨gb108, 4, none⟩ = some (.int .i64 ((rd_T113 l0 x3_1).f4))) (ds := []) #[o',o',o',o',o',o',o',o',o',o',o',o',o',o',o',o',o',o',o',o',o',o',o',o',o',o',o',o',o',o',o',o',o',o',o',o',o',o',o',o',o',o'] (by kernel_rfl) rfl rfl ⟨(blk_cell BK108.out 0).trans rfl, (blk_cell BK108.out 1).trans rfl, (blk_cell BK108.out 2).trans rfl, (blk_cell BK108.out 3).trans rfl, (blk_cell BK108.out 4).trans rfl⟩ (fun hHeld => ?_); refine with_tabW spec_DirOk.tab7 spec_DirOk.bits7 (fun HT_ HW_ => ?_)
            generalize w33.drew = w34 at BK108 HB hHeld ⊢
            refine pure_ (i := 0) (N := some 18) (v := ?_) (a' := ?_) #[i',o',o',o',o',o',o',o',o',o',o',o',o',o',o',o',o',o',o',o',o',o',o',o',o',o',o',o',o',o',o',o',o',o',o',o',o',o',o',o',o',o'] rfl rfl (any_of HT_.out (by kernel_rfl)) (fun _ _ _ h => h) (Or.inl ⟨by rfl, ?_⟩) ?_ ?_
            rotate_left;·intro w';go_simp;with_reducible rfl
            rotate_left;·simp only [Act.put, la_, lz_, ls_, i64_w, i32_w];rfl
            refine take_ (i := 1) (N := some 19) (v := ?_) (a' := ?_) #[i',i',o',o',o',o',o',o',o',o',o',o',o',o',o',o',o',o',o',o',o',o',o',o',o',o',o',o',o',o',o',o',o',o',o',o',o',o',o',o',o',o'] rfl rfl (take_ofW HT_.out HW_.out (by kernel_rfl)) (fun _ _ _ h => h) (Or.inl ⟨by rfl, ?_⟩) hHeld ?_ ?_
            rotate_left
            ·rintro w' ⟨s0, s1, s2, s3, s4⟩
             go_simp
             with_reducible rfl
            rotate_left
            ·simp only [Act.put, la_, lz_, ls_, i64_w, i32_w]
             rfl
            refine one_ (i := 2) (N := some 20) #[i',i',i',o',o',o',o',o',o',o',o',o',o',o',o',o',o',o',o',o',o',o',o',o',o',o',o',o',o',o',o',o',o',o',o',o',o',o',o',o',o',o'] rfl rfl (one_of HT_.out (by kernel_rfl)) (by decide) (fun K hK => ?_)
            refine goes_ Try.func106 (by kernel_rfl) rfl #[.string ((rd_T113 l0 x3_1).f0)] (by rfl) rfl rfl ar_ ?_
            with_reducible refine (spec_KeyOk.calls ((rd_T113 l0 x3_1).f0) true _ A5.out).mono ?_
            rintro e w' ⟨rfl, ⟨nd, rfl⟩⟩
            refine ⟨_, rfl, ?_⟩
            refine hK.out _ _ ⟨(blk_cell BK108.out 0).trans rfl, (blk_cell BK108.out 1).trans rfl, (blk_cell BK108.out 2).trans rfl, (blk_cell BK108.out 3).trans rfl, (blk_cell BK108.out 4).trans rfl⟩ (fun hHeld => ?_)
            clear hK K
            refine norm_ (a' := ?_) ?_ ?_
            rotate_left
            ·show Act.put _ (some 20) _ = _
             simp only [Act.put, la_, lz_, ls_, i64_w, i32_w]
             rfl
            refine pure_ (i := 3) (N := some 21) (v := ?_) (a' := ?_) #[i',i',i',i',o',o',o',o',o',o',o',o',o',o',o',o',o',o',o',o',o',o',o',o',o',o',o',o',o',o',o',o',o',o',o',o',o',o',o',o',o',o'] rfl rfl (any_of HT_.out (by kernel_rfl)) (fun _ _ _ h => h) (Or.inl ⟨by rfl, ?_⟩) ?_ ?_
            rotate_left;·intro w';go_simp;with_reducible rfl
            rotate_left;·simp only [Act.put, la_, lz_, ls_, i64_w, i32_w];rfl
            refine pure_ (i := 4) (N := some 22) (v := ?_) (a' := ?_) #[i',i',i',i',i',o',o',o',o',o',o',o',o',o',o',o',o',o',o',o',o',o',o',o',o',o',o',o',o',o',o',o',o',o',o',o',o',o',o',o',o',o'] rfl rfl (any_of HT_.out (by kernel_rfl)) (fun _ _ _ h => h) (Or.inl ⟨by rfl, ?_⟩) ?_ ?_
            rotate_left;·intro w';go_simp;with_reducible rfl
            rotate_left;·simp only [Act.put, la_, lz_, ls_, i64_w, i32_w];rfl
            refine pure_ (i := 5) (N := some 23) (v := ?_) (a' := ?_) #[i',i',i',i',i',i',o',o',o',o',o',o',o',o',o',o',o',o',o',o',o',o',o',o',o',o',o',o',o',o',o',o',o',o',o',o',o',o',o',o',o',o'] rfl rfl (any_of HT_.out (by kernel_rfl)) (fun _ _ _ h => h) (Or.inl ⟨by rfl, ?_⟩) ?_ ?_
            rotate_left;·intro w';go_simp;with_reducible rfl
            rotate_left;·simp only [Act.put, la_, lz_, ls_, i64_w, i32_w];rfl
            refine take_ (i := 6) (N := some 24) (v := ?_) (a' := ?_) #[i',i',i',i',i',i',i',o',o',o',o',o',o',o',o',o',o',o',o',o',o',o',o',o',o',o',o',o',o',o',o',o',o',o',o',o',o',o',o',o',o',o'] rfl rfl (take_ofW HT_.out HW_.out (by kernel_rfl)) (fun _ _ _ h => h) (Or.inl ⟨by rfl, ?_⟩) hHeld ?_ ?_
            rotate_left
            ·rintro w' ⟨s0, s1, s2, s3, s4⟩
             go_simp
             with_reducible rfl
            rotate_left
            ·simp only [Act.put, la_, lz_, ls_, i64_w, i32_w]
             rfl
            refine one_ (i := 7) (N := some 25) #[i',i',i',i',i',i',i',i',o',o',o',o',o',o',o',o',o',o',o',o',o',o',o',o',o',o',o',o',o',o',o',o',o',o',o',o',o',o',o',o',o',o'] rfl rfl (one_of HT_.out (by kernel_rfl)) (by decide) (fun K hK => ?_)
            refine goes_ Try.func64 (by kernel_rfl) rfl #[.int .i64 ((rd_T113 l0 x3_1).f1), .int .i64 1, .int .i64 100000] (by rfl) rfl rfl ar_ ?_
            with_reducible refine (spec_l1In.calls ((rd_T113 l0 x3_1).f1) 1 100000 true _ A7.out).mono ?_
            rintro e w' ⟨rfl, ⟨nd, rfl⟩⟩
            refine ⟨_, rfl, ?_⟩
            refine hK.out _ _ ⟨(blk_cell BK108.out 0).trans rfl, (blk_cell BK108.out 1).trans rfl, (blk_cell BK108.out 2).trans rfl, (blk_cell BK108.out 3).trans rfl, (blk_cell BK108.out 4).trans rfl⟩ (fun hHeld => ?_)
            clear hK K
            refine norm_ (a' := ?_) ?_ ?_
            rotate_left
            ·show Act.put _ (some 25) _ = _
             simp only [Act.put, la_, lz_, ls_, i64_w, i32_w]
             rfl
            refine pure_ (i := 8) (N := some 26) (v := ?_) (a' := ?_) #[i',i',i',i',i',i',i',i',i',o',o',o',o',o',o',o',o',o',o',o',o',o',o',o',o',o',o',o',o',o',o',o',o',o',o',o',o',o',o',o',o',o'] rfl rfl (any_of HT_.out (by kernel_rfl)) (fun _ _ _ h => h) (Or.inl ⟨by rfl, ?_⟩) ?_ ?_
            rotate_left;·intro w';go_simp;with_reducible rfl
            rotate_left;·simp only [Act.put, la_, lz_, ls_, i64_w, i32_w];rfl
            refine pure_ (i := 9) (N := some 27) (v := ?_) (a' := ?_) #[i',i',i',i',i',i',i',i',i',i',o',o',o',o',o',o',o',o',o',o',o',o',o',o',o',o',o',o',o',o',o',o',o',o',o',o',o',o',o',o',o',o'] rfl rfl (any_of HT_.out (by kernel_rfl)) (fun _ _ _ h => h) (Or.inl ⟨by rfl, ?_⟩) ?_ ?_
            rotate_left;·intro w';go_simp;with_reducible rfl
            rotate_left;·simp only [Act.put, la_, lz_, ls_, i64_w, i32_w];rfl
            refine pure_ (i := 10) (N := some 28) (v := ?_) (a' := ?_) #[i',i',i',i',i',i',i',i',i',i',i',o',o',o',o',o',o',o',o',o',o',o',o',o',o',o',o',o',o',o',o',o',o',o',o',o',o',o',o',o',o',o'] rfl rfl (any_of HT_.out (by kernel_rfl)) (fun _ _ _ h => h) (Or.inl ⟨by rfl, ?_⟩) ?_ ?_
            rotate_left;·intro w';go_simp;with_reducible rfl
            rotate_left;·simp only [Act.put, la_, lz_, ls_, i64_w, i32_w];rfl
            refine pure_ (i := 11) (N := some 29) (v := ?_) (a' := ?_) #[i',i',i',i',i',i',i',i',i',i',i',i',o',o',o',o',o',o',o',o',o',o',o',o',o',o',o',o',o',o',o',o',o',o',o',o',o',o',o',o',o',o'] rfl rfl (any_of HT_.out (by kernel_rfl)) (fun _ _ _ h => h) (Or.inl ⟨by rfl, ?_⟩) ?_ ?_
            rotate_left;·intro w';go_simp;with_reducible rfl
            rotate_left;·simp only [Act.put, la_, lz_, ls_, i64_w, i32_w];rfl
            refine take_ (i := 12) (N := some 30) (v := ?_) (a' := ?_) #[i',i',i',i',i',i',i',i',i',i',i',i',i',o',o',o',o',o',o',o',o',o',o',o',o',o',o',o',o',o',o',o',o',o',o',o',o',o',o',o',o',o'] rfl rfl (take_ofW HT_.out HW_.out (by kernel_rfl)) (fun _ _ _ h => h) (Or.inl ⟨by rfl, ?_⟩) hHeld ?_ ?_
            rotate_left
            ·rintro w' ⟨s0, s1, s2, s3, s4⟩
             go_simp
             with_reducible rfl
            rotate_left
            ·simp only [Act.put, la_, lz_, ls_, i64_w, i32_w]
             rfl
            refine pure_ (i := 13) (N := some 31) (v := ?_) (a' := ?_) #[i',i',i',i',i',i',i',i',i',i',i',i',i',i',o',o',o',o',o',o',o',o',o',o',o',o',o',o',o',o',o',o',o',o',o',o',o',o',o',o',o',o'] rfl rfl (any_of HT_.out (by kernel_rfl)) (fun _ _ _ h => h) (Or.inl ⟨by rfl, ?_⟩) ?_ ?_
            rotate_left;·intro w';go_simp;with_reducible rfl
            rotate_left;·simp only [Act.put, la_, lz_, ls_, i64_w, i32_w];rfl
            refine pure_ (i := 14) (N := some 32) (v := ?_) (a' := ?_) #[i',i',i',i',i',i',i',i',i',i',i',i',i',i',i',o',o',o',o',o',o',o',o',o',o',o',o',o',o',o',o',o',o',o',o',o',o',o',o',o',o',o'] rfl rfl (any_of HT_.out (by kernel_rfl)) (fun _ _ _ h => h) (Or.inl ⟨by rfl, ?_⟩) ?_ ?_
            rotate_left;·intro w';go_simp;with_reducible rfl
            rotate_left;·simp only [Act.put, la_, lz_, ls_, i64_w, i32_w];rfl
            refine pure_ (i := 15) (N := some 33) (v := ?_) (a' := ?_) #[i',i',i',i',i',i',i',i',i',i',i',i',i',i',i',i',o',o',o',o',o',o',o',o',o',o',o',o',o',o',o',o',o',o',o',o',o',o',o',o',o',o'] rfl rfl (any_of HT_.out (by kernel_rfl)) (fun _ _ _ h => h) (Or.inl ⟨by rfl, ?_⟩) ?_ ?_
            rotate_left;·intro w';go_simp;with_reducible rfl
            rotate_left;·simp only [Act.put, la_, lz_, ls_, i64_w, i32_w];rfl
            refine pure_ (i := 16) (N := some 34) (v := ?_) (a' := ?_) #[i',i',i',i',i',i',i',i',i',i',i',i',i',i',i',i',i',o',o',o',o',o',o',o',o',o',o',o',o',o',o',o',o',o',o',o',o',o',o',o',o',o'] rfl rfl (any_of HT_.out (by kernel_rfl)) (fun _ _ _ h => h) (Or.inl ⟨by rfl, ?_⟩) ?_ ?_
            rotate_left;·intro w';go_simp;with_reducible rfl
            rotate_left;·simp only [Act.put, la_, lz_, ls_, i64_w, i32_w];rfl
            refine take_ (i := 17) (N := some 35) (v := ?_) (a' := ?_) #[i',i',i',i',i',i',i',i',i',i',i',i',i',i',i',i',i',i',o',o',o',o',o',o',o',o',o',o',o',o',o',o',o',o',o',o',o',o',o',o',o',o'] rfl rfl (take_ofW HT_.out HW_.out (by kernel_rfl)) (fun _ _ _ h => h) (Or.inl ⟨by rfl, ?_⟩) hHeld ?_ ?_
            rotate_left
            ·rintro w' ⟨s0, s1, s2, s3, s4⟩
             go_simp
             with_reducible rfl
            rotate_left
            ·simp only [Act.put, la_, lz_, ls_, i64_w, i32_w]
             rfl
            refine one_ (i := 18) (N := some 36) #[i',i',i',i',i',i',i',i',i',i',i',i',i',i',i',i',i',i',i',o',o',o',o',o',o',o',o',o',o',o',o',o',o',o',o',o',o',o',o',o',o',o'] rfl rfl (one_of HT_.out (by kernel_rfl)) (by decide) (fun K hK => ?_)
            refine goes_ Try.func64 (by kernel_rfl) rfl #[.int .i64 ((rd_T113 l0 x3_1).f3), .int .i64 1, .int .i64 210] (by rfl) rfl rfl ar_ ?_
            with_reducible refine (spec_l1In.calls ((rd_T113 l0 x3_1).f3) 1 210 true _ A14.out).mono ?_
            rintro e w' ⟨rfl, ⟨nd, rfl⟩⟩
            refine ⟨_, rfl, ?_⟩
            refine hK.out _ _ ⟨(blk_cell BK108.out 0).trans rfl, (blk_cell BK108.out 1).trans rfl, (blk_cell BK108.out 2).trans rfl, (blk_cell BK108.out 3).trans rfl, (blk_cell BK108.out 4).trans rfl⟩ (fun hHeld => ?_)
            clear hK K
            refine norm_ (a' := ?_) ?_ ?_
            rotate_left
            ·show Act.put _ (some 36) _ = _
             simp only [Act.put, la_, lz_, ls_, i64_w, i32_w]
             rfl
            refine pure_ (i := 19) (N := some 37) (v := ?_) (a' := ?_) #[i',i',i',i',i',i',i',i',i',i',i',i',i',i',i',i',i',i',i',i',o',o',o',o',o',o',o',o',o',o',o',o',o',o',o',o',o',o',o',o',o',o'] rfl rfl (any_of HT_.out (by kernel_rfl)) (fun _ _ _ h => h) (Or.inl ⟨by rfl, ?_⟩) ?_ ?_
            rotate_left;·intro w';go_simp;with_reducible rfl
            rotate_left;·simp only [Act.put, la_, lz_, ls_, i64_w, i32_w];rfl
            refine pure_ (i := 20) (N := some 38) (v := ?_) (a' := ?_) #[i',i',i',i',i',i',i',i',i',i',i',i',i',i',i',i',i',i',i',i',i',o',o',o',o',o',o',o',o',o',o',o',o',o',o',o',o',o',o',o',o',o'] rfl rfl (any_of HT_.out (by kernel_rfl)) (fun _ _ _ h => h) (Or.inl ⟨by rfl, ?_⟩) ?_ ?_
            rotate_left;·intro w';go_simp;with_reducible rfl
            rotate_left;·simp only [Act.put, la_, lz_, ls_, i64_w, i32_w];rfl
            refine pure_ (i := 21) (N := some 39) (v := ?_) (a' := ?_) #[i',i',i',i',i',i',i',i',i',i',i',i',i',i',i',i',i',i',i',i',i',i',o',o',o',o',o',o',o',o',o',o',o',o',o',o',o',o',o',o',o',o'] rfl rfl (any_of HT_.out (by kernel_rfl)) (fun _ _ _ h => h) (Or.inl ⟨by rfl, ?_⟩) ?_ ?_
            rotate_left;·intro w';go_simp;with_reducible rfl
            rotate_left;·simp only [Act.put, la_, lz_, ls_, i64_w, i32_w];rfl
            refine pure_ (i := 22) (N := some 40) (v := ?_) (a' := ?_) #[i',i',i',i',i',i',i',i',i',i',i',i',i',i',i',i',i',i',i',i',i',i',i',o',o',o',o',o',o',o',o',o',o',o',o',o',o',o',o',o',o',o'] rfl rfl (any_of HT_.out (by kernel_rfl)) (fun _ _ _ h => h) (Or.inl ⟨by rfl, ?_⟩) ?_ ?_
            rotate_left;·intro w';go_simp;with_reducible rfl
            rotate_left;·simp only [Act.put, la_, lz_, ls_, i64_w, i32_w];rfl
            refine take_ (i := 23) (N := some 41) (v := ?_) (a' := ?_) #[i',i',i',i',i',i',i',i',i',i',i',i',i',i',i',i',i',i',i',i',i',i',i',i',o',o',o',o',o',o',o',o',o',o',o',o',o',o',o',o',o',o'] rfl rfl (take_ofW HT_.out HW_.out (by kernel_rfl)) (fun _ _ _ h => h) (Or.inl ⟨by rfl, ?_⟩) hHeld ?_ ?_
            rotate_left
            ·rintro w' ⟨s0, s1, s2, s3, s4⟩
             go_simp
             with_reducible rfl
            rotate_left
            ·simp only [Act.put, la_, lz_, ls_, i64_w, i32_w]
             rfl
            refine one_ (i := 24) (N := some 42) #[i',i',i',i',i',i',i',i',i',i',i',i',i',i',i',i',i',i',i',i',i',i',i',i',i',o',o',o',o',o',o',o',o',o',o',o',o',o',o',o',o',o'] rfl rfl (one_of HT_.out (by kernel_rfl)) (by decide) (fun K hK => ?_)
            refine goes_ Try.func64 (by kernel_rfl) rfl #[.int .i64 ((rd_T113 l0 x3_1).f4), .int .i64 1, .int .i64 1000000] (by rfl) rfl rfl ar_ ?_
            with_reducible refine (spec_l1In.calls ((rd_T113 l0 x3_1).f4) 1 1000000 true _ A16.out).mono ?_
            rintro e w' ⟨rfl, ⟨nd, rfl⟩⟩
            refine ⟨_, rfl, ?_⟩
            refine hK.out _ _ ⟨(blk_cell BK108.out 0).trans rfl, (blk_cell BK108.out 1).trans rfl, (blk_cell BK108.out 2).trans rfl, (blk_cell BK108.out 3).trans rfl, (blk_cell BK108.out 4).trans rfl⟩ (fun hHeld => ?_)
            clear hK K
            refine norm_ (a' := ?_) ?_ ?_
            rotate_left
            ·show Act.put _ (some 42) _ = _
             simp only [Act.put, la_, lz_, ls_, i64_w, i32_w]
             rfl
            refine pure_ (i := 25) (N := some 43) (v := ?_) (a' := ?_) #[i',i',i',i',i',i',i',i',i',i',i',i',i',i',i',i',i',i',i',i',i',i',i',i',i',i',o',o',o',o',o',o',o',o',o',o',o',o',o',o',o',o'] rfl rfl (any_of HT_.out (by kernel_rfl)) (fun _ _ _ h => h) (Or.inl ⟨by rfl, ?_⟩) ?_ ?_
            rotate_left;·intro w';go_simp;with_reducible rfl
            rotate_left;·simp only [Act.put, la_, lz_, ls_, i64_w, i32_w];rfl
            refine pure_ (i := 26) (N := some 44) (v := ?_) (a' := ?_) #[i',i',i',i',i',i',i',i',i',i',i',i',i',i',i',i',i',i',i',i',i',i',i',i',i',i',i',o',o',o',o',o',o',o',o',o',o',o',o',o',o',o'] rfl rfl (any_of HT_.out (by kernel_rfl)) (fun _ _ _ h => h) (Or.inl ⟨by rfl, ?_⟩) ?_ ?_
            rotate_left;·intro w';go_simp;with_reducible rfl
            rotate_left;·simp only [Act.put, la_, lz_, ls_, i64_w, i32_w];rfl
            refine pure_ (i := 27) (N := some 45) (v := ?_) (a' := ?_) #[i',i',i',i',i',i',i',i',i',i',i',i',i',i',i',i',i',i',i',i',i',i',i',i',i',i',i',i',o',o',o',o',o',o',o',o',o',o',o',o',o',o'] rfl rfl (any_of HT_.out (by kernel_rfl)) (fun _ _ _ h => h) (Or.inl ⟨by rfl, ?_⟩) ?_ ?_
            rotate_left;·intro w';go_simp;with_reducible rfl
            rotate_left;·simp only [Act.put, la_, lz_, ls_, i64_w, i32_w];rfl
            refine pure_ (i := 28) (N := some 46) (v := ?_) (a' := ?_) #[i',i',i',i',i',i',i',i',i',i',i',i',i',i',i',i',i',i',i',i',i',i',i',i',i',i',i',i',i',o',o',o',o',o',o',o',o',o',o',o',o',o'] rfl rfl (any_of HT_.out (by kernel_rfl)) (fun _ _ _ h => h) (Or.inl ⟨by rfl, ?_⟩) ?_ ?_
            rotate_left;·intro w';go_simp;with_reducible rfl
            rotate_left;·simp only [Act.put, la_, lz_, ls_, i64_w, i32_w];rfl
            refine pure_ (i := 29) (N := some 47) (v := ?_) (a' := ?_) #[i',i',i',i',i',i',i',i',i',i',i',i',i',i',i',i',i',i',i',i',i',i',i',i',i',i',i',i',i',i',o',o',o',o',o',o',o',o',o',o',o',o'] rfl rfl (any_of HT_.out (by kernel_rfl)) (fun _ _ _ h => h) (Or.inl ⟨by rfl, ?_⟩) ?_ ?_
            rotate_left;·intro w';go_simp;with_reducible rfl
            rotate_left;·simp only [Act.put, la_, lz_, ls_, i64_w, i32_w];rfl
            refine pure_ (i := 30) (N := some 48) (v := ?_) (a' := ?_) #[i',i',i',i',i',i',i',i',i',i',i',i',i',i',i',i',i',i',i',i',i',i',i',i',i',i',i',i',i',i',i',o',o',o',o',o',o',o',o',o',o',o'] rfl rfl (any_of HT_.out (by kernel_rfl)) (fun _ _ _ h => h) (Or.inl ⟨by rfl, ?_⟩) ?_ ?_
            rotate_left;·intro w';go_simp;with_reducible rfl
            rotate_left;·simp only [Act.put, la_, lz_, ls_, i64_w, i32_w];rfl
            refine pure_ (i := 31) (N := some 49) (v := undef) (a' := ?_) #[i',i',i',i',i',i',i',i',i',i',i',i',i',i',i',i',i',i',i',i',i',i',i',i',i',i',i',i',i',i',i',i',o',o',o',o',o',o',o',o',o',o'] rfl rfl (any_of HT_.out (by kernel_rfl)) (fun _ _ _ h => h) (Or.inr ⟨by rfl, rfl⟩) ?_ ?_
            rotate_left
            ·simp only [Act.put, la_, lz_, ls_, i64_w, i32_w]
             rfl
            refine pure_ (i := 32) (N := some 50) (v := undef) (a' := ?_) #[i',i',i',i',i',i',i',i',i',i',i',i',i',i',i',i',i',i',i',i',i',i',i',i',i',i',i',i',i',i',i',i',i',o',o',o',o',o',o',o',o',o'] rfl rfl (any_of HT_.out (by kernel_rfl)) (fun _ _ _ h => h) (Or.inr ⟨by rfl, rfl⟩) ?_ ?_
            rotate_left
            ·simp only [Act.put, la_, lz_, ls_, i64_w, i32_w]
             rfl
            refine pure_ (i := 33) (N := some 51) (v := undef) (a' := ?_) #[i',i',i',i',i',i',i',i',i',i',i',i',i',i',i',i',i',i',i',i',i',i',i',i',i',i',i',i',i',i',i',i',i',i',o',o',o',o',o',o',o',o'] rfl rfl (any_of HT_.out (by kernel_rfl)) (fun _ _ _ h => h) (Or.inr ⟨by rfl, rfl⟩) ?_ ?_
            rotate_left
            ·simp only [Act.put, la_, lz_, ls_, i64_w, i32_w]
             rfl
            refine pure_ (i := 34) (N := some 52) (v := undef) (a' := ?_) #[i',i',i',i',i',i',i',i',i',i',i',i',i',i',i',i',i',i',i',i',i',i',i',i',i',i',i',i',i',i',i',i',i',i',i',o',o',o',o',o',o',o'] rfl rfl (any_of HT_.out (by kernel_rfl)) (fun _ _ _ h => h) (Or.inr ⟨by rfl, rfl⟩) ?_ ?_
            rotate_left
            ·simp only [Act.put, la_, lz_, ls_, i64_w, i32_w]
             rfl
            refine pure_ (i := 35) (N := some 53) (v := undef) (a' := ?_) #[i',i',i',i',i',i',i',i',i',i',i',i',i',i',i',i',i',i',i',i',i',i',i',i',i',i',i',i',i',i',i',i',i',i',i',i',o',o',o',o',o',o'] rfl rfl (any_of HT_.out (by kernel_rfl)) (fun _ _ _ h => h) (Or.inr ⟨by rfl, rfl⟩) ?_ ?_
            rotate_left
            ·simp only [Act.put, la_, lz_, ls_, i64_w, i32_w]
             rfl
            refine pure_ (i := 36) (N := some 54) (v := undef) (a' := ?_) #[i',i',i',i',i',i',i',i',i',i',i',i',i',i',i',i',i',i',i',i',i',i',i',i',i',i',i',i',i',i',i',i',i',i',i',i',i',o',o',o',o',o'] rfl rfl (any_of HT_.out (by kernel_rfl)) (fun _ _ _ h => h) (Or.inr ⟨by rfl, rfl⟩) ?_ ?_
            rotate_left
            ·simp only [Act.put, la_, lz_, ls_, i64_w, i32_w]
             rfl
            refine pure_ (i := 37) (N := some 55) (v := undef) (a' := ?_) #[i',i',i',i',i',i',i',i',i',i',i',i',i',i',i',i',i',i',i',i',i',i',i',i',i',i',i',i',i',i',i',i',i',i',i',i',i',i',o',o',o',o'] rfl rfl (any_of HT_.out (by kernel_rfl)) (fun _ _ _ h => h) (Or.inr ⟨by rfl, rfl⟩) ?_ ?_
            rotate_left
            ·simp only [Act.put, la_, lz_, ls_, i64_w, i32_w]
             rfl
            refine pure_ (i := 38) (N := some 56) (v := undef) (a' := ?_) #[i',i',i',i',i',i',i',i',i',i',i',i',i',i',i',i',i',i',i',i',i',i',i',i',i',i',i',i',i',i',i',i',i',i',i',i',i',i',i',o',o',o'] rfl rfl (any_of HT_.out (by kernel_rfl)) (fun _ _ _ h => h) (Or.inr ⟨by rfl, rfl⟩) ?_ ?_
            rotate_left
            ·simp only [Act.put, la_, lz_, ls_, i64_w, i32_w]
             rfl
            refine pure_ (i := 39) (N := some 57) (v := undef) (a' := ?_) #[i',i',i',i',i',i',i',i',i',i',i',i',i',i',i',i',i',i',i',i',i',i',i',i',i',i',i',i',i',i',i',i',i',i',i',i',i',i',i',i',o',o'] rfl rfl (any_of HT_.out (by kernel_rfl)) (fun _ _ _ h => h) (Or.inr ⟨by rfl, rfl⟩) ?_ ?_
            rotate_left
            ·simp only [Act.put, la_, lz_, ls_, i64_w, i32_w]
             rfl
            refine pure_ (i := 40) (N := some 58) (v := ?_) (a' := ?_) #[i',i',i',i',i',i',i',i',i',i',i',i',i',i',i',i',i',i',i',i',i',i',i',i',i',i',i',i',i',i',i',i',i',i',i',i',i',i',i',i',i',o'] rfl rfl (any_of HT_.out (by kernel_rfl)) (fun _ _ _ h => h) (Or.inl ⟨by rfl, ?_⟩) ?_ ?_
            rotate_left;·intro w';go_simp;with_reducible rfl
            rotate_left;·simp only [Act.put, la_, lz_, ls_, i64_w, i32_w];rfl
            refine pure_ (i := 41) (N := some 59) (v := ?_) (a' := ?_) #[i',i',i',i',i',i',i',i',i',i',i',i',i',i',i',i',i',i',i',i',i',i',i',i',i',i',i',i',i',i',i',i',i',i',i',i',i',i',i',i',i',i'] rfl rfl (any_of HT_.out (by kernel_rfl)) (fun _ _ _ h => h) (Or.inl ⟨by rfl, ?_⟩) ?_ ?_
            rotate_left;·intro w';go_simp;with_reducible rfl
            rotate_left;·simp only [Act.put, la_, lz_, ls_, i64_w, i32_w];rfl
            refine done_ (done_of HT_.out (by kernel_rfl)) ?_
            try go_wp2
            go_roundg k1
            case measure => have := HK1.out; first | exact this | exact Nat.le_of_succ_le this | exact Nat.le_refl _ | omega
            case rel => exact ⟨(wrap64 (x3_1 + 1)), rs_, H', ⟨by have := HK1.out; first | exact this | exact Nat.le_of_succ_le this | exact Nat.le_refl _ | omega⟩, ⟨hs_ HB GE108⟩⟩
          ·replace c17 := Bool.eq_false_iff.mpr c17
           subst c17
           have H1 : (some false) = some r := by rw [if_neg (show ¬ (false = true) by decide)] at H; exact H
           clear H
           have H := H1
           clear H1
           obtain rfl := Option.some.inj H
           have p107 : 0 ≤ (x3_1 : Int) := of_decide_eq_true as_
           have q107 : x3_1 < (l0.length : Int) := of_decide_eq_true as_
           obtain ⟨ad107, e107, hx107_0, hx107_1, hx107_2, hx107_3, hx107_4⟩ := at_T113 HR0.out x3_1 p107 q107
           cases e107
           replace hx107_0 := (HB.out.cell (World.block_lt_of_cell? w _ hx107_0)).trans hx107_0
           replace hx107_1 := (HB.out.cell (World.block_lt_of_cell? w _ hx107_1)).trans hx107_1
           replace hx107_2 := (HB.out.cell (World.block_lt_of_cell? w _ hx107_2)).trans hx107_2
           replace hx107_3 := (HB.out.cell (World.block_lt_of_cell? w _ hx107_3)).trans hx107_3
           replace hx107_4 := (HB.out.cell (World.block_lt_of_cell? w _ hx107_4)).trans hx107_4
           replace p107 := eq_true p107
           replace q107 := eq_true q107
           try go_wp2_with (first | ((with_reducible refine gate_dst (N := 4) rfl ?_); refine box_event ?hg (N := 4) ?hd (cs := #[.string (⟨#[]⟩ : ByteArray), .int .i64 0, .int .i64 0, .int .i64 0, .int .i64 0]) (t := 113) ?hr ?_; (case hd => rfl); (case hg => rfl); (case hr => first | (go_simp; done) | (go_simp; rfl)); intro gb108 hg w35 hbox hb; have n0_ := Aside0.mk (below_step (hb_ HB) hb); have n1_ := Aside0.mk (hbox); have n2_ := Aside0.mk ((by rw [hg]; exact (below_size (hb_ HB)) : w.heap.size ≤ gb108)); have n3_ := Aside0.mk ((by rw [hg]; exact (below_size (hb_ HB)) : w.heap.size ≤ gb108)); clear HB; have HB := n0_; have BK108 := n1_; have GW108 := n2_; have GE108 := n3_; clear n0_ n1_ n2_ n3_; clear hb hbox hg; have hcz36_0 : w35.cell? ⟨gb108, 0, none⟩ = some (.string (⟨#[]⟩ : ByteArray)) := (blk_cell BK108.out 0).trans rfl; have hcz36_1 : w35.cell? ⟨gb108, 1, none⟩ = some (.int .i64 0) := (blk_cell BK108.out 1).trans rfl; have hcz36_2 : w35.cell? ⟨gb108, 2, none⟩ = some (.int .i64 0) := (blk_cell BK108.out 2).trans rfl; have hcz36_3 : w35.cell? ⟨gb108, 3, none⟩ = some (.int .i64 0) := (blk_cell BK108.out 3).trans rfl; have hcz36_4 : w35.cell? ⟨gb108, 4, none⟩ = some (.int .i64 0) := (blk_cell BK108.out 4).trans rfl; have hfz36_0 := blk_frozen BK108.out 0; have hfz36_1 := blk_frozen BK108.out 1; have hfz36_2 := blk_frozen BK108.out 2; have hfz36_3 := blk_frozen BK108.out 3; have hfz36_4 := blk_frozen BK108.out 4))
           have n0_ : Aside0 ((((((w35.setCell ⟨gb108, 0, none⟩ (.string ((rd_T113 l0 x3_1).f0))).setCell ⟨gb108, 1, none⟩ (.int .i64 ((rd_T113 l0 x3_1).f1))).setCell ⟨gb108, 2, none⟩ (.int .i64 ((rd_T113 l0 x3_1).f2))).setCell ⟨gb108, 3, none⟩ (.int .i64 ((rd_T113 l0 x3_1).f3))).setCell ⟨gb108, 4, none⟩ (.int .i64 ((rd_T113 l0 x3_1).f4))).heap[gb108]? = some (.cells #[.string ((rd_T113 l0 x3_1).f0), .int .i64 ((rd_T113 l0 x3_1).f1), .int .i64 ((rd_T113 l0 x3_1).f2), .int .i64 ((rd_T113 l0 x3_1).f3), .int .i64 ((rd_T113 l0 x3_1).f4)] 113 (0, 0))) := ⟨by (with_reducible repeat (first | refine blk_drewN ?_ _ | refine blk_drew ?_ | refine blk_alloc ?_ _)); refine blk_put (cs := #[.string ((rd_T113 l0 x3_1).f0), .int .i64 ((rd_T113 l0 x3_1).f1), .int .i64 ((rd_T113 l0 x3_1).f2), .int .i64 ((rd_T113 l0 x3_1).f3), .int .i64 0]) ?_ 4 _ rfl; (with_reducible repeat (first | refine blk_drewN ?_ _ | refine blk_drew ?_ | refine blk_alloc ?_ _)); refine blk_put (cs := #[.string ((rd_T113 l0 x3_1).f0), .int .i64 ((rd_T113 l0 x3_1).f1), .int .i64 ((rd_T113 l0 x3_1).f2), .int .i64 0, .int .i64 0]) ?_ 3 _ rfl; (with_reducible repeat (first | refine blk_drewN ?_ _ | refine blk_drew ?_ | refine blk_alloc ?_ _)); refine blk_put (cs := #[.string ((rd_T113 l0 x3_1).f0), .int .i64 ((rd_T113 l0 x3_1).f1), .int .i64 0, .int .i64 0, .int .i64 0]) ?_ 2 _ rfl; (with_reducible repeat (first | refine blk_drewN ?_ _ | refine blk_drew ?_ | refine blk_alloc ?_ _)); refine blk_put (cs := #[.string ((rd_T113 l0 x3_1).f0), .int .i64 0, .int .i64 0, .int .i64 0, .int .i64 0]) ?_ 1 _ rfl; (with_reducible repeat (first | refine blk_drewN ?_ _ | refine blk_drew ?_ | refine blk_alloc ?_ _)); refine blk_put (cs := #[.string (⟨#[]⟩ : ByteArray), .int .i64 0, .int .i64 0, .int .i64 0, .int .i64 0]) ?_ 0 _ rfl; (with_reducible repeat (first | refine blk_drewN ?_ _ | refine blk_drew ?_ | refine blk_alloc ?_ _)); exact BK108.out⟩
           have n1_ : Aside0 (Below w.heap.size w (((((w35.setCell ⟨gb108, 0, none⟩ (.string ((rd_T113 l0 x3_1).f0))).setCell ⟨gb108, 1, none⟩ (.int .i64 ((rd_T113 l0 x3_1).f1))).setCell ⟨gb108, 2, none⟩ (.int .i64 ((rd_T113 l0 x3_1).f2))).setCell ⟨gb108, 3, none⟩ (.int .i64 ((rd_T113 l0 x3_1).f3))).setCell ⟨gb108, 4, none⟩ (.int .i64 ((rd_T113 l0 x3_1).f4)))) := ⟨hs_ HB GE108⟩
           (try clear BK108)
           (try clear HB)
           generalize (((((w35.setCell ⟨gb108, 0, none⟩ (.string ((rd_T113 l0 x3_1).f0))).setCell ⟨gb108, 1, none⟩ (.int .i64 ((rd_T113 l0 x3_1).f1))).setCell ⟨gb108, 2, none⟩ (.int .i64 ((rd_T113 l0 x3_1).f2))).setCell ⟨gb108, 3, none⟩ (.int .i64 ((rd_T113 l0 x3_1).f3))).setCell ⟨gb108, 4, none⟩ (.int .i64 ((rd_T113 l0 x3_1).f4))) = w37 at n0_ n1_ ⊢
           have BK108 := n0_
           have HB := n1_
           clear n0_ n1_
           have n0_ := Aside0.mk (blk_drew BK108.out)
           have n1_ := Aside0.mk (below_drew1 HB.out)
           clear BK108
           clear HB
           have BK108 := n0_
           have HB := n1_
           clear n0_ n1_
           refine start_ (n := 42) (S := fun w' => w'.cell? ⟨gb108, 0, none⟩ = some (.string ((rd_T113 l0 x3_1).f0)) ∧ w'.cell? ⟨gb108, 1, none⟩ = some (.int .i64 ((rd_T113 l0 x3_1).f1)) ∧ w'.cell? ⟨gb108, 2, none⟩ = some (.int .i64 ((rd_T113 l0 x3_1).f2)) ∧ w'.cell? ⟨gb108, 3, none⟩ = some (.int .i64 ((rd_T113 l0 x3_1).f3)) ∧ w'.cell? ⟨gb108, 4, none⟩ = some (.int .i64 ((rd_T113 l0 x3_1).f4))) (ds := []) #[o',o',o',o',o',o',o',o',o',o',o',o',o',o',o',o',o',o',o',o',o',o',o',o',o',o',o',o',o',o',o',o',o',o',o',o',o',o',o',o',o',o'] (by kernel_rfl) rfl rfl ⟨(blk_cell BK108.out 0).trans rfl, (blk_cell BK108.out 1).trans rfl, (blk_cell BK108.out 2).trans rfl, (blk_cell BK108.out 3).trans rfl, (blk_cell BK108.out 4).trans rfl⟩ (fun hHeld => ?_); refine with_tabW spec_DirOk.tab7 spec_DirOk.bits7 (fun HT_ HW_ => ?_)
           generalize w37.drew = w38 at BK108 HB hHeld ⊢
           refine pure_ (i := 0) (N := some 18) (v := ?_) (a' := ?_) #[i',o',o',o',o',o',o',o',o',o',o',o',o',o',o',o',o',o',o',o',o',o',o',o',o',o',o',o',o',o',o',o',o',o',o',o',o',o',o',o',o',o'] rfl rfl (any_of HT_.out (by kernel_rfl)) (fun _ _ _ h => h) (Or.inl ⟨by rfl, ?_⟩) ?_ ?_
           rotate_left;·intro w';go_simp;with_reducible rfl
           rotate_left;·simp only [Act.put, la_, lz_, ls_, i64_w, i32_w];rfl
           refine take_ (i := 1) (N := some 19) (v := ?_) (a' := ?_) #[i',i',o',o',o',o',o',o',o',o',o',o',o',o',o',o',o',o',o',o',o',o',o',o',o',o',o',o',o',o',o',o',o',o',o',o',o',o',o',o',o',o'] rfl rfl (take_ofW HT_.out HW_.out (by kernel_rfl)) (fun _ _ _ h => h) (Or.inl ⟨by rfl, ?_⟩) hHeld ?_ ?_
           rotate_left
           ·rintro w' ⟨s0, s1, s2, s3, s4⟩
            go_simp
            with_reducible rfl
           rotate_left
           ·simp only [Act.put, la_, lz_, ls_, i64_w, i32_w]
            rfl
           refine one_ (i := 2) (N := some 20) #[i',i',i',o',o',o',o',o',o',o',o',o',o',o',o',o',o',o',o',o',o',o',o',o',o',o',o',o',o',o',o',o',o',o',o',o',o',o',o',o',o',o'] rfl rfl (one_of HT_.out (by kernel_rfl)) (by decide) (fun K hK => ?_)
           refine goes_ Try.func106 (by kernel_rfl) rfl #[.string ((rd_T113 l0 x3_1).f0)] (by rfl) rfl rfl ar_ ?_
           with_reducible refine (spec_KeyOk.calls ((rd_T113 l0 x3_1).f0) true _ A5.out).mono ?_
           rintro e w' ⟨rfl, ⟨nd, rfl⟩⟩
           refine ⟨_, rfl, ?_⟩
           refine hK.out _ _ ⟨(blk_cell BK108.out 0).trans rfl, (blk_cell BK108.out 1).trans rfl, (blk_cell BK108.out 2).trans rfl, (blk_cell BK108.out 3).trans rfl, (blk_cell BK108.out 4).trans rfl⟩ (fun hHeld => ?_)
           clear hK K
           refine norm_ (a' := ?_) ?_ ?_
           rotate_left
           ·show Act.put _ (some 20) _ = _
            simp only [Act.put, la_, lz_, ls_, i64_w, i32_w]
            rfl
           refine pure_ (i := 3) (N := some 21) (v := ?_) (a' := ?_) #[i',i',i',i',o',o',o',o',o',o',o',o',o',o',o',o',o',o',o',o',o',o',o',o',o',o',o',o',o',o',o',o',o',o',o',o',o',o',o',o',o',o'] rfl rfl (any_of HT_.out (by kernel_rfl)) (fun _ _ _ h => h) (Or.inl ⟨by rfl, ?_⟩) ?_ ?_
           rotate_left;·intro w';go_simp;with_reducible rfl
           rotate_left;·simp only [Act.put, la_, lz_, ls_, i64_w, i32_w];rfl
           refine pure_ (i := 4) (N := some 22) (v := ?_) (a' := ?_) #[i',i',i',i',i',o',o',o',o',o',o',o',o',o',o',o',o',o',o',o',o',o',o',o',o',o',o',o',o',o',o',o',o',o',o',o',o',o',o',o',o',o'] rfl rfl (any_of HT_.out (by kernel_rfl)) (fun _ _ _ h => h) (Or.inl ⟨by rfl, ?_⟩) ?_ ?_
           rotate_left;·intro w';go_simp;with_reducible rfl
           rotate_left;·simp only [Act.put, la_, lz_, ls_, i64_w, i32_w];rfl
           refine pure_ (i := 5) (N := some 23) (v := ?_) (a' := ?_) #[i',i',i',i',i',i',o',o',o',o',o',o',o',o',o',o',o',o',o',o',o',o',o',o',o',o',o',o',o',o',o',o',o',o',o',o',o',o',o',o',o',o'] rfl rfl (any_of HT_.out (by kernel_rfl)) (fun _ _ _ h => h) (Or.inl ⟨by rfl, ?_⟩) ?_ ?_
           rotate_left;·intro w';go_simp;with_reducible rfl
           rotate_left;·simp only [Act.put, la_, lz_, ls_, i64_w, i32_w];rfl
           refine take_ (i := 6) (N := some 24) (v := ?_) (a' := ?_) #[i',i',i',i',i',i',i',o',o',o',o',o',o',o',o',o',o',o',o',o',o',o',o',o',o',o',o',o',o',o',o',o',o',o',o',o',o',o',o',o',o',o'] rfl rfl (take_ofW HT_.out HW_.out (by kernel_rfl)) (fun _ _ _ h => h) (Or.inl ⟨by rfl, ?_⟩) hHeld ?_ ?_
           rotate_left
           ·rintro w' ⟨s0, s1, s2, s3, s4⟩
            go_simp
            with_reducible rfl
           rotate_left
           ·simp only [Act.put, la_, lz_, ls_, i64_w, i32_w]
            rfl
           refine one_ (i := 7) (N := some 25) #[i',i',i',i',i',i',i',i',o',o',o',o',o',o',o',o',o',o',o',o',o',o',o',o',o',o',o',o',o',o',o',o',o',o',o',o',o',o',o',o',o',o'] rfl rfl (one_of HT_.out (by kernel_rfl)) (by decide) (fun K hK => ?_)
           refine goes_ Try.func64 (by kernel_rfl) rfl #[.int .i64 ((rd_T113 l0 x3_1).f1), .int .i64 1, .int .i64 100000] (by rfl) rfl rfl ar_ ?_
           with_reducible refine (spec_l1In.calls ((rd_T113 l0 x3_1).f1) 1 100000 true _ A7.out).mono ?_
           rintro e w' ⟨rfl, ⟨nd, rfl⟩⟩
           refine ⟨_, rfl, ?_⟩
           refine hK.out _ _ ⟨(blk_cell BK108.out 0).trans rfl, (blk_cell BK108.out 1).trans rfl, (blk_cell BK108.out 2).trans rfl, (blk_cell BK108.out 3).trans rfl, (blk_cell BK108.out 4).trans rfl⟩ (fun hHeld => ?_)
           clear hK K
           refine norm_ (a' := ?_) ?_ ?_
           rotate_left
           ·show Act.put _ (some 25) _ = _
            simp only [Act.put, la_, lz_, ls_, i64_w, i32_w]
            rfl
           refine pure_ (i := 8) (N := some 26) (v := ?_) (a' := ?_) #[i',i',i',i',i',i',i',i',i',o',o',o',o',o',o',o',o',o',o',o',o',o',o',o',o',o',o',o',o',o',o',o',o',o',o',o',o',o',o',o',o',o'] rfl rfl (any_of HT_.out (by kernel_rfl)) (fun _ _ _ h => h) (Or.inl ⟨by rfl, ?_⟩) ?_ ?_
           rotate_left;·intro w';go_simp;with_reducible rfl
           rotate_left;·simp only [Act.put, la_, lz_, ls_, i64_w, i32_w];rfl
           refine pure_ (i := 9) (N := some 27) (v := ?_) (a' := ?_) #[i',i',i',i',i',i',i',i',i',i',o',o',o',o',o',o',o',o',o',o',o',o',o',o',o',o',o',o',o',o',o',o',o',o',o',o',o',o',o',o',o',o'] rfl rfl (any_of HT_.out (by kernel_rfl)) (fun _ _ _ h => h) (Or.inl ⟨by rfl, ?_⟩) ?_ ?_
           rotate_left;·intro w';go_simp;with_reducible rfl
           rotate_left;·simp only [Act.put, la_, lz_, ls_, i64_w, i32_w];rfl
           refine pure_ (i := 10) (N := some 28) (v := ?_) (a' := ?_) #[i',i',i',i',i',i',i',i',i',i',i',o',o',o',o',o',o',o',o',o',o',o',o',o',o',o',o',o',o',o',o',o',o',o',o',o',o',o',o',o',o',o'] rfl rfl (any_of HT_.out (by kernel_rfl)) (fun _ _ _ h => h) (Or.inl ⟨by rfl, ?_⟩) ?_ ?_
           rotate_left;·intro w';go_simp;with_reducible rfl
           rotate_left;·simp only [Act.put, la_, lz_, ls_, i64_w, i32_w];rfl
           refine pure_ (i := 11) (N := some 29) (v := ?_) (a' := ?_) #[i',i',i',i',i',i',i',i',i',i',i',i',o',o',o',o',o',o',o',o',o',o',o',o',o',o',o',o',o',o',o',o',o',o',o',o',o',o',o',o',o',o'] rfl rfl (any_of HT_.out (by kernel_rfl)) (fun _ _ _ h => h) (Or.inl ⟨by rfl, ?_⟩) ?_ ?_
           rotate_left;·intro w';go_simp;with_reducible rfl
           rotate_left;·simp only [Act.put, la_, lz_, ls_, i64_w, i32_w];rfl
           refine take_ (i := 12) (N := some 30) (v := ?_) (a' := ?_) #[i',i',i',i',i',i',i',i',i',i',i',i',i',o',o',o',o',o',o',o',o',o',o',o',o',o',o',o',o',o',o',o',o',o',o',o',o',o',o',o',o',o'] rfl rfl (take_ofW HT_.out HW_.out (by kernel_rfl)) (fun _ _ _ h => h) (Or.inl ⟨by rfl, ?_⟩) hHeld ?_ ?_
           rotate_left
           ·rintro w' ⟨s0, s1, s2, s3, s4⟩
            go_simp
            with_reducible rfl
           rotate_left
           ·simp only [Act.put, la_, lz_, ls_, i64_w, i32_w]
            rfl
           refine pure_ (i := 13) (N := some 31) (v := ?_) (a' := ?_) #[i',i',i',i',i',i',i',i',i',i',i',i',i',i',o',o',o',o',o',o',o',o',o',o',o',o',o',o',o',o',o',o',o',o',o',o',o',o',o',o',o',o'] rfl rfl (any_of HT_.out (by kernel_rfl)) (fun _ _ _ h => h) (Or.inl ⟨by rfl, ?_⟩) ?_ ?_
           rotate_left;·intro w';go_simp;with_reducible rfl
           rotate_left;·simp only [Act.put, la_, lz_, ls_, i64_w, i32_w];rfl
           refine pure_ (i := 14) (N := some 32) (v := ?_) (a' := ?_) #[i',i',i',i',i',i',i',i',i',i',i',i',i',i',i',o',o',o',o',o',o',o',o',o',o',o',o',o',o',o',o',o',o',o',o',o',o',o',o',o',o',o'] rfl rfl (any_of HT_.out (by kernel_rfl)) (fun _ _ _ h => h) (Or.inl ⟨by rfl, ?_⟩) ?_ ?_
           rotate_left;·intro w';go_simp;with_reducible rfl
           rotate_left;·simp only [Act.put, la_, lz_, ls_, i64_w, i32_w];rfl
           refine pure_ (i := 15) (N := some 33) (v := ?_) (a' := ?_) #[i',i',i',i',i',i',i',i',i',i',i',i',i',i',i',i',o',o',o',o',o',o',o',o',o',o',o',o',o',o',o',o',o',o',o',o',o',o',o',o',o',o'] rfl rfl (any_of HT_.out (by kernel_rfl)) (fun _ _ _ h => h) (Or.inl ⟨by rfl, ?_⟩) ?_ ?_
           rotate_left;·intro w';go_simp;with_reducible rfl
           rotate_left;·simp only [Act.put, la_, lz_, ls_, i64_w, i32_w];rfl
           refine pure_ (i := 16) (N := some 34) (v := ?_) (a' := ?_) #[i',i',i',i',i',i',i',i',i',i',i',i',i',i',i',i',i',o',o',o',o',o',o',o',o',o',o',o',o',o',o',o',o',o',o',o',o',o',o',o',o',o'] rfl rfl (any_of HT_.out (by kernel_rfl)) (fun _ _ _ h => h) (Or.inl ⟨by rfl, ?_⟩) ?_ ?_
           rotate_left;·intro w';go_simp;with_reducible rfl
           rotate_left;·simp only [Act.put, la_, lz_, ls_, i64_w, i32_w];rfl
           refine take_ (i := 17) (N := some 35) (v := ?_) (a' := ?_) #[i',i',i',i',i',i',i',i',i',i',i',i',i',i',i',i',i',i',o',o',o',o',o',o',o',o',o',o',o',o',o',o',o',o',o',o',o',o',o',o',o',o'] rfl rfl (take_ofW HT_.out HW_.out (by kernel_rfl)) (fun _ _ _ h => h) (Or.inl ⟨by rfl, ?_⟩) hHeld ?_ ?_
           rotate_left
           ·rintro w' ⟨s0, s1, s2, s3, s4⟩
            go_simp
            with_reducible rfl
           rotate_left
           ·simp only [Act.put, la_, lz_, ls_, i64_w, i32_w]
            rfl
           refine one_ (i := 18) (N := some 36) #[i',i',i',i',i',i',i',i',i',i',i',i',i',i',i',i',i',i',i',o',o',o',o',o',o',o',o',o',o',o',o',o',o',o',o',o',o',o',o',o',o',o'] rfl rfl (one_of HT_.out (by kernel_rfl)) (by decide) (fun K hK => ?_)
           refine goes_ Try.func64 (by kernel_rfl) rfl #[.int .i64 ((rd_T113 l0 x3_1).f3), .int .i64 1, .int .i64 210] (by rfl) rfl rfl ar_ ?_
           with_reducible refine (spec_l1In.calls ((rd_T113 l0 x3_1).f3) 1 210 true _ A14.out).mono ?_
           rintro e w' ⟨rfl, ⟨nd, rfl⟩⟩
           refine ⟨_, rfl, ?_⟩
           refine hK.out _ _ ⟨(blk_cell BK108.out 0).trans rfl, (blk_cell BK108.out 1).trans rfl, (blk_cell BK108.out 2).trans rfl, (blk_cell BK108.out 3).trans rfl, (blk_cell BK108.out 4).trans rfl⟩ (fun hHeld => ?_)
           clear hK K
           refine norm_ (a' := ?_) ?_ ?_
           rotate_left
           ·show Act.put _ (some 36) _ = _
            simp only [Act.put, la_, lz_, ls_, i64_w, i32_w]
            rfl
           refine pure_ (i := 19) (N := some 37) (v := ?_) (a' := ?_) #[i',i',i',i',i',i',i',i',i',i',i',i',i',i',i',i',i',i',i',i',o',o',o',o',o',o',o',o',o',o',o',o',o',o',o',o',o',o',o',o',o',o'] rfl rfl (any_of HT_.out (by kernel_rfl)) (fun _ _ _ h => h) (Or.inl ⟨by rfl, ?_⟩) ?_ ?_
           rotate_left;·intro w';go_simp;with_reducible rfl
           rotate_left;·simp only [Act.put, la_, lz_, ls_, i64_w, i32_w];rfl
           refine pure_ (i := 20) (N := some 38) (v := ?_) (a' := ?_) #[i',i',i',i',i',i',i',i',i',i',i',i',i',i',i',i',i',i',i',i',i',o',o',o',o',o',o',o',o',o',o',o',o',o',o',o',o',o',o',o',o',o'] rfl rfl (any_of HT_.out (by kernel_rfl)) (fun _ _ _ h => h) (Or.inl ⟨by rfl, ?_⟩) ?_ ?_
           rotate_left;·intro w';go_simp;with_reducible rfl
           rotate_left;·simp only [Act.put, la_, lz_, ls_, i64_w, i32_w];rfl
           refine pure_ (i := 21) (N := some 39) (v := ?_) (a' := ?_) #[i',i',i',i',i',i',i',i',i',i',i',i',i',i',i',i',i',i',i',i',i',i',o',o',o',o',o',o',o',o',o',o',o',o',o',o',o',o',o',o',o',o'] rfl rfl (any_of HT_.out (by kernel_rfl)) (fun _ _ _ h => h) (Or.inl ⟨by rfl, ?_⟩) ?_ ?_
           rotate_left;·intro w';go_simp;with_reducible rfl
           rotate_left;·simp only [Act.put, la_, lz_, ls_, i64_w, i32_w];rfl
           refine pure_ (i := 22) (N := some 40) (v := ?_) (a' := ?_) #[i',i',i',i',i',i',i',i',i',i',i',i',i',i',i',i',i',i',i',i',i',i',i',o',o',o',o',o',o',o',o',o',o',o',o',o',o',o',o',o',o',o'] rfl rfl (any_of HT_.out (by kernel_rfl)) (fun _ _ _ h => h) (Or.inl ⟨by rfl, ?_⟩) ?_ ?_
           rotate_left;·intro w';go_simp;with_reducible rfl
           rotate_left;·simp only [Act.put, la_, lz_, ls_, i64_w, i32_w];rfl
           refine take_ (i := 23) (N := some 41) (v := ?_) (a' := ?_) #[i',i',i',i',i',i',i',i',i',i',i',i',i',i',i',i',i',i',i',i',i',i',i',i',o',o',o',o',o',o',o',o',o',o',o',o',o',o',o',o',o',o'] rfl rfl (take_ofW HT_.out HW_.out (by kernel_rfl)) (fun _ _ _ h => h) (Or.inl ⟨by rfl, ?_⟩) hHeld ?_ ?_
           rotate_left
           ·rintro w' ⟨s0, s1, s2, s3, s4⟩
            go_simp
            with_reducible rfl
           rotate_left
           ·simp only [Act.put, la_, lz_, ls_, i64_w, i32_w]
            rfl
           refine one_ (i := 24) (N := some 42) #[i',i',i',i',i',i',i',i',i',i',i',i',i',i',i',i',i',i',i',i',i',i',i',i',i',o',o',o',o',o',o',o',o',o',o',o',o',o',o',o',o',o'] rfl rfl (one_of HT_.out (by kernel_rfl)) (by decide) (fun K hK => ?_)
           refine goes_ Try.func64 (by kernel_rfl) rfl #[.int .i64 ((rd_T113 l0 x3_1).f4), .int .i64 1, .int .i64 1000000] (by rfl) rfl rfl ar_ ?_
           with_reducible refine (spec_l1In.calls ((rd_T113 l0 x3_1).f4) 1 1000000 false _ A16.out).mono ?_
           rintro e w' ⟨rfl, ⟨nd, rfl⟩⟩
           refine ⟨_, rfl, ?_⟩
           refine hK.out _ _ ⟨(blk_cell BK108.out 0).trans rfl, (blk_cell BK108.out 1).trans rfl, (blk_cell BK108.out 2).trans rfl, (blk_cell BK108.out 3).trans rfl, (blk_cell BK108.out 4).trans rfl⟩ (fun hHeld => ?_)
           clear hK K
           refine norm_ (a' := ?_) ?_ ?_
           rotate_left
           ·show Act.put _ (some 42) _ = _
            simp only [Act.put, la_, lz_, ls_, i64_w, i32_w]
            rfl
           refine pure_ (i := 25) (N := some 43) (v := ?_) (a' := ?_) #[i',i',i',i',i',i',i',i',i',i',i',i',i',i',i',i',i',i',i',i',i',i',i',i',i',i',o',o',o',o',o',o',o',o',o',o',o',o',o',o',o',o'] rfl rfl (any_of HT_.out (by kernel_rfl)) (fun _ _ _ h => h) (Or.inl ⟨by rfl, ?_⟩) ?_ ?_
           rotate_left;·intro w';go_simp;with_reducible rfl
           rotate_left;·simp only [Act.put, la_, lz_, ls_, i64_w, i32_w];rfl
           refine pure_ (i := 26) (N := some 44) (v := ?_) (a' := ?_) #[i',i',i',i',i',i',i',i',i',i',i',i',i',i',i',i',i',i',i',i',i',i',i',i',i',i',i',o',o',o',o',o',o',o',o',o',o',o',o',o',o',o'] rfl rfl (any_of HT_.out (by kernel_rfl)) (fun _ _ _ h => h) (Or.inl ⟨by rfl, ?_⟩) ?_ ?_
           rotate_left;·intro w';go_simp;with_reducible rfl
           rotate_left;·simp only [Act.put, la_, lz_, ls_, i64_w, i32_w];rfl
           refine pure_ (i := 27) (N := some 45) (v := ?_) (a' := ?_) #[i',i',i',i',i',i',i',i',i',i',i',i',i',i',i',i',i',i',i',i',i',i',i',i',i',i',i',i',o',o',o',o',o',o',o',o',o',o',o',o',o',o'] rfl rfl (any_of HT_.out (by kernel_rfl)) (fun _ _ _ h => h) (Or.inl ⟨by rfl, ?_⟩) ?_ ?_
           rotate_left;·intro w';go_simp;with_reducible rfl
           rotate_left;·simp only [Act.put, la_, lz_, ls_, i64_w, i32_w];rfl
           refine pure_ (i := 28) (N := some 46) (v := undef) (a' := ?_) #[i',i',i',i',i',i',i',i',i',i',i',i',i',i',i',i',i',i',i',i',i',i',i',i',i',i',i',i',i',o',o',o',o',o',o',o',o',o',o',o',o',o'] rfl rfl (any_of HT_.out (by kernel_rfl)) (fun _ _ _ h => h) (Or.inr ⟨by rfl, rfl⟩) ?_ ?_
           rotate_left
           ·simp only [Act.put, la_, lz_, ls_, i64_w, i32_w]
            rfl
           refine pure_ (i := 29) (N := some 47) (v := undef) (a' := ?_) #[i',i',i',i',i',i',i',i',i',i',i',i',i',i',i',i',i',i',i',i',i',i',i',i',i',i',i',i',i',i',o',o',o',o',o',o',o',o',o',o',o',o'] rfl rfl (any_of HT_.out (by kernel_rfl)) (fun _ _ _ h => h) (Or.inr ⟨by rfl, rfl⟩) ?_ ?_
           rotate_left
           ·simp only [Act.put, la_, lz_, ls_, i64_w, i32_w]
            rfl
           refine pure_ (i := 30) (N := some 48) (v := undef) (a' := ?_) #[i',i',i',i',i',i',i',i',i',i',i',i',i',i',i',i',i',i',i',i',i',i',i',i',i',i',i',i',i',i',i',o',o',o',o',o',o',o',o',o',o',o'] rfl rfl (any_of HT_.out (by kernel_rfl)) (fun _ _ _ h => h) (Or.inr ⟨by rfl, rfl⟩) ?_ ?_
           rotate_left
           ·simp only [Act.put, la_, lz_, ls_, i64_w, i32_w]
            rfl
           refine pure_ (i := 31) (N := some 49) (v := undef) (a' := ?_) #[i',i',i',i',i',i',i',i',i',i',i',i',i',i',i',i',i',i',i',i',i',i',i',i',i',i',i',i',i',i',i',i',o',o',o',o',o',o',o',o',o',o'] rfl rfl (any_of HT_.out (by kernel_rfl)) (fun _ _ _ h => h) (Or.inr ⟨by rfl, rfl⟩) ?_ ?_
           rotate_left
           ·simp only [Act.put, la_, lz_, ls_, i64_w, i32_w]
            rfl
           refine pure_ (i := 32) (N := some 50) (v := undef) (a' := ?_) #[i',i',i',i',i',i',i',i',i',i',i',i',i',i',i',i',i',i',i',i',i',i',i',i',i',i',i',i',i',i',i',i',i',o',o',o',o',o',o',o',o',o'] rfl rfl (any_of HT_.out (by kernel_rfl)) (fun _ _ _ h => h) (Or.inr ⟨by rfl, rfl⟩) ?_ ?_
           rotate_left
           ·simp only [Act.put, la_, lz_, ls_, i64_w, i32_w]
            rfl
           refine pure_ (i := 33) (N := some 51) (v := undef) (a' := ?_) #[i',i',i',i',i',i',i',i',i',i',i',i',i',i',i',i',i',i',i',i',i',i',i',i',i',i',i',i',i',i',i',i',i',i',o',o',o',o',o',o',o',o'] rfl rfl (any_of HT_.out (by kernel_rfl)) (fun _ _ _ h => h) (Or.inr ⟨by rfl, rfl⟩) ?_ ?_
           rotate_left
           ·simp only [Act.put, la_, lz_, ls_, i64_w, i32_w]
            rfl
           refine pure_ (i := 34) (N := some 52) (v := undef) (a' := ?_) #[i',i',i',i',i',i',i',i',i',i',i',i',i',i',i',i',i',i',i',i',i',i',i',i',i',i',i',i',i',i',i',i',i',i',i',o',o',o',o',o',o',o'] rfl rfl (any_of HT_.out (by kernel_rfl)) (fun _ _ _ h => h) (Or.inr ⟨by rfl, rfl⟩) ?_ ?_
           rotate_left
           ·simp only [Act.put, la_, lz_, ls_, i64_w, i32_w]
            rfl
           refine pure_ (i := 35) (N := some 53) (v := undef) (a' := ?_) #[i',i',i',i',i',i',i',i',i',i',i',i',i',i',i',i',i',i',i',i',i',i',i',i',i',i',i',i',i',i',i',i',i',i',i',i',o',o',o',o',o',o'] rfl rfl (any_of HT_.out (by kernel_rfl)) (fun _ _ _ h => h) (Or.inr ⟨by rfl, rfl⟩) ?_ ?_
           rotate_left
           ·simp only [Act.put, la_, lz_, ls_, i64_w, i32_w]
            rfl
           refine pure_ (i := 36) (N := some 54) (v := undef) (a' := ?_) #[i',i',i',i',i',i',i',i',i',i',i',i',i',i',i',i',i',i',i',i',i',i',i',i',i',i',i',i',i',i',i',i',i',i',i',i',i',o',o',o',o',o'] rfl rfl (any_of HT_.out (by kernel_rfl)) (fun _ _ _ h => h) (Or.inr ⟨by rfl, rfl⟩) ?_ ?_
           rotate_left
           ·simp only [Act.put, la_, lz_, ls_, i64_w, i32_w]
            rfl
           refine pure_ (i := 37) (N := some 55) (v := undef) (a' := ?_) #[i',i',i',i',i',i',i',i',i',i',i',i',i',i',i',i',i',i',i',i',i',i',i',i',i',i',i',i',i',i',i',i',i',i',i',i',i',i',o',o',o',o'] rfl rfl (any_of HT_.out (by kernel_rfl)) (fun _ _ _ h => h) (Or.inr ⟨by rfl, rfl⟩) ?_ ?_
           rotate_left
           ·simp only [Act.put, la_, lz_, ls_, i64_w, i32_w]
            rfl
           refine pure_ (i := 38) (N := some 56) (v := undef) (a' := ?_) #[i',i',i',i',i',i',i',i',i',i',i',i',i',i',i',i',i',i',i',i',i',i',i',i',i',i',i',i',i',i',i',i',i',i',i',i',i',i',i',o',o',o'] rfl rfl (any_of HT_.out (by kernel_rfl)) (fun _ _ _ h => h) (Or.inr ⟨by rfl, rfl⟩) ?_ ?_
           rotate_left
           ·simp only [Act.put, la_, lz_, ls_, i64_w, i32_w]
            rfl
           refine pure_ (i := 39) (N := some 57) (v := undef) (a' := ?_) #[i',i',i',i',i',i',i',i',i',i',i',i',i',i',i',i',i',i',i',i',i',i',i',i',i',i',i',i',i',i',i',i',i',i',i',i',i',i',i',i',o',o'] rfl rfl (any_of HT_.out (by kernel_rfl)) (fun _ _ _ h => h) (Or.inr ⟨by rfl, rfl⟩) ?_ ?_
           rotate_left
           ·simp only [Act.put, la_, lz_, ls_, i64_w, i32_w]
            rfl
           refine pure_ (i := 40) (N := some 58) (v := undef) (a' := ?_) #[i',i',i',i',i',i',i',i',i',i',i',i',i',i',i',i',i',i',i',i',i',i',i',i',i',i',i',i',i',i',i',i',i',i',i',i',i',i',i',i',i',o'] rfl rfl (any_of HT_.out (by kernel_rfl)) (fun _ _ _ h => h) (Or.inr ⟨by rfl, rfl⟩) ?_ ?_
           rotate_left
           ·simp only [Act.put, la_, lz_, ls_, i64_w, i32_w]
            rfl
           refine pure_ (i := 41) (N := some 59) (v := ?_) (a' := ?_) #[i',i',i',i',i',i',i',i',i',i',i',i',i',i',i',i',i',i',i',i',i',i',i',i',i',i',i',i',i',i',i',i',i',i',i',i',i',i',i',i',i',i'] rfl rfl (any_of HT_.out (by kernel_rfl)) (fun _ _ _ h => h) (Or.inl ⟨by rfl, ?_⟩) ?_ ?_
           rotate_left;·intro w';go_simp;with_reducible rfl
           rotate_left;·simp only [Act.put, la_, lz_, ls_, i64_w, i32_w];rfl
           refine done_ (done_of HT_.out (by kernel_rfl)) ?_
           try go_wp2
           go_ret
           exact ⟨re_, hs_ HB GE108⟩
         ·replace c15 := Bool.eq_false_iff.mpr c15
          subst c15
          have H1 : (some false) = some r := by rw [if_neg (show ¬ (false = true) by decide)] at H; exact H
          clear H
          have H := H1
          clear H1
          obtain rfl := Option.some.inj H
          have p107 : 0 ≤ (x3_1 : Int) := of_decide_eq_true as_
          have q107 : x3_1 < (l0.length : Int) := of_decide_eq_true as_
          obtain ⟨ad107, e107, hx107_0, hx107_1, hx107_2, hx107_3, hx107_4⟩ := at_T113 HR0.out x3_1 p107 q107
          cases e107
          replace hx107_0 := (HB.out.cell (World.block_lt_of_cell? w _ hx107_0)).trans hx107_0
          replace hx107_1 := (HB.out.cell (World.block_lt_of_cell? w _ hx107_1)).trans hx107_1
          replace hx107_2 := (HB.out.cell (World.block_lt_of_cell? w _ hx107_2)).trans hx107_2
          replace hx107_3 := (HB.out.cell (World.block_lt_of_cell? w _ hx107_3)).trans hx107_3
          replace hx107_4 := (HB.out.cell (World.block_lt_of_cell? w _ hx107_4)).trans hx107_4
          replace p107 := eq_true p107
          replace q107 := eq_true q107
          try go_wp2_with (first | ((with_reducible refine gate_dst (N := 4) rfl ?_); refine box_event ?hg (N := 4) ?hd (cs := #[.string (⟨#[]⟩ : ByteArray), .int .i64 0, .int .i64 0, .int .i64 0, .int .i64 0]) (t := 113) ?hr ?_; (case hd => rfl); (case hg => rfl); (case hr => first | (go_simp; done) | (go_simp; rfl)); intro gb108 hg w39 hbox hb; have n0_ := Aside0.mk (below_step (hb_ HB) hb); have n1_ := Aside0.mk (hbox); have n2_ := Aside0.mk ((by rw [hg]; exact (below_size (hb_ HB)) : w.heap.size ≤ gb108)); have n3_ := Aside0.mk ((by rw [hg]; exact (below_size (hb_ HB)) : w.heap.size ≤ gb108)); clear HB; have HB := n0_; have BK108 := n1_; have GW108 := n2_; have GE108 := n3_; clear n0_ n1_ n2_ n3_; clear hb hbox hg; have hcz40_0 : w39.cell? ⟨gb108, 0, none⟩ = some (.string (⟨#[]⟩ : ByteArray)) := (blk_cell BK108.out 0).trans rfl; have hcz40_1 : w39.cell? ⟨gb108, 1, none⟩ = some (.int .i64 0) := (blk_cell BK108.out 1).trans rfl; have hcz40_2 : w39.cell? ⟨gb108, 2, none⟩ = some (.int .i64 0) := (blk_cell BK108.out 2).trans rfl; have hcz40_3 : w39.cell? ⟨gb108, 3, none⟩ = some (.int .i64 0) := (blk_cell BK108.out 3).trans rfl; have hcz40_4 : w39.cell? ⟨gb108, 4, none⟩ = some (.int .i64 0) := (blk_cell BK108.out 4).trans rfl; have hfz40_0 := blk_frozen BK108.out 0; have hfz40_1 := blk_frozen BK108.out 1; have hfz40_2 := blk_frozen BK108.out 2; have hfz40_3 := blk_frozen BK108.out 3; have hfz40_4 := blk_frozen BK108.out 4))
          have n0_ : Aside0 ((((((w39.setCell ⟨gb108, 0, none⟩ (.string ((rd_T113 l0 x3_1).f0))).setCell ⟨gb108, 1, none⟩ (.int .i64 ((rd_T113 l0 x3_1).f1))).setCell ⟨gb108, 2, none⟩ (.int .i64 ((rd_T113 l0 x3_1).f2))).setCell ⟨gb108, 3, none⟩ (.int .i64 ((rd_T113 l0 x3_1).f3))).setCell ⟨gb108, 4, none⟩ (.int .i64 ((rd_T113 l0 x3_1).f4))).heap[gb108]? = some (.cells #[.string ((rd_T113 l0 x3_1).f0), .int .i64 ((rd_T113 l0 x3_1).f1), .int .i64 ((rd_T113 l0 x3_1).f2), .int .i64 ((rd_T113 l0 x3_1).f3), .int .i64 ((rd_T113 l0 x3_1).f4)] 113 (0, 0))) := ⟨by (with_reducible repeat (first | refine blk_drewN ?_ _ | refine blk_drew ?_ | refine blk_alloc ?_ _)); refine blk_put (cs := #[.string ((rd_T113 l0 x3_1).f0), .int .i64 ((rd_T113 l0 x3_1).f1), .int .i64 ((rd_T113 l0 x3_1).f2), .int .i64 ((rd_T113 l0 x3_1).f3), .int .i64 0]) ?_ 4 _ rfl; (with_reducible repeat (first | refine blk_drewN ?_ _ | refine blk_drew ?_ | refine blk_alloc ?_ _)); refine blk_put (cs := #[.string ((rd_T113 l0 x3_1).f0), .int .i64 ((rd_T113 l0 x3_1).f1), .int .i64 ((rd_T113 l0 x3_1).f2), .int .i64 0, .int .i64 0]) ?_ 3 _ rfl; (with_reducible repeat (first | refine blk_drewN ?_ _ | refine blk_drew ?_ | refine blk_alloc ?_ _)); refine blk_put (cs := #[.string ((rd_T113 l0 x3_1).f0), .int .i64 ((rd_T113 l0 x3_1).f1), .int .i64 0, .int .i64 0, .int .i64 0]) ?_ 2 _ rfl; (with_reducible repeat (first | refine blk_drewN ?_ _ | refine blk_drew ?_ | refine blk_alloc ?_ _)); refine blk_put (cs := #[.string ((rd_T113 l0 x3_1).f0), .int .i64 0, .int .i64 0, .int .i64 0, .int .i64 0]) ?_ 1 _ rfl; (with_reducible repeat (first | refine blk_drewN ?_ _ | refine blk_drew ?_ | refine blk_alloc ?_ _)); refine blk_put (cs := #[.string (⟨#[]⟩ : ByteArray), .int .i64 0, .int .i64 0, .int .i64 0, .int .i64 0]) ?_ 0 _ rfl; (with_reducible repeat (first | refine blk_drewN ?_ _ | refine blk_drew ?_ | refine blk_alloc ?_ _)); exact BK108.out⟩
          have n1_ : Aside0 (Below w.heap.size w (((((w39.setCell ⟨gb108, 0, none⟩ (.string ((rd_T113 l0 x3_1).f0))).setCell ⟨gb108, 1, none⟩ (.int .i64 ((rd_T113 l0 x3_1).f1))).setCell ⟨gb108, 2, none⟩ (.int .i64 ((rd_T113 l0 x3_1).f2))).setCell ⟨gb108, 3, none⟩ (.int .i64 ((rd_T113 l0 x3_1).f3))).setCell ⟨gb108, 4, none⟩ (.int .i64 ((rd_T113 l0 x3_1).f4)))) := ⟨hs_ HB GE108⟩
          (try clear BK108)
          (try clear HB)
          generalize (((((w39.setCell ⟨gb108, 0, none⟩ (.string ((rd_T113 l0 x3_1).f0))).setCell ⟨gb108, 1, none⟩ (.int .i64 ((rd_T113 l0 x3_1).f1))).setCell ⟨gb108, 2, none⟩ (.int .i64 ((rd_T113 l0 x3_1).f2))).setCell ⟨gb108, 3, none⟩ (.int .i64 ((rd_T113 l0 x3_1).f3))).setCell ⟨gb108, 4, none⟩ (.int .i64 ((rd_T113 l0 x3_1).f4))) = w41 at n0_ n1_ ⊢
          have BK108 := n0_
          have HB := n1_
          clear n0_ n1_
          have n0_ := Aside0.mk (blk_drew BK108.out)
          have n1_ := Aside0.mk (below_drew1 HB.out)
          clear BK108
          clear HB
          have BK108 := n0_
          have HB := n1_
          clear n0_ n1_
          refine start_ (n := 42) (S := fun w' => w'.cell? ⟨gb108, 0, none⟩ = some (.string ((rd_T113 l0 x3_1).f0)) ∧ w'.cell? ⟨gb108, 1, none⟩ = some (.int .i64 ((rd_T113 l0 x3_1).f1)) ∧ w'.cell? ⟨gb108, 2, none⟩ = some (.int .i64 ((rd_T113 l0 x3_1).f2)) ∧ w'.cell? ⟨gb108, 3, none⟩ = some (.int .i64 ((rd_T113 l0 x3_1).f3)) ∧ w'.cell? ⟨gb108, 4, none⟩ = some (.int .i64 ((rd_T113 l0 x3_1).f4))) (ds := []) #[o',o',o',o',o',o',o',o',o',o',o',o',o',o',o',o',o',o',o',o',o',o',o',o',o',o',o',o',o',o',o',o',o',o',o',o',o',o',o',o',o',o'] (by kernel_rfl) rfl rfl ⟨(blk_cell BK108.out 0).trans rfl, (blk_cell BK108.out 1).trans rfl, (blk_cell BK108.out 2).trans rfl, (blk_cell BK108.out 3).trans rfl, (blk_cell BK108.out 4).trans rfl⟩ (fun hHeld => ?_); refine with_tabW spec_DirOk.tab7 spec_DirOk.bits7 (fun HT_ HW_ => ?_)
          generalize w41.drew = w42 at BK108 HB hHeld ⊢
          refine pure_ (i := 0) (N := some 18) (v := ?_) (a' := ?_) #[i',o',o',o',o',o',o',o',o',o',o',o',o',o',o',o',o',o',o',o',o',o',o',o',o',o',o',o',o',o',o',o',o',o',o',o',o',o',o',o',o',o'] rfl rfl (any_of HT_.out (by kernel_rfl)) (fun _ _ _ h => h) (Or.inl ⟨by rfl, ?_⟩) ?_ ?_
          rotate_left;·intro w';go_simp;with_reducible rfl
          rotate_left;·simp only [Act.put, la_, lz_, ls_, i64_w, i32_w];rfl
          refine take_ (i := 1) (N := some 19) (v := ?_) (a' := ?_) #[i',i',o',o',o',o',o',o',o',o',o',o',o',o',o',o',o',o',o',o',o',o',o',o',o',o',o',o',o',o',o',o',o',o',o',o',o',o',o',o',o',o'] rfl rfl (take_ofW HT_.out HW_.out (by kernel_rfl)) (fun _ _ _ h => h) (Or.inl ⟨by rfl, ?_⟩) hHeld ?_ ?_
          rotate_left
          ·rintro w' ⟨s0, s1, s2, s3, s4⟩
           go_simp
           with_reducible rfl
          rotate_left
          ·simp only [Act.put, la_, lz_, ls_, i64_w, i32_w]
           rfl
          refine one_ (i := 2) (N := some 20) #[i',i',i',o',o',o',o',o',o',o',o',o',o',o',o',o',o',o',o',o',o',o',o',o',o',o',o',o',o',o',o',o',o',o',o',o',o',o',o',o',o',o'] rfl rfl (one_of HT_.out (by kernel_rfl)) (by decide) (fun K hK => ?_)
          refine goes_ Try.func106 (by kernel_rfl) rfl #[.string ((rd_T113 l0 x3_1).f0)] (by rfl) rfl rfl ar_ ?_
          with_reducible refine (spec_KeyOk.calls ((rd_T113 l0 x3_1).f0) true _ A5.out).mono ?_
          rintro e w' ⟨rfl, ⟨nd, rfl⟩⟩
          refine ⟨_, rfl, ?_⟩
          refine hK.out _ _ ⟨(blk_cell BK108.out 0).trans rfl, (blk_cell BK108.out 1).trans rfl, (blk_cell BK108.out 2).trans rfl, (blk_cell BK108.out 3).trans rfl, (blk_cell BK108.out 4).trans rfl⟩ (fun hHeld => ?_)
          clear hK K
          refine norm_ (a' := ?_) ?_ ?_
          rotate_left
          ·show Act.put _ (some 20) _ = _
           simp only [Act.put, la_, lz_, ls_, i64_w, i32_w]
           rfl
          refine pure_ (i := 3) (N := some 21) (v := ?_) (a' := ?_) #[i',i',i',i',o',o',o',o',o',o',o',o',o',o',o',o',o',o',o',o',o',o',o',o',o',o',o',o',o',o',o',o',o',o',o',o',o',o',o',o',o',o'] rfl rfl (any_of HT_.out (by kernel_rfl)) (fun _ _ _ h => h) (Or.inl ⟨by rfl, ?_⟩) ?_ ?_
          rotate_left;·intro w';go_simp;with_reducible rfl
          rotate_left;·simp only [Act.put, la_, lz_, ls_, i64_w, i32_w];rfl
          refine pure_ (i := 4) (N := some 22) (v := ?_) (a' := ?_) #[i',i',i',i',i',o',o',o',o',o',o',o',o',o',o',o',o',o',o',o',o',o',o',o',o',o',o',o',o',o',o',o',o',o',o',o',o',o',o',o',o',o'] rfl rfl (any_of HT_.out (by kernel_rfl)) (fun _ _ _ h => h) (Or.inl ⟨by rfl, ?_⟩) ?_ ?_
          rotate_left;·intro w';go_simp;with_reducible rfl
          rotate_left;·simp only [Act.put, la_, lz_, ls_, i64_w, i32_w];rfl
          refine pure_ (i := 5) (N := some 23) (v := ?_) (a' := ?_) #[i',i',i',i',i',i',o',o',o',o',o',o',o',o',o',o',o',o',o',o',o',o',o',o',o',o',o',o',o',o',o',o',o',o',o',o',o',o',o',o',o',o'] rfl rfl (any_of HT_.out (by kernel_rfl)) (fun _ _ _ h => h) (Or.inl ⟨by rfl, ?_⟩) ?_ ?_
          rotate_left;·intro w';go_simp;with_reducible rfl
          rotate_left;·simp only [Act.put, la_, lz_, ls_, i64_w, i32_w];rfl
          refine take_ (i := 6) (N := some 24) (v := ?_) (a' := ?_) #[i',i',i',i',i',i',i',o',o',o',o',o',o',o',o',o',o',o',o',o',o',o',o',o',o',o',o',o',o',o',o',o',o',o',o',o',o',o',o',o',o',o'] rfl rfl (take_ofW HT_.out HW_.out (by kernel_rfl)) (fun _ _ _ h => h) (Or.inl ⟨by rfl, ?_⟩) hHeld ?_ ?_
          rotate_left
          ·rintro w' ⟨s0, s1, s2, s3, s4⟩
           go_simp
           with_reducible rfl
          rotate_left
          ·simp only [Act.put, la_, lz_, ls_, i64_w, i32_w]
           rfl
          refine one_ (i := 7) (N := some 25) #[i',i',i',i',i',i',i',i',o',o',o',o',o',o',o',o',o',o',o',o',o',o',o',o',o',o',o',o',o',o',o',o',o',o',o',o',o',o',o',o',o',o'] rfl rfl (one_of HT_.out (by kernel_rfl)) (by decide) (fun K hK => ?_)
          refine goes_ Try.func64 (by kernel_rfl) rfl #[.int .i64 ((rd_T113 l0 x3_1).f1), .int .i64 1, .int .i64 100000] (by rfl) rfl rfl ar_ ?_
          with_reducible refine (spec_l1In.calls ((rd_T113 l0 x3_1).f1) 1 100000 true _ A7.out).mono ?_
          rintro e w' ⟨rfl, ⟨nd, rfl⟩⟩
          refine ⟨_, rfl, ?_⟩
          refine hK.out _ _ ⟨(blk_cell BK108.out 0).trans rfl, (blk_cell BK108.out 1).trans rfl, (blk_cell BK108.out 2).trans rfl, (blk_cell BK108.out 3).trans rfl, (blk_cell BK108.out 4).trans rfl⟩ (fun hHeld => ?_)
          clear hK K
          refine norm_ (a' := ?_) ?_ ?_
          rotate_left
          ·show Act.put _ (some 25) _ = _
           simp only [Act.put, la_, lz_, ls_, i64_w, i32_w]
           rfl
          refine pure_ (i := 8) (N := some 26) (v := ?_) (a' := ?_) #[i',i',i',i',i',i',i',i',i',o',o',o',o',o',o',o',o',o',o',o',o',o',o',o',o',o',o',o',o',o',o',o',o',o',o',o',o',o',o',o',o',o'] rfl rfl (any_of HT_.out (by kernel_rfl)) (fun _ _ _ h => h) (Or.inl ⟨by rfl, ?_⟩) ?_ ?_
          rotate_left;·intro w';go_simp;with_reducible rfl
          rotate_left;·simp only [Act.put, la_, lz_, ls_, i64_w, i32_w];rfl
          refine pure_ (i := 9) (N := some 27) (v := ?_) (a' := ?_) #[i',i',i',i',i',i',i',i',i',i',o',o',o',o',o',o',o',o',o',o',o',o',o',o',o',o',o',o',o',o',o',o',o',o',o',o',o',o',o',o',o',o'] rfl rfl (any_of HT_.out (by kernel_rfl)) (fun _ _ _ h => h) (Or.inl ⟨by rfl, ?_⟩) ?_ ?_
          rotate_left;·intro w';go_simp;with_reducible rfl
          rotate_left;·simp only [Act.put, la_, lz_, ls_, i64_w, i32_w];rfl
          refine pure_ (i := 10) (N := some 28) (v := ?_) (a' := ?_) #[i',i',i',i',i',i',i',i',i',i',i',o',o',o',o',o',o',o',o',o',o',o',o',o',o',o',o',o',o',o',o',o',o',o',o',o',o',o',o',o',o',o'] rfl rfl (any_of HT_.out (by kernel_rfl)) (fun _ _ _ h => h) (Or.inl ⟨by rfl, ?_⟩) ?_ ?_
          rotate_left;·intro w';go_simp;with_reducible rfl
          rotate_left;·simp only [Act.put, la_, lz_, ls_, i64_w, i32_w];rfl
          refine pure_ (i := 11) (N := some 29) (v := ?_) (a' := ?_) #[i',i',i',i',i',i',i',i',i',i',i',i',o',o',o',o',o',o',o',o',o',o',o',o',o',o',o',o',o',o',o',o',o',o',o',o',o',o',o',o',o',o'] rfl rfl (any_of HT_.out (by kernel_rfl)) (fun _ _ _ h => h) (Or.inl ⟨by rfl, ?_⟩) ?_ ?_
          rotate_left;·intro w';go_simp;with_reducible rfl
          rotate_left;·simp only [Act.put, la_, lz_, ls_, i64_w, i32_w];rfl
          refine take_ (i := 12) (N := some 30) (v := ?_) (a' := ?_) #[i',i',i',i',i',i',i',i',i',i',i',i',i',o',o',o',o',o',o',o',o',o',o',o',o',o',o',o',o',o',o',o',o',o',o',o',o',o',o',o',o',o'] rfl rfl (take_ofW HT_.out HW_.out (by kernel_rfl)) (fun _ _ _ h => h) (Or.inl ⟨by rfl, ?_⟩) hHeld ?_ ?_
          rotate_left
          ·rintro w' ⟨s0, s1, s2, s3, s4⟩
           go_simp
           with_reducible rfl
          rotate_left
          ·simp only [Act.put, la_, lz_, ls_, i64_w, i32_w]
           rfl
          refine pure_ (i := 13) (N := some 31) (v := ?_) (a' := ?_) #[i',i',i',i',i',i',i',i',i',i',i',i',i',i',o',o',o',o',o',o',o',o',o',o',o',o',o',o',o',o',o',o',o',o',o',o',o',o',o',o',o',o'] rfl rfl (any_of HT_.out (by kernel_rfl)) (fun _ _ _ h => h) (Or.inl ⟨by rfl, ?_⟩) ?_ ?_
          rotate_left;·intro w';go_simp;with_reducible rfl
          rotate_left;·simp only [Act.put, la_, lz_, ls_, i64_w, i32_w];rfl
          refine pure_ (i := 14) (N := some 32) (v := ?_) (a' := ?_) #[i',i',i',i',i',i',i',i',i',i',i',i',i',i',i',o',o',o',o',o',o',o',o',o',o',o',o',o',o',o',o',o',o',o',o',o',o',o',o',o',o',o'] rfl rfl (any_of HT_.out (by kernel_rfl)) (fun _ _ _ h => h) (Or.inl ⟨by rfl, ?_⟩) ?_ ?_
          rotate_left;·intro w';go_simp;with_reducible rfl
          rotate_left;·simp only [Act.put, la_, lz_, ls_, i64_w, i32_w];rfl
          refine pure_ (i := 15) (N := some 33) (v := ?_) (a' := ?_) #[i',i',i',i',i',i',i',i',i',i',i',i',i',i',i',i',o',o',o',o',o',o',o',o',o',o',o',o',o',o',o',o',o',o',o',o',o',o',o',o',o',o'] rfl rfl (any_of HT_.out (by kernel_rfl)) (fun _ _ _ h => h) (Or.inl ⟨by rfl, ?_⟩) ?_ ?_
          rotate_left;·intro w';go_simp;with_reducible rfl
          rotate_left;·simp only [Act.put, la_, lz_, ls_, i64_w, i32_w];rfl
          refine pure_ (i := 16) (N := some 34) (v := ?_) (a' := ?_) #[i',i',i',i',i',i',i',i',i',i',i',i',i',i',i',i',i',o',o',o',o',o',o',o',o',o',o',o',o',o',o',o',o',o',o',o',o',o',o',o',o',o'] rfl rfl (any_of HT_.out (by kernel_rfl)) (fun _ _ _ h => h) (Or.inl ⟨by rfl, ?_⟩) ?_ ?_
          rotate_left;·intro w';go_simp;with_reducible rfl
          rotate_left;·simp only [Act.put, la_, lz_, ls_, i64_w, i32_w];rfl
          refine take_ (i := 17) (N := some 35) (v := ?_) (a' := ?_) #[i',i',i',i',i',i',i',i',i',i',i',i',i',i',i',i',i',i',o',o',o',o',o',o',o',o',o',o',o',o',o',o',o',o',o',o',o',o',o',o',o',o'] rfl rfl (take_ofW HT_.out HW_.out (by kernel_rfl)) (fun _ _ _ h => h) (Or.inl ⟨by rfl, ?_⟩) hHeld ?_ ?_
          rotate_left
          ·rintro w' ⟨s0, s1, s2, s3, s4⟩
           go_simp
           with_reducible rfl
          rotate_left
          ·simp only [Act.put, la_, lz_, ls_, i64_w, i32_w]
           rfl
          refine one_ (i := 18) (N := some 36) #[i',i',i',i',i',i',i',i',i',i',i',i',i',i',i',i',i',i',i',o',o',o',o',o',o',o',o',o',o',o',o',o',o',o',o',o',o',o',o',o',o',o'] rfl rfl (one_of HT_.out (by kernel_rfl)) (by decide) (fun K hK => ?_)
          refine goes_ Try.func64 (by kernel_rfl) rfl #[.int .i64 ((rd_T113 l0 x3_1).f3), .int .i64 1, .int .i64 210] (by rfl) rfl rfl ar_ ?_
          with_reducible refine (spec_l1In.calls ((rd_T113 l0 x3_1).f3) 1 210 false _ A14.out).mono ?_
          rintro e w' ⟨rfl, ⟨nd, rfl⟩⟩
          refine ⟨_, rfl, ?_⟩
          refine hK.out _ _ ⟨(blk_cell BK108.out 0).trans rfl, (blk_cell BK108.out 1).trans rfl, (blk_cell BK108.out 2).trans rfl, (blk_cell BK108.out 3).trans rfl, (blk_cell BK108.out 4).trans rfl⟩ (fun hHeld => ?_)
          clear hK K
          refine norm_ (a' := ?_) ?_ ?_
          rotate_left
          ·show Act.put _ (some 36) _ = _
           simp only [Act.put, la_, lz_, ls_, i64_w, i32_w]
           rfl
          refine pure_ (i := 19) (N := some 37) (v := ?_) (a' := ?_) #[i',i',i',i',i',i',i',i',i',i',i',i',i',i',i',i',i',i',i',i',o',o',o',o',o',o',o',o',o',o',o',o',o',o',o',o',o',o',o',o',o',o'] rfl rfl (any_of HT_.out (by kernel_rfl)) (fun _ _ _ h => h) (Or.inl ⟨by rfl, ?_⟩) ?_ ?_
          rotate_left;·intro w';go_simp;with_reducible rfl
          rotate_left;·simp only [Act.put, la_, lz_, ls_, i64_w, i32_w];rfl
          refine pure_ (i := 20) (N := some 38) (v := ?_) (a' := ?_) #[i',i',i',i',i',i',i',i',i',i',i',i',i',i',i',i',i',i',i',i',i',o',o',o',o',o',o',o',o',o',o',o',o',o',o',o',o',o',o',o',o',o'] rfl rfl (any_of HT_.out (by kernel_rfl)) (fun _ _ _ h => h) (Or.inl ⟨by rfl, ?_⟩) ?_ ?_
          rotate_left;·intro w';go_simp;with_reducible rfl
          rotate_left;·simp only [Act.put, la_, lz_, ls_, i64_w, i32_w];rfl
          refine pure_ (i := 21) (N := some 39) (v := ?_) (a' := ?_) #[i',i',i',i',i',i',i',i',i',i',i',i',i',i',i',i',i',i',i',i',i',i',o',o',o',o',o',o',o',o',o',o',o',o',o',o',o',o',o',o',o',o'] rfl rfl (any_of HT_.out (by kernel_rfl)) (fun _ _ _ h => h) (Or.inl ⟨by rfl, ?_⟩) ?_ ?_
          rotate_left;·intro w';go_simp;with_reducible rfl
          rotate_left;·simp only [Act.put, la_, lz_, ls_, i64_w, i32_w];rfl
          refine pure_ (i := 22) (N := some 40) (v := undef) (a' := ?_) #[i',i',i',i',i',i',i',i',i',i',i',i',i',i',i',i',i',i',i',i',i',i',i',o',o',o',o',o',o',o',o',o',o',o',o',o',o',o',o',o',o',o'] rfl rfl (any_of HT_.out (by kernel_rfl)) (fun _ _ _ h => h) (Or.inr ⟨by rfl, rfl⟩) ?_ ?_
          rotate_left
          ·simp only [Act.put, la_, lz_, ls_, i64_w, i32_w]
           rfl
          refine pure_ (i := 23) (N := some 41) (v := undef) (a' := ?_) #[i',i',i',i',i',i',i',i',i',i',i',i',i',i',i',i',i',i',i',i',i',i',i',i',o',o',o',o',o',o',o',o',o',o',o',o',o',o',o',o',o',o'] rfl rfl (any_of HT_.out (by kernel_rfl)) (fun _ _ _ h => h) (Or.inr ⟨by rfl, rfl⟩) ?_ ?_
          rotate_left
          ·simp only [Act.put, la_, lz_, ls_, i64_w, i32_w]
           rfl
          refine pure_ (i := 24) (N := some 42) (v := undef) (a' := ?_) #[i',i',i',i',i',i',i',i',i',i',i',i',i',i',i',i',i',i',i',i',i',i',i',i',i',o',o',o',o',o',o',o',o',o',o',o',o',o',o',o',o',o'] rfl rfl (any_of HT_.out (by kernel_rfl)) (fun _ _ _ h => h) (Or.inr ⟨by rfl, rfl⟩) ?_ ?_
          rotate_left
          ·simp only [Act.put, la_, lz_, ls_, i64_w, i32_w]
           rfl
          refine pure_ (i := 25) (N := some 43) (v := undef) (a' := ?_) #[i',i',i',i',i',i',i',i',i',i',i',i',i',i',i',i',i',i',i',i',i',i',i',i',i',i',o',o',o',o',o',o',o',o',o',o',o',o',o',o',o',o'] rfl rfl (any_of HT_.out (by kernel_rfl)) (fun _ _ _ h => h) (Or.inr ⟨by rfl, rfl⟩) ?_ ?_
          rotate_left
          ·simp only [Act.put, la_, lz_, ls_, i64_w, i32_w]
           rfl
          refine pure_ (i := 26) (N := some 44) (v := ?_) (a' := ?_) #[i',i',i',i',i',i',i',i',i',i',i',i',i',i',i',i',i',i',i',i',i',i',i',i',i',i',i',o',o',o',o',o',o',o',o',o',o',o',o',o',o',o'] rfl rfl (any_of HT_.out (by kernel_rfl)) (fun _ _ _ h => h) (Or.inl ⟨by rfl, ?_⟩) ?_ ?_
          rotate_left;·intro w';go_simp;with_reducible rfl
          rotate_left;·simp only [Act.put, la_, lz_, ls_, i64_w, i32_w];rfl
          refine pure_ (i := 27) (N := some 45) (v := ?_) (a' := ?_) #[i',i',i',i',i',i',i',i',i',i',i',i',i',i',i',i',i',i',i',i',i',i',i',i',i',i',i',i',o',o',o',o',o',o',o',o',o',o',o',o',o',o'] rfl rfl (any_of HT_.out (by kernel_rfl)) (fun _ _ _ h => h) (Or.inl ⟨by rfl, ?_⟩) ?_ ?_
          rotate_left;·intro w';go_simp;with_reducible rfl
          rotate_left;·simp only [Act.put, la_, lz_, ls_, i64_w, i32_w];rfl
          refine pure_ (i := 28) (N := some 46) (v := undef) (a' := ?_) #[i',i',i',i',i',i',i',i',i',i',i',i',i',i',i',i',i',i',i',i',i',i',i',i',i',i',i',i',i',o',o',o',o',o',o',o',o',o',o',o',o',o'] rfl rfl (any_of HT_.out (by kernel_rfl)) (fun _ _ _ h => h) (Or.inr ⟨by rfl, rfl⟩) ?_ ?_
          rotate_left
          ·simp only [Act.put, la_, lz_, ls_, i64_w, i32_w]
           rfl
          refine pure_ (i := 29) (N := some 47) (v := undef) (a' := ?_) #[i',i',i',i',i',i',i',i',i',i',i',i',i',i',i',i',i',i',i',i',i',i',i',i',i',i',i',i',i',i',o',o',o',o',o',o',o',o',o',o',o',o'] rfl rfl (any_of HT_.out (by kernel_rfl)) (fun _ _ _ h => h) (Or.inr ⟨by rfl, rfl⟩) ?_ ?_
          rotate_left
          ·simp only [Act.put, la_, lz_, ls_, i64_w, i32_w]
           rfl
          refine pure_ (i := 30) (N := some 48) (v := undef) (a' := ?_) #[i',i',i',i',i',i',i',i',i',i',i',i',i',i',i',i',i',i',i',i',i',i',i',i',i',i',i',i',i',i',i',o',o',o',o',o',o',o',o',o',o',o'] rfl rfl (any_of HT_.out (by kernel_rfl)) (fun _ _ _ h => h) (Or.inr ⟨by rfl, rfl⟩) ?_ ?_
          rotate_left
          ·simp only [Act.put, la_, lz_, ls_, i64_w, i32_w]
           rfl
          refine pure_ (i := 31) (N := some 49) (v := undef) (a' := ?_) #[i',i',i',i',i',i',i',i',i',i',i',i',i',i',i',i',i',i',i',i',i',i',i',i',i',i',i',i',i',i',i',i',o',o',o',o',o',o',o',o',o',o'] rfl rfl (any_of HT_.out (by kernel_rfl)) (fun _ _ _ h => h) (Or.inr ⟨by rfl, rfl⟩) ?_ ?_
          rotate_left
          ·simp only [Act.put, la_, lz_, ls_, i64_w, i32_w]
           rfl
          refine pure_ (i := 32) (N := some 50) (v := undef) (a' := ?_) #[i',i',i',i',i',i',i',i',i',i',i',i',i',i',i',i',i',i',i',i',i',i',i',i',i',i',i',i',i',i',i',i',i',o',o',o',o',o',o',o',o',o'] rfl rfl (any_of HT_.out (by kernel_rfl)) (fun _ _ _ h => h) (Or.inr ⟨by rfl, rfl⟩) ?_ ?_
          rotate_left
          ·simp only [Act.put, la_, lz_, ls_, i64_w, i32_w]
           rfl
          refine pure_ (i := 33) (N := some 51) (v := undef) (a' := ?_) #[i',i',i',i',i',i',i',i',i',i',i',i',i',i',i',i',i',i',i',i',i',i',i',i',i',i',i',i',i',i',i',i',i',i',o',o',o',o',o',o',o',o'] rfl rfl (any_of HT_.out (by kernel_rfl)) (fun _ _ _ h => h) (Or.inr ⟨by rfl, rfl⟩) ?_ ?_
          rotate_left
          ·simp only [Act.put, la_, lz_, ls_, i64_w, i32_w]
           rfl
          refine pure_ (i := 34) (N := some 52) (v := undef) (a' := ?_) #[i',i',i',i',i',i',i',i',i',i',i',i',i',i',i',i',i',i',i',i',i',i',i',i',i',i',i',i',i',i',i',i',i',i',i',o',o',o',o',o',o',o'] rfl rfl (any_of HT_.out (by kernel_rfl)) (fun _ _ _ h => h) (Or.inr ⟨by rfl, rfl⟩) ?_ ?_
          rotate_left
          ·simp only [Act.put, la_, lz_, ls_, i64_w, i32_w]
           rfl
          refine pure_ (i := 35) (N := some 53) (v := undef) (a' := ?_) #[i',i',i',i',i',i',i',i',i',i',i',i',i',i',i',i',i',i',i',i',i',i',i',i',i',i',i',i',i',i',i',i',i',i',i',i',o',o',o',o',o',o'] rfl rfl (any_of HT_.out (by kernel_rfl)) (fun _ _ _ h => h) (Or.inr ⟨by rfl, rfl⟩) ?_ ?_
          rotate_left
          ·simp only [Act.put, la_, lz_, ls_, i64_w, i32_w]
           rfl
          refine pure_ (i := 36) (N := some 54) (v := undef) (a' := ?_) #[i',i',i',i',i',i',i',i',i',i',i',i',i',i',i',i',i',i',i',i',i',i',i',i',i',i',i',i',i',i',i',i',i',i',i',i',i',o',o',o',o',o'] rfl rfl (any_of HT_.out (by kernel_rfl)) (fun _ _ _ h => h) (Or.inr ⟨by rfl, rfl⟩) ?_ ?_
          rotate_left
          ·simp only [Act.put, la_, lz_, ls_, i64_w, i32_w]
           rfl
          refine pure_ (i := 37) (N := some 55) (v := undef) (a' := ?_) #[i',i',i',i',i',i',i',i',i',i',i',i',i',i',i',i',i',i',i',i',i',i',i',i',i',i',i',i',i',i',i',i',i',i',i',i',i',i',o',o',o',o'] rfl rfl (any_of HT_.out (by kernel_rfl)) (fun _ _ _ h => h) (Or.inr ⟨by rfl, rfl⟩) ?_ ?_
          rotate_left
          ·simp only [Act.put, la_, lz_, ls_, i64_w, i32_w]
           rfl
          refine pure_ (i := 38) (N := some 56) (v := undef) (a' := ?_) #[i',i',i',i',i',i',i',i',i',i',i',i',i',i',i',i',i',i',i',i',i',i',i',i',i',i',i',i',i',i',i',i',i',i',i',i',i',i',i',o',o',o'] rfl rfl (any_of HT_.out (by kernel_rfl)) (fun _ _ _ h => h) (Or.inr ⟨by rfl, rfl⟩) ?_ ?_
          rotate_left
          ·simp only [Act.put, la_, lz_, ls_, i64_w, i32_w]
           rfl
          refine pure_ (i := 39) (N := some 57) (v := undef) (a' := ?_) #[i',i',i',i',i',i',i',i',i',i',i',i',i',i',i',i',i',i',i',i',i',i',i',i',i',i',i',i',i',i',i',i',i',i',i',i',i',i',i',i',o',o'] rfl rfl (any_of HT_.out (by kernel_rfl)) (fun _ _ _ h => h) (Or.inr ⟨by rfl, rfl⟩) ?_ ?_
          rotate_left
          ·simp only [Act.put, la_, lz_, ls_, i64_w, i32_w]
           rfl
          refine pure_ (i := 40) (N := some 58) (v := undef) (a' := ?_) #[i',i',i',i',i',i',i',i',i',i',i',i',i',i',i',i',i',i',i',i',i',i',i',i',i',i',i',i',i',i',i',i',i',i',i',i',i',i',i',i',i',o'] rfl rfl (any_of HT_.out (by kernel_rfl)) (fun _ _ _ h => h) (Or.inr ⟨by rfl, rfl⟩) ?_ ?_
          rotate_left
          ·simp only [Act.put, la_, lz_, ls_, i64_w, i32_w]
           rfl
          refine pure_ (i := 41) (N := some 59) (v := ?_) (a' := ?_) #[i',i',i',i',i',i',i',i',i',i',i',i',i',i',i',i',i',i',i',i',i',i',i',i',i',i',i',i',i',i',i',i',i',i',i',i',i',i',i',i',i',i'] rfl rfl (any_of HT_.out (by kernel_rfl)) (fun _ _ _ h => h) (Or.inl ⟨by rfl, ?_⟩) ?_ ?_
          rotate_left;·intro w';go_simp;with_reducible rfl
          rotate_left;·simp only [Act.put, la_, lz_, ls_, i64_w, i32_w];rfl
          refine done_ (done_of HT_.out (by kernel_rfl)) ?_
          try go_wp2
          go_ret
          exact ⟨re_, hs_ HB GE108⟩
       ·replace c8 := Bool.eq_false_iff.mpr c8
        subst c8
        have H1 : (some false) = some r := by rw [if_neg (show ¬ (false = true) by decide)] at H; exact H
        clear H
        have H := H1
        clear H1
        obtain rfl := Option.some.inj H
        have p107 : 0 ≤ (x3_1 : Int) := of_decide_eq_true as_
        have q107 : x3_1 < (l0.length : Int) := of_decide_eq_true as_
        obtain ⟨ad107, e107, hx107_0, hx107_1, hx107_2, hx107_3, hx107_4⟩ := at_T113 HR0.out x3_1 p107 q107
        cases e107
        replace hx107_0 := (HB.out.cell (World.block_lt_of_cell? w _ hx107_0)).trans hx107_0
        replace hx107_1 := (HB.out.cell (World.block_lt_of_cell? w _ hx107_1)).trans hx107_1
        replace hx107_2 := (HB.out.cell (World.block_lt_of_cell? w _ hx107_2)).trans hx107_2
        replace hx107_3 := (HB.out.cell (World.block_lt_of_cell? w _ hx107_3)).trans hx107_3
        replace hx107_4 := (HB.out.cell (World.block_lt_of_cell? w _ hx107_4)).trans hx107_4
        replace p107 := eq_true p107
        replace q107 := eq_true q107
        try go_wp2_with (first | ((with_reducible refine gate_dst (N := 4) rfl ?_); refine box_event ?hg (N := 4) ?hd (cs := #[.string (⟨#[]⟩ : ByteArray), .int .i64 0, .int .i64 0, .int .i64 0, .int .i64 0]) (t := 113) ?hr ?_; (case hd => rfl); (case hg => rfl); (case hr => first | (go_simp; done) | (go_simp; rfl)); intro gb108 hg w43 hbox hb; have n0_ := Aside0.mk (below_step (hb_ HB) hb); have n1_ := Aside0.mk (hbox); have n2_ := Aside0.mk ((by rw [hg]; exact (below_size (hb_ HB)) : w.heap.size ≤ gb108)); have n3_ := Aside0.mk ((by rw [hg]; exact (below_size (hb_ HB)) : w.heap.size ≤ gb108)); clear HB; have HB := n0_; have BK108 := n1_; have GW108 := n2_; have GE108 := n3_; clear n0_ n1_ n2_ n3_; clear hb hbox hg; have hcz44_0 : w43.cell? ⟨gb108, 0, none⟩ = some (.string (⟨#[]⟩ : ByteArray)) := (blk_cell BK108.out 0).trans rfl; have hcz44_1 : w43.cell? ⟨gb108, 1, none⟩ = some (.int .i64 0) := (blk_cell BK108.out 1).trans rfl; have hcz44_2 : w43.cell? ⟨gb108, 2, none⟩ = some (.int .i64 0) := (blk_cell BK108.out 2).trans rfl; have hcz44_3 : w43.cell? ⟨gb108, 3, none⟩ = some (.int .i64 0) := (blk_cell BK108.out 3).trans rfl; have hcz44_4 : w43.cell? ⟨gb108, 4, none⟩ = some (.int .i64 0) := (blk_cell BK108.out 4).trans rfl; have hfz44_0 := blk_frozen BK108.out 0; have hfz44_1 := blk_frozen BK108.out 1; have hfz44_2 := blk_frozen BK108.out 2; have hfz44_3 := blk_frozen BK108.out 3; have hfz44_4 := blk_frozen BK108.out 4))
        have n0_ : Aside0 ((((((w43.setCell ⟨gb108, 0, none⟩ (.string ((rd_T113 l0 x3_1).f0))).setCell ⟨gb108, 1, none⟩ (.int .i64 ((rd_T113 l0 x3_1).f1))).setCell ⟨gb108, 2, none⟩ (.int .i64 ((rd_T113 l0 x3_1).f2))).setCell ⟨gb108, 3, none⟩ (.int .i64 ((rd_T113 l0 x3_1).f3))).setCell ⟨gb108, 4, none⟩ (.int .i64 ((rd_T113 l0 x3_1).f4))).heap[gb108]? = some (.cells #[.string ((rd_T113 l0 x3_1).f0), .int .i64 ((rd_T113 l0 x3_1).f1), .int .i64 ((rd_T113 l0 x3_1).f2), .int .i64 ((rd_T113 l0 x3_1).f3), .int .i64 ((rd_T113 l0 x3_1).f4)] 113 (0, 0))) := ⟨by (with_reducible repeat (first | refine blk_drewN ?_ _ | refine blk_drew ?_ | refine blk_alloc ?_ _)); refine blk_put (cs := #[.string ((rd_T113 l0 x3_1).f0), .int .i64 ((rd_T113 l0 x3_1).f1), .int .i64 ((rd_T113 l0 x3_1).f2), .int .i64 ((rd_T113 l0 x3_1).f3), .int .i64 0]) ?_ 4 _ rfl; (with_reducible repeat (first | refine blk_drewN ?_ _ | refine blk_drew ?_ | refine blk_alloc ?_ _)); refine blk_put (cs := #[.string ((rd_T113 l0 x3_1).f0), .int .i64 ((rd_T113 l0 x3_1).f1), .int .i64 ((rd_T113 l0 x3_1).f2), .int .i64 0, .int .i64 0]) ?_ 3 _ rfl; (with_reducible repeat (first | refine blk_drewN ?_ _ | refine blk_drew ?_ | refine blk_alloc ?_ _)); refine blk_put (cs := #[.string ((rd_T113 l0 x3_1).f0), .int .i64 ((rd_T113 l0 x3_1).f1), .int .i64 0, .int .i64 0, .int .i64 0]) ?_ 2 _ rfl; (with_reducible repeat (first | refine blk_drewN ?_ _ | refine blk_drew ?_ | refine blk_alloc ?_ _)); refine blk_put (cs := #[.string ((rd_T113 l0 x3_1).f0), .int .i64 0, .int .i64 0, .int .i64 0, .int .i64 0]) ?_ 1 _ rfl; (with_reducible repeat (first | refine blk_drewN ?_ _ | refine blk_drew ?_ | refine blk_alloc ?_ _)); refine blk_put (cs := #[.string (⟨#[]⟩ : ByteArray), .int .i64 0, .int .i64 0, .int .i64 0, .int .i64 0]) ?_ 0 _ rfl; (with_reducible repeat (first | refine blk_drewN ?_ _ | refine blk_drew ?_ | refine blk_alloc ?_ _)); exact BK108.out⟩
        have n1_ : Aside0 (Below w.heap.size w (((((w43.setCell ⟨gb108, 0, none⟩ (.string ((rd_T113 l0 x3_1).f0))).setCell ⟨gb108, 1, none⟩ (.int .i64 ((rd_T113 l0 x3_1).f1))).setCell ⟨gb108, 2, none⟩ (.int .i64 ((rd_T113 l0 x3_1).f2))).setCell ⟨gb108, 3, none⟩ (.int .i64 ((rd_T113 l0 x3_1).f3))).setCell ⟨gb108, 4, none⟩ (.int .i64 ((rd_T113 l0 x3_1).f4)))) := ⟨hs_ HB GE108⟩
        (try clear BK108)
        (try clear HB)
        generalize (((((w43.setCell ⟨gb108, 0, none⟩ (.string ((rd_T113 l0 x3_1).f0))).setCell ⟨gb108, 1, none⟩ (.int .i64 ((rd_T113 l0 x3_1).f1))).setCell ⟨gb108, 2, none⟩ (.int .i64 ((rd_T113 l0 x3_1).f2))).setCell ⟨gb108, 3, none⟩ (.int .i64 ((rd_T113 l0 x3_1).f3))).setCell ⟨gb108, 4, none⟩ (.int .i64 ((rd_T113 l0 x3_1).f4))) = w45 at n0_ n1_ ⊢
        have BK108 := n0_
        have HB := n1_
        clear n0_ n1_
        have n0_ := Aside0.mk (blk_drew BK108.out)
        have n1_ := Aside0.mk (below_drew1 HB.out)
        clear BK108
        clear HB
        have BK108 := n0_
        have HB := n1_
        clear n0_ n1_
        refine start_ (n := 42) (S := fun w' => w'.cell? ⟨gb108, 0, none⟩ = some (.string ((rd_T113 l0 x3_1).f0)) ∧ w'.cell? ⟨gb108, 1, none⟩ = some (.int .i64 ((rd_T113 l0 x3_1).f1)) ∧ w'.cell? ⟨gb108, 2, none⟩ = some (.int .i64 ((rd_T113 l0 x3_1).f2)) ∧ w'.cell? ⟨gb108, 3, none⟩ = some (.int .i64 ((rd_T113 l0 x3_1).f3)) ∧ w'.cell? ⟨gb108, 4, none⟩ = some (.int .i64 ((rd_T113 l0 x3_1).f4))) (ds := []) #[o',o',o',o',o',o',o',o',o',o',o',o',o',o',o',o',o',o',o',o',o',o',o',o',o',o',o',o',o',o',o',o',o',o',o',o',o',o',o',o',o',o'] (by kernel_rfl) rfl rfl ⟨(blk_cell BK108.out 0).trans rfl, (blk_cell BK108.out 1).trans rfl, (blk_cell BK108.out 2).trans rfl, (blk_cell BK108.out 3).trans rfl, (blk_cell BK108.out 4).trans rfl⟩ (fun hHeld => ?_); refine with_tabW spec_DirOk.tab7 spec_DirOk.bits7 (fun HT_ HW_ => ?_)
        generalize w45.drew = w46 at BK108 HB hHeld ⊢
        refine pure_ (i := 0) (N := some 18) (v := ?_) (a' := ?_) #[i',o',o',o',o',o',o',o',o',o',o',o',o',o',o',o',o',o',o',o',o',o',o',o',o',o',o',o',o',o',o',o',o',o',o',o',o',o',o',o',o',o'] rfl rfl (any_of HT_.out (by kernel_rfl)) (fun _ _ _ h => h) (Or.inl ⟨by rfl, ?_⟩) ?_ ?_
        rotate_left;·intro w';go_simp;with_reducible rfl
        rotate_left;·simp only [Act.put, la_, lz_, ls_, i64_w, i32_w];rfl
        refine take_ (i := 1) (N := some 19) (v := ?_) (a' := ?_) #[i',i',o',o',o',o',o',o',o',o',o',o',o',o',o',o',o',o',o',o',o',o',o',o',o',o',o',o',o',o',o',o',o',o',o',o',o',o',o',o',o',o'] rfl rfl (take_ofW HT_.out HW_.out (by kernel_rfl)) (fun _ _ _ h => h) (Or.inl ⟨by rfl, ?_⟩) hHeld ?_ ?_
        rotate_left
        ·rintro w' ⟨s0, s1, s2, s3, s4⟩
         go_simp
         with_reducible rfl
        rotate_left
        ·simp only [Act.put, la_, lz_, ls_, i64_w, i32_w]
         rfl
        refine one_ (i := 2) (N := some 20) #[i',i',i',o',o',o',o',o',o',o',o',o',o',o',o',o',o',o',o',o',o',o',o',o',o',o',o',o',o',o',o',o',o',o',o',o',o',o',o',o',o',o'] rfl rfl (one_of HT_.out (by kernel_rfl)) (by decide) (fun K hK => ?_)
        refine goes_ Try.func106 (by kernel_rfl) rfl #[.string ((rd_T113 l0 x3_1).f0)] (by rfl) rfl rfl ar_ ?_
        with_reducible refine (spec_KeyOk.calls ((rd_T113 l0 x3_1).f0) true _ A5.out).mono ?_
        rintro e w' ⟨rfl, ⟨nd, rfl⟩⟩
        refine ⟨_, rfl, ?_⟩
        refine hK.out _ _ ⟨(blk_cell BK108.out 0).trans rfl, (blk_cell BK108.out 1).trans rfl, (blk_cell BK108.out 2).trans rfl, (blk_cell BK108.out 3).trans rfl, (blk_cell BK108.out 4).trans rfl⟩ (fun hHeld => ?_)
        clear hK K
        refine norm_ (a' := ?_) ?_ ?_
        rotate_left
        ·show Act.put _ (some 20) _ = _
         simp only [Act.put, la_, lz_, ls_, i64_w, i32_w]
         rfl
        refine pure_ (i := 3) (N := some 21) (v := ?_) (a' := ?_) #[i',i',i',i',o',o',o',o',o',o',o',o',o',o',o',o',o',o',o',o',o',o',o',o',o',o',o',o',o',o',o',o',o',o',o',o',o',o',o',o',o',o'] rfl rfl (any_of HT_.out (by kernel_rfl)) (fun _ _ _ h => h) (Or.inl ⟨by rfl, ?_⟩) ?_ ?_
        rotate_left;·intro w';go_simp;with_reducible rfl
        rotate_left;·simp only [Act.put, la_, lz_, ls_, i64_w, i32_w];rfl
        refine pure_ (i := 4) (N := some 22) (v := ?_) (a' := ?_) #[i',i',i',i',i',o',o',o',o',o',o',o',o',o',o',o',o',o',o',o',o',o',o',o',o',o',o',o',o',o',o',o',o',o',o',o',o',o',o',o',o',o'] rfl rfl (any_of HT_.out (by kernel_rfl)) (fun _ _ _ h => h) (Or.inl ⟨by rfl, ?_⟩) ?_ ?_
        rotate_left;·intro w';go_simp;with_reducible rfl
        rotate_left;·simp only [Act.put, la_, lz_, ls_, i64_w, i32_w];rfl
        refine pure_ (i := 5) (N := some 23) (v := ?_) (a' := ?_) #[i',i',i',i',i',i',o',o',o',o',o',o',o',o',o',o',o',o',o',o',o',o',o',o',o',o',o',o',o',o',o',o',o',o',o',o',o',o',o',o',o',o'] rfl rfl (any_of HT_.out (by kernel_rfl)) (fun _ _ _ h => h) (Or.inl ⟨by rfl, ?_⟩) ?_ ?_
        rotate_left;·intro w';go_simp;with_reducible rfl
        rotate_left;·simp only [Act.put, la_, lz_, ls_, i64_w, i32_w];rfl
        refine take_ (i := 6) (N := some 24) (v := ?_) (a' := ?_) #[i',i',i',i',i',i',i',o',o',o',o',o',o',o',o',o',o',o',o',o',o',o',o',o',o',o',o',o',o',o',o',o',o',o',o',o',o',o',o',o',o',o'] rfl rfl (take_ofW HT_.out HW_.out (by kernel_rfl)) (fun _ _ _ h => h) (Or.inl ⟨by rfl, ?_⟩) hHeld ?_ ?_
        rotate_left
        ·rintro w' ⟨s0, s1, s2, s3, s4⟩
         go_simp
         with_reducible rfl
        rotate_left
        ·simp only [Act.put, la_, lz_, ls_, i64_w, i32_w]
         rfl
        refine one_ (i := 7) (N := some 25) #[i',i',i',i',i',i',i',i',o',o',o',o',o',o',o',o',o',o',o',o',o',o',o',o',o',o',o',o',o',o',o',o',o',o',o',o',o',o',o',o',o',o'] rfl rfl (one_of HT_.out (by kernel_rfl)) (by decide) (fun K hK => ?_)
        refine goes_ Try.func64 (by kernel_rfl) rfl #[.int .i64 ((rd_T113 l0 x3_1).f1), .int .i64 1, .int .i64 100000] (by rfl) rfl rfl ar_ ?_
        with_reducible refine (spec_l1In.calls ((rd_T113 l0 x3_1).f1) 1 100000 false _ A7.out).mono ?_
        rintro e w' ⟨rfl, ⟨nd, rfl⟩⟩
        refine ⟨_, rfl, ?_⟩
        refine hK.out _ _ ⟨(blk_cell BK108.out 0).trans rfl, (blk_cell BK108.out 1).trans rfl, (blk_cell BK108.out 2).trans rfl, (blk_cell BK108.out 3).trans rfl, (blk_cell BK108.out 4).trans rfl⟩ (fun hHeld => ?_)
        clear hK K
        refine norm_ (a' := ?_) ?_ ?_
        rotate_left
        ·show Act.put _ (some 25) _ = _
         simp only [Act.put, la_, lz_, ls_, i64_w, i32_w]
         rfl
        refine pure_ (i := 8) (N := some 26) (v := ?_) (a' := ?_) #[i',i',i',i',i',i',i',i',i',o',o',o',o',o',o',o',o',o',o',o',o',o',o',o',o',o',o',o',o',o',o',o',o',o',o',o',o',o',o',o',o',o'] rfl rfl (any_of HT_.out (by kernel_rfl)) (fun _ _ _ h => h) (Or.inl ⟨by rfl, ?_⟩) ?_ ?_
        rotate_left;·intro w';go_simp;with_reducible rfl
        rotate_left;·simp only [Act.put, la_, lz_, ls_, i64_w, i32_w];rfl
        refine pure_ (i := 9) (N := some 27) (v := ?_) (a' := ?_) #[i',i',i',i',i',i',i',i',i',i',o',o',o',o',o',o',o',o',o',o',o',o',o',o',o',o',o',o',o',o',o',o',o',o',o',o',o',o',o',o',o',o'] rfl rfl (any_of HT_.out (by kernel_rfl)) (fun _ _ _ h => h) (Or.inl ⟨by rfl, ?_⟩) ?_ ?_
        rotate_left;·intro w';go_simp;with_reducible rfl
        rotate_left;·simp only [Act.put, la_, lz_, ls_, i64_w, i32_w];rfl
        refine pure_ (i := 10) (N := some 28) (v := ?_) (a' := ?_) #[i',i',i',i',i',i',i',i',i',i',i',o',o',o',o',o',o',o',o',o',o',o',o',o',o',o',o',o',o',o',o',o',o',o',o',o',o',o',o',o',o',o'] rfl rfl (any_of HT_.out (by kernel_rfl)) (fun _ _ _ h => h) (Or.inl ⟨by rfl, ?_⟩) ?_ ?_
        rotate_left;·intro w';go_simp;with_reducible rfl
        rotate_left;·simp only [Act.put, la_, lz_, ls_, i64_w, i32_w];rfl
        refine pure_ (i := 11) (N := some 29) (v := undef) (a' := ?_) #[i',i',i',i',i',i',i',i',i',i',i',i',o',o',o',o',o',o',o',o',o',o',o',o',o',o',o',o',o',o',o',o',o',o',o',o',o',o',o',o',o',o'] rfl rfl (any_of HT_.out (by kernel_rfl)) (fun _ _ _ h => h) (Or.inr ⟨by rfl, rfl⟩) ?_ ?_
        rotate_left
        ·simp only [Act.put, la_, lz_, ls_, i64_w, i32_w]
         rfl
        refine pure_ (i := 12) (N := some 30) (v := undef) (a' := ?_) #[i',i',i',i',i',i',i',i',i',i',i',i',i',o',o',o',o',o',o',o',o',o',o',o',o',o',o',o',o',o',o',o',o',o',o',o',o',o',o',o',o',o'] rfl rfl (any_of HT_.out (by kernel_rfl)) (fun _ _ _ h => h) (Or.inr ⟨by rfl, rfl⟩) ?_ ?_
        rotate_left
        ·simp only [Act.put, la_, lz_, ls_, i64_w, i32_w]
         rfl
        refine pure_ (i := 13) (N := some 31) (v := undef) (a' := ?_) #[i',i',i',i',i',i',i',i',i',i',i',i',i',i',o',o',o',o',o',o',o',o',o',o',o',o',o',o',o',o',o',o',o',o',o',o',o',o',o',o',o',o'] rfl rfl (any_of HT_.out (by kernel_rfl)) (fun _ _ _ h => h) (Or.inr ⟨by rfl, rfl⟩) ?_ ?_
        rotate_left
        ·simp only [Act.put, la_, lz_, ls_, i64_w, i32_w]
         rfl
        refine pure_ (i := 14) (N := some 32) (v := ?_) (a' := ?_) #[i',i',i',i',i',i',i',i',i',i',i',i',i',i',i',o',o',o',o',o',o',o',o',o',o',o',o',o',o',o',o',o',o',o',o',o',o',o',o',o',o',o'] rfl rfl (any_of HT_.out (by kernel_rfl)) (fun _ _ _ h => h) (Or.inl ⟨by rfl, ?_⟩) ?_ ?_
        rotate_left;·intro w';go_simp;with_reducible rfl
        rotate_left;·simp only [Act.put, la_, lz_, ls_, i64_w, i32_w];rfl
        refine pure_ (i := 15) (N := some 33) (v := ?_) (a' := ?_) #[i',i',i',i',i',i',i',i',i',i',i',i',i',i',i',i',o',o',o',o',o',o',o',o',o',o',o',o',o',o',o',o',o',o',o',o',o',o',o',o',o',o'] rfl rfl (any_of HT_.out (by kernel_rfl)) (fun _ _ _ h => h) (Or.inl ⟨by rfl, ?_⟩) ?_ ?_
        rotate_left;·intro w';go_simp;with_reducible rfl
        rotate_left;·simp only [Act.put, la_, lz_, ls_, i64_w, i32_w];rfl
        refine pure_ (i := 16) (N := some 34) (v := undef) (a' := ?_) #[i',i',i',i',i',i',i',i',i',i',i',i',i',i',i',i',i',o',o',o',o',o',o',o',o',o',o',o',o',o',o',o',o',o',o',o',o',o',o',o',o',o'] rfl rfl (any_of HT_.out (by kernel_rfl)) (fun _ _ _ h => h) (Or.inr ⟨by rfl, rfl⟩) ?_ ?_
        rotate_left
        ·simp only [Act.put, la_, lz_, ls_, i64_w, i32_w]
         rfl
        refine pure_ (i := 17) (N := some 35) (v := undef) (a' := ?_) #[i',i',i',i',i',i',i',i',i',i',i',i',i',i',i',i',i',i',o',o',o',o',o',o',o',o',o',o',o',o',o',o',o',o',o',o',o',o',o',o',o',o'] rfl rfl (any_of HT_.out (by kernel_rfl)) (fun _ _ _ h => h) (Or.inr ⟨by rfl, rfl⟩) ?_ ?_
        rotate_left
        ·simp only [Act.put, la_, lz_, ls_, i64_w, i32_w]
         rfl
        refine pure_ (i := 18) (N := some 36) (v := undef) (a' := ?_) #[i',i',i',i',i',i',i',i',i',i',i',i',i',i',i',i',i',i',i',o',o',o',o',o',o',o',o',o',o',o',o',o',o',o',o',o',o',o',o',o',o',o'] rfl rfl (any_of HT_.out (by kernel_rfl)) (fun _ _ _ h => h) (Or.inr ⟨by rfl, rfl⟩) ?_ ?_
        rotate_left
        ·simp only [Act.put, la_, lz_, ls_, i64_w, i32_w]
         rfl
        refine pure_ (i := 19) (N := some 37) (v := undef) (a' := ?_) #[i',i',i',i',i',i',i',i',i',i',i',i',i',i',i',i',i',i',i',i',o',o',o',o',o',o',o',o',o',o',o',o',o',o',o',o',o',o',o',o',o',o'] rfl rfl (any_of HT_.out (by kernel_rfl)) (fun _ _ _ h => h) (Or.inr ⟨by rfl, rfl⟩) ?_ ?_
        rotate_left
        ·simp only [Act.put, la_, lz_, ls_, i64_w, i32_w]
         rfl
        refine pure_ (i := 20) (N := some 38) (v := ?_) (a' := ?_) #[i',i',i',i',i',i',i',i',i',i',i',i',i',i',i',i',i',i',i',i',i',o',o',o',o',o',o',o',o',o',o',o',o',o',o',o',o',o',o',o',o',o'] rfl rfl (any_of HT_.out (by kernel_rfl)) (fun _ _ _ h => h) (Or.inl ⟨by rfl, ?_⟩) ?_ ?_
        rotate_left;·intro w';go_simp;with_reducible rfl
        rotate_left;·simp only [Act.put, la_, lz_, ls_, i64_w, i32_w];rfl
        refine pure_ (i := 21) (N := some 39) (v := ?_) (a' := ?_) #[i',i',i',i',i',i',i',i',i',i',i',i',i',i',i',i',i',i',i',i',i',i',o',o',o',o',o',o',o',o',o',o',o',o',o',o',o',o',o',o',o',o'] rfl rfl (any_of HT_.out (by kernel_rfl)) (fun _ _ _ h => h) (Or.inl ⟨by rfl, ?_⟩) ?_ ?_
        rotate_left;·intro w';go_simp;with_reducible rfl
        rotate_left;·simp only [Act.put, la_, lz_, ls_, i64_w, i32_w];rfl
        refine pure_ (i := 22) (N := some 40) (v := undef) (a' := ?_) #[i',i',i',i',i',i',i',i',i',i',i',i',i',i',i',i',i',i',i',i',i',i',i',o',o',o',o',o',o',o',o',o',o',o',o',o',o',o',o',o',o',o'] rfl rfl (any_of HT_.out (by kernel_rfl)) (fun _ _ _ h => h) (Or.inr ⟨by rfl, rfl⟩) ?_ ?_
        rotate_left
        ·simp only [Act.put, la_, lz_, ls_, i64_w, i32_w]
         rfl
        refine pure_ (i := 23) (N := some 41) (v := undef) (a' := ?_) #[i',i',i',i',i',i',i',i',i',i',i',i',i',i',i',i',i',i',i',i',i',i',i',i',o',o',o',o',o',o',o',o',o',o',o',o',o',o',o',o',o',o'] rfl rfl (any_of HT_.out (by kernel_rfl)) (fun _ _ _ h => h) (Or.inr ⟨by rfl, rfl⟩) ?_ ?_
        rotate_left
        ·simp only [Act.put, la_, lz_, ls_, i64_w, i32_w]
         rfl
        refine pure_ (i := 24) (N := some 42) (v := undef) (a' := ?_) #[i',i',i',i',i',i',i',i',i',i',i',i',i',i',i',i',i',i',i',i',i',i',i',i',i',o',o',o',o',o',o',o',o',o',o',o',o',o',o',o',o',o'] rfl rfl (any_of HT_.out (by kernel_rfl)) (fun _ _ _ h => h) (Or.inr ⟨by rfl, rfl⟩) ?_ ?_
        rotate_left
        ·simp only [Act.put, la_, lz_, ls_, i64_w, i32_w]
         rfl
        refine pure_ (i := 25) (N := some 43) (v := undef) (a' := ?_) #[i',i',i',i',i',i',i',i',i',i',i',i',i',i',i',i',i',i',i',i',i',i',i',i',i',i',o',o',o',o',o',o',o',o',o',o',o',o',o',o',o',o'] rfl rfl (any_of HT_.out (by kernel_rfl)) (fun _ _ _ h => h) (Or.inr ⟨by rfl, rfl⟩) ?_ ?_
        rotate_left
        ·simp only [Act.put, la_, lz_, ls_, i64_w, i32_w]
         rfl
        refine pure_ (i := 26) (N := some 44) (v := ?_) (a' := ?_) #[i',i',i',i',i',i',i',i',i',i',i',i',i',i',i',i',i',i',i',i',i',i',i',i',i',i',i',o',o',o',o',o',o',o',o',o',o',o',o',o',o',o'] rfl rfl (any_of HT_.out (by kernel_rfl)) (fun _ _ _ h => h) (Or.inl ⟨by rfl, ?_⟩) ?_ ?_
        rotate_left;·intro w';go_simp;with_reducible rfl
        rotate_left;·simp only [Act.put, la_, lz_, ls_, i64_w, i32_w];rfl
        refine pure_ (i := 27) (N := some 45) (v := ?_) (a' := ?_) #[i',i',i',i',i',i',i',i',i',i',i',i',i',i',i',i',i',i',i',i',i',i',i',i',i',i',i',i',o',o',o',o',o',o',o',o',o',o',o',o',o',o'] rfl rfl (any_of HT_.out (by kernel_rfl)) (fun _ _ _ h => h) (Or.inl ⟨by rfl, ?_⟩) ?_ ?_
        rotate_left;·intro w';go_simp;with_reducible rfl
        rotate_left;·simp only [Act.put, la_, lz_, ls_, i64_w, i32_w];rfl
        refine pure_ (i := 28) (N := some 46) (v := undef) (a' := ?_) #[i',i',i',i',i',i',i',i',i',i',i',i',i',i',i',i',i',i',i',i',i',i',i',i',i',i',i',i',i',o',o',o',o',o',o',o',o',o',o',o',o',o'] rfl rfl (any_of HT_.out (by kernel_rfl)) (fun _ _ _ h => h) (Or.inr ⟨by rfl, rfl⟩) ?_ ?_
        rotate_left
        ·simp only [Act.put, la_, lz_, ls_, i64_w, i32_w]
         rfl
        refine pure_ (i := 29) (N := some 47) (v := undef) (a' := ?_) #[i',i',i',i',i',i',i',i',i',i',i',i',i',i',i',i',i',i',i',i',i',i',i',i',i',i',i',i',i',i',o',o',o',o',o',o',o',o',o',o',o',o'] rfl rfl (any_of HT_.out (by kernel_rfl)) (fun _ _ _ h => h) (Or.inr ⟨by rfl, rfl⟩) ?_ ?_
        rotate_left
        ·simp only [Act.put, la_, lz_, ls_, i64_w, i32_w]
         rfl
        refine pure_ (i := 30) (N := some 48) (v := undef) (a' := ?_) #[i',i',i',i',i',i',i',i',i',i',i',i',i',i',i',i',i',i',i',i',i',i',i',i',i',i',i',i',i',i',i',o',o',o',o',o',o',o',o',o',o',o'] rfl rfl (any_of HT_.out (by kernel_rfl)) (fun _ _ _ h => h) (Or.inr ⟨by rfl, rfl⟩) ?_ ?_
        rotate_left
        ·simp only [Act.put, la_, lz_, ls_, i64_w, i32_w]
         rfl
        refine pure_ (i := 31) (N := some 49) (v := undef) (a' := ?_) #[i',i',i',i',i',i',i',i',i',i',i',i',i',i',i',i',i',i',i',i',i',i',i',i',i',i',i',i',i',i',i',i',o',o',o',o',o',o',o',o',o',o'] rfl rfl (any_of HT_.out (by kernel_rfl)) (fun _ _ _ h => h) (Or.inr ⟨by rfl, rfl⟩) ?_ ?_
        rotate_left
        ·simp only [Act.put, la_, lz_, ls_, i64_w, i32_w]
         rfl
        refine pure_ (i := 32) (N := some 50) (v := undef) (a' := ?_) #[i',i',i',i',i',i',i',i',i',i',i',i',i',i',i',i',i',i',i',i',i',i',i',i',i',i',i',i',i',i',i',i',i',o',o',o',o',o',o',o',o',o'] rfl rfl (any_of HT_.out (by kernel_rfl)) (fun _ _ _ h => h) (Or.inr ⟨by rfl, rfl⟩) ?_ ?_
        rotate_left
        ·simp only [Act.put, la_, lz_, ls_, i64_w, i32_w]
         rfl
        refine pure_ (i := 33) (N := some 51) (v := undef) (a' := ?_) #[i',i',i',i',i',i',i',i',i',i',i',i',i',i',i',i',i',i',i',i',i',i',i',i',i',i',i',i',i',i',i',i',i',i',o',o',o',o',o',o',o',o'] rfl rfl (any_of HT_.out (by kernel_rfl)) (fun _ _ _ h => h) (Or.inr ⟨by rfl, rfl⟩) ?_ ?_
        rotate_left
        ·simp only [Act.put, la_, lz_, ls_, i64_w, i32_w]
         rfl
        refine pure_ (i := 34) (N := some 52) (v := undef) (a' := ?_) #[i',i',i',i',i',i',i',i',i',i',i',i',i',i',i',i',i',i',i',i',i',i',i',i',i',i',i',i',i',i',i',i',i',i',i',o',o',o',o',o',o',o'] rfl rfl (any_of HT_.out (by kernel_rfl)) (fun _ _ _ h => h) (Or.inr ⟨by rfl, rfl⟩) ?_ ?_
        rotate_left
        ·simp only [Act.put, la_, lz_, ls_, i64_w, i32_w]
         rfl
        refine pure_ (i := 35) (N := some 53) (v := undef) (a' := ?_) #[i',i',i',i',i',i',i',i',i',i',i',i',i',i',i',i',i',i',i',i',i',i',i',i',i',i',i',i',i',i',i',i',i',i',i',i',o',o',o',o',o',o'] rfl rfl (any_of HT_.out (by kernel_rfl)) (fun _ _ _ h => h) (Or.inr ⟨by rfl, rfl⟩) ?_ ?_
        rotate_left
        ·simp only [Act.put, la_, lz_, ls_, i64_w, i32_w]
         rfl
        refine pure_ (i := 36) (N := some 54) (v := undef) (a' := ?_) #[i',i',i',i',i',i',i',i',i',i',i',i',i',i',i',i',i',i',i',i',i',i',i',i',i',i',i',i',i',i',i',i',i',i',i',i',i',o',o',o',o',o'] rfl rfl (any_of HT_.out (by kernel_rfl)) (fun _ _ _ h => h) (Or.inr ⟨by rfl, rfl⟩) ?_ ?_
        rotate_left
        ·simp only [Act.put, la_, lz_, ls_, i64_w, i32_w]
         rfl
        refine pure_ (i := 37) (N := some 55) (v := undef) (a' := ?_) #[i',i',i',i',i',i',i',i',i',i',i',i',i',i',i',i',i',i',i',i',i',i',i',i',i',i',i',i',i',i',i',i',i',i',i',i',i',i',o',o',o',o'] rfl rfl (any_of HT_.out (by kernel_rfl)) (fun _ _ _ h => h) (Or.inr ⟨by rfl, rfl⟩) ?_ ?_
        rotate_left
        ·simp only [Act.put, la_, lz_, ls_, i64_w, i32_w]
         rfl
        refine pure_ (i := 38) (N := some 56) (v := undef) (a' := ?_) #[i',i',i',i',i',i',i',i',i',i',i',i',i',i',i',i',i',i',i',i',i',i',i',i',i',i',i',i',i',i',i',i',i',i',i',i',i',i',i',o',o',o'] rfl rfl (any_of HT_.out (by kernel_rfl)) (fun _ _ _ h => h) (Or.inr ⟨by rfl, rfl⟩) ?_ ?_
        rotate_left
        ·simp only [Act.put, la_, lz_, ls_, i64_w, i32_w]
         rfl
        refine pure_ (i := 39) (N := some 57) (v := undef) (a' := ?_) #[i',i',i',i',i',i',i',i',i',i',i',i',i',i',i',i',i',i',i',i',i',i',i',i',i',i',i',i',i',i',i',i',i',i',i',i',i',i',i',i',o',o'] rfl rfl (any_of HT_.out (by kernel_rfl)) (fun _ _ _ h => h) (Or.inr ⟨by rfl, rfl⟩) ?_ ?_
        rotate_left
        ·simp only [Act.put, la_, lz_, ls_, i64_w, i32_w]
         rfl
        refine pure_ (i := 40) (N := some 58) (v := undef) (a' := ?_) #[i',i',i',i',i',i',i',i',i',i',i',i',i',i',i',i',i',i',i',i',i',i',i',i',i',i',i',i',i',i',i',i',i',i',i',i',i',i',i',i',i',o'] rfl rfl (any_of HT_.out (by kernel_rfl)) (fun _ _ _ h => h) (Or.inr ⟨by rfl, rfl⟩) ?_ ?_
        rotate_left
        ·simp only [Act.put, la_, lz_, ls_, i64_w, i32_w]
         rfl
        refine pure_ (i := 41) (N := some 59) (v := ?_) (a' := ?_) #[i',i',i',i',i',i',i',i',i',i',i',i',i',i',i',i',i',i',i',i',i',i',i',i',i',i',i',i',i',i',i',i',i',i',i',i',i',i',i',i',i',i'] rfl rfl (any_of HT_.out (by kernel_rfl)) (fun _ _ _ h => h) (Or.inl ⟨by rfl, ?_⟩) ?_ ?_
        rotate_left;·intro w';go_simp;with_reducible rfl
        rotate_left;·simp only [Act.put, la_, lz_, ls_, i64_w, i32_w];rfl
        refine done_ (done_of HT_.out (by kernel_rfl)) ?_
        try go_wp2
        go_ret
        exact ⟨re_, hs_ HB GE108⟩
      ·replace c6 := Bool.eq_false_iff.mpr c6
       subst c6
       have H1 : (some false) = some r := by rw [if_neg (show ¬ (false = true) by decide)] at H; exact H
       clear H
       have H := H1
       clear H1
       obtain rfl := Option.some.inj H
       have p107 : 0 ≤ (x3_1 : Int) := of_decide_eq_true as_
       have q107 : x3_1 < (l0.length : Int) := of_decide_eq_true as_
       obtain ⟨ad107, e107, hx107_0, hx107_1, hx107_2, hx107_3, hx107_4⟩ := at_T113 HR0.out x3_1 p107 q107
       cases e107
       replace hx107_0 := (HB.out.cell (World.block_lt_of_cell? w _ hx107_0)).trans hx107_0
       replace hx107_1 := (HB.out.cell (World.block_lt_of_cell? w _ hx107_1)).trans hx107_1
       replace hx107_2 := (HB.out.cell (World.block_lt_of_cell? w _ hx107_2)).trans hx107_2
       replace hx107_3 := (HB.out.cell (World.block_lt_of_cell? w _ hx107_3)).trans hx107_3
       replace hx107_4 := (HB.out.cell (World.block_lt_of_cell? w _ hx107_4)).trans hx107_4
       replace p107 := eq_true p107
       replace q107 := eq_true q107
       try go_wp2_with (first | ((with_reducible refine gate_dst (N := 4) rfl ?_); refine box_event ?hg (N := 4) ?hd (cs := #[.string (⟨#[]⟩ : ByteArray), .int .i64 0, .int .i64 0, .int .i64 0, .int .i64 0]) (t := 113) ?hr ?_; (case hd => rfl); (case hg => rfl); (case hr => first | (go_simp; done) | (go_simp; rfl)); intro gb108 hg w47 hbox hb; have n0_ := Aside0.mk (below_step (hb_ HB) hb); have n1_ := Aside0.mk (hbox); have n2_ := Aside0.mk ((by rw [hg]; exact (below_size (hb_ HB)) : w.heap.size ≤ gb108)); have n3_ := Aside0.mk ((by rw [hg]; exact (below_size (hb_ HB)) : w.heap.size ≤ gb108)); clear HB; have HB := n0_; have BK108 := n1_; have GW108 := n2_; have GE108 := n3_; clear n0_ n1_ n2_ n3_; clear hb hbox hg; have hcz48_0 : w47.cell? ⟨gb108, 0, none⟩ = some (.string (⟨#[]⟩ : ByteArray)) := (blk_cell BK108.out 0).trans rfl; have hcz48_1 : w47.cell? ⟨gb108, 1, none⟩ = some (.int .i64 0) := (blk_cell BK108.out 1).trans rfl; have hcz48_2 : w47.cell? ⟨gb108, 2, none⟩ = some (.int .i64 0) := (blk_cell BK108.out 2).trans rfl; have hcz48_3 : w47.cell? ⟨gb108, 3, none⟩ = some (.int .i64 0) := (blk_cell BK108.out 3).trans rfl; have hcz48_4 : w47.cell? ⟨gb108, 4, none⟩ = some (.int .i64 0) := (blk_cell BK108.out 4).trans rfl; have hfz48_0 := blk_frozen BK108.out 0; have hfz48_1 := blk_frozen BK108.out 1; have hfz48_2 := blk_frozen BK108.out 2; have hfz48_3 := blk_frozen BK108.out 3; have hfz48_4 := blk_frozen BK108.out 4))
       have n0_ : Aside0 ((((((w47.setCell ⟨gb108, 0, none⟩ (.string ((rd_T113 l0 x3_1).f0))).setCell ⟨gb108, 1, none⟩ (.int .i64 ((rd_T113 l0 x3_1).f1))).setCell ⟨gb108, 2, none⟩ (.int .i64 ((rd_T113 l0 x3_1).f2))).setCell ⟨gb108, 3, none⟩ (.int .i64 ((rd_T113 l0 x3_1).f3))).setCell ⟨gb108, 4, none⟩ (.int .i64 ((rd_T113 l0 x3_1).f4))).heap[gb108]? = some (.cells #[.string ((rd_T113 l0 x3_1).f0), .int .i64 ((rd_T113 l0 x3_1).f1), .int .i64 ((rd_T113 l0 x3_1).f2), .int .i64 ((rd_T113 l0 x3_1).f3), .int .i64 ((rd_T113 l0 x3_1).f4)] 113 (0, 0))) := ⟨by (with_reducible repeat (first | refine blk_drewN ?_ _ | refine blk_drew ?_ | refine blk_alloc ?_ _)); refine blk_put (cs := #[.string ((rd_T113 l0 x3_1).f0), .int .i64 ((rd_T113 l0 x3_1).f1), .int .i64 ((rd_T113 l0 x3_1).f2), .int .i64 ((rd_T113 l0 x3_1).f3), .int .i64 0]) ?_ 4 _ rfl; (with_reducible repeat (first | refine blk_drewN ?_ _ | refine blk_drew ?_ | refine blk_alloc ?_ _)); refine blk_put (cs := #[.string ((rd_T113 l0 x3_1).f0), .int .i64 ((rd_T113 l0 x3_1).f1), .int .i64 ((rd_T113 l0 x3_1).f2), .int .i64 0, .int .i64 0]) ?_ 3 _ rfl; (with_reducible repeat (first | refine blk_drewN ?_ _ | refine blk_drew ?_ | refine blk_alloc ?_ _)); refine blk_put (cs := #[.string ((rd_T113 l0 x3_1).f0), .int .i64 ((rd_T113 l0 x3_1).f1), .int .i64 0, .int .i64 0, .int .i64 0]) ?_ 2 _ rfl; (with_reducible repeat (first | refine blk_drewN ?_ _ | refine blk_drew ?_ | refine blk_alloc ?_ _)); refine blk_put (cs := #[.string ((rd_T113 l0 x3_1).f0), .int .i64 0, .int .i64 0, .int .i64 0, .int .i64 0]) ?_ 1 _ rfl; (with_reducible repeat (first | refine blk_drewN ?_ _ | refine blk_drew ?_ | refine blk_alloc ?_ _)); refine blk_put (cs := #[.string (⟨#[]⟩ : ByteArray), .int .i64 0, .int .i64 0, .int .i64 0, .int .i64 0]) ?_ 0 _ rfl; (with_reducible repeat (first | refine blk_drewN ?_ _ | refine blk_drew ?_ | refine blk_alloc ?_ _)); exact BK108.out⟩
       have n1_ : Aside0 (Below w.heap.size w (((((w47.setCell ⟨gb108, 0, none⟩ (.string ((rd_T113 l0 x3_1).f0))).setCell ⟨gb108, 1, none⟩ (.int .i64 ((rd_T113 l0 x3_1).f1))).setCell ⟨gb108, 2, none⟩ (.int .i64 ((rd_T113 l0 x3_1).f2))).setCell ⟨gb108, 3, none⟩ (.int .i64 ((rd_T113 l0 x3_1).f3))).setCell ⟨gb108, 4, none⟩ (.int .i64 ((rd_T113 l0 x3_1).f4)))) := ⟨hs_ HB GE108⟩
       (try clear BK108)
       (try clear HB)
       generalize (((((w47.setCell ⟨gb108, 0, none⟩ (.string ((rd_T113 l0 x3_1).f0))).setCell ⟨gb108, 1, none⟩ (.int .i64 ((rd_T113 l0 x3_1).f1))).setCell ⟨gb108, 2, none⟩ (.int .i64 ((rd_T113 l0 x3_1).f2))).setCell ⟨gb108, 3, none⟩ (.int .i64 ((rd_T113 l0 x3_1).f3))).setCell ⟨gb108, 4, none⟩ (.int .i64 ((rd_T113 l0 x3_1).f4))) = w49 at n0_ n1_ ⊢
       have BK108 := n0_
       have HB := n1_
       clear n0_ n1_
       have n0_ := Aside0.mk (blk_drew BK108.out)
       have n1_ := Aside0.mk (below_drew1 HB.out)
       clear BK108
       clear HB
       have BK108 := n0_
       have HB := n1_
       clear n0_ n1_
       refine start_ (n := 42) (S := fun w' => w'.cell? ⟨gb108, 0, none⟩ = some (.string ((rd_T113 l0 x3_1).f0)) ∧ w'.cell? ⟨gb108, 1, none⟩ = some (.int .i64 ((rd_T113 l0 x3_1).f1)) ∧ w'.cell? ⟨gb108, 2, none⟩ = some (.int .i64 ((rd_T113 l0 x3_1).f2)) ∧ w'.cell? ⟨gb108, 3, none⟩ = some (.int .i64 ((rd_T113 l0 x3_1).f3)) ∧ w'.cell? ⟨gb108, 4, none⟩ = some (.int .i64 ((rd_T113 l0 x3_1).f4))) (ds := []) #[o',o',o',o',o',o',o',o',o',o',o',o',o',o',o',o',o',o',o',o',o',o',o',o',o',o',o',o',o',o',o',o',o',o',o',o',o',o',o',o',o',o'] (by kernel_rfl) rfl rfl ⟨(blk_cell BK108.out 0).trans rfl, (blk_cell BK108.out 1).trans rfl, (blk_cell BK108.out 2).trans rfl, (blk_cell BK108.out 3).trans rfl, (blk_cell BK108.out 4).trans rfl⟩ (fun hHeld => ?_); refine with_tabW spec_DirOk.tab7 spec_DirOk.bits7 (fun HT_ HW_ => ?_)
       generalize w49.drew = w50 at BK108 HB hHeld ⊢
       refine pure_ (i := 0) (N := some 18) (v := ?_) (a' := ?_) #[i',o',o',o',o',o',o',o',o',o',o',o',o',o',o',o',o',o',o',o',o',o',o',o',o',o',o',o',o',o',o',o',o',o',o',o',o',o',o',o',o',o'] rfl rfl (any_of HT_.out (by kernel_rfl)) (fun _ _ _ h => h) (Or.inl ⟨by rfl, ?_⟩) ?_ ?_
       rotate_left;·intro w';go_simp;with_reducible rfl
       rotate_left;·simp only [Act.put, la_, lz_, ls_, i64_w, i32_w];rfl
       refine take_ (i := 1) (N := some 19) (v := ?_) (a' := ?_) #[i',i',o',o',o',o',o',o',o',o',o',o',o',o',o',o',o',o',o',o',o',o',o',o',o',o',o',o',o',o',o',o',o',o',o',o',o',o',o',o',o',o'] rfl rfl (take_ofW HT_.out HW_.out (by kernel_rfl)) (fun _ _ _ h => h) (Or.inl ⟨by rfl, ?_⟩) hHeld ?_ ?_
       rotate_left
       ·rintro w' ⟨s0, s1, s2, s3, s4⟩
        go_simp
        with_reducible rfl
       rotate_left
       ·simp only [Act.put, la_, lz_, ls_, i64_w, i32_w]
        rfl
       refine one_ (i := 2) (N := some 20) #[i',i',i',o',o',o',o',o',o',o',o',o',o',o',o',o',o',o',o',o',o',o',o',o',o',o',o',o',o',o',o',o',o',o',o',o',o',o',o',o',o',o'] rfl rfl (one_of HT_.out (by kernel_rfl)) (by decide) (fun K hK => ?_)
       refine goes_ Try.func106 (by kernel_rfl) rfl #[.string ((rd_T113 l0 x3_1).f0)] (by rfl) rfl rfl ar_ ?_
       with_reducible refine (spec_KeyOk.calls ((rd_T113 l0 x3_1).f0) false _ A5.out).mono ?_
       rintro e w' ⟨rfl, ⟨nd, rfl⟩⟩
       refine ⟨_, rfl, ?_⟩
       refine hK.out _ _ ⟨(blk_cell BK108.out 0).trans rfl, (blk_cell BK108.out 1).trans rfl, (blk_cell BK108.out 2).trans rfl, (blk_cell BK108.out 3).trans rfl, (blk_cell BK108.out 4).trans rfl⟩ (fun hHeld => ?_)
       clear hK K
       refine norm_ (a' := ?_) ?_ ?_
       rotate_left
       ·show Act.put _ (some 20) _ = _
        simp only [Act.put, la_, lz_, ls_, i64_w, i32_w]
        rfl
       refine pure_ (i := 3) (N := some 21) (v := ?_) (a' := ?_) #[i',i',i',i',o',o',o',o',o',o',o',o',o',o',o',o',o',o',o',o',o',o',o',o',o',o',o',o',o',o',o',o',o',o',o',o',o',o',o',o',o',o'] rfl rfl (any_of HT_.out (by kernel_rfl)) (fun _ _ _ h => h) (Or.inl ⟨by rfl, ?_⟩) ?_ ?_
       rotate_left;·intro w';go_simp;with_reducible rfl
       rotate_left;·simp only [Act.put, la_, lz_, ls_, i64_w, i32_w];rfl
       refine pure_ (i := 4) (N := some 22) (v := ?_) (a' := ?_) #[i',i',i',i',i',o',o',o',o',o',o',o',o',o',o',o',o',o',o',o',o',o',o',o',o',o',o',o',o',o',o',o',o',o',o',o',o',o',o',o',o',o'] rfl rfl (any_of HT_.out (by kernel_rfl)) (fun _ _ _ h => h) (Or.inl ⟨by rfl, ?_⟩) ?_ ?_
       rotate_left;·intro w';go_simp;with_reducible rfl
       rotate_left;·simp only [Act.put, la_, lz_, ls_, i64_w, i32_w];rfl
       refine pure_ (i := 5) (N := some 23) (v := undef) (a' := ?_) #[i',i',i',i',i',i',o',o',o',o',o',o',o',o',o',o',o',o',o',o',o',o',o',o',o',o',o',o',o',o',o',o',o',o',o',o',o',o',o',o',o',o'] rfl rfl (any_of HT_.out (by kernel_rfl)) (fun _ _ _ h => h) (Or.inr ⟨by rfl, rfl⟩) ?_ ?_
       rotate_left
       ·simp only [Act.put, la_, lz_, ls_, i64_w, i32_w]
        rfl
       refine pure_ (i := 6) (N := some 24) (v := undef) (a' := ?_) #[i',i',i',i',i',i',i',o',o',o',o',o',o',o',o',o',o',o',o',o',o',o',o',o',o',o',o',o',o',o',o',o',o',o',o',o',o',o',o',o',o',o'] rfl rfl (any_of HT_.out (by kernel_rfl)) (fun _ _ _ h => h) (Or.inr ⟨by rfl, rfl⟩) ?_ ?_
       rotate_left
       ·simp only [Act.put, la_, lz_, ls_, i64_w, i32_w]
        rfl
       refine pure_ (i := 7) (N := some 25) (v := undef) (a' := ?_) #[i',i',i',i',i',i',i',i',o',o',o',o',o',o',o',o',o',o',o',o',o',o',o',o',o',o',o',o',o',o',o',o',o',o',o',o',o',o',o',o',o',o'] rfl rfl (any_of HT_.out (by kernel_rfl)) (fun _ _ _ h => h) (Or.inr ⟨by rfl, rfl⟩) ?_ ?_
       rotate_left
       ·simp only [Act.put, la_, lz_, ls_, i64_w, i32_w]
        rfl
       refine pure_ (i := 8) (N := some 26) (v := undef) (a' := ?_) #[i',i',i',i',i',i',i',i',i',o',o',o',o',o',o',o',o',o',o',o',o',o',o',o',o',o',o',o',o',o',o',o',o',o',o',o',o',o',o',o',o',o'] rfl rfl (any_of HT_.out (by kernel_rfl)) (fun _ _ _ h => h) (Or.inr ⟨by rfl, rfl⟩) ?_ ?_
       rotate_left
       ·simp only [Act.put, la_, lz_, ls_, i64_w, i32_w]
        rfl
       refine pure_ (i := 9) (N := some 27) (v := ?_) (a' := ?_) #[i',i',i',i',i',i',i',i',i',i',o',o',o',o',o',o',o',o',o',o',o',o',o',o',o',o',o',o',o',o',o',o',o',o',o',o',o',o',o',o',o',o'] rfl rfl (any_of HT_.out (by kernel_rfl)) (fun _ _ _ h => h) (Or.inl ⟨by rfl, ?_⟩) ?_ ?_
       rotate_left;·intro w';go_simp;with_reducible rfl
       rotate_left;·simp only [Act.put, la_, lz_, ls_, i64_w, i32_w];rfl
       refine pure_ (i := 10) (N := some 28) (v := ?_) (a' := ?_) #[i',i',i',i',i',i',i',i',i',i',i',o',o',o',o',o',o',o',o',o',o',o',o',o',o',o',o',o',o',o',o',o',o',o',o',o',o',o',o',o',o',o'] rfl rfl (any_of HT_.out (by kernel_rfl)) (fun _ _ _ h => h) (Or.inl ⟨by rfl, ?_⟩) ?_ ?_
       rotate_left;·intro w';go_simp;with_reducible rfl
       rotate_left;·simp only [Act.put, la_, lz_, ls_, i64_w, i32_w];rfl
       refine pure_ (i := 11) (N := some 29) (v := undef) (a' := ?_) #[i',i',i',i',i',i',i',i',i',i',i',i',o',o',o',o',o',o',o',o',o',o',o',o',o',o',o',o',o',o',o',o',o',o',o',o',o',o',o',o',o',o'] rfl rfl (any_of HT_.out (by kernel_rfl)) (fun _ _ _ h => h) (Or.inr ⟨by rfl, rfl⟩) ?_ ?_
       rotate_left
       ·simp only [Act.put, la_, lz_, ls_, i64_w, i32_w]
        rfl
       refine pure_ (i := 12) (N := some 30) (v := undef) (a' := ?_) #[i',i',i',i',i',i',i',i',i',i',i',i',i',o',o',o',o',o',o',o',o',o',o',o',o',o',o',o',o',o',o',o',o',o',o',o',o',o',o',o',o',o'] rfl rfl (any_of HT_.out (by kernel_rfl)) (fun _ _ _ h => h) (Or.inr ⟨by rfl, rfl⟩) ?_ ?_
       rotate_left
       ·simp only [Act.put, la_, lz_, ls_, i64_w, i32_w]
        rfl
       refine pure_ (i := 13) (N := some 31) (v := undef) (a' := ?_) #[i',i',i',i',i',i',i',i',i',i',i',i',i',i',o',o',o',o',o',o',o',o',o',o',o',o',o',o',o',o',o',o',o',o',o',o',o',o',o',o',o',o'] rfl rfl (any_of HT_.out (by kernel_rfl)) (fun _ _ _ h => h) (Or.inr ⟨by rfl, rfl⟩) ?_ ?_
       rotate_left
       ·simp only [Act.put, la_, lz_, ls_, i64_w, i32_w]
        rfl
       refine pure_ (i := 14) (N := some 32) (v := ?_) (a' := ?_) #[i',i',i',i',i',i',i',i',i',i',i',i',i',i',i',o',o',o',o',o',o',o',o',o',o',o',o',o',o',o',o',o',o',o',o',o',o',o',o',o',o',o'] rfl rfl (any_of HT_.out (by kernel_rfl)) (fun _ _ _ h => h) (Or.inl ⟨by rfl, ?_⟩) ?_ ?_
       rotate_left;·intro w';go_simp;with_reducible rfl
       rotate_left;·simp only [Act.put, la_, lz_, ls_, i64_w, i32_w];rfl
       refine pure_ (i := 15) (N := some 33) (v := ?_) (a' := ?_) #[i',i',i',i',i',i',i',i',i',i',i',i',i',i',i',i',o',o',o',o',o',o',o',o',o',o',o',o',o',o',o',o',o',o',o',o',o',o',o',o',o',o'] rfl rfl (any_of HT_.out (by kernel_rfl)) (fun _ _ _ h => h) (Or.inl ⟨by rfl, ?_⟩) ?_ ?_
       rotate_left;·intro w';go_simp;with_reducible rfl
       rotate_left;·simp only [Act.put, la_, lz_, ls_, i64_w, i32_w];rfl
       refine pure_ (i := 16) (N := some 34) (v := undef) (a' := ?_) #[i',i',i',i',i',i',i',i',i',i',i',i',i',i',i',i',i',o',o',o',o',o',o',o',o',o',o',o',o',o',o',o',o',o',o',o',o',o',o',o',o',o'] rfl rfl (any_of HT_.out (by kernel_rfl)) (fun _ _ _ h => h) (Or.inr ⟨by rfl, rfl⟩) ?_ ?_
       rotate_left
       ·simp only [Act.put, la_, lz_, ls_, i64_w, i32_w]
        rfl
       refine pure_ (i := 17) (N := some 35) (v := undef) (a' := ?_) #[i',i',i',i',i',i',i',i',i',i',i',i',i',i',i',i',i',i',o',o',o',o',o',o',o',o',o',o',o',o',o',o',o',o',o',o',o',o',o',o',o',o'] rfl rfl (any_of HT_.out (by kernel_rfl)) (fun _ _ _ h => h) (Or.inr ⟨by rfl, rfl⟩) ?_ ?_
       rotate_left
       ·simp only [Act.put, la_, lz_, ls_, i64_w, i32_w]
        rfl
       refine pure_ (i := 18) (N := some 36) (v := undef) (a' := ?_) #[i',i',i',i',i',i',i',i',i',i',i',i',i',i',i',i',i',i',i',o',o',o',o',o',o',o',o',o',o',o',o',o',o',o',o',o',o',o',o',o',o',o'] rfl rfl (any_of HT_.out (by kernel_rfl)) (fun _ _ _ h => h) (Or.inr ⟨by rfl, rfl⟩) ?_ ?_
       rotate_left
       ·simp only [Act.put, la_, lz_, ls_, i64_w, i32_w]
        rfl
       refine pure_ (i := 19) (N := some 37) (v := undef) (a' := ?_) #[i',i',i',i',i',i',i',i',i',i',i',i',i',i',i',i',i',i',i',i',o',o',o',o',o',o',o',o',o',o',o',o',o',o',o',o',o',o',o',o',o',o'] rfl rfl (any_of HT_.out (by kernel_rfl)) (fun _ _ _ h => h) (Or.inr ⟨by rfl, rfl⟩) ?_ ?_
       rotate_left
       ·simp only [Act.put, la_, lz_, ls_, i64_w, i32_w]
        rfl
       refine pure_ (i := 20) (N := some 38) (v := ?_) (a' := ?_) #[i',i',i',i',i',i',i',i',i',i',i',i',i',i',i',i',i',i',i',i',i',o',o',o',o',o',o',o',o',o',o',o',o',o',o',o',o',o',o',o',o',o'] rfl rfl (any_of HT_.out (by kernel_rfl)) (fun _ _ _ h => h) (Or.inl ⟨by rfl, ?_⟩) ?_ ?_
       rotate_left;·intro w';go_simp;with_reducible rfl
       rotate_left;·simp only [Act.put, la_, lz_, ls_, i64_w, i32_w];rfl
       refine pure_ (i := 21) (N := some 39) (v := ?_) (a' := ?_) #[i',i',i',i',i',i',i',i',i',i',i',i',i',i',i',i',i',i',i',i',i',i',o',o',o',o',o',o',o',o',o',o',o',o',o',o',o',o',o',o',o',o'] rfl rfl (any_of HT_.out (by kernel_rfl)) (fun _ _ _ h => h) (Or.inl ⟨by rfl, ?_⟩) ?_ ?_
       rotate_left;·intro w';go_simp;with_reducible rfl
       rotate_left;·simp only [Act.put, la_, lz_, ls_, i64_w, i32_w];rfl
       refine pure_ (i := 22) (N := some 40) (v := undef) (a' := ?_) #[i',i',i',i',i',i',i',i',i',i',i',i',i',i',i',i',i',i',i',i',i',i',i',o',o',o',o',o',o',o',o',o',o',o',o',o',o',o',o',o',o',o'] rfl rfl (any_of HT_.out (by kernel_rfl)) (fun _ _ _ h => h) (Or.inr ⟨by rfl, rfl⟩) ?_ ?_
       rotate_left
       ·simp only [Act.put, la_, lz_, ls_, i64_w, i32_w]
        rfl
       refine pure_ (i := 23) (N := some 41) (v := undef) (a' := ?_) #[i',i',i',i',i',i',i',i',i',i',i',i',i',i',i',i',i',i',i',i',i',i',i',i',o',o',o',o',o',o',o',o',o',o',o',o',o',o',o',o',o',o'] rfl rfl (any_of HT_.out (by kernel_rfl)) (fun _ _ _ h => h) (Or.inr ⟨by rfl, rfl⟩) ?_ ?_
       rotate_left
       ·simp only [Act.put, la_, lz_, ls_, i64_w, i32_w]
        rfl
       refine pure_ (i := 24) (N := some 42) (v := undef) (a' := ?_) #[i',i',i',i',i',i',i',i',i',i',i',i',i',i',i',i',i',i',i',i',i',i',i',i',i',o',o',o',o',o',o',o',o',o',o',o',o',o',o',o',o',o'] rfl rfl (any_of HT_.out (by kernel_rfl)) (fun _ _ _ h => h) (Or.inr ⟨by rfl, rfl⟩) ?_ ?_
       rotate_left
       ·simp only [Act.put, la_, lz_, ls_, i64_w, i32_w]
        rfl
       refine pure_ (i := 25) (N := some 43) (v := undef) (a' := ?_) #[i',i',i',i',i',i',i',i',i',i',i',i',i',i',i',i',i',i',i',i',i',i',i',i',i',i',o',o',o',o',o',o',o',o',o',o',o',o',o',o',o',o'] rfl rfl (any_of HT_.out (by kernel_rfl)) (fun _ _ _ h => h) (Or.inr ⟨by rfl, rfl⟩) ?_ ?_
       rotate_left
       ·simp only [Act.put, la_, lz_, ls_, i64_w, i32_w]
        rfl
       refine pure_ (i := 26) (N := some 44) (v := ?_) (a' := ?_) #[i',i',i',i',i',i',i',i',i',i',i',i',i',i',i',i',i',i',i',i',i',i',i',i',i',i',i',o',o',o',o',o',o',o',o',o',o',o',o',o',o',o'] rfl rfl (any_of HT_.out (by kernel_rfl)) (fun _ _ _ h => h) (Or.inl ⟨by rfl, ?_⟩) ?_ ?_
       rotate_left;·intro w';go_simp;with_reducible rfl
       rotate_left;·simp only [Act.put, la_, lz_, ls_, i64_w, i32_w];rfl
       refine pure_ (i := 27) (N := some 45) (v := ?_) (a' := ?_) #[i',i',i',i',i',i',i',i',i',i',i',i',i',i',i',i',i',i',i',i',i',i',i',i',i',i',i',i',o',o',o',o',o',o',o',o',o',o',o',o',o',o'] rfl rfl (any_of HT_.out (by kernel_rfl)) (fun _ _ _ h => h) (Or.inl ⟨by rfl, ?_⟩) ?_ ?_
       rotate_left;·intro w';go_simp;with_reducible rfl
       rotate_left;·simp only [Act.put, la_, lz_, ls_, i64_w, i32_w];rfl
       refine pure_ (i := 28) (N := some 46) (v := undef) (a' := ?_) #[i',i',i',i',i',i',i',i',i',i',i',i',i',i',i',i',i',i',i',i',i',i',i',i',i',i',i',i',i',o',o',o',o',o',o',o',o',o',o',o',o',o'] rfl rfl (any_of HT_.out (by kernel_rfl)) (fun _ _ _ h => h) (Or.inr ⟨by rfl, rfl⟩) ?_ ?_
       rotate_left
       ·simp only [Act.put, la_, lz_, ls_, i64_w, i32_w]
        rfl
       refine pure_ (i := 29) (N := some 47) (v := undef) (a' := ?_) #[i',i',i',i',i',i',i',i',i',i',i',i',i',i',i',i',i',i',i',i',i',i',i',i',i',i',i',i',i',i',o',o',o',o',o',o',o',o',o',o',o',o'] rfl rfl (any_of HT_.out (by kernel_rfl)) (fun _ _ _ h => h) (Or.inr ⟨by rfl, rfl⟩) ?_ ?_
       rotate_left
       ·simp only [Act.put, la_, lz_, ls_, i64_w, i32_w]
        rfl
       refine pure_ (i := 30) (N := some 48) (v := undef) (a' := ?_) #[i',i',i',i',i',i',i',i',i',i',i',i',i',i',i',i',i',i',i',i',i',i',i',i',i',i',i',i',i',i',i',o',o',o',o',o',o',o',o',o',o',o'] rfl rfl (any_of HT_.out (by kernel_rfl)) (fun _ _ _ h => h) (Or.inr ⟨by rfl, rfl⟩) ?_ ?_
       rotate_left
       ·simp only [Act.put, la_, lz_, ls_, i64_w, i32_w]
        rfl
       refine pure_ (i := 31) (N := some 49) (v := undef) (a' := ?_) #[i',i',i',i',i',i',i',i',i',i',i',i',i',i',i',i',i',i',i',i',i',i',i',i',i',i',i',i',i',i',i',i',o',o',o',o',o',o',o',o',o',o'] rfl rfl (any_of HT_.out (by kernel_rfl)) (fun _ _ _ h => h) (Or.inr ⟨by rfl, rfl⟩) ?_ ?_
       rotate_left
       ·simp only [Act.put, la_, lz_, ls_, i64_w, i32_w]
        rfl
       refine pure_ (i := 32) (N := some 50) (v := undef) (a' := ?_) #[i',i',i',i',i',i',i',i',i',i',i',i',i',i',i',i',i',i',i',i',i',i',i',i',i',i',i',i',i',i',i',i',i',o',o',o',o',o',o',o',o',o'] rfl rfl (any_of HT_.out (by kernel_rfl)) (fun _ _ _ h => h) (Or.inr ⟨by rfl, rfl⟩) ?_ ?_
       rotate_left
       ·simp only [Act.put, la_, lz_, ls_, i64_w, i32_w]
        rfl
       refine pure_ (i := 33) (N := some 51) (v := undef) (a' := ?_) #[i',i',i',i',i',i',i',i',i',i',i',i',i',i',i',i',i',i',i',i',i',i',i',i',i',i',i',i',i',i',i',i',i',i',o',o',o',o',o',o',o',o'] rfl rfl (any_of HT_.out (by kernel_rfl)) (fun _ _ _ h => h) (Or.inr ⟨by rfl, rfl⟩) ?_ ?_
       rotate_left
       ·simp only [Act.put, la_, lz_, ls_, i64_w, i32_w]
        rfl
       refine pure_ (i := 34) (N := some 52) (v := undef) (a' := ?_) #[i',i',i',i',i',i',i',i',i',i',i',i',i',i',i',i',i',i',i',i',i',i',i',i',i',i',i',i',i',i',i',i',i',i',i',o',o',o',o',o',o',o'] rfl rfl (any_of HT_.out (by kernel_rfl)) (fun _ _ _ h => h) (Or.inr ⟨by rfl, rfl⟩) ?_ ?_
       rotate_left
       ·simp only [Act.put, la_, lz_, ls_, i64_w, i32_w]
        rfl
       refine pure_ (i := 35) (N := some 53) (v := undef) (a' := ?_) #[i',i',i',i',i',i',i',i',i',i',i',i',i',i',i',i',i',i',i',i',i',i',i',i',i',i',i',i',i',i',i',i',i',i',i',i',o',o',o',o',o',o'] rfl rfl (any_of HT_.out (by kernel_rfl)) (fun _ _ _ h => h) (Or.inr ⟨by rfl, rfl⟩) ?_ ?_
       rotate_left
       ·simp only [Act.put, la_, lz_, ls_, i64_w, i32_w]
        rfl
       refine pure_ (i := 36) (N := some 54) (v := undef) (a' := ?_) #[i',i',i',i',i',i',i',i',i',i',i',i',i',i',i',i',i',i',i',i',i',i',i',i',i',i',i',i',i',i',i',i',i',i',i',i',i',o',o',o',o',o'] rfl rfl (any_of HT_.out (by kernel_rfl)) (fun _ _ _ h => h) (Or.inr ⟨by rfl, rfl⟩) ?_ ?_
       rotate_left
       ·simp only [Act.put, la_, lz_, ls_, i64_w, i32_w]
        rfl
       refine pure_ (i := 37) (N := some 55) (v := undef) (a' := ?_) #[i',i',i',i',i',i',i',i',i',i',i',i',i',i',i',i',i',i',i',i',i',i',i',i',i',i',i',i',i',i',i',i',i',i',i',i',i',i',o',o',o',o'] rfl rfl (any_of HT_.out (by kernel_rfl)) (fun _ _ _ h => h) (Or.inr ⟨by rfl, rfl⟩) ?_ ?_
       rotate_left
       ·simp only [Act.put, la_, lz_, ls_, i64_w, i32_w]
        rfl
       refine pure_ (i := 38) (N := some 56) (v := undef) (a' := ?_) #[i',i',i',i',i',i',i',i',i',i',i',i',i',i',i',i',i',i',i',i',i',i',i',i',i',i',i',i',i',i',i',i',i',i',i',i',i',i',i',o',o',o'] rfl rfl (any_of HT_.out (by kernel_rfl)) (fun _ _ _ h => h) (Or.inr ⟨by rfl, rfl⟩) ?_ ?_
       rotate_left
       ·simp only [Act.put, la_, lz_, ls_, i64_w, i32_w]
        rfl
       refine pure_ (i := 39) (N := some 57) (v := undef) (a' := ?_) #[i',i',i',i',i',i',i',i',i',i',i',i',i',i',i',i',i',i',i',i',i',i',i',i',i',i',i',i',i',i',i',i',i',i',i',i',i',i',i',i',o',o'] rfl rfl (any_of HT_.out (by kernel_rfl)) (fun _ _ _ h => h) (Or.inr ⟨by rfl, rfl⟩) ?_ ?_
       rotate_left
       ·simp only [Act.put, la_, lz_, ls_, i64_w, i32_w]
        rfl
       refine pure_ (i := 40) (N := some 58) (v := undef) (a' := ?_) #[i',i',i',i',i',i',i',i',i',i',i',i',i',i',i',i',i',i',i',i',i',i',i',i',i',i',i',i',i',i',i',i',i',i',i',i',i',i',i',i',i',o'] rfl rfl (any_of HT_.out (by kernel_rfl)) (fun _ _ _ h => h) (Or.inr ⟨by rfl, rfl⟩) ?_ ?_
       rotate_left
       ·simp only [Act.put, la_, lz_, ls_, i64_w, i32_w]
        rfl
       refine pure_ (i := 41) (N := some 59) (v := ?_) (a' := ?_) #[i',i',i',i',i',i',i',i',i',i',i',i',i',i',i',i',i',i',i',i',i',i',i',i',i',i',i',i',i',i',i',i',i',i',i',i',i',i',i',i',i',i'] rfl rfl (any_of HT_.out (by kernel_rfl)) (fun _ _ _ h => h) (Or.inl ⟨by rfl, ?_⟩) ?_ ?_
       rotate_left;·intro w';go_simp;with_reducible rfl
       rotate_left;·simp only [Act.put, la_, lz_, ls_, i64_w, i32_w];rfl
       refine done_ (done_of HT_.out (by kernel_rfl)) ?_
       try go_wp2
       go_ret
       exact ⟨re_, hs_ HB GE108⟩
     ·rw [if_neg c4] at H
      exact absurd H (by simp)
    ·rw [if_neg c3] at H
     have c3b0 : decide (x3_1 < (l0.length : Int)) = false := decide_eq_false c3
     clear c3
     obtain rfl := Option.some.inj H
     go_wp2
     go_ret
     exact ⟨re_, hb_ HB⟩

end Go.Proofs.Ytebeafcdabkkfaa.PFnExactShowHint
