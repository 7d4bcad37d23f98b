-- Laid by a program of this session, a copy of the kit's printer with additions (wip/patch_print.py): myhead. Lean checks it.
import Derived.Test.YtebeafcdabkkfaaPFnExactReadHintx0
import Derived.Test.YtebeafcdabkkfaaPFnExactReadHintx1
namespace Go.Proofs.Ytebeafcdabkkfaa.PFnExactReadHint
open Go.RowKit Go.Proofs.YtebeafcdabkkfaaW.PrintWords Go.Proofs.YtebeafcdabkkfaaW.PrintLast Go.Proofs.YtebeafcdabkkfaaW.PrintMore
theorem bl_swq22135 : ∀ x y : List UInt8, (Op.bytesLess x y || x == y) = !(Op.bytesLess y x)
 | [], [] => by simp [Op.bytesLess]
 | [], _ :: _ => by simp [Op.bytesLess]
 | _ :: _, [] => by simp [Op.bytesLess]
 | a :: x, b :: y => by
  have ih := bl_swq22135 x y
  by_cases e : a = b
  ·subst e
   simp only [Op.bytesLess, List.cons_beq_cons, BEq.rfl, Bool.true_and, UInt8.lt_irrefl, decide_false, Bool.false_or]
   exact ih
  ·have e' : ¬ b = a := fun h => e h.symm
   have h1 : (a == b) = false := by simpa using e
   have h2 : (b == a) = false := by simpa using e'
   simp only [Op.bytesLess, List.cons_beq_cons, h1, h2, Bool.false_and, Bool.or_false]
   by_cases l : a < b
   ·have : ¬ b < a := fun h => UInt8.lt_asymm h l
    simp [l, this]
   ·have : b < a := UInt8.lt_of_le_of_ne (UInt8.not_lt.1 l) e'
    simp [l, this]
theorem bl_leqq22135 (t : TypeId) (a b : ByteArray) : binOp .leq t (.string a) (.string b) = pure (.bool (!(Op.bytesLess b.toList a.toList))) := by simp only [binOp, Op.stringOp, bl_swq22135]
theorem bl_gtrq22135 (t : TypeId) (a b : ByteArray) : binOp .gtr t (.string a) (.string b) = pure (.bool (Op.bytesLess b.toList a.toList)) := by simp only [binOp, Op.stringOp, bl_swq22135, Bool.not_not]
theorem bl_geqq22135 (t : TypeId) (a b : ByteArray) : binOp .geq t (.string a) (.string b) = pure (.bool (!(Op.bytesLess a.toList b.toList))) := by simp only [binOp, Op.stringOp]
attribute [local go_sem] bl_leqq22135 bl_gtrq22135 bl_geqq22135
attribute [local go_sem] max2_int min2_int max_two min_two max_three min_three max_four min_four   -- for this text's walks alone
set_option linter.unusedVariables false
set_option linter.unusedSimpArgs false

/-! ### spec_DirOk: function 123 -/
mutual
def spec_DirOk.l0 : Nat → List (S113) → Int → Option (Bool)
 | 0, _, _ => none
 | k + 1, x0, x3 => if x3 < (x0.length : Int) then (if 0 ≤ x3 then ((spec_KeyOk.f ((rd_T113 x0 x3).f0)).bind fun t112 => (if t112 = true then ((spec_l1In.f ((rd_T113 x0 x3).f1) 1 100000).bind fun t113 => (if t113 = true then (if ((rd_T113 x0 x3).f2) < 0 then (spec_DirOk.j1 k x0 x3 true) else ((spec_l1In.f ((rd_T113 x0 x3).f3) 1 210).bind fun t114 => (if t114 = true then ((spec_l1In.f ((rd_T113 x0 x3).f4) 1 1000000).bind fun t115 => (if t115 = true then (if x3 > 0 then (if 0 ≤ (wrap64 (x3 - 1)) then (if (wrap64 (x3 - 1)) < (x0.length : Int) then (spec_DirOk.j1 k x0 x3 (!(Op.bytesLess (((rd_T113 x0 (wrap64 (x3 - 1))).f0).toList) (((rd_T113 x0 x3).f0).toList)))) else (none)) else (none)) else (spec_DirOk.j1 k x0 x3 false)) else (spec_DirOk.j1 k x0 x3 true))) else (spec_DirOk.j1 k x0 x3 true)))) else (spec_DirOk.j1 k x0 x3 true))) else (spec_DirOk.j1 k x0 x3 true))) else (none)) else (some true)
def spec_DirOk.j1 : Nat → List (S113) → Int → Bool → Option (Bool)
 | 0, _, _, _ => none
 | k + 1, x0, x3, x59 => if x59 = true then (some false) else (spec_DirOk.l0 k x0 (wrap64 (x3 + 1)))
end
def spec_DirOk.f (k : Nat) (l0 : List (S113)) : Option (Bool) := if (l0.length : Int) > 20 then (some false) else (spec_DirOk.l0 k l0 0)
theorem spec_DirOk.mono_l : ∀ k, (∀ y0 y1, LeO (spec_DirOk.l0 k y0 y1) (spec_DirOk.l0 (k + 1) y0 y1)) ∧ (∀ y0 y1 y2, LeO (spec_DirOk.j1 k y0 y1 y2) (spec_DirOk.j1 (k + 1) y0 y1 y2))
 | 0 => ⟨fun _ _ r h => by simp [spec_DirOk.l0] at h, fun _ _ _ r h => by simp [spec_DirOk.j1] at h⟩
 | k + 1 => by
  obtain ⟨ih0, ih1⟩ := spec_DirOk.mono_l k
  refine ⟨?_, ?_⟩
  ·intro y0 y1
   unfold spec_DirOk.l0
   repeat' first
   | (with_reducible exact ih0 _ _)
   | (with_reducible exact ih1 _ _ _)
   | (with_reducible exact LeO.refl _)
   | (with_reducible exact LeO.none _)
   | (with_reducible refine LeO.ite ?_ ?_)
   | (with_reducible refine LeO.bind ?_ (fun _ => ?_))
   | exact ih0 _ _
   | exact ih1 _ _ _
   | exact LeO.none _
   | refine LeO.ite ?_ ?_
   | refine LeO.bind ?_ (fun _ => ?_)
  ·intro y0 y1 y2
   unfold spec_DirOk.j1
   repeat' first
   | (with_reducible exact ih0 _ _)
   | (with_reducible exact ih1 _ _ _)
   | (with_reducible exact LeO.refl _)
   | (with_reducible exact LeO.none _)
   | (with_reducible refine LeO.ite ?_ ?_)
   | (with_reducible refine LeO.bind ?_ (fun _ => ?_))
   | exact ih0 _ _
   | exact ih1 _ _ _
   | exact LeO.none _
   | refine LeO.ite ?_ ?_
   | refine LeO.bind ?_ (fun _ => ?_)
theorem spec_DirOk.mono : ∀ a0 k, LeO (spec_DirOk.f k a0) (spec_DirOk.f (k + 1) a0) := by
 intro a0 k
 obtain ⟨ih0, ih1⟩ := spec_DirOk.mono_l k
 unfold spec_DirOk.f
 repeat' first
   | (with_reducible exact ih0 _ _)
   | (with_reducible exact ih1 _ _ _)
   | (with_reducible exact LeO.refl _)
   | (with_reducible exact LeO.none _)
   | (with_reducible refine LeO.ite ?_ ?_)
   | (with_reducible refine LeO.bind ?_ (fun _ => ?_))
   | exact ih0 _ _
   | exact ih1 _ _ _
   | exact LeO.none _
   | refine LeO.ite ?_ ?_
   | refine LeO.bind ?_ (fun _ => ?_)
def spec_DirOk.T7 : Bool × List (List Nat × List Nat) := (true, [([], []), ([0], [0]), ([1], [1]), ([2], [2]), ([3, 2], [3]), ([4], [4]), ([5, 4], [4, 5]), ([6, 4, 4], [4, 6]), ([7, 4], [4, 7]), ([4, 8], [4, 8]), ([9, 7], [9]), ([10], [10]), ([11, 10], [10, 11]), ([12, 10], [10, 12]), ([10, 13], [10, 13]), ([14, 10], [14]), ([15], [15]), ([16, 15], [15, 16]), ([17, 15, 15], [15, 17]), ([18, 15], [15, 18]), ([15, 19], [15, 19]), ([20, 18], [20]), ([21], [21]), ([22, 21], [21, 22]), ([23, 21, 21], [21, 23]), ([24, 21], [21, 24]), ([21, 25], [21, 25]), ([26, 24], [26]), ([27], [27]), ([28, 27], [27, 28]), ([29, 27, 27], [27, 29]), ([30], [30]), ([31, 30], [30, 31]), ([30], [30]), ([30], [30]), ([34, 30], [30, 34]), ([33, 35, 30], [30, 33, 35]), ([36, 30], [30, 36]), ([37, 30], [30, 37]), ([32, 38, 30], [30, 32, 38]), ([30, 39, 27], [27, 30, 39]), ([27, 40], [27, 40])])
def spec_DirOk.B7 : List Nat := [0, 1, 3, 7, 15, 31, 63, 127, 255, 511, 1023, 2047, 4095, 8191, 16383, 32767, 65535, 131071, 262143, 524287, 1048575, 2097151, 4194303, 8388607, 16777215, 33554431, 67108863, 134217727, 268435455, 536870911, 1073741823, 2147483647, 4294967295, 2147483647, 2147483647, 19327352831, 62277025791, 130996502527, 268435455999, 549755813887, 1099511627775, 2199023255551]
theorem spec_DirOk.tab7 : rtab .any (opsOf Try.f123 7) = spec_DirOk.T7 := by kernel_rfl
theorem spec_DirOk.bits7 : waitsOk spec_DirOk.T7.2 spec_DirOk.B7 = true := by kernel_rfl
set_option maxHeartbeats 8000000 in
set_option maxRecDepth 100000 in
theorem spec_DirOk.calls (k : Nat) (A0 : Option Addr) (c0 : Nat) (l0 : List (S113)) (r : Bool) (w : World) (hr0 : Kd.C k113 w A0 l0.length l0) (hc0 : l0.length ≤ c0) (h : spec_DirOk.f k l0 = some r) :
  Calls Try.prog 123 #[.slice A0 l0.length c0] w fun e w' => e = .returned (.bool r) ∧ Below w.heap.size w w' := by
 have hu113 := Try.underlying113
 have HR0 := Aside0.mk hr0
 have HC0 := Aside0.mk hc0
 clear hr0 hc0
 have HB := Aside0.mk (Below.refl w.heap.size w)
 have H : (if (l0.length : Int) > 20 then (some false) else (spec_DirOk.l0 k l0 0)) = some r := h
 clear h
 by_cases c2 : (l0.length : Int) > 20
 ·rw [if_pos c2] at H
  have c2b0 : decide (20 < (l0.length : Int)) = true := decide_eq_true c2
  have c2b1 : decide (20 < l0.length) = true := decide_eq_true (by omega)
  clear c2
  obtain rfl := Option.some.inj H
  go_enter Try.func123, Try.ntmps123
  go_wp2
  go_ret
  exact ⟨re_, hb_ HB⟩
 ·rw [if_neg c2] at H
  have c2b0 : decide (20 < (l0.length : Int)) = false := decide_eq_false c2
  have c2b1 : decide (20 < l0.length) = false := decide_eq_false (by omega)
  clear c2
  have H' := Aside0.mk H
  clear H
  go_enter Try.func123, Try.ntmps123
  go_wp2
  go_loopg [3] k (fun kq v3 w' => ∃ (x3_1 : Int), v3 = .int .i64 x3_1 ∧ Aside0 (spec_DirOk.l0 kq l0 x3_1 = some r) ∧ Aside0 (kq ≤ k) ∧ Aside0 (Below w.heap.size w w'))
  case atStart => exact ⟨(0), rs_, H', ⟨Nat.le_refl _⟩, ⟨hb_ HB⟩⟩
  case round =>
   clear H'
   try clear c1
   try clear c2
   try clear c2b0
   try clear c2b1
   try clear p2
   obtain ⟨x3_1, rfl, HA, HK1, HB⟩ := hrel
   cases gk with
   | zero => exact absurd HA.out (by simp [spec_DirOk.l0])
   | succ k1 =>
    have H := HA.out
    clear HA
    simp only [spec_DirOk.l0] at H
    by_cases c3 : x3_1 < (l0.length : Int)
    ·rw [if_pos c3] at H
     have c3b0 : decide (x3_1 < (l0.length : Int)) = true := decide_eq_true c3
     clear c3
     by_cases c4 : 0 ≤ x3_1
     ·rw [if_pos c4] at H
      have c4b0 : decide (0 ≤ x3_1) = true := decide_eq_true c4
      clear c4
      have HC5 := Aside0.mk H
      clear H
      have p110 : 0 ≤ (x3_1 : Int) := of_decide_eq_true as_
      have q110 : x3_1 < (l0.length : Int) := of_decide_eq_true as_
      obtain ⟨ad110, e110, hx110_0, hx110_1, hx110_2, hx110_3, hx110_4⟩ := at_T113 HR0.out x3_1 p110 q110
      cases e110
      replace hx110_0 := cb_ HB hx110_0
      replace hx110_1 := cb_ HB hx110_1
      replace hx110_2 := cb_ HB hx110_2
      replace hx110_3 := cb_ HB hx110_3
      replace hx110_4 := cb_ HB hx110_4
      replace p110 := eq_true p110
      replace q110 := eq_true q110
      go_upto_region 7 with (first | ((with_reducible refine gate_dst (N := 4) rfl ?_); refine box_event ?hg (N := 4) ?hd (cs := #[.string (⟨#[]⟩ : ByteArray), .int .i64 0, .int .i64 0, .int .i64 0, .int .i64 0]) (t := 113) ?hr ?_; (case hd => rfl); (case hg => rfl); (case hr => first | (go_simp; done) | (go_simp; rfl)); intro gb111 hg w6 hbox hb; have n0_ := Aside0.mk (below_step (hb_ HB) hb); have n1_ := Aside0.mk (hbox); have n2_ := Aside0.mk ((by rw [hg]; exact (below_size (hb_ HB)) : w.heap.size ≤ gb111)); have n3_ := Aside0.mk ((by rw [hg]; exact (below_size (hb_ HB)) : w.heap.size ≤ gb111)); clear HB; have HB := n0_; have BK111 := n1_; have GW111 := n2_; have GE111 := n3_; clear n0_ n1_ n2_ n3_; clear hb hbox hg; have hcz7_0 : w6.cell? ⟨gb111, 0, none⟩ = some (.string (⟨#[]⟩ : ByteArray)) := (blk_cell BK111.out 0).trans rfl; have hcz7_1 : w6.cell? ⟨gb111, 1, none⟩ = some (.int .i64 0) := (blk_cell BK111.out 1).trans rfl; have hcz7_2 : w6.cell? ⟨gb111, 2, none⟩ = some (.int .i64 0) := (blk_cell BK111.out 2).trans rfl; have hcz7_3 : w6.cell? ⟨gb111, 3, none⟩ = some (.int .i64 0) := (blk_cell BK111.out 3).trans rfl; have hcz7_4 : w6.cell? ⟨gb111, 4, none⟩ = some (.int .i64 0) := (blk_cell BK111.out 4).trans rfl; have hfz7_0 := blk_frozen BK111.out 0; have hfz7_1 := blk_frozen BK111.out 1; have hfz7_2 := blk_frozen BK111.out 2; have hfz7_3 := blk_frozen BK111.out 3; have hfz7_4 := blk_frozen BK111.out 4))
      (try simp only [Act.put, la_, lz_, ls_])
      go_cut [59] (fun v59 wc => ∃ (kq : Nat) (x59_4 : Bool), v59 = .bool x59_4 ∧ Aside0 (spec_DirOk.j1 kq l0 x3_1 x59_4 = some r) ∧ Aside0 (kq ≤ k1) ∧ Aside0 (wc.heap[gb111]? = some (.cells #[.string ((rd_T113 l0 x3_1).f0), .int .i64 ((rd_T113 l0 x3_1).f1), .int .i64 ((rd_T113 l0 x3_1).f2), .int .i64 ((rd_T113 l0 x3_1).f3), .int .i64 ((rd_T113 l0 x3_1).f4)] 113 (0, 0))) ∧ Aside0 (Below w.heap.size w wc))
      case first =>
       have H := HC5.out
       clear HC5
       replace H := Option.bind_eq_some_iff.mp H
       obtain ⟨t112, A80, H⟩ := H
       replace H : (if t112 = true then ((spec_l1In.f ((rd_T113 l0 x3_1).f1) 1 100000).bind fun t113 => (if t113 = true then (if ((rd_T113 l0 x3_1).f2) < 0 then (spec_DirOk.j1 k1 l0 x3_1 true) else ((spec_l1In.f ((rd_T113 l0 x3_1).f3) 1 210).bind fun t114 => (if t114 = true then ((spec_l1In.f ((rd_T113 l0 x3_1).f4) 1 1000000).bind fun t115 => (if t115 = true then (if x3_1 > 0 then (if 0 ≤ (wrap64 (x3_1 - 1)) then (if (wrap64 (x3_1 - 1)) < (l0.length : Int) then (spec_DirOk.j1 k1 l0 x3_1 (!(Op.bytesLess (((rd_T113 l0 (wrap64 (x3_1 - 1))).f0).toList) (((rd_T113 l0 x3_1).f0).toList)))) else (none)) else (none)) else (spec_DirOk.j1 k1 l0 x3_1 false)) else (spec_DirOk.j1 k1 l0 x3_1 true))) else (spec_DirOk.j1 k1 l0 x3_1 true)))) else (spec_DirOk.j1 k1 l0 x3_1 true))) else (spec_DirOk.j1 k1 l0 x3_1 true)) = some r := H
       have A8 := Aside0.mk A80
       clear A80
       by_cases c9 : t112 = true
       ·subst c9
        have H1 : ((spec_l1In.f ((rd_T113 l0 x3_1).f1) 1 100000).bind fun t113 => (if t113 = true then (if ((rd_T113 l0 x3_1).f2) < 0 then (spec_DirOk.j1 k1 l0 x3_1 true) else ((spec_l1In.f ((rd_T113 l0 x3_1).f3) 1 210).bind fun t114 => (if t114 = true then ((spec_l1In.f ((rd_T113 l0 x3_1).f4) 1 1000000).bind fun t115 => (if t115 = true then (if x3_1 > 0 then (if 0 ≤ (wrap64 (x3_1 - 1)) then (if (wrap64 (x3_1 - 1)) < (l0.length : Int) then (spec_DirOk.j1 k1 l0 x3_1 (!(Op.bytesLess (((rd_T113 l0 (wrap64 (x3_1 - 1))).f0).toList) (((rd_T113 l0 x3_1).f0).toList)))) else (none)) else (none)) else (spec_DirOk.j1 k1 l0 x3_1 false)) else (spec_DirOk.j1 k1 l0 x3_1 true))) else (spec_DirOk.j1 k1 l0 x3_1 true)))) else (spec_DirOk.j1 k1 l0 x3_1 true))) = some r := by rw [if_pos rfl] at H; exact H
        clear H
        have H := H1
        clear H1
        replace H := Option.bind_eq_some_iff.mp H
        obtain ⟨t113, A100, H⟩ := H
        replace H : (if t113 = true then (if ((rd_T113 l0 x3_1).f2) < 0 then (spec_DirOk.j1 k1 l0 x3_1 true) else ((spec_l1In.f ((rd_T113 l0 x3_1).f3) 1 210).bind fun t114 => (if t114 = true then ((spec_l1In.f ((rd_T113 l0 x3_1).f4) 1 1000000).bind fun t115 => (if t115 = true then (if x3_1 > 0 then (if 0 ≤ (wrap64 (x3_1 - 1)) then (if (wrap64 (x3_1 - 1)) < (l0.length : Int) then (spec_DirOk.j1 k1 l0 x3_1 (!(Op.bytesLess (((rd_T113 l0 (wrap64 (x3_1 - 1))).f0).toList) (((rd_T113 l0 x3_1).f0).toList)))) else (none)) else (none)) else (spec_DirOk.j1 k1 l0 x3_1 false)) else (spec_DirOk.j1 k1 l0 x3_1 true))) else (spec_DirOk.j1 k1 l0 x3_1 true)))) else (spec_DirOk.j1 k1 l0 x3_1 true)) = some r := H
        have A10 := Aside0.mk A100
        clear A100
        by_cases c11 : t113 = true
        ·subst c11
         have H1 : (if ((rd_T113 l0 x3_1).f2) < 0 then (spec_DirOk.j1 k1 l0 x3_1 true) else ((spec_l1In.f ((rd_T113 l0 x3_1).f3) 1 210).bind fun t114 => (if t114 = true then ((spec_l1In.f ((rd_T113 l0 x3_1).f4) 1 1000000).bind fun t115 => (if t115 = true then (if x3_1 > 0 then (if 0 ≤ (wrap64 (x3_1 - 1)) then (if (wrap64 (x3_1 - 1)) < (l0.length : Int) then (spec_DirOk.j1 k1 l0 x3_1 (!(Op.bytesLess (((rd_T113 l0 (wrap64 (x3_1 - 1))).f0).toList) (((rd_T113 l0 x3_1).f0).toList)))) else (none)) else (none)) else (spec_DirOk.j1 k1 l0 x3_1 false)) else (spec_DirOk.j1 k1 l0 x3_1 true))) else (spec_DirOk.j1 k1 l0 x3_1 true)))) = some r := by rw [if_pos rfl] at H; exact H
         clear H
         have H := H1
         clear H1
         by_cases c12 : ((rd_T113 l0 x3_1).f2) < 0
         ·rw [if_pos c12] at H
          have c12b0 : decide (((rd_T113 l0 x3_1).f2) < 0) = true := decide_eq_true c12
          clear c12
          (first | rw [c12b0] | (simp only [i64_w, i32_w]; rw [c12b0]) | skip)
          have H' := Aside0.mk H
          clear H
          try go_wp2
          have n0_ : Aside0 ((((((w6.setCell ⟨gb111, 0, none⟩ (.string ((rd_T113 l0 x3_1).f0))).setCell ⟨gb111, 1, none⟩ (.int .i64 ((rd_T113 l0 x3_1).f1))).setCell ⟨gb111, 2, none⟩ (.int .i64 ((rd_T113 l0 x3_1).f2))).setCell ⟨gb111, 3, none⟩ (.int .i64 ((rd_T113 l0 x3_1).f3))).setCell ⟨gb111, 4, none⟩ (.int .i64 ((rd_T113 l0 x3_1).f4))).heap[gb111]? = some (.cells #[.string ((rd_T113 l0 x3_1).f0), .int .i64 ((rd_T113 l0 x3_1).f1), .int .i64 ((rd_T113 l0 x3_1).f2), .int .i64 ((rd_T113 l0 x3_1).f3), .int .i64 ((rd_T113 l0 x3_1).f4)] 113 (0, 0))) := ⟨by (with_reducible repeat (first | refine blk_drewN ?_ _ | refine blk_drew ?_ | refine blk_alloc ?_ _)); refine blk_put (cs := #[.string ((rd_T113 l0 x3_1).f0), .int .i64 ((rd_T113 l0 x3_1).f1), .int .i64 ((rd_T113 l0 x3_1).f2), .int .i64 ((rd_T113 l0 x3_1).f3), .int .i64 0]) ?_ 4 _ rfl; (with_reducible repeat (first | refine blk_drewN ?_ _ | refine blk_drew ?_ | refine blk_alloc ?_ _)); refine blk_put (cs := #[.string ((rd_T113 l0 x3_1).f0), .int .i64 ((rd_T113 l0 x3_1).f1), .int .i64 ((rd_T113 l0 x3_1).f2), .int .i64 0, .int .i64 0]) ?_ 3 _ rfl; (with_reducible repeat (first | refine blk_drewN ?_ _ | refine blk_drew ?_ | refine blk_alloc ?_ _)); refine blk_put (cs := #[.string ((rd_T113 l0 x3_1).f0), .int .i64 ((rd_T113 l0 x3_1).f1), .int .i64 0, .int .i64 0, .int .i64 0]) ?_ 2 _ rfl; (with_reducible repeat (first | refine blk_drewN ?_ _ | refine blk_drew ?_ | refine blk_alloc ?_ _)); refine blk_put (cs := #[.string ((rd_T113 l0 x3_1).f0), .int .i64 0, .int .i64 0, .int .i64 0, .int .i64 0]) ?_ 1 _ rfl; (with_reducible repeat (first | refine blk_drewN ?_ _ | refine blk_drew ?_ | refine blk_alloc ?_ _)); refine blk_put (cs := #[.string (⟨#[]⟩ : ByteArray), .int .i64 0, .int .i64 0, .int .i64 0, .int .i64 0]) ?_ 0 _ rfl; (with_reducible repeat (first | refine blk_drewN ?_ _ | refine blk_drew ?_ | refine blk_alloc ?_ _)); exact BK111.out⟩
          have n1_ : Aside0 (Below w.heap.size w (((((w6.setCell ⟨gb111, 0, none⟩ (.string ((rd_T113 l0 x3_1).f0))).setCell ⟨gb111, 1, none⟩ (.int .i64 ((rd_T113 l0 x3_1).f1))).setCell ⟨gb111, 2, none⟩ (.int .i64 ((rd_T113 l0 x3_1).f2))).setCell ⟨gb111, 3, none⟩ (.int .i64 ((rd_T113 l0 x3_1).f3))).setCell ⟨gb111, 4, none⟩ (.int .i64 ((rd_T113 l0 x3_1).f4)))) := ⟨hs_ HB GE111⟩
          (try clear BK111)
          (try clear HB)
          generalize (((((w6.setCell ⟨gb111, 0, none⟩ (.string ((rd_T113 l0 x3_1).f0))).setCell ⟨gb111, 1, none⟩ (.int .i64 ((rd_T113 l0 x3_1).f1))).setCell ⟨gb111, 2, none⟩ (.int .i64 ((rd_T113 l0 x3_1).f2))).setCell ⟨gb111, 3, none⟩ (.int .i64 ((rd_T113 l0 x3_1).f3))).setCell ⟨gb111, 4, none⟩ (.int .i64 ((rd_T113 l0 x3_1).f4))) = w13 at n0_ n1_ ⊢
          have BK111 := n0_
          have HB := n1_
          clear n0_ n1_
          have n0_ := Aside0.mk (blk_drew BK111.out)
          have n1_ := Aside0.mk (below_drew1 HB.out)
          clear BK111
          clear HB
          have BK111 := n0_
          have HB := n1_
          clear n0_ n1_
          refine start_ (n := 42) (S := fun w' => w'.cell? ⟨gb111, 0, none⟩ = some (.string ((rd_T113 l0 x3_1).f0)) ∧ w'.cell? ⟨gb111, 1, none⟩ = some (.int .i64 ((rd_T113 l0 x3_1).f1)) ∧ w'.cell? ⟨gb111, 2, none⟩ = some (.int .i64 ((rd_T113 l0 x3_1).f2)) ∧ w'.cell? ⟨gb111, 3, none⟩ = some (.int .i64 ((rd_T113 l0 x3_1).f3)) ∧ w'.cell? ⟨gb111, 4, none⟩ = some (.int .i64 ((rd_T113 l0 x3_1).f4))) (ds := []) (on_ 0 42) (by kernel_rfl) rfl rfl ⟨(blk_cell BK111.out 0).trans rfl, (blk_cell BK111.out 1).trans rfl, (blk_cell BK111.out 2).trans rfl, (blk_cell BK111.out 3).trans rfl, (blk_cell BK111.out 4).trans rfl⟩ (fun hHeld => ?_); refine with_tabW spec_DirOk.tab7 spec_DirOk.bits7 (fun HT_ HW_ => ?_)
          generalize w13.drew = w14 at BK111 HB hHeld ⊢
          refine pv_ (i := 0) (N := some 18) (on_ 1 41) rfl rfl HT_ ?_
          refine take_ (i := 1) (N := some 19) (v := ?_) (a' := ?_) (on_ 2 40) rfl rfl (take_ofW HT_.out HW_.out (by kernel_rfl)) (fun _ _ _ h => h) (Or.inl ⟨by rfl, ?_⟩) hHeld ?_ ?_
          rotate_left
          ·rintro w' ⟨s0, s1, s2, s3, s4⟩
           go_simp
           with_reducible rfl
          rotate_left
          ·simp only [Act.put, la_, lz_, ls_, i64_w, i32_w]
           rfl
          refine one_ (i := 2) (N := some 20) (on_ 3 39) rfl rfl (one_of HT_.out (by kernel_rfl)) (by decide) (fun K hK => ?_)
          refine goes_ Try.func106 (by kernel_rfl) rfl #[.string ((rd_T113 l0 x3_1).f0)] (by rfl) rfl rfl ar_ ?_
          with_reducible refine (spec_KeyOk.calls ((rd_T113 l0 x3_1).f0) true _ A8.out).mono ?_
          rintro e w' ⟨rfl, ⟨nd, rfl⟩⟩
          refine ⟨_, rfl, ?_⟩
          refine hK.out _ _ ⟨(blk_cell BK111.out 0).trans rfl, (blk_cell BK111.out 1).trans rfl, (blk_cell BK111.out 2).trans rfl, (blk_cell BK111.out 3).trans rfl, (blk_cell BK111.out 4).trans rfl⟩ (fun hHeld => ?_)
          clear hK K
          refine norm_ (a' := ?_) ?_ ?_
          rotate_left
          ·show Act.put _ (some 20) _ = _
           simp only [Act.put, la_, lz_, ls_, i64_w, i32_w]
           rfl
          refine pv_ (i := 3) (N := some 21) (on_ 4 38) rfl rfl HT_ ?_
          refine pv_ (i := 4) (N := some 22) (on_ 5 37) rfl rfl HT_ ?_
          refine pv_ (i := 5) (N := some 23) (on_ 6 36) rfl rfl HT_ ?_
          refine take_ (i := 6) (N := some 24) (v := ?_) (a' := ?_) (on_ 7 35) rfl rfl (take_ofW HT_.out HW_.out (by kernel_rfl)) (fun _ _ _ h => h) (Or.inl ⟨by rfl, ?_⟩) hHeld ?_ ?_
          rotate_left
          ·rintro w' ⟨s0, s1, s2, s3, s4⟩
           go_simp
           with_reducible rfl
          rotate_left
          ·simp only [Act.put, la_, lz_, ls_, i64_w, i32_w]
           rfl
          refine one_ (i := 7) (N := some 25) (on_ 8 34) rfl rfl (one_of HT_.out (by kernel_rfl)) (by decide) (fun K hK => ?_)
          refine goes_ Try.func64 (by kernel_rfl) rfl #[.int .i64 ((rd_T113 l0 x3_1).f1), .int .i64 1, .int .i64 100000] (by rfl) rfl rfl ar_ ?_
          with_reducible refine (spec_l1In.calls ((rd_T113 l0 x3_1).f1) 1 100000 true _ A10.out).mono ?_
          rintro e w' ⟨rfl, ⟨nd, rfl⟩⟩
          refine ⟨_, rfl, ?_⟩
          refine hK.out _ _ ⟨(blk_cell BK111.out 0).trans rfl, (blk_cell BK111.out 1).trans rfl, (blk_cell BK111.out 2).trans rfl, (blk_cell BK111.out 3).trans rfl, (blk_cell BK111.out 4).trans rfl⟩ (fun hHeld => ?_)
          clear hK K
          refine norm_ (a' := ?_) ?_ ?_
          rotate_left
          ·show Act.put _ (some 25) _ = _
           simp only [Act.put, la_, lz_, ls_, i64_w, i32_w]
           rfl
          refine pv_ (i := 8) (N := some 26) (on_ 9 33) rfl rfl HT_ ?_
          refine pv_ (i := 9) (N := some 27) (on_ 10 32) rfl rfl HT_ ?_
          refine pv_ (i := 10) (N := some 28) (on_ 11 31) rfl rfl HT_ ?_
          refine pv_ (i := 11) (N := some 29) (on_ 12 30) rfl rfl HT_ ?_
          refine take_ (i := 12) (N := some 30) (v := ?_) (a' := ?_) (on_ 13 29) rfl rfl (take_ofW HT_.out HW_.out (by kernel_rfl)) (fun _ _ _ h => h) (Or.inl ⟨by rfl, ?_⟩) hHeld ?_ ?_
          rotate_left
          ·rintro w' ⟨s0, s1, s2, s3, s4⟩
           go_simp
           with_reducible rfl
          rotate_left
          ·simp only [Act.put, la_, lz_, ls_, i64_w, i32_w]
           rfl
          refine pv_ (i := 13) (N := some 31) (on_ 14 28) rfl rfl HT_ ?_
          refine pv_ (i := 14) (N := some 32) (on_ 15 27) rfl rfl HT_ ?_
          refine pv_ (i := 15) (N := some 33) (on_ 16 26) rfl rfl HT_ ?_
          refine pun_ (i := 16) (N := some 34) (on_ 17 25) rfl rfl HT_ ?_
          refine pun_ (i := 17) (N := some 35) (on_ 18 24) rfl rfl HT_ ?_
          refine pun_ (i := 18) (N := some 36) (on_ 19 23) rfl rfl HT_ ?_
          refine pun_ (i := 19) (N := some 37) (on_ 20 22) rfl rfl HT_ ?_
          refine pv_ (i := 20) (N := some 38) (on_ 21 21) rfl rfl HT_ ?_
          refine pv_ (i := 21) (N := some 39) (on_ 22 20) rfl rfl HT_ ?_
          refine pun_ (i := 22) (N := some 40) (on_ 23 19) rfl rfl HT_ ?_
          refine pun_ (i := 23) (N := some 41) (on_ 24 18) rfl rfl HT_ ?_
          refine pun_ (i := 24) (N := some 42) (on_ 25 17) rfl rfl HT_ ?_
          refine pun_ (i := 25) (N := some 43) (on_ 26 16) rfl rfl HT_ ?_
          refine pv_ (i := 26) (N := some 44) (on_ 27 15) rfl rfl HT_ ?_
          refine pv_ (i := 27) (N := some 45) (on_ 28 14) rfl rfl HT_ ?_
          refine pun_ (i := 28) (N := some 46) (on_ 29 13) rfl rfl HT_ ?_
          refine pun_ (i := 29) (N := some 47) (on_ 30 12) rfl rfl HT_ ?_
          refine pun_ (i := 30) (N := some 48) (on_ 31 11) rfl rfl HT_ ?_
          refine pun_ (i := 31) (N := some 49) (on_ 32 10) rfl rfl HT_ ?_
          refine pun_ (i := 32) (N := some 50) (on_ 33 9) rfl rfl HT_ ?_
          refine pun_ (i := 33) (N := some 51) (on_ 34 8) rfl rfl HT_ ?_
          refine pun_ (i := 34) (N := some 52) (on_ 35 7) rfl rfl HT_ ?_
          refine pun_ (i := 35) (N := some 53) (on_ 36 6) rfl rfl HT_ ?_
          refine pun_ (i := 36) (N := some 54) (on_ 37 5) rfl rfl HT_ ?_
          refine pun_ (i := 37) (N := some 55) (on_ 38 4) rfl rfl HT_ ?_
          refine pun_ (i := 38) (N := some 56) (on_ 39 3) rfl rfl HT_ ?_
          refine pun_ (i := 39) (N := some 57) (on_ 40 2) rfl rfl HT_ ?_
          refine pun_ (i := 40) (N := some 58) (on_ 41 1) rfl rfl HT_ ?_
          refine pv_ (i := 41) (N := some 59) (on_ 42 0) rfl rfl HT_ ?_
          refine done_ (done_of HT_.out (by kernel_rfl)) ?_
          try go_wp2
          go_meet
          case rel => exact ⟨_, (true), rs_, H', ⟨by have := HK1.out; first | exact Nat.le_refl _ | exact Nat.le_of_succ_le this | omega⟩, ⟨bk_ BK111⟩, ⟨hs_ HB GE111⟩⟩
         ·rw [if_neg c12] at H
          have c12b0 : decide (((rd_T113 l0 x3_1).f2) < 0) = false := decide_eq_false c12
          clear c12
          (first | rw [c12b0] | (simp only [i64_w, i32_w]; rw [c12b0]) | skip)
          replace H := Option.bind_eq_some_iff.mp H
          obtain ⟨t114, A150, H⟩ := H
          replace H : (if t114 = true then ((spec_l1In.f ((rd_T113 l0 x3_1).f4) 1 1000000).bind fun t115 => (if t115 = true then (if x3_1 > 0 then (if 0 ≤ (wrap64 (x3_1 - 1)) then (if (wrap64 (x3_1 - 1)) < (l0.length : Int) then (spec_DirOk.j1 k1 l0 x3_1 (!(Op.bytesLess (((rd_T113 l0 (wrap64 (x3_1 - 1))).f0).toList) (((rd_T113 l0 x3_1).f0).toList)))) else (none)) else (none)) else (spec_DirOk.j1 k1 l0 x3_1 false)) else (spec_DirOk.j1 k1 l0 x3_1 true))) else (spec_DirOk.j1 k1 l0 x3_1 true)) = some r := H
          have A15 := Aside0.mk A150
          clear A150
          by_cases c16 : t114 = true
          ·subst c16
           have H1 : ((spec_l1In.f ((rd_T113 l0 x3_1).f4) 1 1000000).bind fun t115 => (if t115 = true then (if x3_1 > 0 then (if 0 ≤ (wrap64 (x3_1 - 1)) then (if (wrap64 (x3_1 - 1)) < (l0.length : Int) then (spec_DirOk.j1 k1 l0 x3_1 (!(Op.bytesLess (((rd_T113 l0 (wrap64 (x3_1 - 1))).f0).toList) (((rd_T113 l0 x3_1).f0).toList)))) else (none)) else (none)) else (spec_DirOk.j1 k1 l0 x3_1 false)) else (spec_DirOk.j1 k1 l0 x3_1 true))) = some r := by rw [if_pos rfl] at H; exact H
           clear H
           have H := H1
           clear H1
           replace H := Option.bind_eq_some_iff.mp H
           obtain ⟨t115, A170, H⟩ := H
           replace H : (if t115 = true then (if x3_1 > 0 then (if 0 ≤ (wrap64 (x3_1 - 1)) then (if (wrap64 (x3_1 - 1)) < (l0.length : Int) then (spec_DirOk.j1 k1 l0 x3_1 (!(Op.bytesLess (((rd_T113 l0 (wrap64 (x3_1 - 1))).f0).toList) (((rd_T113 l0 x3_1).f0).toList)))) else (none)) else (none)) else (spec_DirOk.j1 k1 l0 x3_1 false)) else (spec_DirOk.j1 k1 l0 x3_1 true)) = some r := H
           have A17 := Aside0.mk A170
           clear A170
           by_cases c18 : t115 = true
           ·subst c18
            have H1 : (if x3_1 > 0 then (if 0 ≤ (wrap64 (x3_1 - 1)) then (if (wrap64 (x3_1 - 1)) < (l0.length : Int) then (spec_DirOk.j1 k1 l0 x3_1 (!(Op.bytesLess (((rd_T113 l0 (wrap64 (x3_1 - 1))).f0).toList) (((rd_T113 l0 x3_1).f0).toList)))) else (none)) else (none)) else (spec_DirOk.j1 k1 l0 x3_1 false)) = some r := by rw [if_pos rfl] at H; exact H
            clear H
            have H := H1
            clear H1
            by_cases c19 : x3_1 > 0
            ·rw [if_pos c19] at H
             have c19b0 : decide (0 < x3_1) = true := decide_eq_true c19
             clear c19
             obtain ⟨ji20, hji20⟩ : ∃ j_ : Int, (wrap64 (x3_1 - 1)) = j_ := ⟨_, rfl⟩
             replace H : (if 0 ≤ (ji20) then (if (ji20) < (l0.length : Int) then (spec_DirOk.j1 k1 l0 x3_1 (!(Op.bytesLess (((rd_T113 l0 (ji20)).f0).toList) (((rd_T113 l0 x3_1).f0).toList)))) else (none)) else (none)) = some r := by first | (rw [hji20] at H; exact H) | (simp only [hji20] at H ⊢; exact H)
             (try rw [hji20] at A8)
             (try rw [hji20] at A10)
             (try rw [hji20] at A15)
             (try rw [hji20] at A17)
             have hji20w : (IntKind.i64.wrap (x3_1 - 1)) = ji20 := (i64_w _).trans hji20
             by_cases c21 : 0 ≤ (ji20)
             ·rw [if_pos c21] at H
              have c21b0 : decide (0 ≤ (ji20)) = true := decide_eq_true c21
              clear c21
              by_cases c22 : (ji20) < (l0.length : Int)
              ·rw [if_pos c22] at H
               have c22b0 : decide ((ji20) < (l0.length : Int)) = true := decide_eq_true c22
               clear c22
               have H' := Aside0.mk H
               clear H
               try go_wp2
               have n0_ : Aside0 ((((((w6.setCell ⟨gb111, 0, none⟩ (.string ((rd_T113 l0 x3_1).f0))).setCell ⟨gb111, 1, none⟩ (.int .i64 ((rd_T113 l0 x3_1).f1))).setCell ⟨gb111, 2, none⟩ (.int .i64 ((rd_T113 l0 x3_1).f2))).setCell ⟨gb111, 3, none⟩ (.int .i64 ((rd_T113 l0 x3_1).f3))).setCell ⟨gb111, 4, none⟩ (.int .i64 ((rd_T113 l0 x3_1).f4))).heap[gb111]? = some (.cells #[.string ((rd_T113 l0 x3_1).f0), .int .i64 ((rd_T113 l0 x3_1).f1), .int .i64 ((rd_T113 l0 x3_1).f2), .int .i64 ((rd_T113 l0 x3_1).f3), .int .i64 ((rd_T113 l0 x3_1).f4)] 113 (0, 0))) := ⟨by (with_reducible repeat (first | refine blk_drewN ?_ _ | refine blk_drew ?_ | refine blk_alloc ?_ _)); refine blk_put (cs := #[.string ((rd_T113 l0 x3_1).f0), .int .i64 ((rd_T113 l0 x3_1).f1), .int .i64 ((rd_T113 l0 x3_1).f2), .int .i64 ((rd_T113 l0 x3_1).f3), .int .i64 0]) ?_ 4 _ rfl; (with_reducible repeat (first | refine blk_drewN ?_ _ | refine blk_drew ?_ | refine blk_alloc ?_ _)); refine blk_put (cs := #[.string ((rd_T113 l0 x3_1).f0), .int .i64 ((rd_T113 l0 x3_1).f1), .int .i64 ((rd_T113 l0 x3_1).f2), .int .i64 0, .int .i64 0]) ?_ 3 _ rfl; (with_reducible repeat (first | refine blk_drewN ?_ _ | refine blk_drew ?_ | refine blk_alloc ?_ _)); refine blk_put (cs := #[.string ((rd_T113 l0 x3_1).f0), .int .i64 ((rd_T113 l0 x3_1).f1), .int .i64 0, .int .i64 0, .int .i64 0]) ?_ 2 _ rfl; (with_reducible repeat (first | refine blk_drewN ?_ _ | refine blk_drew ?_ | refine blk_alloc ?_ _)); refine blk_put (cs := #[.string ((rd_T113 l0 x3_1).f0), .int .i64 0, .int .i64 0, .int .i64 0, .int .i64 0]) ?_ 1 _ rfl; (with_reducible repeat (first | refine blk_drewN ?_ _ | refine blk_drew ?_ | refine blk_alloc ?_ _)); refine blk_put (cs := #[.string (⟨#[]⟩ : ByteArray), .int .i64 0, .int .i64 0, .int .i64 0, .int .i64 0]) ?_ 0 _ rfl; (with_reducible repeat (first | refine blk_drewN ?_ _ | refine blk_drew ?_ | refine blk_alloc ?_ _)); exact BK111.out⟩
               have n1_ : Aside0 (Below w.heap.size w (((((w6.setCell ⟨gb111, 0, none⟩ (.string ((rd_T113 l0 x3_1).f0))).setCell ⟨gb111, 1, none⟩ (.int .i64 ((rd_T113 l0 x3_1).f1))).setCell ⟨gb111, 2, none⟩ (.int .i64 ((rd_T113 l0 x3_1).f2))).setCell ⟨gb111, 3, none⟩ (.int .i64 ((rd_T113 l0 x3_1).f3))).setCell ⟨gb111, 4, none⟩ (.int .i64 ((rd_T113 l0 x3_1).f4)))) := ⟨hs_ HB GE111⟩
               (try clear BK111)
               (try clear HB)
               generalize (((((w6.setCell ⟨gb111, 0, none⟩ (.string ((rd_T113 l0 x3_1).f0))).setCell ⟨gb111, 1, none⟩ (.int .i64 ((rd_T113 l0 x3_1).f1))).setCell ⟨gb111, 2, none⟩ (.int .i64 ((rd_T113 l0 x3_1).f2))).setCell ⟨gb111, 3, none⟩ (.int .i64 ((rd_T113 l0 x3_1).f3))).setCell ⟨gb111, 4, none⟩ (.int .i64 ((rd_T113 l0 x3_1).f4))) = w23 at n0_ n1_ ⊢
               have BK111 := n0_
               have HB := n1_
               clear n0_ n1_
               have n0_ := Aside0.mk (blk_drew BK111.out)
               have n1_ := Aside0.mk (below_drew1 HB.out)
               clear BK111
               clear HB
               have BK111 := n0_
               have HB := n1_
               clear n0_ n1_
               have p116 : 0 ≤ ((ji20) : Int) := of_decide_eq_true as_
               have q116 : (ji20) < (l0.length : Int) := of_decide_eq_true as_
               obtain ⟨ad116, e116, hx116_0, hx116_1, hx116_2, hx116_3, hx116_4⟩ := at_T113 HR0.out (ji20) p116 q116
               have hw116_4 := hx116_4
               have hw116_3 := hx116_3
               have hw116_2 := hx116_2
               have hw116_1 := hx116_1
               have hw116_0 := hx116_0
               obtain rfl : ad110 = ad116 := (by injection e116)
               replace hx116_0 := cb_ HB hx116_0
               replace hx116_1 := cb_ HB hx116_1
               replace hx116_2 := cb_ HB hx116_2
               replace hx116_3 := cb_ HB hx116_3
               replace hx116_4 := cb_ HB hx116_4
               replace p116 := eq_true p116
               replace q116 := eq_true q116
               refine start_ (n := 42) (S := fun w' => w'.cell? ⟨gb111, 0, none⟩ = some (.string ((rd_T113 l0 x3_1).f0)) ∧ w'.cell? ⟨gb111, 1, none⟩ = some (.int .i64 ((rd_T113 l0 x3_1).f1)) ∧ w'.cell? ⟨gb111, 2, none⟩ = some (.int .i64 ((rd_T113 l0 x3_1).f2)) ∧ w'.cell? ⟨gb111, 3, none⟩ = some (.int .i64 ((rd_T113 l0 x3_1).f3)) ∧ w'.cell? ⟨gb111, 4, none⟩ = some (.int .i64 ((rd_T113 l0 x3_1).f4)) ∧ w'.cell? (ad110.add (((ji20)).toNat * 5)) = some (.string ((rd_T113 l0 (ji20)).f0)) ∧ w'.cell? ⟨(ad110.add (((ji20)).toNat * 5)).block, (ad110.add (((ji20)).toNat * 5)).off + 1, none⟩ = some (.int .i64 ((rd_T113 l0 (ji20)).f1)) ∧ w'.cell? ⟨(ad110.add (((ji20)).toNat * 5)).block, (ad110.add (((ji20)).toNat * 5)).off + 2, none⟩ = some (.int .i64 ((rd_T113 l0 (ji20)).f2)) ∧ w'.cell? ⟨(ad110.add (((ji20)).toNat * 5)).block, (ad110.add (((ji20)).toNat * 5)).off + 3, none⟩ = some (.int .i64 ((rd_T113 l0 (ji20)).f3)) ∧ w'.cell? ⟨(ad110.add (((ji20)).toNat * 5)).block, (ad110.add (((ji20)).toNat * 5)).off + 4, none⟩ = some (.int .i64 ((rd_T113 l0 (ji20)).f4))) (ds := []) (on_ 0 42) (by kernel_rfl) rfl rfl ⟨(blk_cell BK111.out 0).trans rfl, (blk_cell BK111.out 1).trans rfl, (blk_cell BK111.out 2).trans rfl, (blk_cell BK111.out 3).trans rfl, (blk_cell BK111.out 4).trans rfl, (cb_ HB hw116_0 :), (cb_ HB hw116_1 :), (cb_ HB hw116_2 :), (cb_ HB hw116_3 :), (cb_ HB hw116_4 :)⟩ (fun hHeld => ?_); refine with_tabW spec_DirOk.tab7 spec_DirOk.bits7 (fun HT_ HW_ => ?_)
               generalize w23.drew = w24 at BK111 HB hx116_0 hx116_1 hx116_2 hx116_3 hx116_4 hHeld ⊢
               refine pv_ (i := 0) (N := some 18) (on_ 1 41) rfl rfl HT_ ?_
               refine take_ (i := 1) (N := some 19) (v := ?_) (a' := ?_) (on_ 2 40) rfl rfl (take_ofW HT_.out HW_.out (by kernel_rfl)) (fun _ _ _ h => h) (Or.inl ⟨by rfl, ?_⟩) hHeld ?_ ?_
               rotate_left
               ·rintro w' ⟨s0, s1, s2, s3, s4, s5, s6, s7, s8, s9⟩
                go_simp
                with_reducible rfl
               rotate_left
               ·simp only [Act.put, la_, lz_, ls_, i64_w, i32_w]
                rfl
               refine one_ (i := 2) (N := some 20) (on_ 3 39) rfl rfl (one_of HT_.out (by kernel_rfl)) (by decide) (fun K hK => ?_)
               refine goes_ Try.func106 (by kernel_rfl) rfl #[.string ((rd_T113 l0 x3_1).f0)] (by rfl) rfl rfl ar_ ?_
               with_reducible refine (spec_KeyOk.calls ((rd_T113 l0 x3_1).f0) true _ A8.out).mono ?_
               rintro e w' ⟨rfl, ⟨nd, rfl⟩⟩
               refine ⟨_, rfl, ?_⟩
               refine hK.out _ _ ⟨(blk_cell BK111.out 0).trans rfl, (blk_cell BK111.out 1).trans rfl, (blk_cell BK111.out 2).trans rfl, (blk_cell BK111.out 3).trans rfl, (blk_cell BK111.out 4).trans rfl, (cb_ HB hw116_0 :), (cb_ HB hw116_1 :), (cb_ HB hw116_2 :), (cb_ HB hw116_3 :), (cb_ HB hw116_4 :)⟩ (fun hHeld => ?_)
               clear hK K
               refine norm_ (a' := ?_) ?_ ?_
               rotate_left
               ·show Act.put _ (some 20) _ = _
                simp only [Act.put, la_, lz_, ls_, i64_w, i32_w]
                rfl
               refine pv_ (i := 3) (N := some 21) (on_ 4 38) rfl rfl HT_ ?_
               refine pv_ (i := 4) (N := some 22) (on_ 5 37) rfl rfl HT_ ?_
               refine pv_ (i := 5) (N := some 23) (on_ 6 36) rfl rfl HT_ ?_
               refine take_ (i := 6) (N := some 24) (v := ?_) (a' := ?_) (on_ 7 35) rfl rfl (take_ofW HT_.out HW_.out (by kernel_rfl)) (fun _ _ _ h => h) (Or.inl ⟨by rfl, ?_⟩) hHeld ?_ ?_
               rotate_left
               ·rintro w' ⟨s0, s1, s2, s3, s4, s5, s6, s7, s8, s9⟩
                go_simp
                with_reducible rfl
               rotate_left
               ·simp only [Act.put, la_, lz_, ls_, i64_w, i32_w]
                rfl
               refine one_ (i := 7) (N := some 25) (on_ 8 34) rfl rfl (one_of HT_.out (by kernel_rfl)) (by decide) (fun K hK => ?_)
               refine goes_ Try.func64 (by kernel_rfl) rfl #[.int .i64 ((rd_T113 l0 x3_1).f1), .int .i64 1, .int .i64 100000] (by rfl) rfl rfl ar_ ?_
               with_reducible refine (spec_l1In.calls ((rd_T113 l0 x3_1).f1) 1 100000 true _ A10.out).mono ?_
               rintro e w' ⟨rfl, ⟨nd, rfl⟩⟩
               refine ⟨_, rfl, ?_⟩
               refine hK.out _ _ ⟨(blk_cell BK111.out 0).trans rfl, (blk_cell BK111.out 1).trans rfl, (blk_cell BK111.out 2).trans rfl, (blk_cell BK111.out 3).trans rfl, (blk_cell BK111.out 4).trans rfl, (cb_ HB hw116_0 :), (cb_ HB hw116_1 :), (cb_ HB hw116_2 :), (cb_ HB hw116_3 :), (cb_ HB hw116_4 :)⟩ (fun hHeld => ?_)
               clear hK K
               refine norm_ (a' := ?_) ?_ ?_
               rotate_left
               ·show Act.put _ (some 25) _ = _
                simp only [Act.put, la_, lz_, ls_, i64_w, i32_w]
                rfl
               refine pv_ (i := 8) (N := some 26) (on_ 9 33) rfl rfl HT_ ?_
               refine pv_ (i := 9) (N := some 27) (on_ 10 32) rfl rfl HT_ ?_
               refine pv_ (i := 10) (N := some 28) (on_ 11 31) rfl rfl HT_ ?_
               refine pv_ (i := 11) (N := some 29) (on_ 12 30) rfl rfl HT_ ?_
               refine take_ (i := 12) (N := some 30) (v := ?_) (a' := ?_) (on_ 13 29) rfl rfl (take_ofW HT_.out HW_.out (by kernel_rfl)) (fun _ _ _ h => h) (Or.inl ⟨by rfl, ?_⟩) hHeld ?_ ?_
               rotate_left
               ·rintro w' ⟨s0, s1, s2, s3, s4, s5, s6, s7, s8, s9⟩
                go_simp
                with_reducible rfl
               rotate_left
               ·simp only [Act.put, la_, lz_, ls_, i64_w, i32_w]
                rfl
               refine pv_ (i := 13) (N := some 31) (on_ 14 28) rfl rfl HT_ ?_
               refine pv_ (i := 14) (N := some 32) (on_ 15 27) rfl rfl HT_ ?_
               refine pv_ (i := 15) (N := some 33) (on_ 16 26) rfl rfl HT_ ?_
               refine pv_ (i := 16) (N := some 34) (on_ 17 25) rfl rfl HT_ ?_
               refine take_ (i := 17) (N := some 35) (v := ?_) (a' := ?_) (on_ 18 24) rfl rfl (take_ofW HT_.out HW_.out (by kernel_rfl)) (fun _ _ _ h => h) (Or.inl ⟨by rfl, ?_⟩) hHeld ?_ ?_
               rotate_left
               ·rintro w' ⟨s0, s1, s2, s3, s4, s5, s6, s7, s8, s9⟩
                go_simp
                with_reducible rfl
               rotate_left
               ·simp only [Act.put, la_, lz_, ls_, i64_w, i32_w]
                rfl
               refine one_ (i := 18) (N := some 36) (on_ 19 23) rfl rfl (one_of HT_.out (by kernel_rfl)) (by decide) (fun K hK => ?_)
               refine goes_ Try.func64 (by kernel_rfl) rfl #[.int .i64 ((rd_T113 l0 x3_1).f3), .int .i64 1, .int .i64 210] (by rfl) rfl rfl ar_ ?_
               with_reducible refine (spec_l1In.calls ((rd_T113 l0 x3_1).f3) 1 210 true _ A15.out).mono ?_
               rintro e w' ⟨rfl, ⟨nd, rfl⟩⟩
               refine ⟨_, rfl, ?_⟩
               refine hK.out _ _ ⟨(blk_cell BK111.out 0).trans rfl, (blk_cell BK111.out 1).trans rfl, (blk_cell BK111.out 2).trans rfl, (blk_cell BK111.out 3).trans rfl, (blk_cell BK111.out 4).trans rfl, (cb_ HB hw116_0 :), (cb_ HB hw116_1 :), (cb_ HB hw116_2 :), (cb_ HB hw116_3 :), (cb_ HB hw116_4 :)⟩ (fun hHeld => ?_)
               clear hK K
               refine norm_ (a' := ?_) ?_ ?_
               rotate_left
               ·show Act.put _ (some 36) _ = _
                simp only [Act.put, la_, lz_, ls_, i64_w, i32_w]
                rfl
               refine pv_ (i := 19) (N := some 37) (on_ 20 22) rfl rfl HT_ ?_
               refine pv_ (i := 20) (N := some 38) (on_ 21 21) rfl rfl HT_ ?_
               refine pv_ (i := 21) (N := some 39) (on_ 22 20) rfl rfl HT_ ?_
               refine pv_ (i := 22) (N := some 40) (on_ 23 19) rfl rfl HT_ ?_
               refine take_ (i := 23) (N := some 41) (v := ?_) (a' := ?_) (on_ 24 18) rfl rfl (take_ofW HT_.out HW_.out (by kernel_rfl)) (fun _ _ _ h => h) (Or.inl ⟨by rfl, ?_⟩) hHeld ?_ ?_
               rotate_left
               ·rintro w' ⟨s0, s1, s2, s3, s4, s5, s6, s7, s8, s9⟩
                go_simp
                with_reducible rfl
               rotate_left
               ·simp only [Act.put, la_, lz_, ls_, i64_w, i32_w]
                rfl
               refine one_ (i := 24) (N := some 42) (on_ 25 17) rfl rfl (one_of HT_.out (by kernel_rfl)) (by decide) (fun K hK => ?_)
               refine goes_ Try.func64 (by kernel_rfl) rfl #[.int .i64 ((rd_T113 l0 x3_1).f4), .int .i64 1, .int .i64 1000000] (by rfl) rfl rfl ar_ ?_
               with_reducible refine (spec_l1In.calls ((rd_T113 l0 x3_1).f4) 1 1000000 true _ A17.out).mono ?_
               rintro e w' ⟨rfl, ⟨nd, rfl⟩⟩
               refine ⟨_, rfl, ?_⟩
               refine hK.out _ _ ⟨(blk_cell BK111.out 0).trans rfl, (blk_cell BK111.out 1).trans rfl, (blk_cell BK111.out 2).trans rfl, (blk_cell BK111.out 3).trans rfl, (blk_cell BK111.out 4).trans rfl, (cb_ HB hw116_0 :), (cb_ HB hw116_1 :), (cb_ HB hw116_2 :), (cb_ HB hw116_3 :), (cb_ HB hw116_4 :)⟩ (fun hHeld => ?_)
               clear hK K
               refine norm_ (a' := ?_) ?_ ?_
               rotate_left
               ·show Act.put _ (some 42) _ = _
                simp only [Act.put, la_, lz_, ls_, i64_w, i32_w]
                rfl
               refine pv_ (i := 25) (N := some 43) (on_ 26 16) rfl rfl HT_ ?_
               refine pv_ (i := 26) (N := some 44) (on_ 27 15) rfl rfl HT_ ?_
               refine pv_ (i := 27) (N := some 45) (on_ 28 14) rfl rfl HT_ ?_
               refine pv_ (i := 28) (N := some 46) (on_ 29 13) rfl rfl HT_ ?_
               refine pv_ (i := 29) (N := some 47) (on_ 30 12) rfl rfl HT_ ?_
               refine pv_ (i := 30) (N := some 48) (on_ 31 11) rfl rfl HT_ ?_
               refine pv_ (i := 31) (N := some 49) (on_ 32 10) rfl rfl HT_ ?_
               refine pv_ (i := 33) (N := some 51) #[i',i',i',i',i',i',i',i',i',i',i',i',i',i',i',i',i',i',i',i',i',i',i',i',i',i',i',i',i',i',i',i',o',i',o',o',o',o',o',o',o',o'] rfl rfl HT_ ?_
               refine pv_ (i := 34) (N := some 52) #[i',i',i',i',i',i',i',i',i',i',i',i',i',i',i',i',i',i',i',i',i',i',i',i',i',i',i',i',i',i',i',i',o',i',i',o',o',o',o',o',o',o'] rfl rfl HT_ ?_
               refine pv_ (i := 35) (N := some 53) #[i',i',i',i',i',i',i',i',i',i',i',i',i',i',i',i',i',i',i',i',i',i',i',i',i',i',i',i',i',i',i',i',o',i',i',i',o',o',o',o',o',o'] rfl rfl HT_ ?_
               refine pv_ (i := 36) (N := some 54) #[i',i',i',i',i',i',i',i',i',i',i',i',i',i',i',i',i',i',i',i',i',i',i',i',i',i',i',i',i',i',i',i',o',i',i',i',i',o',o',o',o',o'] rfl rfl HT_ ?_
               refine pv_ (i := 37) (N := some 55) #[i',i',i',i',i',i',i',i',i',i',i',i',i',i',i',i',i',i',i',i',i',i',i',i',i',i',i',i',i',i',i',i',o',i',i',i',i',i',o',o',o',o'] rfl rfl HT_ ?_
               refine take_ (i := 32) (N := some 50) (v := ?_) (a' := ?_) (on_ 38 4) rfl rfl (take_ofW HT_.out HW_.out (by kernel_rfl)) (fun _ _ _ h => h) (Or.inl ⟨by rfl, ?_⟩) hHeld ?_ ?_
               rotate_left
               ·rintro w' ⟨s0, s1, s2, s3, s4, s5, s6, s7, s8, s9⟩
                go_simp
                with_reducible rfl
               rotate_left
               ·simp only [Act.put, la_, lz_, ls_, i64_w, i32_w]
                rfl
               refine take_ (i := 38) (N := some 56) (v := ?_) (a' := ?_) (on_ 39 3) rfl rfl (take_ofW HT_.out HW_.out (by kernel_rfl)) (fun _ _ _ h => h) (Or.inl ⟨by rfl, ?_⟩) hHeld ?_ ?_
               rotate_left
               ·rintro w' ⟨s0, s1, s2, s3, s4, s5, s6, s7, s8, s9⟩
                go_simp
                with_reducible rfl
               rotate_left
               ·simp only [Act.put, la_, lz_, ls_, i64_w, i32_w]
                rfl
               refine pv_ (i := 39) (N := some 57) (on_ 40 2) rfl rfl HT_ ?_
               refine pv_ (i := 40) (N := some 58) (on_ 41 1) rfl rfl HT_ ?_
               refine pv_ (i := 41) (N := some 59) (on_ 42 0) rfl rfl HT_ ?_
               refine done_ (done_of HT_.out (by kernel_rfl)) ?_
               have Nji20_ := Aside0.mk hji20
               clear hji20
               (try clear hji20w)
               try go_wp2
               have hji20 := Nji20_.out
               clear Nji20_
               (try have hji20w := (i64_w _).trans hji20)
               go_meet
               case rel => exact ⟨_, (!(Op.bytesLess (((rd_T113 l0 (ji20)).f0).toList) (((rd_T113 l0 x3_1).f0).toList))), (by first | rfl | (simp; done) | (simp only [← hji20] <;> (first | rfl | simp)) | (simp [*]; done)), H', ⟨by have := HK1.out; first | exact Nat.le_refl _ | exact Nat.le_of_succ_le this | omega⟩, ⟨bk_ BK111⟩, ⟨hs_ HB GE111⟩⟩
              ·rw [if_neg c22] at H
               exact absurd H (by simp)
             ·rw [if_neg c21] at H
              exact absurd H (by simp)
            ·rw [if_neg c19] at H
             have c19b0 : decide (0 < x3_1) = false := decide_eq_false c19
             clear c19
             have H' := Aside0.mk H
             clear H
             try go_wp2
             have n0_ : Aside0 ((((((w6.setCell ⟨gb111, 0, none⟩ (.string ((rd_T113 l0 x3_1).f0))).setCell ⟨gb111, 1, none⟩ (.int .i64 ((rd_T113 l0 x3_1).f1))).setCell ⟨gb111, 2, none⟩ (.int .i64 ((rd_T113 l0 x3_1).f2))).setCell ⟨gb111, 3, none⟩ (.int .i64 ((rd_T113 l0 x3_1).f3))).setCell ⟨gb111, 4, none⟩ (.int .i64 ((rd_T113 l0 x3_1).f4))).heap[gb111]? = some (.cells #[.string ((rd_T113 l0 x3_1).f0), .int .i64 ((rd_T113 l0 x3_1).f1), .int .i64 ((rd_T113 l0 x3_1).f2), .int .i64 ((rd_T113 l0 x3_1).f3), .int .i64 ((rd_T113 l0 x3_1).f4)] 113 (0, 0))) := ⟨by (with_reducible repeat (first | refine blk_drewN ?_ _ | refine blk_drew ?_ | refine blk_alloc ?_ _)); refine blk_put (cs := #[.string ((rd_T113 l0 x3_1).f0), .int .i64 ((rd_T113 l0 x3_1).f1), .int .i64 ((rd_T113 l0 x3_1).f2), .int .i64 ((rd_T113 l0 x3_1).f3), .int .i64 0]) ?_ 4 _ rfl; (with_reducible repeat (first | refine blk_drewN ?_ _ | refine blk_drew ?_ | refine blk_alloc ?_ _)); refine blk_put (cs := #[.string ((rd_T113 l0 x3_1).f0), .int .i64 ((rd_T113 l0 x3_1).f1), .int .i64 ((rd_T113 l0 x3_1).f2), .int .i64 0, .int .i64 0]) ?_ 3 _ rfl; (with_reducible repeat (first | refine blk_drewN ?_ _ | refine blk_drew ?_ | refine blk_alloc ?_ _)); refine blk_put (cs := #[.string ((rd_T113 l0 x3_1).f0), .int .i64 ((rd_T113 l0 x3_1).f1), .int .i64 0, .int .i64 0, .int .i64 0]) ?_ 2 _ rfl; (with_reducible repeat (first | refine blk_drewN ?_ _ | refine blk_drew ?_ | refine blk_alloc ?_ _)); refine blk_put (cs := #[.string ((rd_T113 l0 x3_1).f0), .int .i64 0, .int .i64 0, .int .i64 0, .int .i64 0]) ?_ 1 _ rfl; (with_reducible repeat (first | refine blk_drewN ?_ _ | refine blk_drew ?_ | refine blk_alloc ?_ _)); refine blk_put (cs := #[.string (⟨#[]⟩ : ByteArray), .int .i64 0, .int .i64 0, .int .i64 0, .int .i64 0]) ?_ 0 _ rfl; (with_reducible repeat (first | refine blk_drewN ?_ _ | refine blk_drew ?_ | refine blk_alloc ?_ _)); exact BK111.out⟩
             have n1_ : Aside0 (Below w.heap.size w (((((w6.setCell ⟨gb111, 0, none⟩ (.string ((rd_T113 l0 x3_1).f0))).setCell ⟨gb111, 1, none⟩ (.int .i64 ((rd_T113 l0 x3_1).f1))).setCell ⟨gb111, 2, none⟩ (.int .i64 ((rd_T113 l0 x3_1).f2))).setCell ⟨gb111, 3, none⟩ (.int .i64 ((rd_T113 l0 x3_1).f3))).setCell ⟨gb111, 4, none⟩ (.int .i64 ((rd_T113 l0 x3_1).f4)))) := ⟨hs_ HB GE111⟩
             (try clear BK111)
             (try clear HB)
             generalize (((((w6.setCell ⟨gb111, 0, none⟩ (.string ((rd_T113 l0 x3_1).f0))).setCell ⟨gb111, 1, none⟩ (.int .i64 ((rd_T113 l0 x3_1).f1))).setCell ⟨gb111, 2, none⟩ (.int .i64 ((rd_T113 l0 x3_1).f2))).setCell ⟨gb111, 3, none⟩ (.int .i64 ((rd_T113 l0 x3_1).f3))).setCell ⟨gb111, 4, none⟩ (.int .i64 ((rd_T113 l0 x3_1).f4))) = w25 at n0_ n1_ ⊢
             have BK111 := n0_
             have HB := n1_
             clear n0_ n1_
             have n0_ := Aside0.mk (blk_drew BK111.out)
             have n1_ := Aside0.mk (below_drew1 HB.out)
             clear BK111
             clear HB
             have BK111 := n0_
             have HB := n1_
             clear n0_ n1_
             refine start_ (n := 42) (S := fun w' => w'.cell? ⟨gb111, 0, none⟩ = some (.string ((rd_T113 l0 x3_1).f0)) ∧ w'.cell? ⟨gb111, 1, none⟩ = some (.int .i64 ((rd_T113 l0 x3_1).f1)) ∧ w'.cell? ⟨gb111, 2, none⟩ = some (.int .i64 ((rd_T113 l0 x3_1).f2)) ∧ w'.cell? ⟨gb111, 3, none⟩ = some (.int .i64 ((rd_T113 l0 x3_1).f3)) ∧ w'.cell? ⟨gb111, 4, none⟩ = some (.int .i64 ((rd_T113 l0 x3_1).f4))) (ds := []) (on_ 0 42) (by kernel_rfl) rfl rfl ⟨(blk_cell BK111.out 0).trans rfl, (blk_cell BK111.out 1).trans rfl, (blk_cell BK111.out 2).trans rfl, (blk_cell BK111.out 3).trans rfl, (blk_cell BK111.out 4).trans rfl⟩ (fun hHeld => ?_); refine with_tabW spec_DirOk.tab7 spec_DirOk.bits7 (fun HT_ HW_ => ?_)
             generalize w25.drew = w26 at BK111 HB hHeld ⊢
             refine pv_ (i := 0) (N := some 18) (on_ 1 41) rfl rfl HT_ ?_
             refine take_ (i := 1) (N := some 19) (v := ?_) (a' := ?_) (on_ 2 40) rfl rfl (take_ofW HT_.out HW_.out (by kernel_rfl)) (fun _ _ _ h => h) (Or.inl ⟨by rfl, ?_⟩) hHeld ?_ ?_
             rotate_left
             ·rintro w' ⟨s0, s1, s2, s3, s4⟩
              go_simp
              with_reducible rfl
             rotate_left
             ·simp only [Act.put, la_, lz_, ls_, i64_w, i32_w]
              rfl
             refine one_ (i := 2) (N := some 20) (on_ 3 39) rfl rfl (one_of HT_.out (by kernel_rfl)) (by decide) (fun K hK => ?_)
             refine goes_ Try.func106 (by kernel_rfl) rfl #[.string ((rd_T113 l0 x3_1).f0)] (by rfl) rfl rfl ar_ ?_
             with_reducible refine (spec_KeyOk.calls ((rd_T113 l0 x3_1).f0) true _ A8.out).mono ?_
             rintro e w' ⟨rfl, ⟨nd, rfl⟩⟩
             refine ⟨_, rfl, ?_⟩
             refine hK.out _ _ ⟨(blk_cell BK111.out 0).trans rfl, (blk_cell BK111.out 1).trans rfl, (blk_cell BK111.out 2).trans rfl, (blk_cell BK111.out 3).trans rfl, (blk_cell BK111.out 4).trans rfl⟩ (fun hHeld => ?_)
             clear hK K
             refine norm_ (a' := ?_) ?_ ?_
             rotate_left
             ·show Act.put _ (some 20) _ = _
              simp only [Act.put, la_, lz_, ls_, i64_w, i32_w]
              rfl
             refine pv_ (i := 3) (N := some 21) (on_ 4 38) rfl rfl HT_ ?_
             refine pv_ (i := 4) (N := some 22) (on_ 5 37) rfl rfl HT_ ?_
             refine pv_ (i := 5) (N := some 23) (on_ 6 36) rfl rfl HT_ ?_
             refine take_ (i := 6) (N := some 24) (v := ?_) (a' := ?_) (on_ 7 35) rfl rfl (take_ofW HT_.out HW_.out (by kernel_rfl)) (fun _ _ _ h => h) (Or.inl ⟨by rfl, ?_⟩) hHeld ?_ ?_
             rotate_left
             ·rintro w' ⟨s0, s1, s2, s3, s4⟩
              go_simp
              with_reducible rfl
             rotate_left
             ·simp only [Act.put, la_, lz_, ls_, i64_w, i32_w]
              rfl
             refine one_ (i := 7) (N := some 25) (on_ 8 34) rfl rfl (one_of HT_.out (by kernel_rfl)) (by decide) (fun K hK => ?_)
             refine goes_ Try.func64 (by kernel_rfl) rfl #[.int .i64 ((rd_T113 l0 x3_1).f1), .int .i64 1, .int .i64 100000] (by rfl) rfl rfl ar_ ?_
             with_reducible refine (spec_l1In.calls ((rd_T113 l0 x3_1).f1) 1 100000 true _ A10.out).mono ?_
             rintro e w' ⟨rfl, ⟨nd, rfl⟩⟩
             refine ⟨_, rfl, ?_⟩
             refine hK.out _ _ ⟨(blk_cell BK111.out 0).trans rfl, (blk_cell BK111.out 1).trans rfl, (blk_cell BK111.out 2).trans rfl, (blk_cell BK111.out 3).trans rfl, (blk_cell BK111.out 4).trans rfl⟩ (fun hHeld => ?_)
             clear hK K
             refine norm_ (a' := ?_) ?_ ?_
             rotate_left
             ·show Act.put _ (some 25) _ = _
              simp only [Act.put, la_, lz_, ls_, i64_w, i32_w]
              rfl
             refine pv_ (i := 8) (N := some 26) (on_ 9 33) rfl rfl HT_ ?_
             refine pv_ (i := 9) (N := some 27) (on_ 10 32) rfl rfl HT_ ?_
             refine pv_ (i := 10) (N := some 28) (on_ 11 31) rfl rfl HT_ ?_
             refine pv_ (i := 11) (N := some 29) (on_ 12 30) rfl rfl HT_ ?_
             refine take_ (i := 12) (N := some 30) (v := ?_) (a' := ?_) (on_ 13 29) rfl rfl (take_ofW HT_.out HW_.out (by kernel_rfl)) (fun _ _ _ h => h) (Or.inl ⟨by rfl, ?_⟩) hHeld ?_ ?_
             rotate_left
             ·rintro w' ⟨s0, s1, s2, s3, s4⟩
              go_simp
              with_reducible rfl
             rotate_left
             ·simp only [Act.put, la_, lz_, ls_, i64_w, i32_w]
              rfl
             refine pv_ (i := 13) (N := some 31) (on_ 14 28) rfl rfl HT_ ?_
             refine pv_ (i := 14) (N := some 32) (on_ 15 27) rfl rfl HT_ ?_
             refine pv_ (i := 15) (N := some 33) (on_ 16 26) rfl rfl HT_ ?_
             refine pv_ (i := 16) (N := some 34) (on_ 17 25) rfl rfl HT_ ?_
             refine take_ (i := 17) (N := some 35) (v := ?_) (a' := ?_) (on_ 18 24) rfl rfl (take_ofW HT_.out HW_.out (by kernel_rfl)) (fun _ _ _ h => h) (Or.inl ⟨by rfl, ?_⟩) hHeld ?_ ?_
             rotate_left
             ·rintro w' ⟨s0, s1, s2, s3, s4⟩
              go_simp
              with_reducible rfl
             rotate_left
             ·simp only [Act.put, la_, lz_, ls_, i64_w, i32_w]
              rfl
             refine one_ (i := 18) (N := some 36) (on_ 19 23) rfl rfl (one_of HT_.out (by kernel_rfl)) (by decide) (fun K hK => ?_)
             refine goes_ Try.func64 (by kernel_rfl) rfl #[.int .i64 ((rd_T113 l0 x3_1).f3), .int .i64 1, .int .i64 210] (by rfl) rfl rfl ar_ ?_
             with_reducible refine (spec_l1In.calls ((rd_T113 l0 x3_1).f3) 1 210 true _ A15.out).mono ?_
             rintro e w' ⟨rfl, ⟨nd, rfl⟩⟩
             refine ⟨_, rfl, ?_⟩
             refine hK.out _ _ ⟨(blk_cell BK111.out 0).trans rfl, (blk_cell BK111.out 1).trans rfl, (blk_cell BK111.out 2).trans rfl, (blk_cell BK111.out 3).trans rfl, (blk_cell BK111.out 4).trans rfl⟩ (fun hHeld => ?_)
             clear hK K
             refine norm_ (a' := ?_) ?_ ?_
             rotate_left
             ·show Act.put _ (some 36) _ = _
              simp only [Act.put, la_, lz_, ls_, i64_w, i32_w]
              rfl
             refine pv_ (i := 19) (N := some 37) (on_ 20 22) rfl rfl HT_ ?_
             refine pv_ (i := 20) (N := some 38) (on_ 21 21) rfl rfl HT_ ?_
             refine pv_ (i := 21) (N := some 39) (on_ 22 20) rfl rfl HT_ ?_
             refine pv_ (i := 22) (N := some 40) (on_ 23 19) rfl rfl HT_ ?_
             refine take_ (i := 23) (N := some 41) (v := ?_) (a' := ?_) (on_ 24 18) rfl rfl (take_ofW HT_.out HW_.out (by kernel_rfl)) (fun _ _ _ h => h) (Or.inl ⟨by rfl, ?_⟩) hHeld ?_ ?_
             rotate_left
             ·rintro w' ⟨s0, s1, s2, s3, s4⟩
              go_simp
              with_reducible rfl
             rotate_left
             ·simp only [Act.put, la_, lz_, ls_, i64_w, i32_w]
              rfl
             refine one_ (i := 24) (N := some 42) (on_ 25 17) rfl rfl (one_of HT_.out (by kernel_rfl)) (by decide) (fun K hK => ?_)
             refine goes_ Try.func64 (by kernel_rfl) rfl #[.int .i64 ((rd_T113 l0 x3_1).f4), .int .i64 1, .int .i64 1000000] (by rfl) rfl rfl ar_ ?_
             with_reducible refine (spec_l1In.calls ((rd_T113 l0 x3_1).f4) 1 1000000 true _ A17.out).mono ?_
             rintro e w' ⟨rfl, ⟨nd, rfl⟩⟩
             refine ⟨_, rfl, ?_⟩
             refine hK.out _ _ ⟨(blk_cell BK111.out 0).trans rfl, (blk_cell BK111.out 1).trans rfl, (blk_cell BK111.out 2).trans rfl, (blk_cell BK111.out 3).trans rfl, (blk_cell BK111.out 4).trans rfl⟩ (fun hHeld => ?_)
             clear hK K
             refine norm_ (a' := ?_) ?_ ?_
             rotate_left
             ·show Act.put _ (some 42) _ = _
              simp only [Act.put, la_, lz_, ls_, i64_w, i32_w]
              rfl
             refine pv_ (i := 25) (N := some 43) (on_ 26 16) rfl rfl HT_ ?_
             refine pv_ (i := 26) (N := some 44) (on_ 27 15) rfl rfl HT_ ?_
             refine pv_ (i := 27) (N := some 45) (on_ 28 14) rfl rfl HT_ ?_
             refine pv_ (i := 28) (N := some 46) (on_ 29 13) rfl rfl HT_ ?_
             refine pv_ (i := 29) (N := some 47) (on_ 30 12) rfl rfl HT_ ?_
             refine pv_ (i := 30) (N := some 48) (on_ 31 11) rfl rfl HT_ ?_
             refine pun_ (i := 31) (N := some 49) (on_ 32 10) rfl rfl HT_ ?_
             refine pun_ (i := 32) (N := some 50) (on_ 33 9) rfl rfl HT_ ?_
             refine pun_ (i := 33) (N := some 51) (on_ 34 8) rfl rfl HT_ ?_
             refine pun_ (i := 34) (N := some 52) (on_ 35 7) rfl rfl HT_ ?_
             refine pun_ (i := 35) (N := some 53) (on_ 36 6) rfl rfl HT_ ?_
             refine pun_ (i := 36) (N := some 54) (on_ 37 5) rfl rfl HT_ ?_
             refine pun_ (i := 37) (N := some 55) (on_ 38 4) rfl rfl HT_ ?_
             refine pun_ (i := 38) (N := some 56) (on_ 39 3) rfl rfl HT_ ?_
             refine pun_ (i := 39) (N := some 57) (on_ 40 2) rfl rfl HT_ ?_
             refine pv_ (i := 40) (N := some 58) (on_ 41 1) rfl rfl HT_ ?_
             refine pv_ (i := 41) (N := some 59) (on_ 42 0) rfl rfl HT_ ?_
             refine done_ (done_of HT_.out (by kernel_rfl)) ?_
             try go_wp2
             go_meet
             case rel => exact ⟨_, (false), rs_, H', ⟨by have := HK1.out; first | exact Nat.le_refl _ | exact Nat.le_of_succ_le this | omega⟩, ⟨bk_ BK111⟩, ⟨hs_ HB GE111⟩⟩
           ·replace c18 := Bool.eq_false_iff.mpr c18
            subst c18
            have H1 : (spec_DirOk.j1 k1 l0 x3_1 true) = some r := by rw [if_neg (show ¬ (false = true) by decide)] at H; exact H
            clear H
            have H := H1
            clear H1
            have H' := Aside0.mk H
            clear H
            try go_wp2
            have n0_ : Aside0 ((((((w6.setCell ⟨gb111, 0, none⟩ (.string ((rd_T113 l0 x3_1).f0))).setCell ⟨gb111, 1, none⟩ (.int .i64 ((rd_T113 l0 x3_1).f1))).setCell ⟨gb111, 2, none⟩ (.int .i64 ((rd_T113 l0 x3_1).f2))).setCell ⟨gb111, 3, none⟩ (.int .i64 ((rd_T113 l0 x3_1).f3))).setCell ⟨gb111, 4, none⟩ (.int .i64 ((rd_T113 l0 x3_1).f4))).heap[gb111]? = some (.cells #[.string ((rd_T113 l0 x3_1).f0), .int .i64 ((rd_T113 l0 x3_1).f1), .int .i64 ((rd_T113 l0 x3_1).f2), .int .i64 ((rd_T113 l0 x3_1).f3), .int .i64 ((rd_T113 l0 x3_1).f4)] 113 (0, 0))) := ⟨by (with_reducible repeat (first | refine blk_drewN ?_ _ | refine blk_drew ?_ | refine blk_alloc ?_ _)); refine blk_put (cs := #[.string ((rd_T113 l0 x3_1).f0), .int .i64 ((rd_T113 l0 x3_1).f1), .int .i64 ((rd_T113 l0 x3_1).f2), .int .i64 ((rd_T113 l0 x3_1).f3), .int .i64 0]) ?_ 4 _ rfl; (with_reducible repeat (first | refine blk_drewN ?_ _ | refine blk_drew ?_ | refine blk_alloc ?_ _)); refine blk_put (cs := #[.string ((rd_T113 l0 x3_1).f0), .int .i64 ((rd_T113 l0 x3_1).f1), .int .i64 ((rd_T113 l0 x3_1).f2), .int .i64 0, .int .i64 0]) ?_ 3 _ rfl; (with_reducible repeat (first | refine blk_drewN ?_ _ | refine blk_drew ?_ | refine blk_alloc ?_ _)); refine blk_put (cs := #[.string ((rd_T113 l0 x3_1).f0), .int .i64 ((rd_T113 l0 x3_1).f1), .int .i64 0, .int .i64 0, .int .i64 0]) ?_ 2 _ rfl; (with_reducible repeat (first | refine blk_drewN ?_ _ | refine blk_drew ?_ | refine blk_alloc ?_ _)); refine blk_put (cs := #[.string ((rd_T113 l0 x3_1).f0), .int .i64 0, .int .i64 0, .int .i64 0, .int .i64 0]) ?_ 1 _ rfl; (with_reducible repeat (first | refine blk_drewN ?_ _ | refine blk_drew ?_ | refine blk_alloc ?_ _)); refine blk_put (cs := #[.string (⟨#[]⟩ : ByteArray), .int .i64 0, .int .i64 0, .int .i64 0, .int .i64 0]) ?_ 0 _ rfl; (with_reducible repeat (first | refine blk_drewN ?_ _ | refine blk_drew ?_ | refine blk_alloc ?_ _)); exact BK111.out⟩
            have n1_ : Aside0 (Below w.heap.size w (((((w6.setCell ⟨gb111, 0, none⟩ (.string ((rd_T113 l0 x3_1).f0))).setCell ⟨gb111, 1, none⟩ (.int .i64 ((rd_T113 l0 x3_1).f1))).setCell ⟨gb111, 2, none⟩ (.int .i64 ((rd_T113 l0 x3_1).f2))).setCell ⟨gb111, 3, none⟩ (.int .i64 ((rd_T113 l0 x3_1).f3))).setCell ⟨gb111, 4, none⟩ (.int .i64 ((rd_T113 l0 x3_1).f4)))) := ⟨hs_ HB GE111⟩
            (try clear BK111)
            (try clear HB)
            generalize (((((w6.setCell ⟨gb111, 0, none⟩ (.string ((rd_T113 l0 x3_1).f0))).setCell ⟨gb111, 1, none⟩ (.int .i64 ((rd_T113 l0 x3_1).f1))).setCell ⟨gb111, 2, none⟩ (.int .i64 ((rd_T113 l0 x3_1).f2))).setCell ⟨gb111, 3, none⟩ (.int .i64 ((rd_T113 l0 x3_1).f3))).setCell ⟨gb111, 4, none⟩ (.int .i64 ((rd_T113 l0 x3_1).f4))) = w27 at n0_ n1_ ⊢
            have BK111 := n0_
            have HB := n1_
            clear n0_ n1_
            have n0_ := Aside0.mk (blk_drew BK111.out)
            have n1_ := Aside0.mk (below_drew1 HB.out)
            clear BK111
            clear HB
            have BK111 := n0_
            have HB := n1_
            clear n0_ n1_
            refine start_ (n := 42) (S := fun w' => w'.cell? ⟨gb111, 0, none⟩ = some (.string ((rd_T113 l0 x3_1).f0)) ∧ w'.cell? ⟨gb111, 1, none⟩ = some (.int .i64 ((rd_T113 l0 x3_1).f1)) ∧ w'.cell? ⟨gb111, 2, none⟩ = some (.int .i64 ((rd_T113 l0 x3_1).f2)) ∧ w'.cell? ⟨gb111, 3, none⟩ = some (.int .i64 ((rd_T113 l0 x3_1).f3)) ∧ w'.cell? ⟨gb111, 4, none⟩ = some (.int .i64 ((rd_T113 l0 x3_1).f4))) (ds := []) (on_ 0 42) (by kernel_rfl) rfl rfl ⟨(blk_cell BK111.out 0).trans rfl, (blk_cell BK111.out 1).trans rfl, (blk_cell BK111.out 2).trans rfl, (blk_cell BK111.out 3).trans rfl, (blk_cell BK111.out 4).trans rfl⟩ (fun hHeld => ?_); refine with_tabW spec_DirOk.tab7 spec_DirOk.bits7 (fun HT_ HW_ => ?_)
            generalize w27.drew = w28 at BK111 HB hHeld ⊢
            refine pv_ (i := 0) (N := some 18) (on_ 1 41) rfl rfl HT_ ?_
            refine take_ (i := 1) (N := some 19) (v := ?_) (a' := ?_) (on_ 2 40) rfl rfl (take_ofW HT_.out HW_.out (by kernel_rfl)) (fun _ _ _ h => h) (Or.inl ⟨by rfl, ?_⟩) hHeld ?_ ?_
            rotate_left
            ·rintro w' ⟨s0, s1, s2, s3, s4⟩
             go_simp
             with_reducible rfl
            rotate_left
            ·simp only [Act.put, la_, lz_, ls_, i64_w, i32_w]
             rfl
            refine one_ (i := 2) (N := some 20) (on_ 3 39) rfl rfl (one_of HT_.out (by kernel_rfl)) (by decide) (fun K hK => ?_)
            refine goes_ Try.func106 (by kernel_rfl) rfl #[.string ((rd_T113 l0 x3_1).f0)] (by rfl) rfl rfl ar_ ?_
            with_reducible refine (spec_KeyOk.calls ((rd_T113 l0 x3_1).f0) true _ A8.out).mono ?_
            rintro e w' ⟨rfl, ⟨nd, rfl⟩⟩
            refine ⟨_, rfl, ?_⟩
            refine hK.out _ _ ⟨(blk_cell BK111.out 0).trans rfl, (blk_cell BK111.out 1).trans rfl, (blk_cell BK111.out 2).trans rfl, (blk_cell BK111.out 3).trans rfl, (blk_cell BK111.out 4).trans rfl⟩ (fun hHeld => ?_)
            clear hK K
            refine norm_ (a' := ?_) ?_ ?_
            rotate_left
            ·show Act.put _ (some 20) _ = _
             simp only [Act.put, la_, lz_, ls_, i64_w, i32_w]
             rfl
            refine pv_ (i := 3) (N := some 21) (on_ 4 38) rfl rfl HT_ ?_
            refine pv_ (i := 4) (N := some 22) (on_ 5 37) rfl rfl HT_ ?_
            refine pv_ (i := 5) (N := some 23) (on_ 6 36) rfl rfl HT_ ?_
            refine take_ (i := 6) (N := some 24) (v := ?_) (a' := ?_) (on_ 7 35) rfl rfl (take_ofW HT_.out HW_.out (by kernel_rfl)) (fun _ _ _ h => h) (Or.inl ⟨by rfl, ?_⟩) hHeld ?_ ?_
            rotate_left
            ·rintro w' ⟨s0, s1, s2, s3, s4⟩
             go_simp
             with_reducible rfl
            rotate_left
            ·simp only [Act.put, la_, lz_, ls_, i64_w, i32_w]
             rfl
            refine one_ (i := 7) (N := some 25) (on_ 8 34) rfl rfl (one_of HT_.out (by kernel_rfl)) (by decide) (fun K hK => ?_)
            refine goes_ Try.func64 (by kernel_rfl) rfl #[.int .i64 ((rd_T113 l0 x3_1).f1), .int .i64 1, .int .i64 100000] (by rfl) rfl rfl ar_ ?_
            with_reducible refine (spec_l1In.calls ((rd_T113 l0 x3_1).f1) 1 100000 true _ A10.out).mono ?_
            rintro e w' ⟨rfl, ⟨nd, rfl⟩⟩
            refine ⟨_, rfl, ?_⟩
            refine hK.out _ _ ⟨(blk_cell BK111.out 0).trans rfl, (blk_cell BK111.out 1).trans rfl, (blk_cell BK111.out 2).trans rfl, (blk_cell BK111.out 3).trans rfl, (blk_cell BK111.out 4).trans rfl⟩ (fun hHeld => ?_)
            clear hK K
            refine norm_ (a' := ?_) ?_ ?_
            rotate_left
            ·show Act.put _ (some 25) _ = _
             simp only [Act.put, la_, lz_, ls_, i64_w, i32_w]
             rfl
            refine pv_ (i := 8) (N := some 26) (on_ 9 33) rfl rfl HT_ ?_
            refine pv_ (i := 9) (N := some 27) (on_ 10 32) rfl rfl HT_ ?_
            refine pv_ (i := 10) (N := some 28) (on_ 11 31) rfl rfl HT_ ?_
            refine pv_ (i := 11) (N := some 29) (on_ 12 30) rfl rfl HT_ ?_
            refine take_ (i := 12) (N := some 30) (v := ?_) (a' := ?_) (on_ 13 29) rfl rfl (take_ofW HT_.out HW_.out (by kernel_rfl)) (fun _ _ _ h => h) (Or.inl ⟨by rfl, ?_⟩) hHeld ?_ ?_
            rotate_left
            ·rintro w' ⟨s0, s1, s2, s3, s4⟩
             go_simp
             with_reducible rfl
            rotate_left
            ·simp only [Act.put, la_, lz_, ls_, i64_w, i32_w]
             rfl
            refine pv_ (i := 13) (N := some 31) (on_ 14 28) rfl rfl HT_ ?_
            refine pv_ (i := 14) (N := some 32) (on_ 15 27) rfl rfl HT_ ?_
            refine pv_ (i := 15) (N := some 33) (on_ 16 26) rfl rfl HT_ ?_
            refine pv_ (i := 16) (N := some 34) (on_ 17 25) rfl rfl HT_ ?_
            refine take_ (i := 17) (N := some 35) (v := ?_) (a' := ?_) (on_ 18 24) rfl rfl (take_ofW HT_.out HW_.out (by kernel_rfl)) (fun _ _ _ h => h) (Or.inl ⟨by rfl, ?_⟩) hHeld ?_ ?_
            rotate_left
            ·rintro w' ⟨s0, s1, s2, s3, s4⟩
             go_simp
             with_reducible rfl
            rotate_left
            ·simp only [Act.put, la_, lz_, ls_, i64_w, i32_w]
             rfl
            refine one_ (i := 18) (N := some 36) (on_ 19 23) rfl rfl (one_of HT_.out (by kernel_rfl)) (by decide) (fun K hK => ?_)
            refine goes_ Try.func64 (by kernel_rfl) rfl #[.int .i64 ((rd_T113 l0 x3_1).f3), .int .i64 1, .int .i64 210] (by rfl) rfl rfl ar_ ?_
            with_reducible refine (spec_l1In.calls ((rd_T113 l0 x3_1).f3) 1 210 true _ A15.out).mono ?_
            rintro e w' ⟨rfl, ⟨nd, rfl⟩⟩
            refine ⟨_, rfl, ?_⟩
            refine hK.out _ _ ⟨(blk_cell BK111.out 0).trans rfl, (blk_cell BK111.out 1).trans rfl, (blk_cell BK111.out 2).trans rfl, (blk_cell BK111.out 3).trans rfl, (blk_cell BK111.out 4).trans rfl⟩ (fun hHeld => ?_)
            clear hK K
            refine norm_ (a' := ?_) ?_ ?_
            rotate_left
            ·show Act.put _ (some 36) _ = _
             simp only [Act.put, la_, lz_, ls_, i64_w, i32_w]
             rfl
            refine pv_ (i := 19) (N := some 37) (on_ 20 22) rfl rfl HT_ ?_
            refine pv_ (i := 20) (N := some 38) (on_ 21 21) rfl rfl HT_ ?_
            refine pv_ (i := 21) (N := some 39) (on_ 22 20) rfl rfl HT_ ?_
            refine pv_ (i := 22) (N := some 40) (on_ 23 19) rfl rfl HT_ ?_
            refine take_ (i := 23) (N := some 41) (v := ?_) (a' := ?_) (on_ 24 18) rfl rfl (take_ofW HT_.out HW_.out (by kernel_rfl)) (fun _ _ _ h => h) (Or.inl ⟨by rfl, ?_⟩) hHeld ?_ ?_
            rotate_left
            ·rintro w' ⟨s0, s1, s2, s3, s4⟩
             go_simp
             with_reducible rfl
            rotate_left
            ·simp only [Act.put, la_, lz_, ls_, i64_w, i32_w]
             rfl
            refine one_ (i := 24) (N := some 42) (on_ 25 17) rfl rfl (one_of HT_.out (by kernel_rfl)) (by decide) (fun K hK => ?_)
            refine goes_ Try.func64 (by kernel_rfl) rfl #[.int .i64 ((rd_T113 l0 x3_1).f4), .int .i64 1, .int .i64 1000000] (by rfl) rfl rfl ar_ ?_
            with_reducible refine (spec_l1In.calls ((rd_T113 l0 x3_1).f4) 1 1000000 false _ A17.out).mono ?_
            rintro e w' ⟨rfl, ⟨nd, rfl⟩⟩
            refine ⟨_, rfl, ?_⟩
            refine hK.out _ _ ⟨(blk_cell BK111.out 0).trans rfl, (blk_cell BK111.out 1).trans rfl, (blk_cell BK111.out 2).trans rfl, (blk_cell BK111.out 3).trans rfl, (blk_cell BK111.out 4).trans rfl⟩ (fun hHeld => ?_)
            clear hK K
            refine norm_ (a' := ?_) ?_ ?_
            rotate_left
            ·show Act.put _ (some 42) _ = _
             simp only [Act.put, la_, lz_, ls_, i64_w, i32_w]
             rfl
            refine pv_ (i := 25) (N := some 43) (on_ 26 16) rfl rfl HT_ ?_
            refine pv_ (i := 26) (N := some 44) (on_ 27 15) rfl rfl HT_ ?_
            refine pv_ (i := 27) (N := some 45) (on_ 28 14) rfl rfl HT_ ?_
            refine pun_ (i := 28) (N := some 46) (on_ 29 13) rfl rfl HT_ ?_
            refine pun_ (i := 29) (N := some 47) (on_ 30 12) rfl rfl HT_ ?_
            refine pun_ (i := 30) (N := some 48) (on_ 31 11) rfl rfl HT_ ?_
            refine pun_ (i := 31) (N := some 49) (on_ 32 10) rfl rfl HT_ ?_
            refine pun_ (i := 32) (N := some 50) (on_ 33 9) rfl rfl HT_ ?_
            refine pun_ (i := 33) (N := some 51) (on_ 34 8) rfl rfl HT_ ?_
            refine pun_ (i := 34) (N := some 52) (on_ 35 7) rfl rfl HT_ ?_
            refine pun_ (i := 35) (N := some 53) (on_ 36 6) rfl rfl HT_ ?_
            refine pun_ (i := 36) (N := some 54) (on_ 37 5) rfl rfl HT_ ?_
            refine pun_ (i := 37) (N := some 55) (on_ 38 4) rfl rfl HT_ ?_
            refine pun_ (i := 38) (N := some 56) (on_ 39 3) rfl rfl HT_ ?_
            refine pun_ (i := 39) (N := some 57) (on_ 40 2) rfl rfl HT_ ?_
            refine pun_ (i := 40) (N := some 58) (on_ 41 1) rfl rfl HT_ ?_
            refine pv_ (i := 41) (N := some 59) (on_ 42 0) rfl rfl HT_ ?_
            refine done_ (done_of HT_.out (by kernel_rfl)) ?_
            try go_wp2
            go_meet
            case rel => exact ⟨_, (true), rs_, H', ⟨by have := HK1.out; first | exact Nat.le_refl _ | exact Nat.le_of_succ_le this | omega⟩, ⟨bk_ BK111⟩, ⟨hs_ HB GE111⟩⟩
          ·replace c16 := Bool.eq_false_iff.mpr c16
           subst c16
           have H1 : (spec_DirOk.j1 k1 l0 x3_1 true) = some r := by rw [if_neg (show ¬ (false = true) by decide)] at H; exact H
           clear H
           have H := H1
           clear H1
           have H' := Aside0.mk H
           clear H
           try go_wp2
           have n0_ : Aside0 ((((((w6.setCell ⟨gb111, 0, none⟩ (.string ((rd_T113 l0 x3_1).f0))).setCell ⟨gb111, 1, none⟩ (.int .i64 ((rd_T113 l0 x3_1).f1))).setCell ⟨gb111, 2, none⟩ (.int .i64 ((rd_T113 l0 x3_1).f2))).setCell ⟨gb111, 3, none⟩ (.int .i64 ((rd_T113 l0 x3_1).f3))).setCell ⟨gb111, 4, none⟩ (.int .i64 ((rd_T113 l0 x3_1).f4))).heap[gb111]? = some (.cells #[.string ((rd_T113 l0 x3_1).f0), .int .i64 ((rd_T113 l0 x3_1).f1), .int .i64 ((rd_T113 l0 x3_1).f2), .int .i64 ((rd_T113 l0 x3_1).f3), .int .i64 ((rd_T113 l0 x3_1).f4)] 113 (0, 0))) := ⟨by (with_reducible repeat (first | refine blk_drewN ?_ _ | refine blk_drew ?_ | refine blk_alloc ?_ _)); refine blk_put (cs := #[.string ((rd_T113 l0 x3_1).f0), .int .i64 ((rd_T113 l0 x3_1).f1), .int .i64 ((rd_T113 l0 x3_1).f2), .int .i64 ((rd_T113 l0 x3_1).f3), .int .i64 0]) ?_ 4 _ rfl; (with_reducible repeat (first | refine blk_drewN ?_ _ | refine blk_drew ?_ | refine blk_alloc ?_ _)); refine blk_put (cs := #[.string ((rd_T113 l0 x3_1).f0), .int .i64 ((rd_T113 l0 x3_1).f1), .int .i64 ((rd_T113 l0 x3_1).f2), .int .i64 0, .int .i64 0]) ?_ 3 _ rfl; (with_reducible repeat (first | refine blk_drewN ?_ _ | refine blk_drew ?_ | refine blk_alloc ?_ _)); refine blk_put (cs := #[.string ((rd_T113 l0 x3_1).f0), .int .i64 ((rd_T113 l0 x3_1).f1), .int .i64 0, .int .i64 0, .int .i64 0]) ?_ 2 _ rfl; (with_reducible repeat (first | refine blk_drewN ?_ _ | refine blk_drew ?_ | refine blk_alloc ?_ _)); refine blk_put (cs := #[.string ((rd_T113 l0 x3_1).f0), .int .i64 0, .int .i64 0, .int .i64 0, .int .i64 0]) ?_ 1 _ rfl; (with_reducible repeat (first | refine blk_drewN ?_ _ | refine blk_drew ?_ | refine blk_alloc ?_ _)); refine blk_put (cs := #[.string (⟨#[]⟩ : ByteArray), .int .i64 0, .int .i64 0, .int .i64 0, .int .i64 0]) ?_ 0 _ rfl; (with_reducible repeat (first | refine blk_drewN ?_ _ | refine blk_drew ?_ | refine blk_alloc ?_ _)); exact BK111.out⟩
           have n1_ : Aside0 (Below w.heap.size w (((((w6.setCell ⟨gb111, 0, none⟩ (.string ((rd_T113 l0 x3_1).f0))).setCell ⟨gb111, 1, none⟩ (.int .i64 ((rd_T113 l0 x3_1).f1))).setCell ⟨gb111, 2, none⟩ (.int .i64 ((rd_T113 l0 x3_1).f2))).setCell ⟨gb111, 3, none⟩ (.int .i64 ((rd_T113 l0 x3_1).f3))).setCell ⟨gb111, 4, none⟩ (.int .i64 ((rd_T113 l0 x3_1).f4)))) := ⟨hs_ HB GE111⟩
           (try clear BK111)
           (try clear HB)
           generalize (((((w6.setCell ⟨gb111, 0, none⟩ (.string ((rd_T113 l0 x3_1).f0))).setCell ⟨gb111, 1, none⟩ (.int .i64 ((rd_T113 l0 x3_1).f1))).setCell ⟨gb111, 2, none⟩ (.int .i64 ((rd_T113 l0 x3_1).f2))).setCell ⟨gb111, 3, none⟩ (.int .i64 ((rd_T113 l0 x3_1).f3))).setCell ⟨gb111, 4, none⟩ (.int .i64 ((rd_T113 l0 x3_1).f4))) = w29 at n0_ n1_ ⊢
           have BK111 := n0_
           have HB := n1_
           clear n0_ n1_
           have n0_ := Aside0.mk (blk_drew BK111.out)
           have n1_ := Aside0.mk (below_drew1 HB.out)
           clear BK111
           clear HB
           have BK111 := n0_
           have HB := n1_
           clear n0_ n1_
           refine start_ (n := 42) (S := fun w' => w'.cell? ⟨gb111, 0, none⟩ = some (.string ((rd_T113 l0 x3_1).f0)) ∧ w'.cell? ⟨gb111, 1, none⟩ = some (.int .i64 ((rd_T113 l0 x3_1).f1)) ∧ w'.cell? ⟨gb111, 2, none⟩ = some (.int .i64 ((rd_T113 l0 x3_1).f2)) ∧ w'.cell? ⟨gb111, 3, none⟩ = some (.int .i64 ((rd_T113 l0 x3_1).f3)) ∧ w'.cell? ⟨gb111, 4, none⟩ = some (.int .i64 ((rd_T113 l0 x3_1).f4))) (ds := []) (on_ 0 42) (by kernel_rfl) rfl rfl ⟨(blk_cell BK111.out 0).trans rfl, (blk_cell BK111.out 1).trans rfl, (blk_cell BK111.out 2).trans rfl, (blk_cell BK111.out 3).trans rfl, (blk_cell BK111.out 4).trans rfl⟩ (fun hHeld => ?_); refine with_tabW spec_DirOk.tab7 spec_DirOk.bits7 (fun HT_ HW_ => ?_)
           generalize w29.drew = w30 at BK111 HB hHeld ⊢
           refine pv_ (i := 0) (N := some 18) (on_ 1 41) rfl rfl HT_ ?_
           refine take_ (i := 1) (N := some 19) (v := ?_) (a' := ?_) (on_ 2 40) rfl rfl (take_ofW HT_.out HW_.out (by kernel_rfl)) (fun _ _ _ h => h) (Or.inl ⟨by rfl, ?_⟩) hHeld ?_ ?_
           rotate_left
           ·rintro w' ⟨s0, s1, s2, s3, s4⟩
            go_simp
            with_reducible rfl
           rotate_left
           ·simp only [Act.put, la_, lz_, ls_, i64_w, i32_w]
            rfl
           refine one_ (i := 2) (N := some 20) (on_ 3 39) rfl rfl (one_of HT_.out (by kernel_rfl)) (by decide) (fun K hK => ?_)
           refine goes_ Try.func106 (by kernel_rfl) rfl #[.string ((rd_T113 l0 x3_1).f0)] (by rfl) rfl rfl ar_ ?_
           with_reducible refine (spec_KeyOk.calls ((rd_T113 l0 x3_1).f0) true _ A8.out).mono ?_
           rintro e w' ⟨rfl, ⟨nd, rfl⟩⟩
           refine ⟨_, rfl, ?_⟩
           refine hK.out _ _ ⟨(blk_cell BK111.out 0).trans rfl, (blk_cell BK111.out 1).trans rfl, (blk_cell BK111.out 2).trans rfl, (blk_cell BK111.out 3).trans rfl, (blk_cell BK111.out 4).trans rfl⟩ (fun hHeld => ?_)
           clear hK K
           refine norm_ (a' := ?_) ?_ ?_
           rotate_left
           ·show Act.put _ (some 20) _ = _
            simp only [Act.put, la_, lz_, ls_, i64_w, i32_w]
            rfl
           refine pv_ (i := 3) (N := some 21) (on_ 4 38) rfl rfl HT_ ?_
           refine pv_ (i := 4) (N := some 22) (on_ 5 37) rfl rfl HT_ ?_
           refine pv_ (i := 5) (N := some 23) (on_ 6 36) rfl rfl HT_ ?_
           refine take_ (i := 6) (N := some 24) (v := ?_) (a' := ?_) (on_ 7 35) rfl rfl (take_ofW HT_.out HW_.out (by kernel_rfl)) (fun _ _ _ h => h) (Or.inl ⟨by rfl, ?_⟩) hHeld ?_ ?_
           rotate_left
           ·rintro w' ⟨s0, s1, s2, s3, s4⟩
            go_simp
            with_reducible rfl
           rotate_left
           ·simp only [Act.put, la_, lz_, ls_, i64_w, i32_w]
            rfl
           refine one_ (i := 7) (N := some 25) (on_ 8 34) rfl rfl (one_of HT_.out (by kernel_rfl)) (by decide) (fun K hK => ?_)
           refine goes_ Try.func64 (by kernel_rfl) rfl #[.int .i64 ((rd_T113 l0 x3_1).f1), .int .i64 1, .int .i64 100000] (by rfl) rfl rfl ar_ ?_
           with_reducible refine (spec_l1In.calls ((rd_T113 l0 x3_1).f1) 1 100000 true _ A10.out).mono ?_
           rintro e w' ⟨rfl, ⟨nd, rfl⟩⟩
           refine ⟨_, rfl, ?_⟩
           refine hK.out _ _ ⟨(blk_cell BK111.out 0).trans rfl, (blk_cell BK111.out 1).trans rfl, (blk_cell BK111.out 2).trans rfl, (blk_cell BK111.out 3).trans rfl, (blk_cell BK111.out 4).trans rfl⟩ (fun hHeld => ?_)
           clear hK K
           refine norm_ (a' := ?_) ?_ ?_
           rotate_left
           ·show Act.put _ (some 25) _ = _
            simp only [Act.put, la_, lz_, ls_, i64_w, i32_w]
            rfl
           refine pv_ (i := 8) (N := some 26) (on_ 9 33) rfl rfl HT_ ?_
           refine pv_ (i := 9) (N := some 27) (on_ 10 32) rfl rfl HT_ ?_
           refine pv_ (i := 10) (N := some 28) (on_ 11 31) rfl rfl HT_ ?_
           refine pv_ (i := 11) (N := some 29) (on_ 12 30) rfl rfl HT_ ?_
           refine take_ (i := 12) (N := some 30) (v := ?_) (a' := ?_) (on_ 13 29) rfl rfl (take_ofW HT_.out HW_.out (by kernel_rfl)) (fun _ _ _ h => h) (Or.inl ⟨by rfl, ?_⟩) hHeld ?_ ?_
           rotate_left
           ·rintro w' ⟨s0, s1, s2, s3, s4⟩
            go_simp
            with_reducible rfl
           rotate_left
           ·simp only [Act.put, la_, lz_, ls_, i64_w, i32_w]
            rfl
           refine pv_ (i := 13) (N := some 31) (on_ 14 28) rfl rfl HT_ ?_
           refine pv_ (i := 14) (N := some 32) (on_ 15 27) rfl rfl HT_ ?_
           refine pv_ (i := 15) (N := some 33) (on_ 16 26) rfl rfl HT_ ?_
           refine pv_ (i := 16) (N := some 34) (on_ 17 25) rfl rfl HT_ ?_
           refine take_ (i := 17) (N := some 35) (v := ?_) (a' := ?_) (on_ 18 24) rfl rfl (take_ofW HT_.out HW_.out (by kernel_rfl)) (fun _ _ _ h => h) (Or.inl ⟨by rfl, ?_⟩) hHeld ?_ ?_
           rotate_left
           ·rintro w' ⟨s0, s1, s2, s3, s4⟩
            go_simp
            with_reducible rfl
           rotate_left
           ·simp only [Act.put, la_, lz_, ls_, i64_w, i32_w]
            rfl
           refine one_ (i := 18) (N := some 36) (on_ 19 23) rfl rfl (one_of HT_.out (by kernel_rfl)) (by decide) (fun K hK => ?_)
           refine goes_ Try.func64 (by kernel_rfl) rfl #[.int .i64 ((rd_T113 l0 x3_1).f3), .int .i64 1, .int .i64 210] (by rfl) rfl rfl ar_ ?_
           with_reducible refine (spec_l1In.calls ((rd_T113 l0 x3_1).f3) 1 210 false _ A15.out).mono ?_
           rintro e w' ⟨rfl, ⟨nd, rfl⟩⟩
           refine ⟨_, rfl, ?_⟩
           refine hK.out _ _ ⟨(blk_cell BK111.out 0).trans rfl, (blk_cell BK111.out 1).trans rfl, (blk_cell BK111.out 2).trans rfl, (blk_cell BK111.out 3).trans rfl, (blk_cell BK111.out 4).trans rfl⟩ (fun hHeld => ?_)
           clear hK K
           refine norm_ (a' := ?_) ?_ ?_
           rotate_left
           ·show Act.put _ (some 36) _ = _
            simp only [Act.put, la_, lz_, ls_, i64_w, i32_w]
            rfl
           refine pv_ (i := 19) (N := some 37) (on_ 20 22) rfl rfl HT_ ?_
           refine pv_ (i := 20) (N := some 38) (on_ 21 21) rfl rfl HT_ ?_
           refine pv_ (i := 21) (N := some 39) (on_ 22 20) rfl rfl HT_ ?_
           refine pun_ (i := 22) (N := some 40) (on_ 23 19) rfl rfl HT_ ?_
           refine pun_ (i := 23) (N := some 41) (on_ 24 18) rfl rfl HT_ ?_
           refine pun_ (i := 24) (N := some 42) (on_ 25 17) rfl rfl HT_ ?_
           refine pun_ (i := 25) (N := some 43) (on_ 26 16) rfl rfl HT_ ?_
           refine pv_ (i := 26) (N := some 44) (on_ 27 15) rfl rfl HT_ ?_
           refine pv_ (i := 27) (N := some 45) (on_ 28 14) rfl rfl HT_ ?_
           refine pun_ (i := 28) (N := some 46) (on_ 29 13) rfl rfl HT_ ?_
           refine pun_ (i := 29) (N := some 47) (on_ 30 12) rfl rfl HT_ ?_
           refine pun_ (i := 30) (N := some 48) (on_ 31 11) rfl rfl HT_ ?_
           refine pun_ (i := 31) (N := some 49) (on_ 32 10) rfl rfl HT_ ?_
           refine pun_ (i := 32) (N := some 50) (on_ 33 9) rfl rfl HT_ ?_
           refine pun_ (i := 33) (N := some 51) (on_ 34 8) rfl rfl HT_ ?_
           refine pun_ (i := 34) (N := some 52) (on_ 35 7) rfl rfl HT_ ?_
           refine pun_ (i := 35) (N := some 53) (on_ 36 6) rfl rfl HT_ ?_
           refine pun_ (i := 36) (N := some 54) (on_ 37 5) rfl rfl HT_ ?_
           refine pun_ (i := 37) (N := some 55) (on_ 38 4) rfl rfl HT_ ?_
           refine pun_ (i := 38) (N := some 56) (on_ 39 3) rfl rfl HT_ ?_
           refine pun_ (i := 39) (N := some 57) (on_ 40 2) rfl rfl HT_ ?_
           refine pun_ (i := 40) (N := some 58) (on_ 41 1) rfl rfl HT_ ?_
           refine pv_ (i := 41) (N := some 59) (on_ 42 0) rfl rfl HT_ ?_
           refine done_ (done_of HT_.out (by kernel_rfl)) ?_
           try go_wp2
           go_meet
           case rel => exact ⟨_, (true), rs_, H', ⟨by have := HK1.out; first | exact Nat.le_refl _ | exact Nat.le_of_succ_le this | omega⟩, ⟨bk_ BK111⟩, ⟨hs_ HB GE111⟩⟩
        ·replace c11 := Bool.eq_false_iff.mpr c11
         subst c11
         have H1 : (spec_DirOk.j1 k1 l0 x3_1 true) = some r := by rw [if_neg (show ¬ (false = true) by decide)] at H; exact H
         clear H
         have H := H1
         clear H1
         have H' := Aside0.mk H
         clear H
         try go_wp2
         have n0_ : Aside0 ((((((w6.setCell ⟨gb111, 0, none⟩ (.string ((rd_T113 l0 x3_1).f0))).setCell ⟨gb111, 1, none⟩ (.int .i64 ((rd_T113 l0 x3_1).f1))).setCell ⟨gb111, 2, none⟩ (.int .i64 ((rd_T113 l0 x3_1).f2))).setCell ⟨gb111, 3, none⟩ (.int .i64 ((rd_T113 l0 x3_1).f3))).setCell ⟨gb111, 4, none⟩ (.int .i64 ((rd_T113 l0 x3_1).f4))).heap[gb111]? = some (.cells #[.string ((rd_T113 l0 x3_1).f0), .int .i64 ((rd_T113 l0 x3_1).f1), .int .i64 ((rd_T113 l0 x3_1).f2), .int .i64 ((rd_T113 l0 x3_1).f3), .int .i64 ((rd_T113 l0 x3_1).f4)] 113 (0, 0))) := ⟨by (with_reducible repeat (first | refine blk_drewN ?_ _ | refine blk_drew ?_ | refine blk_alloc ?_ _)); refine blk_put (cs := #[.string ((rd_T113 l0 x3_1).f0), .int .i64 ((rd_T113 l0 x3_1).f1), .int .i64 ((rd_T113 l0 x3_1).f2), .int .i64 ((rd_T113 l0 x3_1).f3), .int .i64 0]) ?_ 4 _ rfl; (with_reducible repeat (first | refine blk_drewN ?_ _ | refine blk_drew ?_ | refine blk_alloc ?_ _)); refine blk_put (cs := #[.string ((rd_T113 l0 x3_1).f0), .int .i64 ((rd_T113 l0 x3_1).f1), .int .i64 ((rd_T113 l0 x3_1).f2), .int .i64 0, .int .i64 0]) ?_ 3 _ rfl; (with_reducible repeat (first | refine blk_drewN ?_ _ | refine blk_drew ?_ | refine blk_alloc ?_ _)); refine blk_put (cs := #[.string ((rd_T113 l0 x3_1).f0), .int .i64 ((rd_T113 l0 x3_1).f1), .int .i64 0, .int .i64 0, .int .i64 0]) ?_ 2 _ rfl; (with_reducible repeat (first | refine blk_drewN ?_ _ | refine blk_drew ?_ | refine blk_alloc ?_ _)); refine blk_put (cs := #[.string ((rd_T113 l0 x3_1).f0), .int .i64 0, .int .i64 0, .int .i64 0, .int .i64 0]) ?_ 1 _ rfl; (with_reducible repeat (first | refine blk_drewN ?_ _ | refine blk_drew ?_ | refine blk_alloc ?_ _)); refine blk_put (cs := #[.string (⟨#[]⟩ : ByteArray), .int .i64 0, .int .i64 0, .int .i64 0, .int .i64 0]) ?_ 0 _ rfl; (with_reducible repeat (first | refine blk_drewN ?_ _ | refine blk_drew ?_ | refine blk_alloc ?_ _)); exact BK111.out⟩
         have n1_ : Aside0 (Below w.heap.size w (((((w6.setCell ⟨gb111, 0, none⟩ (.string ((rd_T113 l0 x3_1).f0))).setCell ⟨gb111, 1, none⟩ (.int .i64 ((rd_T113 l0 x3_1).f1))).setCell ⟨gb111, 2, none⟩ (.int .i64 ((rd_T113 l0 x3_1).f2))).setCell ⟨gb111, 3, none⟩ (.int .i64 ((rd_T113 l0 x3_1).f3))).setCell ⟨gb111, 4, none⟩ (.int .i64 ((rd_T113 l0 x3_1).f4)))) := ⟨hs_ HB GE111⟩
         (try clear BK111)
         (try clear HB)
         generalize (((((w6.setCell ⟨gb111, 0, none⟩ (.string ((rd_T113 l0 x3_1).f0))).setCell ⟨gb111, 1, none⟩ (.int .i64 ((rd_T113 l0 x3_1).f1))).setCell ⟨gb111, 2, none⟩ (.int .i64 ((rd_T113 l0 x3_1).f2))).setCell ⟨gb111, 3, none⟩ (.int .i64 ((rd_T113 l0 x3_1).f3))).setCell ⟨gb111, 4, none⟩ (.int .i64 ((rd_T113 l0 x3_1).f4))) = w31 at n0_ n1_ ⊢
         have BK111 := n0_
         have HB := n1_
         clear n0_ n1_
         have n0_ := Aside0.mk (blk_drew BK111.out)
         have n1_ := Aside0.mk (below_drew1 HB.out)
         clear BK111
         clear HB
         have BK111 := n0_
         have HB := n1_
         clear n0_ n1_
         refine start_ (n := 42) (S := fun w' => w'.cell? ⟨gb111, 0, none⟩ = some (.string ((rd_T113 l0 x3_1).f0)) ∧ w'.cell? ⟨gb111, 1, none⟩ = some (.int .i64 ((rd_T113 l0 x3_1).f1)) ∧ w'.cell? ⟨gb111, 2, none⟩ = some (.int .i64 ((rd_T113 l0 x3_1).f2)) ∧ w'.cell? ⟨gb111, 3, none⟩ = some (.int .i64 ((rd_T113 l0 x3_1).f3)) ∧ w'.cell? ⟨gb111, 4, none⟩ = some (.int .i64 ((rd_T113 l0 x3_1).f4))) (ds := []) (on_ 0 42) (by kernel_rfl) rfl rfl ⟨(blk_cell BK111.out 0).trans rfl, (blk_cell BK111.out 1).trans rfl, (blk_cell BK111.out 2).trans rfl, (blk_cell BK111.out 3).trans rfl, (blk_cell BK111.out 4).trans rfl⟩ (fun hHeld => ?_); refine with_tabW spec_DirOk.tab7 spec_DirOk.bits7 (fun HT_ HW_ => ?_)
         generalize w31.drew = w32 at BK111 HB hHeld ⊢
         refine pv_ (i := 0) (N := some 18) (on_ 1 41) rfl rfl HT_ ?_
         refine take_ (i := 1) (N := some 19) (v := ?_) (a' := ?_) (on_ 2 40) rfl rfl (take_ofW HT_.out HW_.out (by kernel_rfl)) (fun _ _ _ h => h) (Or.inl ⟨by rfl, ?_⟩) hHeld ?_ ?_
         rotate_left
         ·rintro w' ⟨s0, s1, s2, s3, s4⟩
          go_simp
          with_reducible rfl
         rotate_left
         ·simp only [Act.put, la_, lz_, ls_, i64_w, i32_w]
          rfl
         refine one_ (i := 2) (N := some 20) (on_ 3 39) rfl rfl (one_of HT_.out (by kernel_rfl)) (by decide) (fun K hK => ?_)
         refine goes_ Try.func106 (by kernel_rfl) rfl #[.string ((rd_T113 l0 x3_1).f0)] (by rfl) rfl rfl ar_ ?_
         with_reducible refine (spec_KeyOk.calls ((rd_T113 l0 x3_1).f0) true _ A8.out).mono ?_
         rintro e w' ⟨rfl, ⟨nd, rfl⟩⟩
         refine ⟨_, rfl, ?_⟩
         refine hK.out _ _ ⟨(blk_cell BK111.out 0).trans rfl, (blk_cell BK111.out 1).trans rfl, (blk_cell BK111.out 2).trans rfl, (blk_cell BK111.out 3).trans rfl, (blk_cell BK111.out 4).trans rfl⟩ (fun hHeld => ?_)
         clear hK K
         refine norm_ (a' := ?_) ?_ ?_
         rotate_left
         ·show Act.put _ (some 20) _ = _
          simp only [Act.put, la_, lz_, ls_, i64_w, i32_w]
          rfl
         refine pv_ (i := 3) (N := some 21) (on_ 4 38) rfl rfl HT_ ?_
         refine pv_ (i := 4) (N := some 22) (on_ 5 37) rfl rfl HT_ ?_
         refine pv_ (i := 5) (N := some 23) (on_ 6 36) rfl rfl HT_ ?_
         refine take_ (i := 6) (N := some 24) (v := ?_) (a' := ?_) (on_ 7 35) rfl rfl (take_ofW HT_.out HW_.out (by kernel_rfl)) (fun _ _ _ h => h) (Or.inl ⟨by rfl, ?_⟩) hHeld ?_ ?_
         rotate_left
         ·rintro w' ⟨s0, s1, s2, s3, s4⟩
          go_simp
          with_reducible rfl
         rotate_left
         ·simp only [Act.put, la_, lz_, ls_, i64_w, i32_w]
          rfl
         refine one_ (i := 7) (N := some 25) (on_ 8 34) rfl rfl (one_of HT_.out (by kernel_rfl)) (by decide) (fun K hK => ?_)
         refine goes_ Try.func64 (by kernel_rfl) rfl #[.int .i64 ((rd_T113 l0 x3_1).f1), .int .i64 1, .int .i64 100000] (by rfl) rfl rfl ar_ ?_
         with_reducible refine (spec_l1In.calls ((rd_T113 l0 x3_1).f1) 1 100000 false _ A10.out).mono ?_
         rintro e w' ⟨rfl, ⟨nd, rfl⟩⟩
         refine ⟨_, rfl, ?_⟩
         refine hK.out _ _ ⟨(blk_cell BK111.out 0).trans rfl, (blk_cell BK111.out 1).trans rfl, (blk_cell BK111.out 2).trans rfl, (blk_cell BK111.out 3).trans rfl, (blk_cell BK111.out 4).trans rfl⟩ (fun hHeld => ?_)
         clear hK K
         refine norm_ (a' := ?_) ?_ ?_
         rotate_left
         ·show Act.put _ (some 25) _ = _
          simp only [Act.put, la_, lz_, ls_, i64_w, i32_w]
          rfl
         refine pv_ (i := 8) (N := some 26) (on_ 9 33) rfl rfl HT_ ?_
         refine pv_ (i := 9) (N := some 27) (on_ 10 32) rfl rfl HT_ ?_
         refine pv_ (i := 10) (N := some 28) (on_ 11 31) rfl rfl HT_ ?_
         refine pun_ (i := 11) (N := some 29) (on_ 12 30) rfl rfl HT_ ?_
         refine pun_ (i := 12) (N := some 30) (on_ 13 29) rfl rfl HT_ ?_
         refine pun_ (i := 13) (N := some 31) (on_ 14 28) rfl rfl HT_ ?_
         refine pv_ (i := 14) (N := some 32) (on_ 15 27) rfl rfl HT_ ?_
         refine pv_ (i := 15) (N := some 33) (on_ 16 26) rfl rfl HT_ ?_
         refine pun_ (i := 16) (N := some 34) (on_ 17 25) rfl rfl HT_ ?_
         refine pun_ (i := 17) (N := some 35) (on_ 18 24) rfl rfl HT_ ?_
         refine pun_ (i := 18) (N := some 36) (on_ 19 23) rfl rfl HT_ ?_
         refine pun_ (i := 19) (N := some 37) (on_ 20 22) rfl rfl HT_ ?_
         refine pv_ (i := 20) (N := some 38) (on_ 21 21) rfl rfl HT_ ?_
         refine pv_ (i := 21) (N := some 39) (on_ 22 20) rfl rfl HT_ ?_
         refine pun_ (i := 22) (N := some 40) (on_ 23 19) rfl rfl HT_ ?_
         refine pun_ (i := 23) (N := some 41) (on_ 24 18) rfl rfl HT_ ?_
         refine pun_ (i := 24) (N := some 42) (on_ 25 17) rfl rfl HT_ ?_
         refine pun_ (i := 25) (N := some 43) (on_ 26 16) rfl rfl HT_ ?_
         refine pv_ (i := 26) (N := some 44) (on_ 27 15) rfl rfl HT_ ?_
         refine pv_ (i := 27) (N := some 45) (on_ 28 14) rfl rfl HT_ ?_
         refine pun_ (i := 28) (N := some 46) (on_ 29 13) rfl rfl HT_ ?_
         refine pun_ (i := 29) (N := some 47) (on_ 30 12) rfl rfl HT_ ?_
         refine pun_ (i := 30) (N := some 48) (on_ 31 11) rfl rfl HT_ ?_
         refine pun_ (i := 31) (N := some 49) (on_ 32 10) rfl rfl HT_ ?_
         refine pun_ (i := 32) (N := some 50) (on_ 33 9) rfl rfl HT_ ?_
         refine pun_ (i := 33) (N := some 51) (on_ 34 8) rfl rfl HT_ ?_
         refine pun_ (i := 34) (N := some 52) (on_ 35 7) rfl rfl HT_ ?_
         refine pun_ (i := 35) (N := some 53) (on_ 36 6) rfl rfl HT_ ?_
         refine pun_ (i := 36) (N := some 54) (on_ 37 5) rfl rfl HT_ ?_
         refine pun_ (i := 37) (N := some 55) (on_ 38 4) rfl rfl HT_ ?_
         refine pun_ (i := 38) (N := some 56) (on_ 39 3) rfl rfl HT_ ?_
         refine pun_ (i := 39) (N := some 57) (on_ 40 2) rfl rfl HT_ ?_
         refine pun_ (i := 40) (N := some 58) (on_ 41 1) rfl rfl HT_ ?_
         refine pv_ (i := 41) (N := some 59) (on_ 42 0) rfl rfl HT_ ?_
         refine done_ (done_of HT_.out (by kernel_rfl)) ?_
         try go_wp2
         go_meet
         case rel => exact ⟨_, (true), rs_, H', ⟨by have := HK1.out; first | exact Nat.le_refl _ | exact Nat.le_of_succ_le this | omega⟩, ⟨bk_ BK111⟩, ⟨hs_ HB GE111⟩⟩
       ·replace c9 := Bool.eq_false_iff.mpr c9
        subst c9
        have H1 : (spec_DirOk.j1 k1 l0 x3_1 true) = some r := by rw [if_neg (show ¬ (false = true) by decide)] at H; exact H
        clear H
        have H := H1
        clear H1
        have H' := Aside0.mk H
        clear H
        try go_wp2
        have n0_ : Aside0 ((((((w6.setCell ⟨gb111, 0, none⟩ (.string ((rd_T113 l0 x3_1).f0))).setCell ⟨gb111, 1, none⟩ (.int .i64 ((rd_T113 l0 x3_1).f1))).setCell ⟨gb111, 2, none⟩ (.int .i64 ((rd_T113 l0 x3_1).f2))).setCell ⟨gb111, 3, none⟩ (.int .i64 ((rd_T113 l0 x3_1).f3))).setCell ⟨gb111, 4, none⟩ (.int .i64 ((rd_T113 l0 x3_1).f4))).heap[gb111]? = some (.cells #[.string ((rd_T113 l0 x3_1).f0), .int .i64 ((rd_T113 l0 x3_1).f1), .int .i64 ((rd_T113 l0 x3_1).f2), .int .i64 ((rd_T113 l0 x3_1).f3), .int .i64 ((rd_T113 l0 x3_1).f4)] 113 (0, 0))) := ⟨by (with_reducible repeat (first | refine blk_drewN ?_ _ | refine blk_drew ?_ | refine blk_alloc ?_ _)); refine blk_put (cs := #[.string ((rd_T113 l0 x3_1).f0), .int .i64 ((rd_T113 l0 x3_1).f1), .int .i64 ((rd_T113 l0 x3_1).f2), .int .i64 ((rd_T113 l0 x3_1).f3), .int .i64 0]) ?_ 4 _ rfl; (with_reducible repeat (first | refine blk_drewN ?_ _ | refine blk_drew ?_ | refine blk_alloc ?_ _)); refine blk_put (cs := #[.string ((rd_T113 l0 x3_1).f0), .int .i64 ((rd_T113 l0 x3_1).f1), .int .i64 ((rd_T113 l0 x3_1).f2), .int .i64 0, .int .i64 0]) ?_ 3 _ rfl; (with_reducible repeat (first | refine blk_drewN ?_ _ | refine blk_drew ?_ | refine blk_alloc ?_ _)); refine blk_put (cs := #[.string ((rd_T113 l0 x3_1).f0), .int .i64 ((rd_T113 l0 x3_1).f1), .int .i64 0, .int .i64 0, .int .i64 0]) ?_ 2 _ rfl; (with_reducible repeat (first | refine blk_drewN ?_ _ | refine blk_drew ?_ | refine blk_alloc ?_ _)); refine blk_put (cs := #[.string ((rd_T113 l0 x3_1).f0), .int .i64 0, .int .i64 0, .int .i64 0, .int .i64 0]) ?_ 1 _ rfl; (with_reducible repeat (first | refine blk_drewN ?_ _ | refine blk_drew ?_ | refine blk_alloc ?_ _)); refine blk_put (cs := #[.string (⟨#[]⟩ : ByteArray), .int .i64 0, .int .i64 0, .int .i64 0, .int .i64 0]) ?_ 0 _ rfl; (with_reducible repeat (first | refine blk_drewN ?_ _ | refine blk_drew ?_ | refine blk_alloc ?_ _)); exact BK111.out⟩
        have n1_ : Aside0 (Below w.heap.size w (((((w6.setCell ⟨gb111, 0, none⟩ (.string ((rd_T113 l0 x3_1).f0))).setCell ⟨gb111, 1, none⟩ (.int .i64 ((rd_T113 l0 x3_1).f1))).setCell ⟨gb111, 2, none⟩ (.int .i64 ((rd_T113 l0 x3_1).f2))).setCell ⟨gb111, 3, none⟩ (.int .i64 ((rd_T113 l0 x3_1).f3))).setCell ⟨gb111, 4, none⟩ (.int .i64 ((rd_T113 l0 x3_1).f4)))) := ⟨hs_ HB GE111⟩
        (try clear BK111)
        (try clear HB)
        generalize (((((w6.setCell ⟨gb111, 0, none⟩ (.string ((rd_T113 l0 x3_1).f0))).setCell ⟨gb111, 1, none⟩ (.int .i64 ((rd_T113 l0 x3_1).f1))).setCell ⟨gb111, 2, none⟩ (.int .i64 ((rd_T113 l0 x3_1).f2))).setCell ⟨gb111, 3, none⟩ (.int .i64 ((rd_T113 l0 x3_1).f3))).setCell ⟨gb111, 4, none⟩ (.int .i64 ((rd_T113 l0 x3_1).f4))) = w33 at n0_ n1_ ⊢
        have BK111 := n0_
        have HB := n1_
        clear n0_ n1_
        have n0_ := Aside0.mk (blk_drew BK111.out)
        have n1_ := Aside0.mk (below_drew1 HB.out)
        clear BK111
        clear HB
        have BK111 := n0_
        have HB := n1_
        clear n0_ n1_
        refine start_ (n := 42) (S := fun w' => w'.cell? ⟨gb111, 0, none⟩ = some (.string ((rd_T113 l0 x3_1).f0)) ∧ w'.cell? ⟨gb111, 1, none⟩ = some (.int .i64 ((rd_T113 l0 x3_1).f1)) ∧ w'.cell? ⟨gb111, 2, none⟩ = some (.int .i64 ((rd_T113 l0 x3_1).f2)) ∧ w'.cell? ⟨gb111, 3, none⟩ = some (.int .i64 ((rd_T113 l0 x3_1).f3)) ∧ w'.cell? ⟨gb111, 4, none⟩ = some (.int .i64 ((rd_T113 l0 x3_1).f4))) (ds := []) (on_ 0 42) (by kernel_rfl) rfl rfl ⟨(blk_cell BK111.out 0).trans rfl, (blk_cell BK111.out 1).trans rfl, (blk_cell BK111.out 2).trans rfl, (blk_cell BK111.out 3).trans rfl, (blk_cell BK111.out 4).trans rfl⟩ (fun hHeld => ?_); refine with_tabW spec_DirOk.tab7 spec_DirOk.bits7 (fun HT_ HW_ => ?_)
        generalize w33.drew = w34 at BK111 HB hHeld ⊢
        refine pv_ (i := 0) (N := some 18) (on_ 1 41) rfl rfl HT_ ?_
        refine take_ (i := 1) (N := some 19) (v := ?_) (a' := ?_) (on_ 2 40) rfl rfl (take_ofW HT_.out HW_.out (by kernel_rfl)) (fun _ _ _ h => h) (Or.inl ⟨by rfl, ?_⟩) hHeld ?_ ?_
        rotate_left
        ·rintro w' ⟨s0, s1, s2, s3, s4⟩
         go_simp
         with_reducible rfl
        rotate_left
        ·simp only [Act.put, la_, lz_, ls_, i64_w, i32_w]
         rfl
        refine one_ (i := 2) (N := some 20) (on_ 3 39) rfl rfl (one_of HT_.out (by kernel_rfl)) (by decide) (fun K hK => ?_)
        refine goes_ Try.func106 (by kernel_rfl) rfl #[.string ((rd_T113 l0 x3_1).f0)] (by rfl) rfl rfl ar_ ?_
        with_reducible refine (spec_KeyOk.calls ((rd_T113 l0 x3_1).f0) false _ A8.out).mono ?_
        rintro e w' ⟨rfl, ⟨nd, rfl⟩⟩
        refine ⟨_, rfl, ?_⟩
        refine hK.out _ _ ⟨(blk_cell BK111.out 0).trans rfl, (blk_cell BK111.out 1).trans rfl, (blk_cell BK111.out 2).trans rfl, (blk_cell BK111.out 3).trans rfl, (blk_cell BK111.out 4).trans rfl⟩ (fun hHeld => ?_)
        clear hK K
        refine norm_ (a' := ?_) ?_ ?_
        rotate_left
        ·show Act.put _ (some 20) _ = _
         simp only [Act.put, la_, lz_, ls_, i64_w, i32_w]
         rfl
        refine pv_ (i := 3) (N := some 21) (on_ 4 38) rfl rfl HT_ ?_
        refine pv_ (i := 4) (N := some 22) (on_ 5 37) rfl rfl HT_ ?_
        refine pun_ (i := 5) (N := some 23) (on_ 6 36) rfl rfl HT_ ?_
        refine pun_ (i := 6) (N := some 24) (on_ 7 35) rfl rfl HT_ ?_
        refine pun_ (i := 7) (N := some 25) (on_ 8 34) rfl rfl HT_ ?_
        refine pun_ (i := 8) (N := some 26) (on_ 9 33) rfl rfl HT_ ?_
        refine pv_ (i := 9) (N := some 27) (on_ 10 32) rfl rfl HT_ ?_
        refine pv_ (i := 10) (N := some 28) (on_ 11 31) rfl rfl HT_ ?_
        refine pun_ (i := 11) (N := some 29) (on_ 12 30) rfl rfl HT_ ?_
        refine pun_ (i := 12) (N := some 30) (on_ 13 29) rfl rfl HT_ ?_
        refine pun_ (i := 13) (N := some 31) (on_ 14 28) rfl rfl HT_ ?_
        refine pv_ (i := 14) (N := some 32) (on_ 15 27) rfl rfl HT_ ?_
        refine pv_ (i := 15) (N := some 33) (on_ 16 26) rfl rfl HT_ ?_
        refine pun_ (i := 16) (N := some 34) (on_ 17 25) rfl rfl HT_ ?_
        refine pun_ (i := 17) (N := some 35) (on_ 18 24) rfl rfl HT_ ?_
        refine pun_ (i := 18) (N := some 36) (on_ 19 23) rfl rfl HT_ ?_
        refine pun_ (i := 19) (N := some 37) (on_ 20 22) rfl rfl HT_ ?_
        refine pv_ (i := 20) (N := some 38) (on_ 21 21) rfl rfl HT_ ?_
        refine pv_ (i := 21) (N := some 39) (on_ 22 20) rfl rfl HT_ ?_
        refine pun_ (i := 22) (N := some 40) (on_ 23 19) rfl rfl HT_ ?_
        refine pun_ (i := 23) (N := some 41) (on_ 24 18) rfl rfl HT_ ?_
        refine pun_ (i := 24) (N := some 42) (on_ 25 17) rfl rfl HT_ ?_
        refine pun_ (i := 25) (N := some 43) (on_ 26 16) rfl rfl HT_ ?_
        refine pv_ (i := 26) (N := some 44) (on_ 27 15) rfl rfl HT_ ?_
        refine pv_ (i := 27) (N := some 45) (on_ 28 14) rfl rfl HT_ ?_
        refine pun_ (i := 28) (N := some 46) (on_ 29 13) rfl rfl HT_ ?_
        refine pun_ (i := 29) (N := some 47) (on_ 30 12) rfl rfl HT_ ?_
        refine pun_ (i := 30) (N := some 48) (on_ 31 11) rfl rfl HT_ ?_
        refine pun_ (i := 31) (N := some 49) (on_ 32 10) rfl rfl HT_ ?_
        refine pun_ (i := 32) (N := some 50) (on_ 33 9) rfl rfl HT_ ?_
        refine pun_ (i := 33) (N := some 51) (on_ 34 8) rfl rfl HT_ ?_
        refine pun_ (i := 34) (N := some 52) (on_ 35 7) rfl rfl HT_ ?_
        refine pun_ (i := 35) (N := some 53) (on_ 36 6) rfl rfl HT_ ?_
        refine pun_ (i := 36) (N := some 54) (on_ 37 5) rfl rfl HT_ ?_
        refine pun_ (i := 37) (N := some 55) (on_ 38 4) rfl rfl HT_ ?_
        refine pun_ (i := 38) (N := some 56) (on_ 39 3) rfl rfl HT_ ?_
        refine pun_ (i := 39) (N := some 57) (on_ 40 2) rfl rfl HT_ ?_
        refine pun_ (i := 40) (N := some 58) (on_ 41 1) rfl rfl HT_ ?_
        refine pv_ (i := 41) (N := some 59) (on_ 42 0) rfl rfl HT_ ?_
        refine done_ (done_of HT_.out (by kernel_rfl)) ?_
        try go_wp2
        go_meet
        case rel => exact ⟨_, (true), rs_, H', ⟨by have := HK1.out; first | exact Nat.le_refl _ | exact Nat.le_of_succ_le this | omega⟩, ⟨bk_ BK111⟩, ⟨hs_ HB GE111⟩⟩
      case rest =>
       clear HC5
       try clear c1
       try clear p2
       try clear c6
       try clear c9
       try clear c10
       try clear c11
       obtain ⟨kq, x59_4, rfl, HA, HJ4, BK111, HB⟩ := hcut
       cases kq with
       | zero => exact absurd HA.out (by simp [spec_DirOk.j1])
       | succ kj4 =>
        have H := HA.out
        clear HA
        simp only [spec_DirOk.j1] at H
        by_cases c35 : x59_4 = true
        ·subst c35
         have H1 : (some false) = some r := by rw [if_pos rfl] at H; exact H
         clear H
         have H := H1
         clear H1
         obtain rfl := Option.some.inj H
         go_wp2
         go_ret
         exact ⟨re_, hs_ HB GE111⟩
        ·replace c35 := Bool.eq_false_iff.mpr c35
         subst c35
         have H1 : (spec_DirOk.l0 kj4 l0 (wrap64 (x3_1 + 1))) = some r := by rw [if_neg (show ¬ (false = true) by decide)] at H; exact H
         clear H
         have H := H1
         clear H1
         have H' := Aside0.mk H
         clear H
         go_wp2
         go_roundg kj4
         case measure => have := HK1.out; have := HJ4.out; omega
         case rel => exact ⟨(wrap64 (x3_1 + 1)), rs_, H', ⟨by have := HK1.out; have := HJ4.out; omega⟩, ⟨hs_ HB GE111⟩⟩
     ·rw [if_neg c4] at H
      exact absurd H (by simp)
    ·rw [if_neg c3] at H
     have c3b0 : decide (x3_1 < (l0.length : Int)) = false := decide_eq_false c3
     clear c3
     obtain rfl := Option.some.inj H
     go_wp2
     go_ret
     exact ⟨re_, hb_ HB⟩

end Go.Proofs.Ytebeafcdabkkfaa.PFnExactReadHint
