-- Laid by a program of this session, a copy of the kit's printer with additions (wip/patch_print.py): myhead. Lean checks it.
import Derived.Test.YtebeafcdabkkfaaPFnExactReadHintx0
import Derived.Test.YtebeafcdabkkfaaPFnExactReadHintx7
namespace Go.Proofs.Ytebeafcdabkkfaa.PFnExactReadHint
open Go.RowKit Go.Proofs.YtebeafcdabkkfaaW.PrintWords Go.Proofs.YtebeafcdabkkfaaW.PrintLast Go.Proofs.YtebeafcdabkkfaaW.PrintMore
theorem bl_swq91685 : ∀ x y : List UInt8, (Op.bytesLess x y || x == y) = !(Op.bytesLess y x)
 | [], [] => by simp [Op.bytesLess]
 | [], _ :: _ => by simp [Op.bytesLess]
 | _ :: _, [] => by simp [Op.bytesLess]
 | a :: x, b :: y => by
  have ih := bl_swq91685 x y
  by_cases e : a = b
  ·subst e
   simp only [Op.bytesLess, List.cons_beq_cons, BEq.rfl, Bool.true_and, UInt8.lt_irrefl, decide_false, Bool.false_or]
   exact ih
  ·have e' : ¬ b = a := fun h => e h.symm
   have h1 : (a == b) = false := by simpa using e
   have h2 : (b == a) = false := by simpa using e'
   simp only [Op.bytesLess, List.cons_beq_cons, h1, h2, Bool.false_and, Bool.or_false]
   by_cases l : a < b
   ·have : ¬ b < a := fun h => UInt8.lt_asymm h l
    simp [l, this]
   ·have : b < a := UInt8.lt_of_le_of_ne (UInt8.not_lt.1 l) e'
    simp [l, this]
theorem bl_leqq91685 (t : TypeId) (a b : ByteArray) : binOp .leq t (.string a) (.string b) = pure (.bool (!(Op.bytesLess b.toList a.toList))) := by simp only [binOp, Op.stringOp, bl_swq91685]
theorem bl_gtrq91685 (t : TypeId) (a b : ByteArray) : binOp .gtr t (.string a) (.string b) = pure (.bool (Op.bytesLess b.toList a.toList)) := by simp only [binOp, Op.stringOp, bl_swq91685, Bool.not_not]
theorem bl_geqq91685 (t : TypeId) (a b : ByteArray) : binOp .geq t (.string a) (.string b) = pure (.bool (!(Op.bytesLess a.toList b.toList))) := by simp only [binOp, Op.stringOp]
attribute [local go_sem] bl_leqq91685 bl_gtrq91685 bl_geqq91685
attribute [local go_sem] max2_int min2_int max_two min_two max_three min_three max_four min_four   -- for this text's walks alone
set_option linter.unusedVariables false
set_option linter.unusedSimpArgs false

/-! ### impl_DirOk: function 125 -/
mutual
def impl_DirOk.l0 : Nat → List (S113) → List (S113) → Int → Int → Option (Bool)
 | 0, _, _, _, _ => none
 | k + 1, x0, x5, x6, x7 => if x7 < x6 then (if 0 ≤ x7 then (if x7 < (x5.length : Int) then ((impl_KeyOk.f ((rd_T113 x5 x7).f0)).bind fun t194 => (if t194 = true then ((impl_in.f ((rd_T113 x5 x7).f1) 1 100000).bind fun t195 => (if t195 = true then (if ((rd_T113 x5 x7).f2) < 0 then (impl_DirOk.j1 k x0 x5 x6 x7 true) else ((impl_in.f ((rd_T113 x5 x7).f3) 1 210).bind fun t196 => (if t196 = true then ((impl_in.f ((rd_T113 x5 x7).f4) 1 1000000).bind fun t197 => (if t197 = true then (if x7 > 0 then (if 0 ≤ (wrap64 (x7 - 1)) then (if (wrap64 (x7 - 1)) < (x0.length : Int) then (impl_DirOk.j1 k x0 x5 x6 x7 (!(Op.bytesLess (((rd_T113 x0 (wrap64 (x7 - 1))).f0).toList) (((rd_T113 x5 x7).f0).toList)))) else (none)) else (none)) else (impl_DirOk.j1 k x0 x5 x6 x7 false)) else (impl_DirOk.j1 k x0 x5 x6 x7 true))) else (impl_DirOk.j1 k x0 x5 x6 x7 true)))) else (impl_DirOk.j1 k x0 x5 x6 x7 true))) else (impl_DirOk.j1 k x0 x5 x6 x7 true))) else (none)) else (none)) else (some (decide ((x0.length : Int) ≤ 20)))
def impl_DirOk.j1 : Nat → List (S113) → List (S113) → Int → Int → Bool → Option (Bool)
 | 0, _, _, _, _, _ => none
 | k + 1, x0, x5, x6, x7, x53 => if x53 = true then (some false) else (impl_DirOk.l0 k x0 x5 x6 (wrap64 (x7 + 1)))
end
def impl_DirOk.f (k : Nat) (l0 : List (S113)) : Option (Bool) := impl_DirOk.l0 k l0 l0 (l0.length : Int) 0
theorem impl_DirOk.mono_l : ∀ k, (∀ y0 y1 y2 y3, LeO (impl_DirOk.l0 k y0 y1 y2 y3) (impl_DirOk.l0 (k + 1) y0 y1 y2 y3)) ∧ (∀ y0 y1 y2 y3 y4, LeO (impl_DirOk.j1 k y0 y1 y2 y3 y4) (impl_DirOk.j1 (k + 1) y0 y1 y2 y3 y4))
 | 0 => ⟨fun _ _ _ _ r h => by simp [impl_DirOk.l0] at h, fun _ _ _ _ _ r h => by simp [impl_DirOk.j1] at h⟩
 | k + 1 => by
  obtain ⟨ih0, ih1⟩ := impl_DirOk.mono_l k
  refine ⟨?_, ?_⟩
  ·intro y0 y1 y2 y3
   unfold impl_DirOk.l0
   repeat' first
   | (with_reducible exact ih0 _ _ _ _)
   | (with_reducible exact ih1 _ _ _ _ _)
   | (with_reducible exact LeO.refl _)
   | (with_reducible exact LeO.none _)
   | (with_reducible refine LeO.ite ?_ ?_)
   | (with_reducible refine LeO.bind ?_ (fun _ => ?_))
   | exact ih0 _ _ _ _
   | exact ih1 _ _ _ _ _
   | exact LeO.none _
   | refine LeO.ite ?_ ?_
   | refine LeO.bind ?_ (fun _ => ?_)
  ·intro y0 y1 y2 y3 y4
   unfold impl_DirOk.j1
   repeat' first
   | (with_reducible exact ih0 _ _ _ _)
   | (with_reducible exact ih1 _ _ _ _ _)
   | (with_reducible exact LeO.refl _)
   | (with_reducible exact LeO.none _)
   | (with_reducible refine LeO.ite ?_ ?_)
   | (with_reducible refine LeO.bind ?_ (fun _ => ?_))
   | exact ih0 _ _ _ _
   | exact ih1 _ _ _ _ _
   | exact LeO.none _
   | refine LeO.ite ?_ ?_
   | refine LeO.bind ?_ (fun _ => ?_)
theorem impl_DirOk.mono : ∀ a0 k, LeO (impl_DirOk.f k a0) (impl_DirOk.f (k + 1) a0) := by
 intro a0 k
 obtain ⟨ih0, ih1⟩ := impl_DirOk.mono_l k
 unfold impl_DirOk.f
 repeat' first
   | (with_reducible exact ih0 _ _ _ _)
   | (with_reducible exact ih1 _ _ _ _ _)
   | (with_reducible exact LeO.refl _)
   | (with_reducible exact LeO.none _)
   | (with_reducible refine LeO.ite ?_ ?_)
   | (with_reducible refine LeO.bind ?_ (fun _ => ?_))
   | exact ih0 _ _ _ _
   | exact ih1 _ _ _ _ _
   | exact LeO.none _
   | refine LeO.ite ?_ ?_
   | refine LeO.bind ?_ (fun _ => ?_)
def impl_DirOk.T4 : Bool × List (List Nat × List Nat) := (true, [([], []), ([0], [0]), ([1], [1]), ([2], [2]), ([3, 2], [3]), ([4], [4]), ([5, 4], [4, 5]), ([6, 4, 4], [4, 6]), ([7, 4], [4, 7]), ([4, 8], [4, 8]), ([9, 7], [9]), ([10], [10]), ([11, 10], [10, 11]), ([12, 10], [10, 12]), ([10, 13], [10, 13]), ([14, 10], [14]), ([15], [15]), ([16, 15], [15, 16]), ([17, 15, 15], [15, 17]), ([18, 15], [15, 18]), ([15, 19], [15, 19]), ([20, 18], [20]), ([21], [21]), ([22, 21], [21, 22]), ([23, 21, 21], [21, 23]), ([24, 21], [21, 24]), ([21, 25], [21, 25]), ([26, 24], [26]), ([27], [27]), ([28, 27], [27, 28]), ([29, 27, 27], [27, 29]), ([30], [30]), ([30], [30]), ([32, 30], [30, 32]), ([31, 33, 30], [30, 31, 33]), ([34, 30], [30, 34]), ([35, 30], [30, 35]), ([30], [30]), ([37, 30], [30, 37]), ([36, 38, 30], [30, 36, 38]), ([30, 39, 27], [27, 30, 39]), ([27, 40], [27, 40])])
def impl_DirOk.B4 : List Nat := [0, 1, 3, 7, 15, 31, 63, 127, 255, 511, 1023, 2047, 4095, 8191, 16383, 32767, 65535, 131071, 262143, 524287, 1048575, 2097151, 4194303, 8388607, 16777215, 33554431, 67108863, 134217727, 268435455, 536870911, 1073741823, 2147483647, 2147483647, 6442450943, 17179869183, 34359738367, 68719476735, 2147483647, 139586437119, 549755813887, 1099511627775, 2199023255551]
theorem impl_DirOk.tab4 : rtab .any (opsOf Try.f125 4) = impl_DirOk.T4 := by kernel_rfl
theorem impl_DirOk.bits4 : waitsOk impl_DirOk.T4.2 impl_DirOk.B4 = true := by kernel_rfl
set_option maxHeartbeats 8000000 in
set_option maxRecDepth 100000 in
theorem impl_DirOk.calls (k : Nat) (A0 : Option Addr) (c0 : Nat) (l0 : List (S113)) (r : Bool) (w : World) (hr0 : Kd.C k113 w A0 l0.length l0) (hc0 : l0.length ≤ c0) (h : impl_DirOk.f k l0 = some r) :
  Calls Try.prog 125 #[.slice A0 l0.length c0] w fun e w' => e = .returned (.bool r) ∧ Below w.heap.size w w' := by
 have hu113 := Try.underlying113
 have HR0 := Aside0.mk hr0
 have HC0 := Aside0.mk hc0
 clear hr0 hc0
 have HB := Aside0.mk (Below.refl w.heap.size w)
 have H : (impl_DirOk.l0 k l0 l0 (l0.length : Int) 0) = some r := h
 clear h
 have H' := Aside0.mk H
 clear H
 go_enter Try.func125, Try.ntmps125
 go_wp2
 go_loopg [7] k (fun kq v7 w' => ∃ (x7_1 : Int), v7 = .int .i64 x7_1 ∧ Aside0 (impl_DirOk.l0 kq l0 l0 (l0.length : Int) x7_1 = some r) ∧ Aside0 (kq ≤ k) ∧ Aside0 (Below w.heap.size w w'))
 case atStart => exact ⟨(0), rs_, H', ⟨Nat.le_refl _⟩, ⟨hb_ HB⟩⟩
 case round =>
  clear H'
  try clear c1
  obtain ⟨x7_1, rfl, HA, HK1, HB⟩ := hrel
  cases gk with
  | zero => exact absurd HA.out (by simp [impl_DirOk.l0])
  | succ k1 =>
   have H := HA.out
   clear HA
   simp only [impl_DirOk.l0] at H
   by_cases c2 : x7_1 < (l0.length : Int)
   ·rw [if_pos c2] at H
    have c2b0 : decide (x7_1 < (l0.length : Int)) = true := decide_eq_true c2
    clear c2
    by_cases c3 : 0 ≤ x7_1
    ·rw [if_pos c3] at H
     have c3b0 : decide (0 ≤ x7_1) = true := decide_eq_true c3
     clear c3
     by_cases c4 : x7_1 < (l0.length : Int)
     ·rw [if_pos c4] at H
      have c4b0 : decide (x7_1 < (l0.length : Int)) = true := decide_eq_true c4
      clear c4
      have HC5 := Aside0.mk H
      clear H
      have p192 : 0 ≤ (x7_1 : Int) := of_decide_eq_true as_
      have q192 : x7_1 < (l0.length : Int) := of_decide_eq_true as_
      obtain ⟨ad192, e192, hx192_0, hx192_1, hx192_2, hx192_3, hx192_4⟩ := at_T113 HR0.out x7_1 p192 q192
      cases e192
      replace hx192_0 := cb_ HB hx192_0
      replace hx192_1 := cb_ HB hx192_1
      replace hx192_2 := cb_ HB hx192_2
      replace hx192_3 := cb_ HB hx192_3
      replace hx192_4 := cb_ HB hx192_4
      replace p192 := eq_true p192
      replace q192 := eq_true q192
      go_upto_region 4 with (first | ((with_reducible refine gate_dst (N := 4) rfl ?_); refine box_event ?hg (N := 4) ?hd (cs := #[.string (⟨#[]⟩ : ByteArray), .int .i64 0, .int .i64 0, .int .i64 0, .int .i64 0]) (t := 113) ?hr ?_; (case hd => rfl); (case hg => rfl); (case hr => first | (go_simp; done) | (go_simp; rfl)); intro gb193 hg w6 hbox hb; have n0_ := Aside0.mk (below_step (hb_ HB) hb); have n1_ := Aside0.mk (hbox); have n2_ := Aside0.mk ((by rw [hg]; exact (below_size (hb_ HB)) : w.heap.size ≤ gb193)); have n3_ := Aside0.mk ((by rw [hg]; exact (below_size (hb_ HB)) : w.heap.size ≤ gb193)); clear HB; have HB := n0_; have BK193 := n1_; have GW193 := n2_; have GE193 := n3_; clear n0_ n1_ n2_ n3_; clear hb hbox hg; have hcz7_0 : w6.cell? ⟨gb193, 0, none⟩ = some (.string (⟨#[]⟩ : ByteArray)) := (blk_cell BK193.out 0).trans rfl; have hcz7_1 : w6.cell? ⟨gb193, 1, none⟩ = some (.int .i64 0) := (blk_cell BK193.out 1).trans rfl; have hcz7_2 : w6.cell? ⟨gb193, 2, none⟩ = some (.int .i64 0) := (blk_cell BK193.out 2).trans rfl; have hcz7_3 : w6.cell? ⟨gb193, 3, none⟩ = some (.int .i64 0) := (blk_cell BK193.out 3).trans rfl; have hcz7_4 : w6.cell? ⟨gb193, 4, none⟩ = some (.int .i64 0) := (blk_cell BK193.out 4).trans rfl; have hfz7_0 := blk_frozen BK193.out 0; have hfz7_1 := blk_frozen BK193.out 1; have hfz7_2 := blk_frozen BK193.out 2; have hfz7_3 := blk_frozen BK193.out 3; have hfz7_4 := blk_frozen BK193.out 4))
      (try simp only [Act.put, la_, lz_, ls_])
      go_cut [53] (fun v53 wc => ∃ (kq : Nat) (x53_4 : Bool), v53 = .bool x53_4 ∧ Aside0 (impl_DirOk.j1 kq l0 l0 (l0.length : Int) x7_1 x53_4 = some r) ∧ Aside0 (kq ≤ k1) ∧ Aside0 (wc.heap[gb193]? = some (.cells #[.string ((rd_T113 l0 x7_1).f0), .int .i64 ((rd_T113 l0 x7_1).f1), .int .i64 ((rd_T113 l0 x7_1).f2), .int .i64 ((rd_T113 l0 x7_1).f3), .int .i64 ((rd_T113 l0 x7_1).f4)] 113 (0, 0))) ∧ Aside0 (Below w.heap.size w wc))
      case first =>
       have H := HC5.out
       clear HC5
       replace H := Option.bind_eq_some_iff.mp H
       obtain ⟨t194, A80, H⟩ := H
       replace H : (if t194 = true then ((impl_in.f ((rd_T113 l0 x7_1).f1) 1 100000).bind fun t195 => (if t195 = true then (if ((rd_T113 l0 x7_1).f2) < 0 then (impl_DirOk.j1 k1 l0 l0 (l0.length : Int) x7_1 true) else ((impl_in.f ((rd_T113 l0 x7_1).f3) 1 210).bind fun t196 => (if t196 = true then ((impl_in.f ((rd_T113 l0 x7_1).f4) 1 1000000).bind fun t197 => (if t197 = true then (if x7_1 > 0 then (if 0 ≤ (wrap64 (x7_1 - 1)) then (if (wrap64 (x7_1 - 1)) < (l0.length : Int) then (impl_DirOk.j1 k1 l0 l0 (l0.length : Int) x7_1 (!(Op.bytesLess (((rd_T113 l0 (wrap64 (x7_1 - 1))).f0).toList) (((rd_T113 l0 x7_1).f0).toList)))) else (none)) else (none)) else (impl_DirOk.j1 k1 l0 l0 (l0.length : Int) x7_1 false)) else (impl_DirOk.j1 k1 l0 l0 (l0.length : Int) x7_1 true))) else (impl_DirOk.j1 k1 l0 l0 (l0.length : Int) x7_1 true)))) else (impl_DirOk.j1 k1 l0 l0 (l0.length : Int) x7_1 true))) else (impl_DirOk.j1 k1 l0 l0 (l0.length : Int) x7_1 true)) = some r := H
       have A8 := Aside0.mk A80
       clear A80
       by_cases c9 : t194 = true
       ·subst c9
        have H1 : ((impl_in.f ((rd_T113 l0 x7_1).f1) 1 100000).bind fun t195 => (if t195 = true then (if ((rd_T113 l0 x7_1).f2) < 0 then (impl_DirOk.j1 k1 l0 l0 (l0.length : Int) x7_1 true) else ((impl_in.f ((rd_T113 l0 x7_1).f3) 1 210).bind fun t196 => (if t196 = true then ((impl_in.f ((rd_T113 l0 x7_1).f4) 1 1000000).bind fun t197 => (if t197 = true then (if x7_1 > 0 then (if 0 ≤ (wrap64 (x7_1 - 1)) then (if (wrap64 (x7_1 - 1)) < (l0.length : Int) then (impl_DirOk.j1 k1 l0 l0 (l0.length : Int) x7_1 (!(Op.bytesLess (((rd_T113 l0 (wrap64 (x7_1 - 1))).f0).toList) (((rd_T113 l0 x7_1).f0).toList)))) else (none)) else (none)) else (impl_DirOk.j1 k1 l0 l0 (l0.length : Int) x7_1 false)) else (impl_DirOk.j1 k1 l0 l0 (l0.length : Int) x7_1 true))) else (impl_DirOk.j1 k1 l0 l0 (l0.length : Int) x7_1 true)))) else (impl_DirOk.j1 k1 l0 l0 (l0.length : Int) x7_1 true))) = some r := by rw [if_pos rfl] at H; exact H
        clear H
        have H := H1
        clear H1
        replace H := Option.bind_eq_some_iff.mp H
        obtain ⟨t195, A100, H⟩ := H
        replace H : (if t195 = true then (if ((rd_T113 l0 x7_1).f2) < 0 then (impl_DirOk.j1 k1 l0 l0 (l0.length : Int) x7_1 true) else ((impl_in.f ((rd_T113 l0 x7_1).f3) 1 210).bind fun t196 => (if t196 = true then ((impl_in.f ((rd_T113 l0 x7_1).f4) 1 1000000).bind fun t197 => (if t197 = true then (if x7_1 > 0 then (if 0 ≤ (wrap64 (x7_1 - 1)) then (if (wrap64 (x7_1 - 1)) < (l0.length : Int) then (impl_DirOk.j1 k1 l0 l0 (l0.length : Int) x7_1 (!(Op.bytesLess (((rd_T113 l0 (wrap64 (x7_1 - 1))).f0).toList) (((rd_T113 l0 x7_1).f0).toList)))) else (none)) else (none)) else (impl_DirOk.j1 k1 l0 l0 (l0.length : Int) x7_1 false)) else (impl_DirOk.j1 k1 l0 l0 (l0.length : Int) x7_1 true))) else (impl_DirOk.j1 k1 l0 l0 (l0.length : Int) x7_1 true)))) else (impl_DirOk.j1 k1 l0 l0 (l0.length : Int) x7_1 true)) = some r := H
        have A10 := Aside0.mk A100
        clear A100
        by_cases c11 : t195 = true
        ·subst c11
         have H1 : (if ((rd_T113 l0 x7_1).f2) < 0 then (impl_DirOk.j1 k1 l0 l0 (l0.length : Int) x7_1 true) else ((impl_in.f ((rd_T113 l0 x7_1).f3) 1 210).bind fun t196 => (if t196 = true then ((impl_in.f ((rd_T113 l0 x7_1).f4) 1 1000000).bind fun t197 => (if t197 = true then (if x7_1 > 0 then (if 0 ≤ (wrap64 (x7_1 - 1)) then (if (wrap64 (x7_1 - 1)) < (l0.length : Int) then (impl_DirOk.j1 k1 l0 l0 (l0.length : Int) x7_1 (!(Op.bytesLess (((rd_T113 l0 (wrap64 (x7_1 - 1))).f0).toList) (((rd_T113 l0 x7_1).f0).toList)))) else (none)) else (none)) else (impl_DirOk.j1 k1 l0 l0 (l0.length : Int) x7_1 false)) else (impl_DirOk.j1 k1 l0 l0 (l0.length : Int) x7_1 true))) else (impl_DirOk.j1 k1 l0 l0 (l0.length : Int) x7_1 true)))) = some r := by rw [if_pos rfl] at H; exact H
         clear H
         have H := H1
         clear H1
         by_cases c12 : ((rd_T113 l0 x7_1).f2) < 0
         ·rw [if_pos c12] at H
          have c12b0 : decide (((rd_T113 l0 x7_1).f2) < 0) = true := decide_eq_true c12
          clear c12
          (first | rw [c12b0] | (simp only [i64_w, i32_w]; rw [c12b0]) | skip)
          have H' := Aside0.mk H
          clear H
          try go_wp2
          have n0_ : Aside0 ((((((w6.setCell ⟨gb193, 0, none⟩ (.string ((rd_T113 l0 x7_1).f0))).setCell ⟨gb193, 1, none⟩ (.int .i64 ((rd_T113 l0 x7_1).f1))).setCell ⟨gb193, 2, none⟩ (.int .i64 ((rd_T113 l0 x7_1).f2))).setCell ⟨gb193, 3, none⟩ (.int .i64 ((rd_T113 l0 x7_1).f3))).setCell ⟨gb193, 4, none⟩ (.int .i64 ((rd_T113 l0 x7_1).f4))).heap[gb193]? = some (.cells #[.string ((rd_T113 l0 x7_1).f0), .int .i64 ((rd_T113 l0 x7_1).f1), .int .i64 ((rd_T113 l0 x7_1).f2), .int .i64 ((rd_T113 l0 x7_1).f3), .int .i64 ((rd_T113 l0 x7_1).f4)] 113 (0, 0))) := ⟨by (with_reducible repeat (first | refine blk_drewN ?_ _ | refine blk_drew ?_ | refine blk_alloc ?_ _)); refine blk_put (cs := #[.string ((rd_T113 l0 x7_1).f0), .int .i64 ((rd_T113 l0 x7_1).f1), .int .i64 ((rd_T113 l0 x7_1).f2), .int .i64 ((rd_T113 l0 x7_1).f3), .int .i64 0]) ?_ 4 _ rfl; (with_reducible repeat (first | refine blk_drewN ?_ _ | refine blk_drew ?_ | refine blk_alloc ?_ _)); refine blk_put (cs := #[.string ((rd_T113 l0 x7_1).f0), .int .i64 ((rd_T113 l0 x7_1).f1), .int .i64 ((rd_T113 l0 x7_1).f2), .int .i64 0, .int .i64 0]) ?_ 3 _ rfl; (with_reducible repeat (first | refine blk_drewN ?_ _ | refine blk_drew ?_ | refine blk_alloc ?_ _)); refine blk_put (cs := #[.string ((rd_T113 l0 x7_1).f0), .int .i64 ((rd_T113 l0 x7_1).f1), .int .i64 0, .int .i64 0, .int .i64 0]) ?_ 2 _ rfl; (with_reducible repeat (first | refine blk_drewN ?_ _ | refine blk_drew ?_ | refine blk_alloc ?_ _)); refine blk_put (cs := #[.string ((rd_T113 l0 x7_1).f0), .int .i64 0, .int .i64 0, .int .i64 0, .int .i64 0]) ?_ 1 _ rfl; (with_reducible repeat (first | refine blk_drewN ?_ _ | refine blk_drew ?_ | refine blk_alloc ?_ _)); refine blk_put (cs := #[.string (⟨#[]⟩ : ByteArray), .int .i64 0, .int .i64 0, .int .i64 0, .int .i64 0]) ?_ 0 _ rfl; (with_reducible repeat (first | refine blk_drewN ?_ _ | refine blk_drew ?_ | refine blk_alloc ?_ _)); exact BK193.out⟩
          have n1_ : Aside0 (Below w.heap.size w (((((w6.setCell ⟨gb193, 0, none⟩ (.string ((rd_T113 l0 x7_1).f0))).setCell ⟨gb193, 1, none⟩ (.int .i64 ((rd_T113 l0 x7_1).f1))).setCell ⟨gb193, 2, none⟩ (.int .i64 ((rd_T113 l0 x7_1).f2))).setCell ⟨gb193, 3, none⟩ (.int .i64 ((rd_T113 l0 x7_1).f3))).setCell ⟨gb193, 4, none⟩ (.int .i64 ((rd_T113 l0 x7_1).f4)))) := ⟨hs_ HB GE193⟩
          (try clear BK193)
          (try clear HB)
          generalize (((((w6.setCell ⟨gb193, 0, none⟩ (.string ((rd_T113 l0 x7_1).f0))).setCell ⟨gb193, 1, none⟩ (.int .i64 ((rd_T113 l0 x7_1).f1))).setCell ⟨gb193, 2, none⟩ (.int .i64 ((rd_T113 l0 x7_1).f2))).setCell ⟨gb193, 3, none⟩ (.int .i64 ((rd_T113 l0 x7_1).f3))).setCell ⟨gb193, 4, none⟩ (.int .i64 ((rd_T113 l0 x7_1).f4))) = w13 at n0_ n1_ ⊢
          have BK193 := n0_
          have HB := n1_
          clear n0_ n1_
          have n0_ := Aside0.mk (blk_drew BK193.out)
          have n1_ := Aside0.mk (below_drew1 HB.out)
          clear BK193
          clear HB
          have BK193 := n0_
          have HB := n1_
          clear n0_ n1_
          refine start_ (n := 42) (S := fun w' => w'.cell? ⟨gb193, 0, none⟩ = some (.string ((rd_T113 l0 x7_1).f0)) ∧ w'.cell? ⟨gb193, 1, none⟩ = some (.int .i64 ((rd_T113 l0 x7_1).f1)) ∧ w'.cell? ⟨gb193, 2, none⟩ = some (.int .i64 ((rd_T113 l0 x7_1).f2)) ∧ w'.cell? ⟨gb193, 3, none⟩ = some (.int .i64 ((rd_T113 l0 x7_1).f3)) ∧ w'.cell? ⟨gb193, 4, none⟩ = some (.int .i64 ((rd_T113 l0 x7_1).f4))) (ds := []) (on_ 0 42) (by kernel_rfl) rfl rfl ⟨(blk_cell BK193.out 0).trans rfl, (blk_cell BK193.out 1).trans rfl, (blk_cell BK193.out 2).trans rfl, (blk_cell BK193.out 3).trans rfl, (blk_cell BK193.out 4).trans rfl⟩ (fun hHeld => ?_); refine with_tabW impl_DirOk.tab4 impl_DirOk.bits4 (fun HT_ HW_ => ?_)
          generalize w13.drew = w14 at BK193 HB hHeld ⊢
          refine pv_ (i := 0) (N := some 12) (on_ 1 41) rfl rfl HT_ ?_
          refine take_ (i := 1) (N := some 13) (v := ?_) (a' := ?_) (on_ 2 40) rfl rfl (take_ofW HT_.out HW_.out (by kernel_rfl)) (fun _ _ _ h => h) (Or.inl ⟨by rfl, ?_⟩) hHeld ?_ ?_
          rotate_left
          ·rintro w' ⟨s0, s1, s2, s3, s4⟩
           go_simp
           with_reducible rfl
          rotate_left
          ·simp only [Act.put, la_, lz_, ls_, i64_w, i32_w]
           rfl
          refine one_ (i := 2) (N := some 14) (on_ 3 39) rfl rfl (one_of HT_.out (by kernel_rfl)) (by decide) (fun K hK => ?_)
          refine goes_ Try.func107 (by kernel_rfl) rfl #[.string ((rd_T113 l0 x7_1).f0)] (by rfl) rfl rfl ar_ ?_
          with_reducible refine (impl_KeyOk.calls ((rd_T113 l0 x7_1).f0) true _ A8.out).mono ?_
          rintro e w' ⟨rfl, ⟨nd, rfl⟩⟩
          refine ⟨_, rfl, ?_⟩
          refine hK.out _ _ ⟨(blk_cell BK193.out 0).trans rfl, (blk_cell BK193.out 1).trans rfl, (blk_cell BK193.out 2).trans rfl, (blk_cell BK193.out 3).trans rfl, (blk_cell BK193.out 4).trans rfl⟩ (fun hHeld => ?_)
          clear hK K
          refine norm_ (a' := ?_) ?_ ?_
          rotate_left
          ·show Act.put _ (some 14) _ = _
           simp only [Act.put, la_, lz_, ls_, i64_w, i32_w]
           rfl
          refine pv_ (i := 3) (N := some 15) (on_ 4 38) rfl rfl HT_ ?_
          refine pv_ (i := 4) (N := some 16) (on_ 5 37) rfl rfl HT_ ?_
          refine pv_ (i := 5) (N := some 17) (on_ 6 36) rfl rfl HT_ ?_
          refine take_ (i := 6) (N := some 18) (v := ?_) (a' := ?_) (on_ 7 35) rfl rfl (take_ofW HT_.out HW_.out (by kernel_rfl)) (fun _ _ _ h => h) (Or.inl ⟨by rfl, ?_⟩) hHeld ?_ ?_
          rotate_left
          ·rintro w' ⟨s0, s1, s2, s3, s4⟩
           go_simp
           with_reducible rfl
          rotate_left
          ·simp only [Act.put, la_, lz_, ls_, i64_w, i32_w]
           rfl
          refine one_ (i := 7) (N := some 19) (on_ 8 34) rfl rfl (one_of HT_.out (by kernel_rfl)) (by decide) (fun K hK => ?_)
          refine goes_ Try.func68 (by kernel_rfl) rfl #[.int .i64 ((rd_T113 l0 x7_1).f1), .int .i64 1, .int .i64 100000] (by rfl) rfl rfl ar_ ?_
          with_reducible refine (impl_in.calls ((rd_T113 l0 x7_1).f1) 1 100000 true _ A10.out).mono ?_
          rintro e w' ⟨rfl, ⟨nd, rfl⟩⟩
          refine ⟨_, rfl, ?_⟩
          refine hK.out _ _ ⟨(blk_cell BK193.out 0).trans rfl, (blk_cell BK193.out 1).trans rfl, (blk_cell BK193.out 2).trans rfl, (blk_cell BK193.out 3).trans rfl, (blk_cell BK193.out 4).trans rfl⟩ (fun hHeld => ?_)
          clear hK K
          refine norm_ (a' := ?_) ?_ ?_
          rotate_left
          ·show Act.put _ (some 19) _ = _
           simp only [Act.put, la_, lz_, ls_, i64_w, i32_w]
           rfl
          refine pv_ (i := 8) (N := some 20) (on_ 9 33) rfl rfl HT_ ?_
          refine pv_ (i := 9) (N := some 21) (on_ 10 32) rfl rfl HT_ ?_
          refine pv_ (i := 10) (N := some 22) (on_ 11 31) rfl rfl HT_ ?_
          refine pv_ (i := 11) (N := some 23) (on_ 12 30) rfl rfl HT_ ?_
          refine take_ (i := 12) (N := some 24) (v := ?_) (a' := ?_) (on_ 13 29) rfl rfl (take_ofW HT_.out HW_.out (by kernel_rfl)) (fun _ _ _ h => h) (Or.inl ⟨by rfl, ?_⟩) hHeld ?_ ?_
          rotate_left
          ·rintro w' ⟨s0, s1, s2, s3, s4⟩
           go_simp
           with_reducible rfl
          rotate_left
          ·simp only [Act.put, la_, lz_, ls_, i64_w, i32_w]
           rfl
          refine pv_ (i := 13) (N := some 25) (on_ 14 28) rfl rfl HT_ ?_
          refine pv_ (i := 14) (N := some 26) (on_ 15 27) rfl rfl HT_ ?_
          refine pv_ (i := 15) (N := some 27) (on_ 16 26) rfl rfl HT_ ?_
          refine pun_ (i := 16) (N := some 28) (on_ 17 25) rfl rfl HT_ ?_
          refine pun_ (i := 17) (N := some 29) (on_ 18 24) rfl rfl HT_ ?_
          refine pun_ (i := 18) (N := some 30) (on_ 19 23) rfl rfl HT_ ?_
          refine pun_ (i := 19) (N := some 31) (on_ 20 22) rfl rfl HT_ ?_
          refine pv_ (i := 20) (N := some 32) (on_ 21 21) rfl rfl HT_ ?_
          refine pv_ (i := 21) (N := some 33) (on_ 22 20) rfl rfl HT_ ?_
          refine pun_ (i := 22) (N := some 34) (on_ 23 19) rfl rfl HT_ ?_
          refine pun_ (i := 23) (N := some 35) (on_ 24 18) rfl rfl HT_ ?_
          refine pun_ (i := 24) (N := some 36) (on_ 25 17) rfl rfl HT_ ?_
          refine pun_ (i := 25) (N := some 37) (on_ 26 16) rfl rfl HT_ ?_
          refine pv_ (i := 26) (N := some 38) (on_ 27 15) rfl rfl HT_ ?_
          refine pv_ (i := 27) (N := some 39) (on_ 28 14) rfl rfl HT_ ?_
          refine pun_ (i := 28) (N := some 40) (on_ 29 13) rfl rfl HT_ ?_
          refine pun_ (i := 29) (N := some 41) (on_ 30 12) rfl rfl HT_ ?_
          refine pun_ (i := 30) (N := some 42) (on_ 31 11) rfl rfl HT_ ?_
          refine pun_ (i := 31) (N := some 43) (on_ 32 10) rfl rfl HT_ ?_
          refine pun_ (i := 32) (N := some 44) (on_ 33 9) rfl rfl HT_ ?_
          refine pun_ (i := 33) (N := some 45) (on_ 34 8) rfl rfl HT_ ?_
          refine pun_ (i := 34) (N := some 46) (on_ 35 7) rfl rfl HT_ ?_
          refine pun_ (i := 35) (N := some 47) (on_ 36 6) rfl rfl HT_ ?_
          refine pun_ (i := 36) (N := some 48) (on_ 37 5) rfl rfl HT_ ?_
          refine pun_ (i := 37) (N := some 49) (on_ 38 4) rfl rfl HT_ ?_
          refine pun_ (i := 38) (N := some 50) (on_ 39 3) rfl rfl HT_ ?_
          refine pun_ (i := 39) (N := some 51) (on_ 40 2) rfl rfl HT_ ?_
          refine pun_ (i := 40) (N := some 52) (on_ 41 1) rfl rfl HT_ ?_
          refine pv_ (i := 41) (N := some 53) (on_ 42 0) rfl rfl HT_ ?_
          refine done_ (done_of HT_.out (by kernel_rfl)) ?_
          try go_wp2
          go_meet
          case rel => exact ⟨_, (true), rs_, H', ⟨by have := HK1.out; first | exact Nat.le_refl _ | exact Nat.le_of_succ_le this | omega⟩, ⟨bk_ BK193⟩, ⟨hs_ HB GE193⟩⟩
         ·rw [if_neg c12] at H
          have c12b0 : decide (((rd_T113 l0 x7_1).f2) < 0) = false := decide_eq_false c12
          clear c12
          (first | rw [c12b0] | (simp only [i64_w, i32_w]; rw [c12b0]) | skip)
          replace H := Option.bind_eq_some_iff.mp H
          obtain ⟨t196, A150, H⟩ := H
          replace H : (if t196 = true then ((impl_in.f ((rd_T113 l0 x7_1).f4) 1 1000000).bind fun t197 => (if t197 = true then (if x7_1 > 0 then (if 0 ≤ (wrap64 (x7_1 - 1)) then (if (wrap64 (x7_1 - 1)) < (l0.length : Int) then (impl_DirOk.j1 k1 l0 l0 (l0.length : Int) x7_1 (!(Op.bytesLess (((rd_T113 l0 (wrap64 (x7_1 - 1))).f0).toList) (((rd_T113 l0 x7_1).f0).toList)))) else (none)) else (none)) else (impl_DirOk.j1 k1 l0 l0 (l0.length : Int) x7_1 false)) else (impl_DirOk.j1 k1 l0 l0 (l0.length : Int) x7_1 true))) else (impl_DirOk.j1 k1 l0 l0 (l0.length : Int) x7_1 true)) = some r := H
          have A15 := Aside0.mk A150
          clear A150
          by_cases c16 : t196 = true
          ·subst c16
           have H1 : ((impl_in.f ((rd_T113 l0 x7_1).f4) 1 1000000).bind fun t197 => (if t197 = true then (if x7_1 > 0 then (if 0 ≤ (wrap64 (x7_1 - 1)) then (if (wrap64 (x7_1 - 1)) < (l0.length : Int) then (impl_DirOk.j1 k1 l0 l0 (l0.length : Int) x7_1 (!(Op.bytesLess (((rd_T113 l0 (wrap64 (x7_1 - 1))).f0).toList) (((rd_T113 l0 x7_1).f0).toList)))) else (none)) else (none)) else (impl_DirOk.j1 k1 l0 l0 (l0.length : Int) x7_1 false)) else (impl_DirOk.j1 k1 l0 l0 (l0.length : Int) x7_1 true))) = some r := by rw [if_pos rfl] at H; exact H
           clear H
           have H := H1
           clear H1
           replace H := Option.bind_eq_some_iff.mp H
           obtain ⟨t197, A170, H⟩ := H
           replace H : (if t197 = true then (if x7_1 > 0 then (if 0 ≤ (wrap64 (x7_1 - 1)) then (if (wrap64 (x7_1 - 1)) < (l0.length : Int) then (impl_DirOk.j1 k1 l0 l0 (l0.length : Int) x7_1 (!(Op.bytesLess (((rd_T113 l0 (wrap64 (x7_1 - 1))).f0).toList) (((rd_T113 l0 x7_1).f0).toList)))) else (none)) else (none)) else (impl_DirOk.j1 k1 l0 l0 (l0.length : Int) x7_1 false)) else (impl_DirOk.j1 k1 l0 l0 (l0.length : Int) x7_1 true)) = some r := H
           have A17 := Aside0.mk A170
           clear A170
           by_cases c18 : t197 = true
           ·subst c18
            have H1 : (if x7_1 > 0 then (if 0 ≤ (wrap64 (x7_1 - 1)) then (if (wrap64 (x7_1 - 1)) < (l0.length : Int) then (impl_DirOk.j1 k1 l0 l0 (l0.length : Int) x7_1 (!(Op.bytesLess (((rd_T113 l0 (wrap64 (x7_1 - 1))).f0).toList) (((rd_T113 l0 x7_1).f0).toList)))) else (none)) else (none)) else (impl_DirOk.j1 k1 l0 l0 (l0.length : Int) x7_1 false)) = some r := by rw [if_pos rfl] at H; exact H
            clear H
            have H := H1
            clear H1
            by_cases c19 : x7_1 > 0
            ·rw [if_pos c19] at H
             have c19b0 : decide (0 < x7_1) = true := decide_eq_true c19
             clear c19
             obtain ⟨ji20, hji20⟩ : ∃ j_ : Int, (wrap64 (x7_1 - 1)) = j_ := ⟨_, rfl⟩
             replace H : (if 0 ≤ (ji20) then (if (ji20) < (l0.length : Int) then (impl_DirOk.j1 k1 l0 l0 (l0.length : Int) x7_1 (!(Op.bytesLess (((rd_T113 l0 (ji20)).f0).toList) (((rd_T113 l0 x7_1).f0).toList)))) else (none)) else (none)) = some r := by first | (rw [hji20] at H; exact H) | (simp only [hji20] at H ⊢; exact H)
             (try rw [hji20] at A8)
             (try rw [hji20] at A10)
             (try rw [hji20] at A15)
             (try rw [hji20] at A17)
             have hji20w : (IntKind.i64.wrap (x7_1 - 1)) = ji20 := (i64_w _).trans hji20
             by_cases c21 : 0 ≤ (ji20)
             ·rw [if_pos c21] at H
              have c21b0 : decide (0 ≤ (ji20)) = true := decide_eq_true c21
              clear c21
              by_cases c22 : (ji20) < (l0.length : Int)
              ·rw [if_pos c22] at H
               have c22b0 : decide ((ji20) < (l0.length : Int)) = true := decide_eq_true c22
               clear c22
               have H' := Aside0.mk H
               clear H
               try go_wp2
               have n0_ : Aside0 ((((((w6.setCell ⟨gb193, 0, none⟩ (.string ((rd_T113 l0 x7_1).f0))).setCell ⟨gb193, 1, none⟩ (.int .i64 ((rd_T113 l0 x7_1).f1))).setCell ⟨gb193, 2, none⟩ (.int .i64 ((rd_T113 l0 x7_1).f2))).setCell ⟨gb193, 3, none⟩ (.int .i64 ((rd_T113 l0 x7_1).f3))).setCell ⟨gb193, 4, none⟩ (.int .i64 ((rd_T113 l0 x7_1).f4))).heap[gb193]? = some (.cells #[.string ((rd_T113 l0 x7_1).f0), .int .i64 ((rd_T113 l0 x7_1).f1), .int .i64 ((rd_T113 l0 x7_1).f2), .int .i64 ((rd_T113 l0 x7_1).f3), .int .i64 ((rd_T113 l0 x7_1).f4)] 113 (0, 0))) := ⟨by (with_reducible repeat (first | refine blk_drewN ?_ _ | refine blk_drew ?_ | refine blk_alloc ?_ _)); refine blk_put (cs := #[.string ((rd_T113 l0 x7_1).f0), .int .i64 ((rd_T113 l0 x7_1).f1), .int .i64 ((rd_T113 l0 x7_1).f2), .int .i64 ((rd_T113 l0 x7_1).f3), .int .i64 0]) ?_ 4 _ rfl; (with_reducible repeat (first | refine blk_drewN ?_ _ | refine blk_drew ?_ | refine blk_alloc ?_ _)); refine blk_put (cs := #[.string ((rd_T113 l0 x7_1).f0), .int .i64 ((rd_T113 l0 x7_1).f1), .int .i64 ((rd_T113 l0 x7_1).f2), .int .i64 0, .int .i64 0]) ?_ 3 _ rfl; (with_reducible repeat (first | refine blk_drewN ?_ _ | refine blk_drew ?_ | refine blk_alloc ?_ _)); refine blk_put (cs := #[.string ((rd_T113 l0 x7_1).f0), .int .i64 ((rd_T113 l0 x7_1).f1), .int .i64 0, .int .i64 0, .int .i64 0]) ?_ 2 _ rfl; (with_reducible repeat (first | refine blk_drewN ?_ _ | refine blk_drew ?_ | refine blk_alloc ?_ _)); refine blk_put (cs := #[.string ((rd_T113 l0 x7_1).f0), .int .i64 0, .int .i64 0, .int .i64 0, .int .i64 0]) ?_ 1 _ rfl; (with_reducible repeat (first | refine blk_drewN ?_ _ | refine blk_drew ?_ | refine blk_alloc ?_ _)); refine blk_put (cs := #[.string (⟨#[]⟩ : ByteArray), .int .i64 0, .int .i64 0, .int .i64 0, .int .i64 0]) ?_ 0 _ rfl; (with_reducible repeat (first | refine blk_drewN ?_ _ | refine blk_drew ?_ | refine blk_alloc ?_ _)); exact BK193.out⟩
               have n1_ : Aside0 (Below w.heap.size w (((((w6.setCell ⟨gb193, 0, none⟩ (.string ((rd_T113 l0 x7_1).f0))).setCell ⟨gb193, 1, none⟩ (.int .i64 ((rd_T113 l0 x7_1).f1))).setCell ⟨gb193, 2, none⟩ (.int .i64 ((rd_T113 l0 x7_1).f2))).setCell ⟨gb193, 3, none⟩ (.int .i64 ((rd_T113 l0 x7_1).f3))).setCell ⟨gb193, 4, none⟩ (.int .i64 ((rd_T113 l0 x7_1).f4)))) := ⟨hs_ HB GE193⟩
               (try clear BK193)
               (try clear HB)
               generalize (((((w6.setCell ⟨gb193, 0, none⟩ (.string ((rd_T113 l0 x7_1).f0))).setCell ⟨gb193, 1, none⟩ (.int .i64 ((rd_T113 l0 x7_1).f1))).setCell ⟨gb193, 2, none⟩ (.int .i64 ((rd_T113 l0 x7_1).f2))).setCell ⟨gb193, 3, none⟩ (.int .i64 ((rd_T113 l0 x7_1).f3))).setCell ⟨gb193, 4, none⟩ (.int .i64 ((rd_T113 l0 x7_1).f4))) = w23 at n0_ n1_ ⊢
               have BK193 := n0_
               have HB := n1_
               clear n0_ n1_
               have n0_ := Aside0.mk (blk_drew BK193.out)
               have n1_ := Aside0.mk (below_drew1 HB.out)
               clear BK193
               clear HB
               have BK193 := n0_
               have HB := n1_
               clear n0_ n1_
               have p198 : 0 ≤ ((ji20) : Int) := of_decide_eq_true as_
               have q198 : (ji20) < (l0.length : Int) := of_decide_eq_true as_
               obtain ⟨ad198, e198, hx198_0, hx198_1, hx198_2, hx198_3, hx198_4⟩ := at_T113 HR0.out (ji20) p198 q198
               have hw198_4 := hx198_4
               have hw198_3 := hx198_3
               have hw198_2 := hx198_2
               have hw198_1 := hx198_1
               have hw198_0 := hx198_0
               obtain rfl : ad192 = ad198 := (by injection e198)
               replace hx198_0 := cb_ HB hx198_0
               replace hx198_1 := cb_ HB hx198_1
               replace hx198_2 := cb_ HB hx198_2
               replace hx198_3 := cb_ HB hx198_3
               replace hx198_4 := cb_ HB hx198_4
               replace p198 := eq_true p198
               replace q198 := eq_true q198
               refine start_ (n := 42) (S := fun w' => w'.cell? ⟨gb193, 0, none⟩ = some (.string ((rd_T113 l0 x7_1).f0)) ∧ w'.cell? ⟨gb193, 1, none⟩ = some (.int .i64 ((rd_T113 l0 x7_1).f1)) ∧ w'.cell? ⟨gb193, 2, none⟩ = some (.int .i64 ((rd_T113 l0 x7_1).f2)) ∧ w'.cell? ⟨gb193, 3, none⟩ = some (.int .i64 ((rd_T113 l0 x7_1).f3)) ∧ w'.cell? ⟨gb193, 4, none⟩ = some (.int .i64 ((rd_T113 l0 x7_1).f4)) ∧ w'.cell? (ad192.add (((ji20)).toNat * 5)) = some (.string ((rd_T113 l0 (ji20)).f0)) ∧ w'.cell? ⟨(ad192.add (((ji20)).toNat * 5)).block, (ad192.add (((ji20)).toNat * 5)).off + 1, none⟩ = some (.int .i64 ((rd_T113 l0 (ji20)).f1)) ∧ w'.cell? ⟨(ad192.add (((ji20)).toNat * 5)).block, (ad192.add (((ji20)).toNat * 5)).off + 2, none⟩ = some (.int .i64 ((rd_T113 l0 (ji20)).f2)) ∧ w'.cell? ⟨(ad192.add (((ji20)).toNat * 5)).block, (ad192.add (((ji20)).toNat * 5)).off + 3, none⟩ = some (.int .i64 ((rd_T113 l0 (ji20)).f3)) ∧ w'.cell? ⟨(ad192.add (((ji20)).toNat * 5)).block, (ad192.add (((ji20)).toNat * 5)).off + 4, none⟩ = some (.int .i64 ((rd_T113 l0 (ji20)).f4))) (ds := []) (on_ 0 42) (by kernel_rfl) rfl rfl ⟨(blk_cell BK193.out 0).trans rfl, (blk_cell BK193.out 1).trans rfl, (blk_cell BK193.out 2).trans rfl, (blk_cell BK193.out 3).trans rfl, (blk_cell BK193.out 4).trans rfl, (cb_ HB hw198_0 :), (cb_ HB hw198_1 :), (cb_ HB hw198_2 :), (cb_ HB hw198_3 :), (cb_ HB hw198_4 :)⟩ (fun hHeld => ?_); refine with_tabW impl_DirOk.tab4 impl_DirOk.bits4 (fun HT_ HW_ => ?_)
               generalize w23.drew = w24 at BK193 HB hx198_0 hx198_1 hx198_2 hx198_3 hx198_4 hHeld ⊢
               refine pv_ (i := 0) (N := some 12) (on_ 1 41) rfl rfl HT_ ?_
               refine take_ (i := 1) (N := some 13) (v := ?_) (a' := ?_) (on_ 2 40) rfl rfl (take_ofW HT_.out HW_.out (by kernel_rfl)) (fun _ _ _ h => h) (Or.inl ⟨by rfl, ?_⟩) hHeld ?_ ?_
               rotate_left
               ·rintro w' ⟨s0, s1, s2, s3, s4, s5, s6, s7, s8, s9⟩
                go_simp
                with_reducible rfl
               rotate_left
               ·simp only [Act.put, la_, lz_, ls_, i64_w, i32_w]
                rfl
               refine one_ (i := 2) (N := some 14) (on_ 3 39) rfl rfl (one_of HT_.out (by kernel_rfl)) (by decide) (fun K hK => ?_)
               refine goes_ Try.func107 (by kernel_rfl) rfl #[.string ((rd_T113 l0 x7_1).f0)] (by rfl) rfl rfl ar_ ?_
               with_reducible refine (impl_KeyOk.calls ((rd_T113 l0 x7_1).f0) true _ A8.out).mono ?_
               rintro e w' ⟨rfl, ⟨nd, rfl⟩⟩
               refine ⟨_, rfl, ?_⟩
               refine hK.out _ _ ⟨(blk_cell BK193.out 0).trans rfl, (blk_cell BK193.out 1).trans rfl, (blk_cell BK193.out 2).trans rfl, (blk_cell BK193.out 3).trans rfl, (blk_cell BK193.out 4).trans rfl, (cb_ HB hw198_0 :), (cb_ HB hw198_1 :), (cb_ HB hw198_2 :), (cb_ HB hw198_3 :), (cb_ HB hw198_4 :)⟩ (fun hHeld => ?_)
               clear hK K
               refine norm_ (a' := ?_) ?_ ?_
               rotate_left
               ·show Act.put _ (some 14) _ = _
                simp only [Act.put, la_, lz_, ls_, i64_w, i32_w]
                rfl
               refine pv_ (i := 3) (N := some 15) (on_ 4 38) rfl rfl HT_ ?_
               refine pv_ (i := 4) (N := some 16) (on_ 5 37) rfl rfl HT_ ?_
               refine pv_ (i := 5) (N := some 17) (on_ 6 36) rfl rfl HT_ ?_
               refine take_ (i := 6) (N := some 18) (v := ?_) (a' := ?_) (on_ 7 35) rfl rfl (take_ofW HT_.out HW_.out (by kernel_rfl)) (fun _ _ _ h => h) (Or.inl ⟨by rfl, ?_⟩) hHeld ?_ ?_
               rotate_left
               ·rintro w' ⟨s0, s1, s2, s3, s4, s5, s6, s7, s8, s9⟩
                go_simp
                with_reducible rfl
               rotate_left
               ·simp only [Act.put, la_, lz_, ls_, i64_w, i32_w]
                rfl
               refine one_ (i := 7) (N := some 19) (on_ 8 34) rfl rfl (one_of HT_.out (by kernel_rfl)) (by decide) (fun K hK => ?_)
               refine goes_ Try.func68 (by kernel_rfl) rfl #[.int .i64 ((rd_T113 l0 x7_1).f1), .int .i64 1, .int .i64 100000] (by rfl) rfl rfl ar_ ?_
               with_reducible refine (impl_in.calls ((rd_T113 l0 x7_1).f1) 1 100000 true _ A10.out).mono ?_
               rintro e w' ⟨rfl, ⟨nd, rfl⟩⟩
               refine ⟨_, rfl, ?_⟩
               refine hK.out _ _ ⟨(blk_cell BK193.out 0).trans rfl, (blk_cell BK193.out 1).trans rfl, (blk_cell BK193.out 2).trans rfl, (blk_cell BK193.out 3).trans rfl, (blk_cell BK193.out 4).trans rfl, (cb_ HB hw198_0 :), (cb_ HB hw198_1 :), (cb_ HB hw198_2 :), (cb_ HB hw198_3 :), (cb_ HB hw198_4 :)⟩ (fun hHeld => ?_)
               clear hK K
               refine norm_ (a' := ?_) ?_ ?_
               rotate_left
               ·show Act.put _ (some 19) _ = _
                simp only [Act.put, la_, lz_, ls_, i64_w, i32_w]
                rfl
               refine pv_ (i := 8) (N := some 20) (on_ 9 33) rfl rfl HT_ ?_
               refine pv_ (i := 9) (N := some 21) (on_ 10 32) rfl rfl HT_ ?_
               refine pv_ (i := 10) (N := some 22) (on_ 11 31) rfl rfl HT_ ?_
               refine pv_ (i := 11) (N := some 23) (on_ 12 30) rfl rfl HT_ ?_
               refine take_ (i := 12) (N := some 24) (v := ?_) (a' := ?_) (on_ 13 29) rfl rfl (take_ofW HT_.out HW_.out (by kernel_rfl)) (fun _ _ _ h => h) (Or.inl ⟨by rfl, ?_⟩) hHeld ?_ ?_
               rotate_left
               ·rintro w' ⟨s0, s1, s2, s3, s4, s5, s6, s7, s8, s9⟩
                go_simp
                with_reducible rfl
               rotate_left
               ·simp only [Act.put, la_, lz_, ls_, i64_w, i32_w]
                rfl
               refine pv_ (i := 13) (N := some 25) (on_ 14 28) rfl rfl HT_ ?_
               refine pv_ (i := 14) (N := some 26) (on_ 15 27) rfl rfl HT_ ?_
               refine pv_ (i := 15) (N := some 27) (on_ 16 26) rfl rfl HT_ ?_
               refine pv_ (i := 16) (N := some 28) (on_ 17 25) rfl rfl HT_ ?_
               refine take_ (i := 17) (N := some 29) (v := ?_) (a' := ?_) (on_ 18 24) rfl rfl (take_ofW HT_.out HW_.out (by kernel_rfl)) (fun _ _ _ h => h) (Or.inl ⟨by rfl, ?_⟩) hHeld ?_ ?_
               rotate_left
               ·rintro w' ⟨s0, s1, s2, s3, s4, s5, s6, s7, s8, s9⟩
                go_simp
                with_reducible rfl
               rotate_left
               ·simp only [Act.put, la_, lz_, ls_, i64_w, i32_w]
                rfl
               refine one_ (i := 18) (N := some 30) (on_ 19 23) rfl rfl (one_of HT_.out (by kernel_rfl)) (by decide) (fun K hK => ?_)
               refine goes_ Try.func68 (by kernel_rfl) rfl #[.int .i64 ((rd_T113 l0 x7_1).f3), .int .i64 1, .int .i64 210] (by rfl) rfl rfl ar_ ?_
               with_reducible refine (impl_in.calls ((rd_T113 l0 x7_1).f3) 1 210 true _ A15.out).mono ?_
               rintro e w' ⟨rfl, ⟨nd, rfl⟩⟩
               refine ⟨_, rfl, ?_⟩
               refine hK.out _ _ ⟨(blk_cell BK193.out 0).trans rfl, (blk_cell BK193.out 1).trans rfl, (blk_cell BK193.out 2).trans rfl, (blk_cell BK193.out 3).trans rfl, (blk_cell BK193.out 4).trans rfl, (cb_ HB hw198_0 :), (cb_ HB hw198_1 :), (cb_ HB hw198_2 :), (cb_ HB hw198_3 :), (cb_ HB hw198_4 :)⟩ (fun hHeld => ?_)
               clear hK K
               refine norm_ (a' := ?_) ?_ ?_
               rotate_left
               ·show Act.put _ (some 30) _ = _
                simp only [Act.put, la_, lz_, ls_, i64_w, i32_w]
                rfl
               refine pv_ (i := 19) (N := some 31) (on_ 20 22) rfl rfl HT_ ?_
               refine pv_ (i := 20) (N := some 32) (on_ 21 21) rfl rfl HT_ ?_
               refine pv_ (i := 21) (N := some 33) (on_ 22 20) rfl rfl HT_ ?_
               refine pv_ (i := 22) (N := some 34) (on_ 23 19) rfl rfl HT_ ?_
               refine take_ (i := 23) (N := some 35) (v := ?_) (a' := ?_) (on_ 24 18) rfl rfl (take_ofW HT_.out HW_.out (by kernel_rfl)) (fun _ _ _ h => h) (Or.inl ⟨by rfl, ?_⟩) hHeld ?_ ?_
               rotate_left
               ·rintro w' ⟨s0, s1, s2, s3, s4, s5, s6, s7, s8, s9⟩
                go_simp
                with_reducible rfl
               rotate_left
               ·simp only [Act.put, la_, lz_, ls_, i64_w, i32_w]
                rfl
               refine one_ (i := 24) (N := some 36) (on_ 25 17) rfl rfl (one_of HT_.out (by kernel_rfl)) (by decide) (fun K hK => ?_)
               refine goes_ Try.func68 (by kernel_rfl) rfl #[.int .i64 ((rd_T113 l0 x7_1).f4), .int .i64 1, .int .i64 1000000] (by rfl) rfl rfl ar_ ?_
               with_reducible refine (impl_in.calls ((rd_T113 l0 x7_1).f4) 1 1000000 true _ A17.out).mono ?_
               rintro e w' ⟨rfl, ⟨nd, rfl⟩⟩
               refine ⟨_, rfl, ?_⟩
               refine hK.out _ _ ⟨(blk_cell BK193.out 0).trans rfl, (blk_cell BK193.out 1).trans rfl, (blk_cell BK193.out 2).trans rfl, (blk_cell BK193.out 3).trans rfl, (blk_cell BK193.out 4).trans rfl, (cb_ HB hw198_0 :), (cb_ HB hw198_1 :), (cb_ HB hw198_2 :), (cb_ HB hw198_3 :), (cb_ HB hw198_4 :)⟩ (fun hHeld => ?_)
               clear hK K
               refine norm_ (a' := ?_) ?_ ?_
               rotate_left
               ·show Act.put _ (some 36) _ = _
                simp only [Act.put, la_, lz_, ls_, i64_w, i32_w]
                rfl
               refine pv_ (i := 25) (N := some 37) (on_ 26 16) rfl rfl HT_ ?_
               refine pv_ (i := 26) (N := some 38) (on_ 27 15) rfl rfl HT_ ?_
               refine pv_ (i := 27) (N := some 39) (on_ 28 14) rfl rfl HT_ ?_
               refine pv_ (i := 28) (N := some 40) (on_ 29 13) rfl rfl HT_ ?_
               refine pv_ (i := 29) (N := some 41) (on_ 30 12) rfl rfl HT_ ?_
               refine pv_ (i := 30) (N := some 42) (on_ 31 11) rfl rfl HT_ ?_
               refine pv_ (i := 31) (N := some 43) (on_ 32 10) rfl rfl HT_ ?_
               refine pv_ (i := 32) (N := some 44) (on_ 33 9) rfl rfl HT_ ?_
               refine pv_ (i := 33) (N := some 45) (on_ 34 8) rfl rfl HT_ ?_
               refine pv_ (i := 34) (N := some 46) (on_ 35 7) rfl rfl HT_ ?_
               refine pv_ (i := 35) (N := some 47) (on_ 36 6) rfl rfl HT_ ?_
               refine pv_ (i := 37) (N := some 49) #[i',i',i',i',i',i',i',i',i',i',i',i',i',i',i',i',i',i',i',i',i',i',i',i',i',i',i',i',i',i',i',i',i',i',i',i',o',i',o',o',o',o'] rfl rfl HT_ ?_
               refine take_ (i := 36) (N := some 48) (v := ?_) (a' := ?_) (on_ 38 4) rfl rfl (take_ofW HT_.out HW_.out (by kernel_rfl)) (fun _ _ _ h => h) (Or.inl ⟨by rfl, ?_⟩) hHeld ?_ ?_
               rotate_left
               ·rintro w' ⟨s0, s1, s2, s3, s4, s5, s6, s7, s8, s9⟩
                go_simp
                with_reducible rfl
               rotate_left
               ·simp only [Act.put, la_, lz_, ls_, i64_w, i32_w]
                rfl
               refine take_ (i := 38) (N := some 50) (v := ?_) (a' := ?_) (on_ 39 3) rfl rfl (take_ofW HT_.out HW_.out (by kernel_rfl)) (fun _ _ _ h => h) (Or.inl ⟨by rfl, ?_⟩) hHeld ?_ ?_
               rotate_left
               ·rintro w' ⟨s0, s1, s2, s3, s4, s5, s6, s7, s8, s9⟩
                go_simp
                with_reducible rfl
               rotate_left
               ·simp only [Act.put, la_, lz_, ls_, i64_w, i32_w]
                rfl
               refine pv_ (i := 39) (N := some 51) (on_ 40 2) rfl rfl HT_ ?_
               refine pv_ (i := 40) (N := some 52) (on_ 41 1) rfl rfl HT_ ?_
               refine pv_ (i := 41) (N := some 53) (on_ 42 0) rfl rfl HT_ ?_
               refine done_ (done_of HT_.out (by kernel_rfl)) ?_
               have Nji20_ := Aside0.mk hji20
               clear hji20
               (try clear hji20w)
               try go_wp2
               have hji20 := Nji20_.out
               clear Nji20_
               (try have hji20w := (i64_w _).trans hji20)
               go_meet
               case rel => exact ⟨_, (!(Op.bytesLess (((rd_T113 l0 (ji20)).f0).toList) (((rd_T113 l0 x7_1).f0).toList))), (by first | rfl | (simp; done) | (simp only [← hji20] <;> (first | rfl | simp)) | (simp [*]; done)), H', ⟨by have := HK1.out; first | exact Nat.le_refl _ | exact Nat.le_of_succ_le this | omega⟩, ⟨bk_ BK193⟩, ⟨hs_ HB GE193⟩⟩
              ·rw [if_neg c22] at H
               exact absurd H (by simp)
             ·rw [if_neg c21] at H
              exact absurd H (by simp)
            ·rw [if_neg c19] at H
             have c19b0 : decide (0 < x7_1) = false := decide_eq_false c19
             clear c19
             have H' := Aside0.mk H
             clear H
             try go_wp2
             have n0_ : Aside0 ((((((w6.setCell ⟨gb193, 0, none⟩ (.string ((rd_T113 l0 x7_1).f0))).setCell ⟨gb193, 1, none⟩ (.int .i64 ((rd_T113 l0 x7_1).f1))).setCell ⟨gb193, 2, none⟩ (.int .i64 ((rd_T113 l0 x7_1).f2))).setCell ⟨gb193, 3, none⟩ (.int .i64 ((rd_T113 l0 x7_1).f3))).setCell ⟨gb193, 4, none⟩ (.int .i64 ((rd_T113 l0 x7_1).f4))).heap[gb193]? = some (.cells #[.string ((rd_T113 l0 x7_1).f0), .int .i64 ((rd_T113 l0 x7_1).f1), .int .i64 ((rd_T113 l0 x7_1).f2), .int .i64 ((rd_T113 l0 x7_1).f3), .int .i64 ((rd_T113 l0 x7_1).f4)] 113 (0, 0))) := ⟨by (with_reducible repeat (first | refine blk_drewN ?_ _ | refine blk_drew ?_ | refine blk_alloc ?_ _)); refine blk_put (cs := #[.string ((rd_T113 l0 x7_1).f0), .int .i64 ((rd_T113 l0 x7_1).f1), .int .i64 ((rd_T113 l0 x7_1).f2), .int .i64 ((rd_T113 l0 x7_1).f3), .int .i64 0]) ?_ 4 _ rfl; (with_reducible repeat (first | refine blk_drewN ?_ _ | refine blk_drew ?_ | refine blk_alloc ?_ _)); refine blk_put (cs := #[.string ((rd_T113 l0 x7_1).f0), .int .i64 ((rd_T113 l0 x7_1).f1), .int .i64 ((rd_T113 l0 x7_1).f2), .int .i64 0, .int .i64 0]) ?_ 3 _ rfl; (with_reducible repeat (first | refine blk_drewN ?_ _ | refine blk_drew ?_ | refine blk_alloc ?_ _)); refine blk_put (cs := #[.string ((rd_T113 l0 x7_1).f0), .int .i64 ((rd_T113 l0 x7_1).f1), .int .i64 0, .int .i64 0, .int .i64 0]) ?_ 2 _ rfl; (with_reducible repeat (first | refine blk_drewN ?_ _ | refine blk_drew ?_ | refine blk_alloc ?_ _)); refine blk_put (cs := #[.string ((rd_T113 l0 x7_1).f0), .int .i64 0, .int .i64 0, .int .i64 0, .int .i64 0]) ?_ 1 _ rfl; (with_reducible repeat (first | refine blk_drewN ?_ _ | refine blk_drew ?_ | refine blk_alloc ?_ _)); refine blk_put (cs := #[.string (⟨#[]⟩ : ByteArray), .int .i64 0, .int .i64 0, .int .i64 0, .int .i64 0]) ?_ 0 _ rfl; (with_reducible repeat (first | refine blk_drewN ?_ _ | refine blk_drew ?_ | refine blk_alloc ?_ _)); exact BK193.out⟩
             have n1_ : Aside0 (Below w.heap.size w (((((w6.setCell ⟨gb193, 0, none⟩ (.string ((rd_T113 l0 x7_1).f0))).setCell ⟨gb193, 1, none⟩ (.int .i64 ((rd_T113 l0 x7_1).f1))).setCell ⟨gb193, 2, none⟩ (.int .i64 ((rd_T113 l0 x7_1).f2))).setCell ⟨gb193, 3, none⟩ (.int .i64 ((rd_T113 l0 x7_1).f3))).setCell ⟨gb193, 4, none⟩ (.int .i64 ((rd_T113 l0 x7_1).f4)))) := ⟨hs_ HB GE193⟩
             (try clear BK193)
             (try clear HB)
             generalize (((((w6.setCell ⟨gb193, 0, none⟩ (.string ((rd_T113 l0 x7_1).f0))).setCell ⟨gb193, 1, none⟩ (.int .i64 ((rd_T113 l0 x7_1).f1))).setCell ⟨gb193, 2, none⟩ (.int .i64 ((rd_T113 l0 x7_1).f2))).setCell ⟨gb193, 3, none⟩ (.int .i64 ((rd_T113 l0 x7_1).f3))).setCell ⟨gb193, 4, none⟩ (.int .i64 ((rd_T113 l0 x7_1).f4))) = w25 at n0_ n1_ ⊢
             have BK193 := n0_
             have HB := n1_
             clear n0_ n1_
             have n0_ := Aside0.mk (blk_drew BK193.out)
             have n1_ := Aside0.mk (below_drew1 HB.out)
             clear BK193
             clear HB
             have BK193 := n0_
             have HB := n1_
             clear n0_ n1_
             refine start_ (n := 42) (S := fun w' => w'.cell? ⟨gb193, 0, none⟩ = some (.string ((rd_T113 l0 x7_1).f0)) ∧ w'.cell? ⟨gb193, 1, none⟩ = some (.int .i64 ((rd_T113 l0 x7_1).f1)) ∧ w'.cell? ⟨gb193, 2, none⟩ = some (.int .i64 ((rd_T113 l0 x7_1).f2)) ∧ w'.cell? ⟨gb193, 3, none⟩ = some (.int .i64 ((rd_T113 l0 x7_1).f3)) ∧ w'.cell? ⟨gb193, 4, none⟩ = some (.int .i64 ((rd_T113 l0 x7_1).f4))) (ds := []) (on_ 0 42) (by kernel_rfl) rfl rfl ⟨(blk_cell BK193.out 0).trans rfl, (blk_cell BK193.out 1).trans rfl, (blk_cell BK193.out 2).trans rfl, (blk_cell BK193.out 3).trans rfl, (blk_cell BK193.out 4).trans rfl⟩ (fun hHeld => ?_); refine with_tabW impl_DirOk.tab4 impl_DirOk.bits4 (fun HT_ HW_ => ?_)
             generalize w25.drew = w26 at BK193 HB hHeld ⊢
             refine pv_ (i := 0) (N := some 12) (on_ 1 41) rfl rfl HT_ ?_
             refine take_ (i := 1) (N := some 13) (v := ?_) (a' := ?_) (on_ 2 40) rfl rfl (take_ofW HT_.out HW_.out (by kernel_rfl)) (fun _ _ _ h => h) (Or.inl ⟨by rfl, ?_⟩) hHeld ?_ ?_
             rotate_left
             ·rintro w' ⟨s0, s1, s2, s3, s4⟩
              go_simp
              with_reducible rfl
             rotate_left
             ·simp only [Act.put, la_, lz_, ls_, i64_w, i32_w]
              rfl
             refine one_ (i := 2) (N := some 14) (on_ 3 39) rfl rfl (one_of HT_.out (by kernel_rfl)) (by decide) (fun K hK => ?_)
             refine goes_ Try.func107 (by kernel_rfl) rfl #[.string ((rd_T113 l0 x7_1).f0)] (by rfl) rfl rfl ar_ ?_
             with_reducible refine (impl_KeyOk.calls ((rd_T113 l0 x7_1).f0) true _ A8.out).mono ?_
             rintro e w' ⟨rfl, ⟨nd, rfl⟩⟩
             refine ⟨_, rfl, ?_⟩
             refine hK.out _ _ ⟨(blk_cell BK193.out 0).trans rfl, (blk_cell BK193.out 1).trans rfl, (blk_cell BK193.out 2).trans rfl, (blk_cell BK193.out 3).trans rfl, (blk_cell BK193.out 4).trans rfl⟩ (fun hHeld => ?_)
             clear hK K
             refine norm_ (a' := ?_) ?_ ?_
             rotate_left
             ·show Act.put _ (some 14) _ = _
              simp only [Act.put, la_, lz_, ls_, i64_w, i32_w]
              rfl
             refine pv_ (i := 3) (N := some 15) (on_ 4 38) rfl rfl HT_ ?_
             refine pv_ (i := 4) (N := some 16) (on_ 5 37) rfl rfl HT_ ?_
             refine pv_ (i := 5) (N := some 17) (on_ 6 36) rfl rfl HT_ ?_
             refine take_ (i := 6) (N := some 18) (v := ?_) (a' := ?_) (on_ 7 35) rfl rfl (take_ofW HT_.out HW_.out (by kernel_rfl)) (fun _ _ _ h => h) (Or.inl ⟨by rfl, ?_⟩) hHeld ?_ ?_
             rotate_left
             ·rintro w' ⟨s0, s1, s2, s3, s4⟩
              go_simp
              with_reducible rfl
             rotate_left
             ·simp only [Act.put, la_, lz_, ls_, i64_w, i32_w]
              rfl
             refine one_ (i := 7) (N := some 19) (on_ 8 34) rfl rfl (one_of HT_.out (by kernel_rfl)) (by decide) (fun K hK => ?_)
             refine goes_ Try.func68 (by kernel_rfl) rfl #[.int .i64 ((rd_T113 l0 x7_1).f1), .int .i64 1, .int .i64 100000] (by rfl) rfl rfl ar_ ?_
             with_reducible refine (impl_in.calls ((rd_T113 l0 x7_1).f1) 1 100000 true _ A10.out).mono ?_
             rintro e w' ⟨rfl, ⟨nd, rfl⟩⟩
             refine ⟨_, rfl, ?_⟩
             refine hK.out _ _ ⟨(blk_cell BK193.out 0).trans rfl, (blk_cell BK193.out 1).trans rfl, (blk_cell BK193.out 2).trans rfl, (blk_cell BK193.out 3).trans rfl, (blk_cell BK193.out 4).trans rfl⟩ (fun hHeld => ?_)
             clear hK K
             refine norm_ (a' := ?_) ?_ ?_
             rotate_left
             ·show Act.put _ (some 19) _ = _
              simp only [Act.put, la_, lz_, ls_, i64_w, i32_w]
              rfl
             refine pv_ (i := 8) (N := some 20) (on_ 9 33) rfl rfl HT_ ?_
             refine pv_ (i := 9) (N := some 21) (on_ 10 32) rfl rfl HT_ ?_
             refine pv_ (i := 10) (N := some 22) (on_ 11 31) rfl rfl HT_ ?_
             refine pv_ (i := 11) (N := some 23) (on_ 12 30) rfl rfl HT_ ?_
             refine take_ (i := 12) (N := some 24) (v := ?_) (a' := ?_) (on_ 13 29) rfl rfl (take_ofW HT_.out HW_.out (by kernel_rfl)) (fun _ _ _ h => h) (Or.inl ⟨by rfl, ?_⟩) hHeld ?_ ?_
             rotate_left
             ·rintro w' ⟨s0, s1, s2, s3, s4⟩
              go_simp
              with_reducible rfl
             rotate_left
             ·simp only [Act.put, la_, lz_, ls_, i64_w, i32_w]
              rfl
             refine pv_ (i := 13) (N := some 25) (on_ 14 28) rfl rfl HT_ ?_
             refine pv_ (i := 14) (N := some 26) (on_ 15 27) rfl rfl HT_ ?_
             refine pv_ (i := 15) (N := some 27) (on_ 16 26) rfl rfl HT_ ?_
             refine pv_ (i := 16) (N := some 28) (on_ 17 25) rfl rfl HT_ ?_
             refine take_ (i := 17) (N := some 29) (v := ?_) (a' := ?_) (on_ 18 24) rfl rfl (take_ofW HT_.out HW_.out (by kernel_rfl)) (fun _ _ _ h => h) (Or.inl ⟨by rfl, ?_⟩) hHeld ?_ ?_
             rotate_left
             ·rintro w' ⟨s0, s1, s2, s3, s4⟩
              go_simp
              with_reducible rfl
             rotate_left
             ·simp only [Act.put, la_, lz_, ls_, i64_w, i32_w]
              rfl
             refine one_ (i := 18) (N := some 30) (on_ 19 23) rfl rfl (one_of HT_.out (by kernel_rfl)) (by decide) (fun K hK => ?_)
             refine goes_ Try.func68 (by kernel_rfl) rfl #[.int .i64 ((rd_T113 l0 x7_1).f3), .int .i64 1, .int .i64 210] (by rfl) rfl rfl ar_ ?_
             with_reducible refine (impl_in.calls ((rd_T113 l0 x7_1).f3) 1 210 true _ A15.out).mono ?_
             rintro e w' ⟨rfl, ⟨nd, rfl⟩⟩
             refine ⟨_, rfl, ?_⟩
             refine hK.out _ _ ⟨(blk_cell BK193.out 0).trans rfl, (blk_cell BK193.out 1).trans rfl, (blk_cell BK193.out 2).trans rfl, (blk_cell BK193.out 3).trans rfl, (blk_cell BK193.out 4).trans rfl⟩ (fun hHeld => ?_)
             clear hK K
             refine norm_ (a' := ?_) ?_ ?_
             rotate_left
             ·show Act.put _ (some 30) _ = _
              simp only [Act.put, la_, lz_, ls_, i64_w, i32_w]
              rfl
             refine pv_ (i := 19) (N := some 31) (on_ 20 22) rfl rfl HT_ ?_
             refine pv_ (i := 20) (N := some 32) (on_ 21 21) rfl rfl HT_ ?_
             refine pv_ (i := 21) (N := some 33) (on_ 22 20) rfl rfl HT_ ?_
             refine pv_ (i := 22) (N := some 34) (on_ 23 19) rfl rfl HT_ ?_
             refine take_ (i := 23) (N := some 35) (v := ?_) (a' := ?_) (on_ 24 18) rfl rfl (take_ofW HT_.out HW_.out (by kernel_rfl)) (fun _ _ _ h => h) (Or.inl ⟨by rfl, ?_⟩) hHeld ?_ ?_
             rotate_left
             ·rintro w' ⟨s0, s1, s2, s3, s4⟩
              go_simp
              with_reducible rfl
             rotate_left
             ·simp only [Act.put, la_, lz_, ls_, i64_w, i32_w]
              rfl
             refine one_ (i := 24) (N := some 36) (on_ 25 17) rfl rfl (one_of HT_.out (by kernel_rfl)) (by decide) (fun K hK => ?_)
             refine goes_ Try.func68 (by kernel_rfl) rfl #[.int .i64 ((rd_T113 l0 x7_1).f4), .int .i64 1, .int .i64 1000000] (by rfl) rfl rfl ar_ ?_
             with_reducible refine (impl_in.calls ((rd_T113 l0 x7_1).f4) 1 1000000 true _ A17.out).mono ?_
             rintro e w' ⟨rfl, ⟨nd, rfl⟩⟩
             refine ⟨_, rfl, ?_⟩
             refine hK.out _ _ ⟨(blk_cell BK193.out 0).trans rfl, (blk_cell BK193.out 1).trans rfl, (blk_cell BK193.out 2).trans rfl, (blk_cell BK193.out 3).trans rfl, (blk_cell BK193.out 4).trans rfl⟩ (fun hHeld => ?_)
             clear hK K
             refine norm_ (a' := ?_) ?_ ?_
             rotate_left
             ·show Act.put _ (some 36) _ = _
              simp only [Act.put, la_, lz_, ls_, i64_w, i32_w]
              rfl
             refine pv_ (i := 25) (N := some 37) (on_ 26 16) rfl rfl HT_ ?_
             refine pv_ (i := 26) (N := some 38) (on_ 27 15) rfl rfl HT_ ?_
             refine pv_ (i := 27) (N := some 39) (on_ 28 14) rfl rfl HT_ ?_
             refine pv_ (i := 28) (N := some 40) (on_ 29 13) rfl rfl HT_ ?_
             refine pv_ (i := 29) (N := some 41) (on_ 30 12) rfl rfl HT_ ?_
             refine pv_ (i := 30) (N := some 42) (on_ 31 11) rfl rfl HT_ ?_
             refine pun_ (i := 31) (N := some 43) (on_ 32 10) rfl rfl HT_ ?_
             refine pun_ (i := 32) (N := some 44) (on_ 33 9) rfl rfl HT_ ?_
             refine pun_ (i := 33) (N := some 45) (on_ 34 8) rfl rfl HT_ ?_
             refine pun_ (i := 34) (N := some 46) (on_ 35 7) rfl rfl HT_ ?_
             refine pun_ (i := 35) (N := some 47) (on_ 36 6) rfl rfl HT_ ?_
             refine pun_ (i := 36) (N := some 48) (on_ 37 5) rfl rfl HT_ ?_
             refine pun_ (i := 37) (N := some 49) (on_ 38 4) rfl rfl HT_ ?_
             refine pun_ (i := 38) (N := some 50) (on_ 39 3) rfl rfl HT_ ?_
             refine pun_ (i := 39) (N := some 51) (on_ 40 2) rfl rfl HT_ ?_
             refine pv_ (i := 40) (N := some 52) (on_ 41 1) rfl rfl HT_ ?_
             refine pv_ (i := 41) (N := some 53) (on_ 42 0) rfl rfl HT_ ?_
             refine done_ (done_of HT_.out (by kernel_rfl)) ?_
             try go_wp2
             go_meet
             case rel => exact ⟨_, (false), rs_, H', ⟨by have := HK1.out; first | exact Nat.le_refl _ | exact Nat.le_of_succ_le this | omega⟩, ⟨bk_ BK193⟩, ⟨hs_ HB GE193⟩⟩
           ·replace c18 := Bool.eq_false_iff.mpr c18
            subst c18
            have H1 : (impl_DirOk.j1 k1 l0 l0 (l0.length : Int) x7_1 true) = some r := by rw [if_neg (show ¬ (false = true) by decide)] at H; exact H
            clear H
            have H := H1
            clear H1
            have H' := Aside0.mk H
            clear H
            try go_wp2
            have n0_ : Aside0 ((((((w6.setCell ⟨gb193, 0, none⟩ (.string ((rd_T113 l0 x7_1).f0))).setCell ⟨gb193, 1, none⟩ (.int .i64 ((rd_T113 l0 x7_1).f1))).setCell ⟨gb193, 2, none⟩ (.int .i64 ((rd_T113 l0 x7_1).f2))).setCell ⟨gb193, 3, none⟩ (.int .i64 ((rd_T113 l0 x7_1).f3))).setCell ⟨gb193, 4, none⟩ (.int .i64 ((rd_T113 l0 x7_1).f4))).heap[gb193]? = some (.cells #[.string ((rd_T113 l0 x7_1).f0), .int .i64 ((rd_T113 l0 x7_1).f1), .int .i64 ((rd_T113 l0 x7_1).f2), .int .i64 ((rd_T113 l0 x7_1).f3), .int .i64 ((rd_T113 l0 x7_1).f4)] 113 (0, 0))) := ⟨by (with_reducible repeat (first | refine blk_drewN ?_ _ | refine blk_drew ?_ | refine blk_alloc ?_ _)); refine blk_put (cs := #[.string ((rd_T113 l0 x7_1).f0), .int .i64 ((rd_T113 l0 x7_1).f1), .int .i64 ((rd_T113 l0 x7_1).f2), .int .i64 ((rd_T113 l0 x7_1).f3), .int .i64 0]) ?_ 4 _ rfl; (with_reducible repeat (first | refine blk_drewN ?_ _ | refine blk_drew ?_ | refine blk_alloc ?_ _)); refine blk_put (cs := #[.string ((rd_T113 l0 x7_1).f0), .int .i64 ((rd_T113 l0 x7_1).f1), .int .i64 ((rd_T113 l0 x7_1).f2), .int .i64 0, .int .i64 0]) ?_ 3 _ rfl; (with_reducible repeat (first | refine blk_drewN ?_ _ | refine blk_drew ?_ | refine blk_alloc ?_ _)); refine blk_put (cs := #[.string ((rd_T113 l0 x7_1).f0), .int .i64 ((rd_T113 l0 x7_1).f1), .int .i64 0, .int .i64 0, .int .i64 0]) ?_ 2 _ rfl; (with_reducible repeat (first | refine blk_drewN ?_ _ | refine blk_drew ?_ | refine blk_alloc ?_ _)); refine blk_put (cs := #[.string ((rd_T113 l0 x7_1).f0), .int .i64 0, .int .i64 0, .int .i64 0, .int .i64 0]) ?_ 1 _ rfl; (with_reducible repeat (first | refine blk_drewN ?_ _ | refine blk_drew ?_ | refine blk_alloc ?_ _)); refine blk_put (cs := #[.string (⟨#[]⟩ : ByteArray), .int .i64 0, .int .i64 0, .int .i64 0, .int .i64 0]) ?_ 0 _ rfl; (with_reducible repeat (first | refine blk_drewN ?_ _ | refine blk_drew ?_ | refine blk_alloc ?_ _)); exact BK193.out⟩
            have n1_ : Aside0 (Below w.heap.size w (((((w6.setCell ⟨gb193, 0, none⟩ (.string ((rd_T113 l0 x7_1).f0))).setCell ⟨gb193, 1, none⟩ (.int .i64 ((rd_T113 l0 x7_1).f1))).setCell ⟨gb193, 2, none⟩ (.int .i64 ((rd_T113 l0 x7_1).f2))).setCell ⟨gb193, 3, none⟩ (.int .i64 ((rd_T113 l0 x7_1).f3))).setCell ⟨gb193, 4, none⟩ (.int .i64 ((rd_T113 l0 x7_1).f4)))) := ⟨hs_ HB GE193⟩
            (try clear BK193)
            (try clear HB)
            generalize (((((w6.setCell ⟨gb193, 0, none⟩ (.string ((rd_T113 l0 x7_1).f0))).setCell ⟨gb193, 1, none⟩ (.int .i64 ((rd_T113 l0 x7_1).f1))).setCell ⟨gb193, 2, none⟩ (.int .i64 ((rd_T113 l0 x7_1).f2))).setCell ⟨gb193, 3, none⟩ (.int .i64 ((rd_T113 l0 x7_1).f3))).setCell ⟨gb193, 4, none⟩ (.int .i64 ((rd_T113 l0 x7_1).f4))) = w27 at n0_ n1_ ⊢
            have BK193 := n0_
            have HB := n1_
            clear n0_ n1_
            have n0_ := Aside0.mk (blk_drew BK193.out)
            have n1_ := Aside0.mk (below_drew1 HB.out)
            clear BK193
            clear HB
            have BK193 := n0_
            have HB := n1_
            clear n0_ n1_
            refine start_ (n := 42) (S := fun w' => w'.cell? ⟨gb193, 0, none⟩ = some (.string ((rd_T113 l0 x7_1).f0)) ∧ w'.cell? ⟨gb193, 1, none⟩ = some (.int .i64 ((rd_T113 l0 x7_1).f1)) ∧ w'.cell? ⟨gb193, 2, none⟩ = some (.int .i64 ((rd_T113 l0 x7_1).f2)) ∧ w'.cell? ⟨gb193, 3, none⟩ = some (.int .i64 ((rd_T113 l0 x7_1).f3)) ∧ w'.cell? ⟨gb193, 4, none⟩ = some (.int .i64 ((rd_T113 l0 x7_1).f4))) (ds := []) (on_ 0 42) (by kernel_rfl) rfl rfl ⟨(blk_cell BK193.out 0).trans rfl, (blk_cell BK193.out 1).trans rfl, (blk_cell BK193.out 2).trans rfl, (blk_cell BK193.out 3).trans rfl, (blk_cell BK193.out 4).trans rfl⟩ (fun hHeld => ?_); refine with_tabW impl_DirOk.tab4 impl_DirOk.bits4 (fun HT_ HW_ => ?_)
            generalize w27.drew = w28 at BK193 HB hHeld ⊢
            refine pv_ (i := 0) (N := some 12) (on_ 1 41) rfl rfl HT_ ?_
            refine take_ (i := 1) (N := some 13) (v := ?_) (a' := ?_) (on_ 2 40) rfl rfl (take_ofW HT_.out HW_.out (by kernel_rfl)) (fun _ _ _ h => h) (Or.inl ⟨by rfl, ?_⟩) hHeld ?_ ?_
            rotate_left
            ·rintro w' ⟨s0, s1, s2, s3, s4⟩
             go_simp
             with_reducible rfl
            rotate_left
            ·simp only [Act.put, la_, lz_, ls_, i64_w, i32_w]
             rfl
            refine one_ (i := 2) (N := some 14) (on_ 3 39) rfl rfl (one_of HT_.out (by kernel_rfl)) (by decide) (fun K hK => ?_)
            refine goes_ Try.func107 (by kernel_rfl) rfl #[.string ((rd_T113 l0 x7_1).f0)] (by rfl) rfl rfl ar_ ?_
            with_reducible refine (impl_KeyOk.calls ((rd_T113 l0 x7_1).f0) true _ A8.out).mono ?_
            rintro e w' ⟨rfl, ⟨nd, rfl⟩⟩
            refine ⟨_, rfl, ?_⟩
            refine hK.out _ _ ⟨(blk_cell BK193.out 0).trans rfl, (blk_cell BK193.out 1).trans rfl, (blk_cell BK193.out 2).trans rfl, (blk_cell BK193.out 3).trans rfl, (blk_cell BK193.out 4).trans rfl⟩ (fun hHeld => ?_)
            clear hK K
            refine norm_ (a' := ?_) ?_ ?_
            rotate_left
            ·show Act.put _ (some 14) _ = _
             simp only [Act.put, la_, lz_, ls_, i64_w, i32_w]
             rfl
            refine pv_ (i := 3) (N := some 15) (on_ 4 38) rfl rfl HT_ ?_
            refine pv_ (i := 4) (N := some 16) (on_ 5 37) rfl rfl HT_ ?_
            refine pv_ (i := 5) (N := some 17) (on_ 6 36) rfl rfl HT_ ?_
            refine take_ (i := 6) (N := some 18) (v := ?_) (a' := ?_) (on_ 7 35) rfl rfl (take_ofW HT_.out HW_.out (by kernel_rfl)) (fun _ _ _ h => h) (Or.inl ⟨by rfl, ?_⟩) hHeld ?_ ?_
            rotate_left
            ·rintro w' ⟨s0, s1, s2, s3, s4⟩
             go_simp
             with_reducible rfl
            rotate_left
            ·simp only [Act.put, la_, lz_, ls_, i64_w, i32_w]
             rfl
            refine one_ (i := 7) (N := some 19) (on_ 8 34) rfl rfl (one_of HT_.out (by kernel_rfl)) (by decide) (fun K hK => ?_)
            refine goes_ Try.func68 (by kernel_rfl) rfl #[.int .i64 ((rd_T113 l0 x7_1).f1), .int .i64 1, .int .i64 100000] (by rfl) rfl rfl ar_ ?_
            with_reducible refine (impl_in.calls ((rd_T113 l0 x7_1).f1) 1 100000 true _ A10.out).mono ?_
            rintro e w' ⟨rfl, ⟨nd, rfl⟩⟩
            refine ⟨_, rfl, ?_⟩
            refine hK.out _ _ ⟨(blk_cell BK193.out 0).trans rfl, (blk_cell BK193.out 1).trans rfl, (blk_cell BK193.out 2).trans rfl, (blk_cell BK193.out 3).trans rfl, (blk_cell BK193.out 4).trans rfl⟩ (fun hHeld => ?_)
            clear hK K
            refine norm_ (a' := ?_) ?_ ?_
            rotate_left
            ·show Act.put _ (some 19) _ = _
             simp only [Act.put, la_, lz_, ls_, i64_w, i32_w]
             rfl
            refine pv_ (i := 8) (N := some 20) (on_ 9 33) rfl rfl HT_ ?_
            refine pv_ (i := 9) (N := some 21) (on_ 10 32) rfl rfl HT_ ?_
            refine pv_ (i := 10) (N := some 22) (on_ 11 31) rfl rfl HT_ ?_
            refine pv_ (i := 11) (N := some 23) (on_ 12 30) rfl rfl HT_ ?_
            refine take_ (i := 12) (N := some 24) (v := ?_) (a' := ?_) (on_ 13 29) rfl rfl (take_ofW HT_.out HW_.out (by kernel_rfl)) (fun _ _ _ h => h) (Or.inl ⟨by rfl, ?_⟩) hHeld ?_ ?_
            rotate_left
            ·rintro w' ⟨s0, s1, s2, s3, s4⟩
             go_simp
             with_reducible rfl
            rotate_left
            ·simp only [Act.put, la_, lz_, ls_, i64_w, i32_w]
             rfl
            refine pv_ (i := 13) (N := some 25) (on_ 14 28) rfl rfl HT_ ?_
            refine pv_ (i := 14) (N := some 26) (on_ 15 27) rfl rfl HT_ ?_
            refine pv_ (i := 15) (N := some 27) (on_ 16 26) rfl rfl HT_ ?_
            refine pv_ (i := 16) (N := some 28) (on_ 17 25) rfl rfl HT_ ?_
            refine take_ (i := 17) (N := some 29) (v := ?_) (a' := ?_) (on_ 18 24) rfl rfl (take_ofW HT_.out HW_.out (by kernel_rfl)) (fun _ _ _ h => h) (Or.inl ⟨by rfl, ?_⟩) hHeld ?_ ?_
            rotate_left
            ·rintro w' ⟨s0, s1, s2, s3, s4⟩
             go_simp
             with_reducible rfl
            rotate_left
            ·simp only [Act.put, la_, lz_, ls_, i64_w, i32_w]
             rfl
            refine one_ (i := 18) (N := some 30) (on_ 19 23) rfl rfl (one_of HT_.out (by kernel_rfl)) (by decide) (fun K hK => ?_)
            refine goes_ Try.func68 (by kernel_rfl) rfl #[.int .i64 ((rd_T113 l0 x7_1).f3), .int .i64 1, .int .i64 210] (by rfl) rfl rfl ar_ ?_
            with_reducible refine (impl_in.calls ((rd_T113 l0 x7_1).f3) 1 210 true _ A15.out).mono ?_
            rintro e w' ⟨rfl, ⟨nd, rfl⟩⟩
            refine ⟨_, rfl, ?_⟩
            refine hK.out _ _ ⟨(blk_cell BK193.out 0).trans rfl, (blk_cell BK193.out 1).trans rfl, (blk_cell BK193.out 2).trans rfl, (blk_cell BK193.out 3).trans rfl, (blk_cell BK193.out 4).trans rfl⟩ (fun hHeld => ?_)
            clear hK K
            refine norm_ (a' := ?_) ?_ ?_
            rotate_left
            ·show Act.put _ (some 30) _ = _
             simp only [Act.put, la_, lz_, ls_, i64_w, i32_w]
             rfl
            refine pv_ (i := 19) (N := some 31) (on_ 20 22) rfl rfl HT_ ?_
            refine pv_ (i := 20) (N := some 32) (on_ 21 21) rfl rfl HT_ ?_
            refine pv_ (i := 21) (N := some 33) (on_ 22 20) rfl rfl HT_ ?_
            refine pv_ (i := 22) (N := some 34) (on_ 23 19) rfl rfl HT_ ?_
            refine take_ (i := 23) (N := some 35) (v := ?_) (a' := ?_) (on_ 24 18) rfl rfl (take_ofW HT_.out HW_.out (by kernel_rfl)) (fun _ _ _ h => h) (Or.inl ⟨by rfl, ?_⟩) hHeld ?_ ?_
            rotate_left
            ·rintro w' ⟨s0, s1, s2, s3, s4⟩
             go_simp
             with_reducible rfl
            rotate_left
            ·simp only [Act.put, la_, lz_, ls_, i64_w, i32_w]
             rfl
            refine one_ (i := 24) (N := some 36) (on_ 25 17) rfl rfl (one_of HT_.out (by kernel_rfl)) (by decide) (fun K hK => ?_)
            refine goes_ Try.func68 (by kernel_rfl) rfl #[.int .i64 ((rd_T113 l0 x7_1).f4), .int .i64 1, .int .i64 1000000] (by rfl) rfl rfl ar_ ?_
            with_reducible refine (impl_in.calls ((rd_T113 l0 x7_1).f4) 1 1000000 false _ A17.out).mono ?_
            rintro e w' ⟨rfl, ⟨nd, rfl⟩⟩
            refine ⟨_, rfl, ?_⟩
            refine hK.out _ _ ⟨(blk_cell BK193.out 0).trans rfl, (blk_cell BK193.out 1).trans rfl, (blk_cell BK193.out 2).trans rfl, (blk_cell BK193.out 3).trans rfl, (blk_cell BK193.out 4).trans rfl⟩ (fun hHeld => ?_)
            clear hK K
            refine norm_ (a' := ?_) ?_ ?_
            rotate_left
            ·show Act.put _ (some 36) _ = _
             simp only [Act.put, la_, lz_, ls_, i64_w, i32_w]
             rfl
            refine pv_ (i := 25) (N := some 37) (on_ 26 16) rfl rfl HT_ ?_
            refine pv_ (i := 26) (N := some 38) (on_ 27 15) rfl rfl HT_ ?_
            refine pv_ (i := 27) (N := some 39) (on_ 28 14) rfl rfl HT_ ?_
            refine pun_ (i := 28) (N := some 40) (on_ 29 13) rfl rfl HT_ ?_
            refine pun_ (i := 29) (N := some 41) (on_ 30 12) rfl rfl HT_ ?_
            refine pun_ (i := 30) (N := some 42) (on_ 31 11) rfl rfl HT_ ?_
            refine pun_ (i := 31) (N := some 43) (on_ 32 10) rfl rfl HT_ ?_
            refine pun_ (i := 32) (N := some 44) (on_ 33 9) rfl rfl HT_ ?_
            refine pun_ (i := 33) (N := some 45) (on_ 34 8) rfl rfl HT_ ?_
            refine pun_ (i := 34) (N := some 46) (on_ 35 7) rfl rfl HT_ ?_
            refine pun_ (i := 35) (N := some 47) (on_ 36 6) rfl rfl HT_ ?_
            refine pun_ (i := 36) (N := some 48) (on_ 37 5) rfl rfl HT_ ?_
            refine pun_ (i := 37) (N := some 49) (on_ 38 4) rfl rfl HT_ ?_
            refine pun_ (i := 38) (N := some 50) (on_ 39 3) rfl rfl HT_ ?_
            refine pun_ (i := 39) (N := some 51) (on_ 40 2) rfl rfl HT_ ?_
            refine pun_ (i := 40) (N := some 52) (on_ 41 1) rfl rfl HT_ ?_
            refine pv_ (i := 41) (N := some 53) (on_ 42 0) rfl rfl HT_ ?_
            refine done_ (done_of HT_.out (by kernel_rfl)) ?_
            try go_wp2
            go_meet
            case rel => exact ⟨_, (true), rs_, H', ⟨by have := HK1.out; first | exact Nat.le_refl _ | exact Nat.le_of_succ_le this | omega⟩, ⟨bk_ BK193⟩, ⟨hs_ HB GE193⟩⟩
          ·replace c16 := Bool.eq_false_iff.mpr c16
           subst c16
           have H1 : (impl_DirOk.j1 k1 l0 l0 (l0.length : Int) x7_1 true) = some r := by rw [if_neg (show ¬ (false = true) by decide)] at H; exact H
           clear H
           have H := H1
           clear H1
           have H' := Aside0.mk H
           clear H
           try go_wp2
           have n0_ : Aside0 ((((((w6.setCell ⟨gb193, 0, none⟩ (.string ((rd_T113 l0 x7_1).f0))).setCell ⟨gb193, 1, none⟩ (.int .i64 ((rd_T113 l0 x7_1).f1))).setCell ⟨gb193, 2, none⟩ (.int .i64 ((rd_T113 l0 x7_1).f2))).setCell ⟨gb193, 3, none⟩ (.int .i64 ((rd_T113 l0 x7_1).f3))).setCell ⟨gb193, 4, none⟩ (.int .i64 ((rd_T113 l0 x7_1).f4))).heap[gb193]? = some (.cells #[.string ((rd_T113 l0 x7_1).f0), .int .i64 ((rd_T113 l0 x7_1).f1), .int .i64 ((rd_T113 l0 x7_1).f2), .int .i64 ((rd_T113 l0 x7_1).f3), .int .i64 ((rd_T113 l0 x7_1).f4)] 113 (0, 0))) := ⟨by (with_reducible repeat (first | refine blk_drewN ?_ _ | refine blk_drew ?_ | refine blk_alloc ?_ _)); refine blk_put (cs := #[.string ((rd_T113 l0 x7_1).f0), .int .i64 ((rd_T113 l0 x7_1).f1), .int .i64 ((rd_T113 l0 x7_1).f2), .int .i64 ((rd_T113 l0 x7_1).f3), .int .i64 0]) ?_ 4 _ rfl; (with_reducible repeat (first | refine blk_drewN ?_ _ | refine blk_drew ?_ | refine blk_alloc ?_ _)); refine blk_put (cs := #[.string ((rd_T113 l0 x7_1).f0), .int .i64 ((rd_T113 l0 x7_1).f1), .int .i64 ((rd_T113 l0 x7_1).f2), .int .i64 0, .int .i64 0]) ?_ 3 _ rfl; (with_reducible repeat (first | refine blk_drewN ?_ _ | refine blk_drew ?_ | refine blk_alloc ?_ _)); refine blk_put (cs := #[.string ((rd_T113 l0 x7_1).f0), .int .i64 ((rd_T113 l0 x7_1).f1), .int .i64 0, .int .i64 0, .int .i64 0]) ?_ 2 _ rfl; (with_reducible repeat (first | refine blk_drewN ?_ _ | refine blk_drew ?_ | refine blk_alloc ?_ _)); refine blk_put (cs := #[.string ((rd_T113 l0 x7_1).f0), .int .i64 0, .int .i64 0, .int .i64 0, .int .i64 0]) ?_ 1 _ rfl; (with_reducible repeat (first | refine blk_drewN ?_ _ | refine blk_drew ?_ | refine blk_alloc ?_ _)); refine blk_put (cs := #[.string (⟨#[]⟩ : ByteArray), .int .i64 0, .int .i64 0, .int .i64 0, .int .i64 0]) ?_ 0 _ rfl; (with_reducible repeat (first | refine blk_drewN ?_ _ | refine blk_drew ?_ | refine blk_alloc ?_ _)); exact BK193.out⟩
           have n1_ : Aside0 (Below w.heap.size w (((((w6.setCell ⟨gb193, 0, none⟩ (.string ((rd_T113 l0 x7_1).f0))).setCell ⟨gb193, 1, none⟩ (.int .i64 ((rd_T113 l0 x7_1).f1))).setCell ⟨gb193, 2, none⟩ (.int .i64 ((rd_T113 l0 x7_1).f2))).setCell ⟨gb193, 3, none⟩ (.int .i64 ((rd_T113 l0 x7_1).f3))).setCell ⟨gb193, 4, none⟩ (.int .i64 ((rd_T113 l0 x7_1).f4)))) := ⟨hs_ HB GE193⟩
           (try clear BK193)
           (try clear HB)
           generalize (((((w6.setCell ⟨gb193, 0, none⟩ (.string ((rd_T113 l0 x7_1).f0))).setCell ⟨gb193, 1, none⟩ (.int .i64 ((rd_T113 l0 x7_1).f1))).setCell ⟨gb193, 2, none⟩ (.int .i64 ((rd_T113 l0 x7_1).f2))).setCell ⟨gb193, 3, none⟩ (.int .i64 ((rd_T113 l0 x7_1).f3))).setCell ⟨gb193, 4, none⟩ (.int .i64 ((rd_T113 l0 x7_1).f4))) = w29 at n0_ n1_ ⊢
           have BK193 := n0_
           have HB := n1_
           clear n0_ n1_
           have n0_ := Aside0.mk (blk_drew BK193.out)
           have n1_ := Aside0.mk (below_drew1 HB.out)
           clear BK193
           clear HB
           have BK193 := n0_
           have HB := n1_
           clear n0_ n1_
           refine start_ (n := 42) (S := fun w' => w'.cell? ⟨gb193, 0, none⟩ = some (.string ((rd_T113 l0 x7_1).f0)) ∧ w'.cell? ⟨gb193, 1, none⟩ = some (.int .i64 ((rd_T113 l0 x7_1).f1)) ∧ w'.cell? ⟨gb193, 2, none⟩ = some (.int .i64 ((rd_T113 l0 x7_1).f2)) ∧ w'.cell? ⟨gb193, 3, none⟩ = some (.int .i64 ((rd_T113 l0 x7_1).f3)) ∧ w'.cell? ⟨gb193, 4, none⟩ = some (.int .i64 ((rd_T113 l0 x7_1).f4))) (ds := []) (on_ 0 42) (by kernel_rfl) rfl rfl ⟨(blk_cell BK193.out 0).trans rfl, (blk_cell BK193.out 1).trans rfl, (blk_cell BK193.out 2).trans rfl, (blk_cell BK193.out 3).trans rfl, (blk_cell BK193.out 4).trans rfl⟩ (fun hHeld => ?_); refine with_tabW impl_DirOk.tab4 impl_DirOk.bits4 (fun HT_ HW_ => ?_)
           generalize w29.drew = w30 at BK193 HB hHeld ⊢
           refine pv_ (i := 0) (N := some 12) (on_ 1 41) rfl rfl HT_ ?_
           refine take_ (i := 1) (N := some 13) (v := ?_) (a' := ?_) (on_ 2 40) rfl rfl (take_ofW HT_.out HW_.out (by kernel_rfl)) (fun _ _ _ h => h) (Or.inl ⟨by rfl, ?_⟩) hHeld ?_ ?_
           rotate_left
           ·rintro w' ⟨s0, s1, s2, s3, s4⟩
            go_simp
            with_reducible rfl
           rotate_left
           ·simp only [Act.put, la_, lz_, ls_, i64_w, i32_w]
            rfl
           refine one_ (i := 2) (N := some 14) (on_ 3 39) rfl rfl (one_of HT_.out (by kernel_rfl)) (by decide) (fun K hK => ?_)
           refine goes_ Try.func107 (by kernel_rfl) rfl #[.string ((rd_T113 l0 x7_1).f0)] (by rfl) rfl rfl ar_ ?_
           with_reducible refine (impl_KeyOk.calls ((rd_T113 l0 x7_1).f0) true _ A8.out).mono ?_
           rintro e w' ⟨rfl, ⟨nd, rfl⟩⟩
           refine ⟨_, rfl, ?_⟩
           refine hK.out _ _ ⟨(blk_cell BK193.out 0).trans rfl, (blk_cell BK193.out 1).trans rfl, (blk_cell BK193.out 2).trans rfl, (blk_cell BK193.out 3).trans rfl, (blk_cell BK193.out 4).trans rfl⟩ (fun hHeld => ?_)
           clear hK K
           refine norm_ (a' := ?_) ?_ ?_
           rotate_left
           ·show Act.put _ (some 14) _ = _
            simp only [Act.put, la_, lz_, ls_, i64_w, i32_w]
            rfl
           refine pv_ (i := 3) (N := some 15) (on_ 4 38) rfl rfl HT_ ?_
           refine pv_ (i := 4) (N := some 16) (on_ 5 37) rfl rfl HT_ ?_
           refine pv_ (i := 5) (N := some 17) (on_ 6 36) rfl rfl HT_ ?_
           refine take_ (i := 6) (N := some 18) (v := ?_) (a' := ?_) (on_ 7 35) rfl rfl (take_ofW HT_.out HW_.out (by kernel_rfl)) (fun _ _ _ h => h) (Or.inl ⟨by rfl, ?_⟩) hHeld ?_ ?_
           rotate_left
           ·rintro w' ⟨s0, s1, s2, s3, s4⟩
            go_simp
            with_reducible rfl
           rotate_left
           ·simp only [Act.put, la_, lz_, ls_, i64_w, i32_w]
            rfl
           refine one_ (i := 7) (N := some 19) (on_ 8 34) rfl rfl (one_of HT_.out (by kernel_rfl)) (by decide) (fun K hK => ?_)
           refine goes_ Try.func68 (by kernel_rfl) rfl #[.int .i64 ((rd_T113 l0 x7_1).f1), .int .i64 1, .int .i64 100000] (by rfl) rfl rfl ar_ ?_
           with_reducible refine (impl_in.calls ((rd_T113 l0 x7_1).f1) 1 100000 true _ A10.out).mono ?_
           rintro e w' ⟨rfl, ⟨nd, rfl⟩⟩
           refine ⟨_, rfl, ?_⟩
           refine hK.out _ _ ⟨(blk_cell BK193.out 0).trans rfl, (blk_cell BK193.out 1).trans rfl, (blk_cell BK193.out 2).trans rfl, (blk_cell BK193.out 3).trans rfl, (blk_cell BK193.out 4).trans rfl⟩ (fun hHeld => ?_)
           clear hK K
           refine norm_ (a' := ?_) ?_ ?_
           rotate_left
           ·show Act.put _ (some 19) _ = _
            simp only [Act.put, la_, lz_, ls_, i64_w, i32_w]
            rfl
           refine pv_ (i := 8) (N := some 20) (on_ 9 33) rfl rfl HT_ ?_
           refine pv_ (i := 9) (N := some 21) (on_ 10 32) rfl rfl HT_ ?_
           refine pv_ (i := 10) (N := some 22) (on_ 11 31) rfl rfl HT_ ?_
           refine pv_ (i := 11) (N := some 23) (on_ 12 30) rfl rfl HT_ ?_
           refine take_ (i := 12) (N := some 24) (v := ?_) (a' := ?_) (on_ 13 29) rfl rfl (take_ofW HT_.out HW_.out (by kernel_rfl)) (fun _ _ _ h => h) (Or.inl ⟨by rfl, ?_⟩) hHeld ?_ ?_
           rotate_left
           ·rintro w' ⟨s0, s1, s2, s3, s4⟩
            go_simp
            with_reducible rfl
           rotate_left
           ·simp only [Act.put, la_, lz_, ls_, i64_w, i32_w]
            rfl
           refine pv_ (i := 13) (N := some 25) (on_ 14 28) rfl rfl HT_ ?_
           refine pv_ (i := 14) (N := some 26) (on_ 15 27) rfl rfl HT_ ?_
           refine pv_ (i := 15) (N := some 27) (on_ 16 26) rfl rfl HT_ ?_
           refine pv_ (i := 16) (N := some 28) (on_ 17 25) rfl rfl HT_ ?_
           refine take_ (i := 17) (N := some 29) (v := ?_) (a' := ?_) (on_ 18 24) rfl rfl (take_ofW HT_.out HW_.out (by kernel_rfl)) (fun _ _ _ h => h) (Or.inl ⟨by rfl, ?_⟩) hHeld ?_ ?_
           rotate_left
           ·rintro w' ⟨s0, s1, s2, s3, s4⟩
            go_simp
            with_reducible rfl
           rotate_left
           ·simp only [Act.put, la_, lz_, ls_, i64_w, i32_w]
            rfl
           refine one_ (i := 18) (N := some 30) (on_ 19 23) rfl rfl (one_of HT_.out (by kernel_rfl)) (by decide) (fun K hK => ?_)
           refine goes_ Try.func68 (by kernel_rfl) rfl #[.int .i64 ((rd_T113 l0 x7_1).f3), .int .i64 1, .int .i64 210] (by rfl) rfl rfl ar_ ?_
           with_reducible refine (impl_in.calls ((rd_T113 l0 x7_1).f3) 1 210 false _ A15.out).mono ?_
           rintro e w' ⟨rfl, ⟨nd, rfl⟩⟩
           refine ⟨_, rfl, ?_⟩
           refine hK.out _ _ ⟨(blk_cell BK193.out 0).trans rfl, (blk_cell BK193.out 1).trans rfl, (blk_cell BK193.out 2).trans rfl, (blk_cell BK193.out 3).trans rfl, (blk_cell BK193.out 4).trans rfl⟩ (fun hHeld => ?_)
           clear hK K
           refine norm_ (a' := ?_) ?_ ?_
           rotate_left
           ·show Act.put _ (some 30) _ = _
            simp only [Act.put, la_, lz_, ls_, i64_w, i32_w]
            rfl
           refine pv_ (i := 19) (N := some 31) (on_ 20 22) rfl rfl HT_ ?_
           refine pv_ (i := 20) (N := some 32) (on_ 21 21) rfl rfl HT_ ?_
           refine pv_ (i := 21) (N := some 33) (on_ 22 20) rfl rfl HT_ ?_
           refine pun_ (i := 22) (N := some 34) (on_ 23 19) rfl rfl HT_ ?_
           refine pun_ (i := 23) (N := some 35) (on_ 24 18) rfl rfl HT_ ?_
           refine pun_ (i := 24) (N := some 36) (on_ 25 17) rfl rfl HT_ ?_
           refine pun_ (i := 25) (N := some 37) (on_ 26 16) rfl rfl HT_ ?_
           refine pv_ (i := 26) (N := some 38) (on_ 27 15) rfl rfl HT_ ?_
           refine pv_ (i := 27) (N := some 39) (on_ 28 14) rfl rfl HT_ ?_
           refine pun_ (i := 28) (N := some 40) (on_ 29 13) rfl rfl HT_ ?_
           refine pun_ (i := 29) (N := some 41) (on_ 30 12) rfl rfl HT_ ?_
           refine pun_ (i := 30) (N := some 42) (on_ 31 11) rfl rfl HT_ ?_
           refine pun_ (i := 31) (N := some 43) (on_ 32 10) rfl rfl HT_ ?_
           refine pun_ (i := 32) (N := some 44) (on_ 33 9) rfl rfl HT_ ?_
           refine pun_ (i := 33) (N := some 45) (on_ 34 8) rfl rfl HT_ ?_
           refine pun_ (i := 34) (N := some 46) (on_ 35 7) rfl rfl HT_ ?_
           refine pun_ (i := 35) (N := some 47) (on_ 36 6) rfl rfl HT_ ?_
           refine pun_ (i := 36) (N := some 48) (on_ 37 5) rfl rfl HT_ ?_
           refine pun_ (i := 37) (N := some 49) (on_ 38 4) rfl rfl HT_ ?_
           refine pun_ (i := 38) (N := some 50) (on_ 39 3) rfl rfl HT_ ?_
           refine pun_ (i := 39) (N := some 51) (on_ 40 2) rfl rfl HT_ ?_
           refine pun_ (i := 40) (N := some 52) (on_ 41 1) rfl rfl HT_ ?_
           refine pv_ (i := 41) (N := some 53) (on_ 42 0) rfl rfl HT_ ?_
           refine done_ (done_of HT_.out (by kernel_rfl)) ?_
           try go_wp2
           go_meet
           case rel => exact ⟨_, (true), rs_, H', ⟨by have := HK1.out; first | exact Nat.le_refl _ | exact Nat.le_of_succ_le this | omega⟩, ⟨bk_ BK193⟩, ⟨hs_ HB GE193⟩⟩
        ·replace c11 := Bool.eq_false_iff.mpr c11
         subst c11
         have H1 : (impl_DirOk.j1 k1 l0 l0 (l0.length : Int) x7_1 true) = some r := by rw [if_neg (show ¬ (false = true) by decide)] at H; exact H
         clear H
         have H := H1
         clear H1
         have H' := Aside0.mk H
         clear H
         try go_wp2
         have n0_ : Aside0 ((((((w6.setCell ⟨gb193, 0, none⟩ (.string ((rd_T113 l0 x7_1).f0))).setCell ⟨gb193, 1, none⟩ (.int .i64 ((rd_T113 l0 x7_1).f1))).setCell ⟨gb193, 2, none⟩ (.int .i64 ((rd_T113 l0 x7_1).f2))).setCell ⟨gb193, 3, none⟩ (.int .i64 ((rd_T113 l0 x7_1).f3))).setCell ⟨gb193, 4, none⟩ (.int .i64 ((rd_T113 l0 x7_1).f4))).heap[gb193]? = some (.cells #[.string ((rd_T113 l0 x7_1).f0), .int .i64 ((rd_T113 l0 x7_1).f1), .int .i64 ((rd_T113 l0 x7_1).f2), .int .i64 ((rd_T113 l0 x7_1).f3), .int .i64 ((rd_T113 l0 x7_1).f4)] 113 (0, 0))) := ⟨by (with_reducible repeat (first | refine blk_drewN ?_ _ | refine blk_drew ?_ | refine blk_alloc ?_ _)); refine blk_put (cs := #[.string ((rd_T113 l0 x7_1).f0), .int .i64 ((rd_T113 l0 x7_1).f1), .int .i64 ((rd_T113 l0 x7_1).f2), .int .i64 ((rd_T113 l0 x7_1).f3), .int .i64 0]) ?_ 4 _ rfl; (with_reducible repeat (first | refine blk_drewN ?_ _ | refine blk_drew ?_ | refine blk_alloc ?_ _)); refine blk_put (cs := #[.string ((rd_T113 l0 x7_1).f0), .int .i64 ((rd_T113 l0 x7_1).f1), .int .i64 ((rd_T113 l0 x7_1).f2), .int .i64 0, .int .i64 0]) ?_ 3 _ rfl; (with_reducible repeat (first | refine blk_drewN ?_ _ | refine blk_drew ?_ | refine blk_alloc ?_ _)); refine blk_put (cs := #[.string ((rd_T113 l0 x7_1).f0), .int .i64 ((rd_T113 l0 x7_1).f1), .int .i64 0, .int .i64 0, .int .i64 0]) ?_ 2 _ rfl; (with_reducible repeat (first | refine blk_drewN ?_ _ | refine blk_drew ?_ | refine blk_alloc ?_ _)); refine blk_put (cs := #[.string ((rd_T113 l0 x7_1).f0), .int .i64 0, .int .i64 0, .int .i64 0, .int .i64 0]) ?_ 1 _ rfl; (with_reducible repeat (first | refine blk_drewN ?_ _ | refine blk_drew ?_ | refine blk_alloc ?_ _)); refine blk_put (cs := #[.string (⟨#[]⟩ : ByteArray), .int .i64 0, .int .i64 0, .int .i64 0, .int .i64 0]) ?_ 0 _ rfl; (with_reducible repeat (first | refine blk_drewN ?_ _ | refine blk_drew ?_ | refine blk_alloc ?_ _)); exact BK193.out⟩
         have n1_ : Aside0 (Below w.heap.size w (((((w6.setCell ⟨gb193, 0, none⟩ (.string ((rd_T113 l0 x7_1).f0))).setCell ⟨gb193, 1, none⟩ (.int .i64 ((rd_T113 l0 x7_1).f1))).setCell ⟨gb193, 2, none⟩ (.int .i64 ((rd_T113 l0 x7_1).f2))).setCell ⟨gb193, 3, none⟩ (.int .i64 ((rd_T113 l0 x7_1).f3))).setCell ⟨gb193, 4, none⟩ (.int .i64 ((rd_T113 l0 x7_1).f4)))) := ⟨hs_ HB GE193⟩
         (try clear BK193)
         (try clear HB)
         generalize (((((w6.setCell ⟨gb193, 0, none⟩ (.string ((rd_T113 l0 x7_1).f0))).setCell ⟨gb193, 1, none⟩ (.int .i64 ((rd_T113 l0 x7_1).f1))).setCell ⟨gb193, 2, none⟩ (.int .i64 ((rd_T113 l0 x7_1).f2))).setCell ⟨gb193, 3, none⟩ (.int .i64 ((rd_T113 l0 x7_1).f3))).setCell ⟨gb193, 4, none⟩ (.int .i64 ((rd_T113 l0 x7_1).f4))) = w31 at n0_ n1_ ⊢
         have BK193 := n0_
         have HB := n1_
         clear n0_ n1_
         have n0_ := Aside0.mk (blk_drew BK193.out)
         have n1_ := Aside0.mk (below_drew1 HB.out)
         clear BK193
         clear HB
         have BK193 := n0_
         have HB := n1_
         clear n0_ n1_
         refine start_ (n := 42) (S := fun w' => w'.cell? ⟨gb193, 0, none⟩ = some (.string ((rd_T113 l0 x7_1).f0)) ∧ w'.cell? ⟨gb193, 1, none⟩ = some (.int .i64 ((rd_T113 l0 x7_1).f1)) ∧ w'.cell? ⟨gb193, 2, none⟩ = some (.int .i64 ((rd_T113 l0 x7_1).f2)) ∧ w'.cell? ⟨gb193, 3, none⟩ = some (.int .i64 ((rd_T113 l0 x7_1).f3)) ∧ w'.cell? ⟨gb193, 4, none⟩ = some (.int .i64 ((rd_T113 l0 x7_1).f4))) (ds := []) (on_ 0 42) (by kernel_rfl) rfl rfl ⟨(blk_cell BK193.out 0).trans rfl, (blk_cell BK193.out 1).trans rfl, (blk_cell BK193.out 2).trans rfl, (blk_cell BK193.out 3).trans rfl, (blk_cell BK193.out 4).trans rfl⟩ (fun hHeld => ?_); refine with_tabW impl_DirOk.tab4 impl_DirOk.bits4 (fun HT_ HW_ => ?_)
         generalize w31.drew = w32 at BK193 HB hHeld ⊢
         refine pv_ (i := 0) (N := some 12) (on_ 1 41) rfl rfl HT_ ?_
         refine take_ (i := 1) (N := some 13) (v := ?_) (a' := ?_) (on_ 2 40) rfl rfl (take_ofW HT_.out HW_.out (by kernel_rfl)) (fun _ _ _ h => h) (Or.inl ⟨by rfl, ?_⟩) hHeld ?_ ?_
         rotate_left
         ·rintro w' ⟨s0, s1, s2, s3, s4⟩
          go_simp
          with_reducible rfl
         rotate_left
         ·simp only [Act.put, la_, lz_, ls_, i64_w, i32_w]
          rfl
         refine one_ (i := 2) (N := some 14) (on_ 3 39) rfl rfl (one_of HT_.out (by kernel_rfl)) (by decide) (fun K hK => ?_)
         refine goes_ Try.func107 (by kernel_rfl) rfl #[.string ((rd_T113 l0 x7_1).f0)] (by rfl) rfl rfl ar_ ?_
         with_reducible refine (impl_KeyOk.calls ((rd_T113 l0 x7_1).f0) true _ A8.out).mono ?_
         rintro e w' ⟨rfl, ⟨nd, rfl⟩⟩
         refine ⟨_, rfl, ?_⟩
         refine hK.out _ _ ⟨(blk_cell BK193.out 0).trans rfl, (blk_cell BK193.out 1).trans rfl, (blk_cell BK193.out 2).trans rfl, (blk_cell BK193.out 3).trans rfl, (blk_cell BK193.out 4).trans rfl⟩ (fun hHeld => ?_)
         clear hK K
         refine norm_ (a' := ?_) ?_ ?_
         rotate_left
         ·show Act.put _ (some 14) _ = _
          simp only [Act.put, la_, lz_, ls_, i64_w, i32_w]
          rfl
         refine pv_ (i := 3) (N := some 15) (on_ 4 38) rfl rfl HT_ ?_
         refine pv_ (i := 4) (N := some 16) (on_ 5 37) rfl rfl HT_ ?_
         refine pv_ (i := 5) (N := some 17) (on_ 6 36) rfl rfl HT_ ?_
         refine take_ (i := 6) (N := some 18) (v := ?_) (a' := ?_) (on_ 7 35) rfl rfl (take_ofW HT_.out HW_.out (by kernel_rfl)) (fun _ _ _ h => h) (Or.inl ⟨by rfl, ?_⟩) hHeld ?_ ?_
         rotate_left
         ·rintro w' ⟨s0, s1, s2, s3, s4⟩
          go_simp
          with_reducible rfl
         rotate_left
         ·simp only [Act.put, la_, lz_, ls_, i64_w, i32_w]
          rfl
         refine one_ (i := 7) (N := some 19) (on_ 8 34) rfl rfl (one_of HT_.out (by kernel_rfl)) (by decide) (fun K hK => ?_)
         refine goes_ Try.func68 (by kernel_rfl) rfl #[.int .i64 ((rd_T113 l0 x7_1).f1), .int .i64 1, .int .i64 100000] (by rfl) rfl rfl ar_ ?_
         with_reducible refine (impl_in.calls ((rd_T113 l0 x7_1).f1) 1 100000 false _ A10.out).mono ?_
         rintro e w' ⟨rfl, ⟨nd, rfl⟩⟩
         refine ⟨_, rfl, ?_⟩
         refine hK.out _ _ ⟨(blk_cell BK193.out 0).trans rfl, (blk_cell BK193.out 1).trans rfl, (blk_cell BK193.out 2).trans rfl, (blk_cell BK193.out 3).trans rfl, (blk_cell BK193.out 4).trans rfl⟩ (fun hHeld => ?_)
         clear hK K
         refine norm_ (a' := ?_) ?_ ?_
         rotate_left
         ·show Act.put _ (some 19) _ = _
          simp only [Act.put, la_, lz_, ls_, i64_w, i32_w]
          rfl
         refine pv_ (i := 8) (N := some 20) (on_ 9 33) rfl rfl HT_ ?_
         refine pv_ (i := 9) (N := some 21) (on_ 10 32) rfl rfl HT_ ?_
         refine pv_ (i := 10) (N := some 22) (on_ 11 31) rfl rfl HT_ ?_
         refine pun_ (i := 11) (N := some 23) (on_ 12 30) rfl rfl HT_ ?_
         refine pun_ (i := 12) (N := some 24) (on_ 13 29) rfl rfl HT_ ?_
         refine pun_ (i := 13) (N := some 25) (on_ 14 28) rfl rfl HT_ ?_
         refine pv_ (i := 14) (N := some 26) (on_ 15 27) rfl rfl HT_ ?_
         refine pv_ (i := 15) (N := some 27) (on_ 16 26) rfl rfl HT_ ?_
         refine pun_ (i := 16) (N := some 28) (on_ 17 25) rfl rfl HT_ ?_
         refine pun_ (i := 17) (N := some 29) (on_ 18 24) rfl rfl HT_ ?_
         refine pun_ (i := 18) (N := some 30) (on_ 19 23) rfl rfl HT_ ?_
         refine pun_ (i := 19) (N := some 31) (on_ 20 22) rfl rfl HT_ ?_
         refine pv_ (i := 20) (N := some 32) (on_ 21 21) rfl rfl HT_ ?_
         refine pv_ (i := 21) (N := some 33) (on_ 22 20) rfl rfl HT_ ?_
         refine pun_ (i := 22) (N := some 34) (on_ 23 19) rfl rfl HT_ ?_
         refine pun_ (i := 23) (N := some 35) (on_ 24 18) rfl rfl HT_ ?_
         refine pun_ (i := 24) (N := some 36) (on_ 25 17) rfl rfl HT_ ?_
         refine pun_ (i := 25) (N := some 37) (on_ 26 16) rfl rfl HT_ ?_
         refine pv_ (i := 26) (N := some 38) (on_ 27 15) rfl rfl HT_ ?_
         refine pv_ (i := 27) (N := some 39) (on_ 28 14) rfl rfl HT_ ?_
         refine pun_ (i := 28) (N := some 40) (on_ 29 13) rfl rfl HT_ ?_
         refine pun_ (i := 29) (N := some 41) (on_ 30 12) rfl rfl HT_ ?_
         refine pun_ (i := 30) (N := some 42) (on_ 31 11) rfl rfl HT_ ?_
         refine pun_ (i := 31) (N := some 43) (on_ 32 10) rfl rfl HT_ ?_
         refine pun_ (i := 32) (N := some 44) (on_ 33 9) rfl rfl HT_ ?_
         refine pun_ (i := 33) (N := some 45) (on_ 34 8) rfl rfl HT_ ?_
         refine pun_ (i := 34) (N := some 46) (on_ 35 7) rfl rfl HT_ ?_
         refine pun_ (i := 35) (N := some 47) (on_ 36 6) rfl rfl HT_ ?_
         refine pun_ (i := 36) (N := some 48) (on_ 37 5) rfl rfl HT_ ?_
         refine pun_ (i := 37) (N := some 49) (on_ 38 4) rfl rfl HT_ ?_
         refine pun_ (i := 38) (N := some 50) (on_ 39 3) rfl rfl HT_ ?_
         refine pun_ (i := 39) (N := some 51) (on_ 40 2) rfl rfl HT_ ?_
         refine pun_ (i := 40) (N := some 52) (on_ 41 1) rfl rfl HT_ ?_
         refine pv_ (i := 41) (N := some 53) (on_ 42 0) rfl rfl HT_ ?_
         refine done_ (done_of HT_.out (by kernel_rfl)) ?_
         try go_wp2
         go_meet
         case rel => exact ⟨_, (true), rs_, H', ⟨by have := HK1.out; first | exact Nat.le_refl _ | exact Nat.le_of_succ_le this | omega⟩, ⟨bk_ BK193⟩, ⟨hs_ HB GE193⟩⟩
       ·replace c9 := Bool.eq_false_iff.mpr c9
        subst c9
        have H1 : (impl_DirOk.j1 k1 l0 l0 (l0.length : Int) x7_1 true) = some r := by rw [if_neg (show ¬ (false = true) by decide)] at H; exact H
        clear H
        have H := H1
        clear H1
        have H' := Aside0.mk H
        clear H
        try go_wp2
        have n0_ : Aside0 ((((((w6.setCell ⟨gb193, 0, none⟩ (.string ((rd_T113 l0 x7_1).f0))).setCell ⟨gb193, 1, none⟩ (.int .i64 ((rd_T113 l0 x7_1).f1))).setCell ⟨gb193, 2, none⟩ (.int .i64 ((rd_T113 l0 x7_1).f2))).setCell ⟨gb193, 3, none⟩ (.int .i64 ((rd_T113 l0 x7_1).f3))).setCell ⟨gb193, 4, none⟩ (.int .i64 ((rd_T113 l0 x7_1).f4))).heap[gb193]? = some (.cells #[.string ((rd_T113 l0 x7_1).f0), .int .i64 ((rd_T113 l0 x7_1).f1), .int .i64 ((rd_T113 l0 x7_1).f2), .int .i64 ((rd_T113 l0 x7_1).f3), .int .i64 ((rd_T113 l0 x7_1).f4)] 113 (0, 0))) := ⟨by (with_reducible repeat (first | refine blk_drewN ?_ _ | refine blk_drew ?_ | refine blk_alloc ?_ _)); refine blk_put (cs := #[.string ((rd_T113 l0 x7_1).f0), .int .i64 ((rd_T113 l0 x7_1).f1), .int .i64 ((rd_T113 l0 x7_1).f2), .int .i64 ((rd_T113 l0 x7_1).f3), .int .i64 0]) ?_ 4 _ rfl; (with_reducible repeat (first | refine blk_drewN ?_ _ | refine blk_drew ?_ | refine blk_alloc ?_ _)); refine blk_put (cs := #[.string ((rd_T113 l0 x7_1).f0), .int .i64 ((rd_T113 l0 x7_1).f1), .int .i64 ((rd_T113 l0 x7_1).f2), .int .i64 0, .int .i64 0]) ?_ 3 _ rfl; (with_reducible repeat (first | refine blk_drewN ?_ _ | refine blk_drew ?_ | refine blk_alloc ?_ _)); refine blk_put (cs := #[.string ((rd_T113 l0 x7_1).f0), .int .i64 ((rd_T113 l0 x7_1).f1), .int .i64 0, .int .i64 0, .int .i64 0]) ?_ 2 _ rfl; (with_reducible repeat (first | refine blk_drewN ?_ _ | refine blk_drew ?_ | refine blk_alloc ?_ _)); refine blk_put (cs := #[.string ((rd_T113 l0 x7_1).f0), .int .i64 0, .int .i64 0, .int .i64 0, .int .i64 0]) ?_ 1 _ rfl; (with_reducible repeat (first | refine blk_drewN ?_ _ | refine blk_drew ?_ | refine blk_alloc ?_ _)); refine blk_put (cs := #[.string (⟨#[]⟩ : ByteArray), .int .i64 0, .int .i64 0, .int .i64 0, .int .i64 0]) ?_ 0 _ rfl; (with_reducible repeat (first | refine blk_drewN ?_ _ | refine blk_drew ?_ | refine blk_alloc ?_ _)); exact BK193.out⟩
        have n1_ : Aside0 (Below w.heap.size w (((((w6.setCell ⟨gb193, 0, none⟩ (.string ((rd_T113 l0 x7_1).f0))).setCell ⟨gb193, 1, none⟩ (.int .i64 ((rd_T113 l0 x7_1).f1))).setCell ⟨gb193, 2, none⟩ (.int .i64 ((rd_T113 l0 x7_1).f2))).setCell ⟨gb193, 3, none⟩ (.int .i64 ((rd_T113 l0 x7_1).f3))).setCell ⟨gb193, 4, none⟩ (.int .i64 ((rd_T113 l0 x7_1).f4)))) := ⟨hs_ HB GE193⟩
        (try clear BK193)
        (try clear HB)
        generalize (((((w6.setCell ⟨gb193, 0, none⟩ (.string ((rd_T113 l0 x7_1).f0))).setCell ⟨gb193, 1, none⟩ (.int .i64 ((rd_T113 l0 x7_1).f1))).setCell ⟨gb193, 2, none⟩ (.int .i64 ((rd_T113 l0 x7_1).f2))).setCell ⟨gb193, 3, none⟩ (.int .i64 ((rd_T113 l0 x7_1).f3))).setCell ⟨gb193, 4, none⟩ (.int .i64 ((rd_T113 l0 x7_1).f4))) = w33 at n0_ n1_ ⊢
        have BK193 := n0_
        have HB := n1_
        clear n0_ n1_
        have n0_ := Aside0.mk (blk_drew BK193.out)
        have n1_ := Aside0.mk (below_drew1 HB.out)
        clear BK193
        clear HB
        have BK193 := n0_
        have HB := n1_
        clear n0_ n1_
        refine start_ (n := 42) (S := fun w' => w'.cell? ⟨gb193, 0, none⟩ = some (.string ((rd_T113 l0 x7_1).f0)) ∧ w'.cell? ⟨gb193, 1, none⟩ = some (.int .i64 ((rd_T113 l0 x7_1).f1)) ∧ w'.cell? ⟨gb193, 2, none⟩ = some (.int .i64 ((rd_T113 l0 x7_1).f2)) ∧ w'.cell? ⟨gb193, 3, none⟩ = some (.int .i64 ((rd_T113 l0 x7_1).f3)) ∧ w'.cell? ⟨gb193, 4, none⟩ = some (.int .i64 ((rd_T113 l0 x7_1).f4))) (ds := []) (on_ 0 42) (by kernel_rfl) rfl rfl ⟨(blk_cell BK193.out 0).trans rfl, (blk_cell BK193.out 1).trans rfl, (blk_cell BK193.out 2).trans rfl, (blk_cell BK193.out 3).trans rfl, (blk_cell BK193.out 4).trans rfl⟩ (fun hHeld => ?_); refine with_tabW impl_DirOk.tab4 impl_DirOk.bits4 (fun HT_ HW_ => ?_)
        generalize w33.drew = w34 at BK193 HB hHeld ⊢
        refine pv_ (i := 0) (N := some 12) (on_ 1 41) rfl rfl HT_ ?_
        refine take_ (i := 1) (N := some 13) (v := ?_) (a' := ?_) (on_ 2 40) rfl rfl (take_ofW HT_.out HW_.out (by kernel_rfl)) (fun _ _ _ h => h) (Or.inl ⟨by rfl, ?_⟩) hHeld ?_ ?_
        rotate_left
        ·rintro w' ⟨s0, s1, s2, s3, s4⟩
         go_simp
         with_reducible rfl
        rotate_left
        ·simp only [Act.put, la_, lz_, ls_, i64_w, i32_w]
         rfl
        refine one_ (i := 2) (N := some 14) (on_ 3 39) rfl rfl (one_of HT_.out (by kernel_rfl)) (by decide) (fun K hK => ?_)
        refine goes_ Try.func107 (by kernel_rfl) rfl #[.string ((rd_T113 l0 x7_1).f0)] (by rfl) rfl rfl ar_ ?_
        with_reducible refine (impl_KeyOk.calls ((rd_T113 l0 x7_1).f0) false _ A8.out).mono ?_
        rintro e w' ⟨rfl, ⟨nd, rfl⟩⟩
        refine ⟨_, rfl, ?_⟩
        refine hK.out _ _ ⟨(blk_cell BK193.out 0).trans rfl, (blk_cell BK193.out 1).trans rfl, (blk_cell BK193.out 2).trans rfl, (blk_cell BK193.out 3).trans rfl, (blk_cell BK193.out 4).trans rfl⟩ (fun hHeld => ?_)
        clear hK K
        refine norm_ (a' := ?_) ?_ ?_
        rotate_left
        ·show Act.put _ (some 14) _ = _
         simp only [Act.put, la_, lz_, ls_, i64_w, i32_w]
         rfl
        refine pv_ (i := 3) (N := some 15) (on_ 4 38) rfl rfl HT_ ?_
        refine pv_ (i := 4) (N := some 16) (on_ 5 37) rfl rfl HT_ ?_
        refine pun_ (i := 5) (N := some 17) (on_ 6 36) rfl rfl HT_ ?_
        refine pun_ (i := 6) (N := some 18) (on_ 7 35) rfl rfl HT_ ?_
        refine pun_ (i := 7) (N := some 19) (on_ 8 34) rfl rfl HT_ ?_
        refine pun_ (i := 8) (N := some 20) (on_ 9 33) rfl rfl HT_ ?_
        refine pv_ (i := 9) (N := some 21) (on_ 10 32) rfl rfl HT_ ?_
        refine pv_ (i := 10) (N := some 22) (on_ 11 31) rfl rfl HT_ ?_
        refine pun_ (i := 11) (N := some 23) (on_ 12 30) rfl rfl HT_ ?_
        refine pun_ (i := 12) (N := some 24) (on_ 13 29) rfl rfl HT_ ?_
        refine pun_ (i := 13) (N := some 25) (on_ 14 28) rfl rfl HT_ ?_
        refine pv_ (i := 14) (N := some 26) (on_ 15 27) rfl rfl HT_ ?_
        refine pv_ (i := 15) (N := some 27) (on_ 16 26) rfl rfl HT_ ?_
        refine pun_ (i := 16) (N := some 28) (on_ 17 25) rfl rfl HT_ ?_
        refine pun_ (i := 17) (N := some 29) (on_ 18 24) rfl rfl HT_ ?_
        refine pun_ (i := 18) (N := some 30) (on_ 19 23) rfl rfl HT_ ?_
        refine pun_ (i := 19) (N := some 31) (on_ 20 22) rfl rfl HT_ ?_
        refine pv_ (i := 20) (N := some 32) (on_ 21 21) rfl rfl HT_ ?_
        refine pv_ (i := 21) (N := some 33) (on_ 22 20) rfl rfl HT_ ?_
        refine pun_ (i := 22) (N := some 34) (on_ 23 19) rfl rfl HT_ ?_
        refine pun_ (i := 23) (N := some 35) (on_ 24 18) rfl rfl HT_ ?_
        refine pun_ (i := 24) (N := some 36) (on_ 25 17) rfl rfl HT_ ?_
        refine pun_ (i := 25) (N := some 37) (on_ 26 16) rfl rfl HT_ ?_
        refine pv_ (i := 26) (N := some 38) (on_ 27 15) rfl rfl HT_ ?_
        refine pv_ (i := 27) (N := some 39) (on_ 28 14) rfl rfl HT_ ?_
        refine pun_ (i := 28) (N := some 40) (on_ 29 13) rfl rfl HT_ ?_
        refine pun_ (i := 29) (N := some 41) (on_ 30 12) rfl rfl HT_ ?_
        refine pun_ (i := 30) (N := some 42) (on_ 31 11) rfl rfl HT_ ?_
        refine pun_ (i := 31) (N := some 43) (on_ 32 10) rfl rfl HT_ ?_
        refine pun_ (i := 32) (N := some 44) (on_ 33 9) rfl rfl HT_ ?_
        refine pun_ (i := 33) (N := some 45) (on_ 34 8) rfl rfl HT_ ?_
        refine pun_ (i := 34) (N := some 46) (on_ 35 7) rfl rfl HT_ ?_
        refine pun_ (i := 35) (N := some 47) (on_ 36 6) rfl rfl HT_ ?_
        refine pun_ (i := 36) (N := some 48) (on_ 37 5) rfl rfl HT_ ?_
        refine pun_ (i := 37) (N := some 49) (on_ 38 4) rfl rfl HT_ ?_
        refine pun_ (i := 38) (N := some 50) (on_ 39 3) rfl rfl HT_ ?_
        refine pun_ (i := 39) (N := some 51) (on_ 40 2) rfl rfl HT_ ?_
        refine pun_ (i := 40) (N := some 52) (on_ 41 1) rfl rfl HT_ ?_
        refine pv_ (i := 41) (N := some 53) (on_ 42 0) rfl rfl HT_ ?_
        refine done_ (done_of HT_.out (by kernel_rfl)) ?_
        try go_wp2
        go_meet
        case rel => exact ⟨_, (true), rs_, H', ⟨by have := HK1.out; first | exact Nat.le_refl _ | exact Nat.le_of_succ_le this | omega⟩, ⟨bk_ BK193⟩, ⟨hs_ HB GE193⟩⟩
      case rest =>
       clear HC5
       try clear c1
       try clear p2
       try clear c6
       try clear c9
       try clear c10
       try clear c11
       obtain ⟨kq, x53_4, rfl, HA, HJ4, BK193, HB⟩ := hcut
       cases kq with
       | zero => exact absurd HA.out (by simp [impl_DirOk.j1])
       | succ kj4 =>
        have H := HA.out
        clear HA
        simp only [impl_DirOk.j1] at H
        by_cases c35 : x53_4 = true
        ·subst c35
         have H1 : (some false) = some r := by rw [if_pos rfl] at H; exact H
         clear H
         have H := H1
         clear H1
         obtain rfl := Option.some.inj H
         go_wp2
         go_ret
         exact ⟨re_, hs_ HB GE193⟩
        ·replace c35 := Bool.eq_false_iff.mpr c35
         subst c35
         have H1 : (impl_DirOk.l0 kj4 l0 l0 (l0.length : Int) (wrap64 (x7_1 + 1))) = some r := by rw [if_neg (show ¬ (false = true) by decide)] at H; exact H
         clear H
         have H := H1
         clear H1
         have H' := Aside0.mk H
         clear H
         go_wp2
         go_roundg kj4
         case measure => have := HK1.out; have := HJ4.out; omega
         case rel => exact ⟨(wrap64 (x7_1 + 1)), rs_, H', ⟨by have := HK1.out; have := HJ4.out; omega⟩, ⟨hs_ HB GE193⟩⟩
     ·rw [if_neg c4] at H
      exact absurd H (by simp)
    ·rw [if_neg c3] at H
     exact absurd H (by simp)
   ·rw [if_neg c2] at H
    have c2b0 : decide (x7_1 < (l0.length : Int)) = false := decide_eq_false c2
    clear c2
    obtain rfl := Option.some.inj H
    go_wp2
    go_ret
    exact ⟨re_, hb_ HB⟩

end Go.Proofs.Ytebeafcdabkkfaa.PFnExactReadHint
