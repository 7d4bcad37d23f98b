-- Laid by a program of this session, a copy of the kit's printer with additions (wip/patch_print.py): myhead. Lean checks it.
import Derived.Test.YtebeafcdabkkfabPFnExactScanRecsx0
import Derived.Test.YtebeafcdabkkfabPFnExactScanRecsx11
namespace Go.Proofs.Ytebeafcdabkkfab.PFnExactScanRecs
open Go.RowKit Go.Proofs.YtebeafcdabkkfabW.PrintWords Go.Proofs.YtebeafcdabkkfabW.PrintLast Go.Proofs.YtebeafcdabkkfabW.PrintMore
attribute [local go_sem] max2_int min2_int max_two min_two max_three min_three max_four min_four   -- for this text's walks alone
set_option linter.unusedVariables false
set_option linter.unusedSimpArgs false

/-! ### laws_heldSpotS: function 22 -/
def laws_heldSpotS.l0 : Nat → List (S51) → Int → Int → Option (Int)
 | 0, _, _, _ => none
 | k + 1, x0, x1, x5 => if x5 < (x0.length : Int) then (if 0 ≤ x5 then (if ((rd_T51 x0 x5).f0) = x1 then (if ((rd_T51 x0 x5).f1) = (wrap64 (x1 + 1)) then (if ((rd_T51 x0 x5).f2.f0) = (wrap64 ((wrap64 (x1 + 1)) + 1)) then (if ((rd_T51 x0 x5).f2.f1) = (wrap64 ((wrap64 ((wrap64 (x1 + 1)) + 1)) + 1)) then ((laws_markText.f k (wrap64 ((wrap64 ((wrap64 ((wrap64 (x1 + 1)) + 1)) + 1)) + 1))).bind fun t291 => (if ((rd_T51 x0 x5).f2.f2).toList = t291.toList then ((laws_markText.f k (wrap64 ((wrap64 ((wrap64 ((wrap64 ((wrap64 (x1 + 1)) + 1)) + 1)) + 1)) + 1))).bind fun t293 => (if ((rd_T51 x0 x5).f2.f3).toList = t293.toList then (if ((rd_T51 x0 x5).f2.f4) = (wrap64 ((wrap64 ((wrap64 ((wrap64 ((wrap64 ((wrap64 (x1 + 1)) + 1)) + 1)) + 1)) + 1)) + 1)) then (if ((rd_T51 x0 x5).f2.f5) = (wrap64 ((wrap64 ((wrap64 ((wrap64 ((wrap64 ((wrap64 ((wrap64 (x1 + 1)) + 1)) + 1)) + 1)) + 1)) + 1)) + 1)) then (laws_heldSpotS.l0 k x0 (wrap64 ((wrap64 ((wrap64 ((wrap64 ((wrap64 ((wrap64 ((wrap64 ((wrap64 (x1 + 1)) + 1)) + 1)) + 1)) + 1)) + 1)) + 1)) + 1)) (wrap64 (x5 + 1))) else (some (-1))) else (some (-1))) else (some (-1)))) else (some (-1)))) else (some (-1))) else (some (-1))) else (some (-1))) else (some (-1))) else (none)) else (some x1)
def laws_heldSpotS.f (k : Nat) (l0 : List (S51)) (a1 : Int) : Option (Int) := laws_heldSpotS.l0 k l0 a1 0
theorem laws_heldSpotS.mono_l : ∀ k, (∀ y0 y1 y2, LeO (laws_heldSpotS.l0 k y0 y1 y2) (laws_heldSpotS.l0 (k + 1) y0 y1 y2))
 | 0 => fun _ _ _ r h => by simp [laws_heldSpotS.l0] at h
 | k + 1 => by
  have ih0 := laws_heldSpotS.mono_l k
  ·intro y0 y1 y2
   unfold laws_heldSpotS.l0
   repeat' first
   | (with_reducible exact ih0 _ _ _)
   | (with_reducible exact laws_markText.mono _ _)
   | (with_reducible exact LeO.refl _)
   | (with_reducible exact LeO.none _)
   | (with_reducible refine LeO.ite ?_ ?_)
   | (with_reducible refine LeO.bind ?_ (fun _ => ?_))
   | exact ih0 _ _ _
   | exact laws_markText.mono _ _
   | exact LeO.none _
   | refine LeO.ite ?_ ?_
   | refine LeO.bind ?_ (fun _ => ?_)
theorem laws_heldSpotS.mono : ∀ a0 a1 k, LeO (laws_heldSpotS.f k a0 a1) (laws_heldSpotS.f (k + 1) a0 a1) := by
 intro a0 a1 k
 have ih0 := laws_heldSpotS.mono_l k
 unfold laws_heldSpotS.f
 repeat' first
   | (with_reducible exact ih0 _ _ _)
   | (with_reducible exact laws_markText.mono _ _)
   | (with_reducible exact LeO.refl _)
   | (with_reducible exact LeO.none _)
   | (with_reducible refine LeO.ite ?_ ?_)
   | (with_reducible refine LeO.bind ?_ (fun _ => ?_))
   | exact ih0 _ _ _
   | exact laws_markText.mono _ _
   | exact LeO.none _
   | refine LeO.ite ?_ ?_
   | refine LeO.bind ?_ (fun _ => ?_)
def laws_heldSpotS.T16 : Bool × List (List Nat × List Nat) := (true, [([], []), ([], []), ([0, 1], [0, 1]), ([2], [2]), ([3], [3]), ([4], [4]), ([], []), ([6], [6]), ([5, 7], [5, 7])])
def laws_heldSpotS.B16 : List Nat := [0, 0, 3, 7, 15, 31, 0, 64, 255]
theorem laws_heldSpotS.tab16 : rtab .any (opsOf Try.f22 16) = laws_heldSpotS.T16 := by kernel_rfl
theorem laws_heldSpotS.bits16 : waitsOk laws_heldSpotS.T16.2 laws_heldSpotS.B16 = true := by kernel_rfl
def laws_heldSpotS.T19 : Bool × List (List Nat × List Nat) := (true, [([], []), ([], []), ([0, 1], [0, 1]), ([2], [2]), ([3], [3]), ([4], [4]), ([], []), ([6], [6]), ([5, 7], [5, 7])])
def laws_heldSpotS.B19 : List Nat := [0, 0, 3, 7, 15, 31, 0, 64, 255]
theorem laws_heldSpotS.tab19 : rtab .any (opsOf Try.f22 19) = laws_heldSpotS.T19 := by kernel_rfl
theorem laws_heldSpotS.bits19 : waitsOk laws_heldSpotS.T19.2 laws_heldSpotS.B19 = true := by kernel_rfl
set_option maxHeartbeats 8000000 in
set_option maxRecDepth 100000 in
theorem laws_heldSpotS.calls (k : Nat) (A0 : Option Addr) (c0 : Nat) (l0 : List (S51)) (a1 : Int) (r : Int) (w : World) (hr0 : Kd.C k51 w A0 l0.length l0) (hc0 : l0.length ≤ c0) (h : laws_heldSpotS.f k l0 a1 = some r) :
  Calls Try.prog 22 #[.slice A0 l0.length c0, .int .i64 a1] w fun e w' => e = .returned (.int .i64 r) ∧ Below w.heap.size w w' := by
 have HR0 := Aside0.mk hr0
 have HC0 := Aside0.mk hc0
 clear hr0 hc0
 have HB := Aside0.mk (Below.refl w.heap.size w)
 have H : (laws_heldSpotS.l0 k l0 a1 0) = some r := h
 clear h
 have H' := Aside0.mk H
 clear H
 go_enter Try.func22, Try.ntmps22
 go_wp2
 go_loopg [1, 5] k (fun kq v1 v5 w' => ∃ (x1_1 : Int) (x5_1 : Int), v1 = .int .i64 x1_1 ∧ v5 = .int .i64 x5_1 ∧ Aside0 (laws_heldSpotS.l0 kq l0 x1_1 x5_1 = some r) ∧ Aside0 (kq ≤ k) ∧ Aside0 (Below w.heap.size w w'))
 case atStart => exact ⟨(a1), (0), rs_, rs_, H', ⟨Nat.le_refl _⟩, ⟨hb_ HB⟩⟩
 case round =>
  clear H'
  try clear c2
  try clear p2
  obtain ⟨x1_1, x5_1, rfl, rfl, HA, HK1, HB⟩ := hrel
  cases gk with
  | zero => exact absurd HA.out (by simp [laws_heldSpotS.l0])
  | succ k1 =>
   have H := HA.out
   clear HA
   simp only [laws_heldSpotS.l0] at H
   by_cases c3 : x5_1 < (l0.length : Int)
   ·rw [if_pos c3] at H
    have c3b0 : decide (x5_1 < (l0.length : Int)) = true := decide_eq_true c3
    clear c3
    by_cases c4 : 0 ≤ x5_1
    ·rw [if_pos c4] at H
     have c4b0 : decide (0 ≤ x5_1) = true := decide_eq_true c4
     clear c4
     by_cases c5 : ((rd_T51 l0 x5_1).f0) = x1_1
     ·rw [if_pos c5] at H
      have c5b0 : (((rd_T51 l0 x5_1).f0) == x1_1) = true := beq_iff_eq.mpr c5
      have c5b1 : (((rd_T51 l0 x5_1).f0) != x1_1) = false := bne_eq_false_iff_eq.mpr c5
      clear c5
      by_cases c6 : ((rd_T51 l0 x5_1).f1) = (wrap64 (x1_1 + 1))
      ·rw [if_pos c6] at H
       have c6b0 : (((rd_T51 l0 x5_1).f1) == (wrap64 (x1_1 + 1))) = true := beq_iff_eq.mpr c6
       have c6b1 : (((rd_T51 l0 x5_1).f1) != (wrap64 (x1_1 + 1))) = false := bne_eq_false_iff_eq.mpr c6
       clear c6
       by_cases c7 : ((rd_T51 l0 x5_1).f2.f0) = (wrap64 ((wrap64 (x1_1 + 1)) + 1))
       ·rw [if_pos c7] at H
        have c7b0 : (((rd_T51 l0 x5_1).f2.f0) == (wrap64 ((wrap64 (x1_1 + 1)) + 1))) = true := beq_iff_eq.mpr c7
        have c7b1 : (((rd_T51 l0 x5_1).f2.f0) != (wrap64 ((wrap64 (x1_1 + 1)) + 1))) = false := bne_eq_false_iff_eq.mpr c7
        clear c7
        by_cases c8 : ((rd_T51 l0 x5_1).f2.f1) = (wrap64 ((wrap64 ((wrap64 (x1_1 + 1)) + 1)) + 1))
        ·rw [if_pos c8] at H
         have c8b0 : (((rd_T51 l0 x5_1).f2.f1) == (wrap64 ((wrap64 ((wrap64 (x1_1 + 1)) + 1)) + 1))) = true := beq_iff_eq.mpr c8
         have c8b1 : (((rd_T51 l0 x5_1).f2.f1) != (wrap64 ((wrap64 ((wrap64 (x1_1 + 1)) + 1)) + 1))) = false := bne_eq_false_iff_eq.mpr c8
         clear c8
         replace H := Option.bind_eq_some_iff.mp H
         obtain ⟨t291, A90, H⟩ := H
         replace H : (if ((rd_T51 l0 x5_1).f2.f2).toList = t291.toList then ((laws_markText.f k1 (wrap64 ((wrap64 ((wrap64 ((wrap64 ((wrap64 (x1_1 + 1)) + 1)) + 1)) + 1)) + 1))).bind fun t293 => (if ((rd_T51 l0 x5_1).f2.f3).toList = t293.toList then (if ((rd_T51 l0 x5_1).f2.f4) = (wrap64 ((wrap64 ((wrap64 ((wrap64 ((wrap64 ((wrap64 (x1_1 + 1)) + 1)) + 1)) + 1)) + 1)) + 1)) then (if ((rd_T51 l0 x5_1).f2.f5) = (wrap64 ((wrap64 ((wrap64 ((wrap64 ((wrap64 ((wrap64 ((wrap64 (x1_1 + 1)) + 1)) + 1)) + 1)) + 1)) + 1)) + 1)) then (laws_heldSpotS.l0 k1 l0 (wrap64 ((wrap64 ((wrap64 ((wrap64 ((wrap64 ((wrap64 ((wrap64 ((wrap64 (x1_1 + 1)) + 1)) + 1)) + 1)) + 1)) + 1)) + 1)) + 1)) (wrap64 (x5_1 + 1))) else (some (-1))) else (some (-1))) else (some (-1)))) else (some (-1))) = some r := H
         have A9 := Aside0.mk A90
         clear A90
         by_cases c10 : ((rd_T51 l0 x5_1).f2.f2).toList = t291.toList
         ·rw [if_pos c10] at H
          have c10b0 : (((rd_T51 l0 x5_1).f2.f2).toList == t291.toList) = true := beq_iff_eq.mpr c10
          have c10b1 : (((rd_T51 l0 x5_1).f2.f2).toList != t291.toList) = false := bne_eq_false_iff_eq.mpr c10
          clear c10
          replace H := Option.bind_eq_some_iff.mp H
          obtain ⟨t293, A110, H⟩ := H
          replace H : (if ((rd_T51 l0 x5_1).f2.f3).toList = t293.toList then (if ((rd_T51 l0 x5_1).f2.f4) = (wrap64 ((wrap64 ((wrap64 ((wrap64 ((wrap64 ((wrap64 (x1_1 + 1)) + 1)) + 1)) + 1)) + 1)) + 1)) then (if ((rd_T51 l0 x5_1).f2.f5) = (wrap64 ((wrap64 ((wrap64 ((wrap64 ((wrap64 ((wrap64 ((wrap64 (x1_1 + 1)) + 1)) + 1)) + 1)) + 1)) + 1)) + 1)) then (laws_heldSpotS.l0 k1 l0 (wrap64 ((wrap64 ((wrap64 ((wrap64 ((wrap64 ((wrap64 ((wrap64 ((wrap64 (x1_1 + 1)) + 1)) + 1)) + 1)) + 1)) + 1)) + 1)) + 1)) (wrap64 (x5_1 + 1))) else (some (-1))) else (some (-1))) else (some (-1))) = some r := H
          have A11 := Aside0.mk A110
          clear A110
          by_cases c12 : ((rd_T51 l0 x5_1).f2.f3).toList = t293.toList
          ·rw [if_pos c12] at H
           have c12b0 : (((rd_T51 l0 x5_1).f2.f3).toList == t293.toList) = true := beq_iff_eq.mpr c12
           have c12b1 : (((rd_T51 l0 x5_1).f2.f3).toList != t293.toList) = false := bne_eq_false_iff_eq.mpr c12
           clear c12
           by_cases c13 : ((rd_T51 l0 x5_1).f2.f4) = (wrap64 ((wrap64 ((wrap64 ((wrap64 ((wrap64 ((wrap64 (x1_1 + 1)) + 1)) + 1)) + 1)) + 1)) + 1))
           ·rw [if_pos c13] at H
            have c13b0 : (((rd_T51 l0 x5_1).f2.f4) == (wrap64 ((wrap64 ((wrap64 ((wrap64 ((wrap64 ((wrap64 (x1_1 + 1)) + 1)) + 1)) + 1)) + 1)) + 1))) = true := beq_iff_eq.mpr c13
            have c13b1 : (((rd_T51 l0 x5_1).f2.f4) != (wrap64 ((wrap64 ((wrap64 ((wrap64 ((wrap64 ((wrap64 (x1_1 + 1)) + 1)) + 1)) + 1)) + 1)) + 1))) = false := bne_eq_false_iff_eq.mpr c13
            clear c13
            by_cases c14 : ((rd_T51 l0 x5_1).f2.f5) = (wrap64 ((wrap64 ((wrap64 ((wrap64 ((wrap64 ((wrap64 ((wrap64 (x1_1 + 1)) + 1)) + 1)) + 1)) + 1)) + 1)) + 1))
            ·rw [if_pos c14] at H
             have c14b0 : (((rd_T51 l0 x5_1).f2.f5) == (wrap64 ((wrap64 ((wrap64 ((wrap64 ((wrap64 ((wrap64 ((wrap64 (x1_1 + 1)) + 1)) + 1)) + 1)) + 1)) + 1)) + 1))) = true := beq_iff_eq.mpr c14
             have c14b1 : (((rd_T51 l0 x5_1).f2.f5) != (wrap64 ((wrap64 ((wrap64 ((wrap64 ((wrap64 ((wrap64 ((wrap64 (x1_1 + 1)) + 1)) + 1)) + 1)) + 1)) + 1)) + 1))) = false := bne_eq_false_iff_eq.mpr c14
             clear c14
             have H' := Aside0.mk H
             clear H
             have p286 : 0 ≤ (x5_1 : Int) := of_decide_eq_true as_
             have q286 : x5_1 < (l0.length : Int) := of_decide_eq_true as_
             obtain ⟨ad286, e286, hx286_0, hx286_1, hx286_2, hx286_3, hx286_4, hx286_5, hx286_6, hx286_7⟩ := at_T51 HR0.out x5_1 p286 q286
             cases e286
             replace hx286_0 := (HB.out.cell (World.block_lt_of_cell? w _ hx286_0)).trans hx286_0
             replace hx286_1 := (HB.out.cell (World.block_lt_of_cell? w _ hx286_1)).trans hx286_1
             replace hx286_2 := (HB.out.cell (World.block_lt_of_cell? w _ hx286_2)).trans hx286_2
             replace hx286_3 := (HB.out.cell (World.block_lt_of_cell? w _ hx286_3)).trans hx286_3
             replace hx286_4 := (HB.out.cell (World.block_lt_of_cell? w _ hx286_4)).trans hx286_4
             replace hx286_5 := (HB.out.cell (World.block_lt_of_cell? w _ hx286_5)).trans hx286_5
             replace hx286_6 := (HB.out.cell (World.block_lt_of_cell? w _ hx286_6)).trans hx286_6
             replace hx286_7 := (HB.out.cell (World.block_lt_of_cell? w _ hx286_7)).trans hx286_7
             replace p286 := eq_true p286
             replace q286 := eq_true q286
             have p287 : 0 ≤ (x5_1 : Int) := of_decide_eq_true as_
             have q287 : x5_1 < (l0.length : Int) := of_decide_eq_true as_
             obtain ⟨ad287, e287, hx287_0, hx287_1, hx287_2, hx287_3, hx287_4, hx287_5, hx287_6, hx287_7⟩ := at_T51 HR0.out x5_1 p287 q287
             obtain rfl : ad286 = ad287 := (by injection e287)
             replace hx287_0 := (HB.out.cell (World.block_lt_of_cell? w _ hx287_0)).trans hx287_0
             replace hx287_1 := (HB.out.cell (World.block_lt_of_cell? w _ hx287_1)).trans hx287_1
             replace hx287_2 := (HB.out.cell (World.block_lt_of_cell? w _ hx287_2)).trans hx287_2
             replace hx287_3 := (HB.out.cell (World.block_lt_of_cell? w _ hx287_3)).trans hx287_3
             replace hx287_4 := (HB.out.cell (World.block_lt_of_cell? w _ hx287_4)).trans hx287_4
             replace hx287_5 := (HB.out.cell (World.block_lt_of_cell? w _ hx287_5)).trans hx287_5
             replace hx287_6 := (HB.out.cell (World.block_lt_of_cell? w _ hx287_6)).trans hx287_6
             replace hx287_7 := (HB.out.cell (World.block_lt_of_cell? w _ hx287_7)).trans hx287_7
             replace p287 := eq_true p287
             replace q287 := eq_true q287
             have p288 : 0 ≤ (x5_1 : Int) := of_decide_eq_true as_
             have q288 : x5_1 < (l0.length : Int) := of_decide_eq_true as_
             obtain ⟨ad288, e288, hx288_0, hx288_1, hx288_2, hx288_3, hx288_4, hx288_5, hx288_6, hx288_7⟩ := at_T51 HR0.out x5_1 p288 q288
             obtain rfl : ad286 = ad288 := (by injection e288)
             replace hx288_0 := (HB.out.cell (World.block_lt_of_cell? w _ hx288_0)).trans hx288_0
             replace hx288_1 := (HB.out.cell (World.block_lt_of_cell? w _ hx288_1)).trans hx288_1
             replace hx288_2 := (HB.out.cell (World.block_lt_of_cell? w _ hx288_2)).trans hx288_2
             replace hx288_3 := (HB.out.cell (World.block_lt_of_cell? w _ hx288_3)).trans hx288_3
             replace hx288_4 := (HB.out.cell (World.block_lt_of_cell? w _ hx288_4)).trans hx288_4
             replace hx288_5 := (HB.out.cell (World.block_lt_of_cell? w _ hx288_5)).trans hx288_5
             replace hx288_6 := (HB.out.cell (World.block_lt_of_cell? w _ hx288_6)).trans hx288_6
             replace hx288_7 := (HB.out.cell (World.block_lt_of_cell? w _ hx288_7)).trans hx288_7
             replace p288 := eq_true p288
             replace q288 := eq_true q288
             have p289 : 0 ≤ (x5_1 : Int) := of_decide_eq_true as_
             have q289 : x5_1 < (l0.length : Int) := of_decide_eq_true as_
             obtain ⟨ad289, e289, hx289_0, hx289_1, hx289_2, hx289_3, hx289_4, hx289_5, hx289_6, hx289_7⟩ := at_T51 HR0.out x5_1 p289 q289
             obtain rfl : ad286 = ad289 := (by injection e289)
             replace hx289_0 := (HB.out.cell (World.block_lt_of_cell? w _ hx289_0)).trans hx289_0
             replace hx289_1 := (HB.out.cell (World.block_lt_of_cell? w _ hx289_1)).trans hx289_1
             replace hx289_2 := (HB.out.cell (World.block_lt_of_cell? w _ hx289_2)).trans hx289_2
             replace hx289_3 := (HB.out.cell (World.block_lt_of_cell? w _ hx289_3)).trans hx289_3
             replace hx289_4 := (HB.out.cell (World.block_lt_of_cell? w _ hx289_4)).trans hx289_4
             replace hx289_5 := (HB.out.cell (World.block_lt_of_cell? w _ hx289_5)).trans hx289_5
             replace hx289_6 := (HB.out.cell (World.block_lt_of_cell? w _ hx289_6)).trans hx289_6
             replace hx289_7 := (HB.out.cell (World.block_lt_of_cell? w _ hx289_7)).trans hx289_7
             replace p289 := eq_true p289
             replace q289 := eq_true q289
             try go_wp2
             have n0_ := Aside0.mk (below_drew1 HB.out)
             clear HB
             have HB := n0_
             clear n0_
             have p290 : 0 ≤ (x5_1 : Int) := of_decide_eq_true as_
             have q290 : x5_1 < (l0.length : Int) := of_decide_eq_true as_
             obtain ⟨ad290, e290, hx290_0, hx290_1, hx290_2, hx290_3, hx290_4, hx290_5, hx290_6, hx290_7⟩ := at_T51 HR0.out x5_1 p290 q290
             have hw290_7 := hx290_7
             have hw290_6 := hx290_6
             have hw290_5 := hx290_5
             have hw290_4 := hx290_4
             have hw290_3 := hx290_3
             have hw290_2 := hx290_2
             have hw290_1 := hx290_1
             have hw290_0 := hx290_0
             obtain rfl : ad286 = ad290 := (by injection e290)
             replace hx290_0 := (HB.out.cell (World.block_lt_of_cell? w _ hx290_0)).trans hx290_0
             replace hx290_1 := (HB.out.cell (World.block_lt_of_cell? w _ hx290_1)).trans hx290_1
             replace hx290_2 := (HB.out.cell (World.block_lt_of_cell? w _ hx290_2)).trans hx290_2
             replace hx290_3 := (HB.out.cell (World.block_lt_of_cell? w _ hx290_3)).trans hx290_3
             replace hx290_4 := (HB.out.cell (World.block_lt_of_cell? w _ hx290_4)).trans hx290_4
             replace hx290_5 := (HB.out.cell (World.block_lt_of_cell? w _ hx290_5)).trans hx290_5
             replace hx290_6 := (HB.out.cell (World.block_lt_of_cell? w _ hx290_6)).trans hx290_6
             replace hx290_7 := (HB.out.cell (World.block_lt_of_cell? w _ hx290_7)).trans hx290_7
             replace p290 := eq_true p290
             replace q290 := eq_true q290
             refine start_ (n := 9) (S := fun w' => w'.cell? (ad286.add ((x5_1).toNat * 8)) = some (.int .i64 ((rd_T51 l0 x5_1).f0)) ∧ w'.cell? ⟨(ad286.add ((x5_1).toNat * 8)).block, (ad286.add ((x5_1).toNat * 8)).off + 1, none⟩ = some (.int .i64 ((rd_T51 l0 x5_1).f1)) ∧ w'.cell? ⟨(ad286.add ((x5_1).toNat * 8)).block, (ad286.add ((x5_1).toNat * 8)).off + 2, none⟩ = some (.int .i64 ((rd_T51 l0 x5_1).f2.f0)) ∧ w'.cell? ⟨(ad286.add ((x5_1).toNat * 8)).block, (ad286.add ((x5_1).toNat * 8)).off + 3, none⟩ = some (.int .i64 ((rd_T51 l0 x5_1).f2.f1)) ∧ w'.cell? ⟨(ad286.add ((x5_1).toNat * 8)).block, (ad286.add ((x5_1).toNat * 8)).off + 4, none⟩ = some (.string ((rd_T51 l0 x5_1).f2.f2)) ∧ w'.cell? ⟨(ad286.add ((x5_1).toNat * 8)).block, (ad286.add ((x5_1).toNat * 8)).off + 5, none⟩ = some (.string ((rd_T51 l0 x5_1).f2.f3)) ∧ w'.cell? ⟨(ad286.add ((x5_1).toNat * 8)).block, (ad286.add ((x5_1).toNat * 8)).off + 6, none⟩ = some (.int .i64 ((rd_T51 l0 x5_1).f2.f4)) ∧ w'.cell? ⟨(ad286.add ((x5_1).toNat * 8)).block, (ad286.add ((x5_1).toNat * 8)).off + 7, none⟩ = some (.int .i64 ((rd_T51 l0 x5_1).f2.f5))) (ds := []) #[o',o',o',o',o',o',o',o',o'] (by kernel_rfl) rfl rfl ⟨((HB.out.cell (World.block_lt_of_cell? w _ hw290_0)).trans hw290_0), ((HB.out.cell (World.block_lt_of_cell? w _ hw290_1)).trans hw290_1), ((HB.out.cell (World.block_lt_of_cell? w _ hw290_2)).trans hw290_2), ((HB.out.cell (World.block_lt_of_cell? w _ hw290_3)).trans hw290_3), ((HB.out.cell (World.block_lt_of_cell? w _ hw290_4)).trans hw290_4), ((HB.out.cell (World.block_lt_of_cell? w _ hw290_5)).trans hw290_5), ((HB.out.cell (World.block_lt_of_cell? w _ hw290_6)).trans hw290_6), ((HB.out.cell (World.block_lt_of_cell? w _ hw290_7)).trans hw290_7)⟩ (fun hHeld => ?_); refine with_tabW laws_heldSpotS.tab16 laws_heldSpotS.bits16 (fun HT_ HW_ => ?_)
             generalize wr.drew = w15 at HB hx290_0 hx290_1 hx290_2 hx290_3 hx290_4 hx290_5 hx290_6 hx290_7 hHeld ⊢
             refine pure_ (i := 0) (N := some 50) (v := ?_) (a' := ?_) #[i',o',o',o',o',o',o',o',o'] rfl rfl (any_of HT_.out (by kernel_rfl)) (fun _ _ _ h => h) (Or.inl ⟨by rfl, ?_⟩) ?_ ?_
             rotate_left;·intro w';go_simp;with_reducible rfl
             rotate_left;·simp only [Act.put, la_, lz_, ls_, i64_w, i32_w];rfl
             refine pure_ (i := 1) (N := some 51) (v := ?_) (a' := ?_) #[i',i',o',o',o',o',o',o',o'] rfl rfl (any_of HT_.out (by kernel_rfl)) (fun _ _ _ h => h) (Or.inl ⟨by rfl, ?_⟩) ?_ ?_
             rotate_left;·intro w';go_simp;with_reducible rfl
             rotate_left;·simp only [Act.put, la_, lz_, ls_, i64_w, i32_w];rfl
             refine pure_ (i := 2) (N := some 52) (v := ?_) (a' := ?_) #[i',i',i',o',o',o',o',o',o'] rfl rfl (any_of HT_.out (by kernel_rfl)) (fun _ _ _ h => h) (Or.inl ⟨by rfl, ?_⟩) ?_ ?_
             rotate_left;·intro w';go_simp;with_reducible rfl
             rotate_left;·simp only [Act.put, la_, lz_, ls_, i64_w, i32_w];rfl
             refine pure_ (i := 3) (N := some 53) (v := ?_) (a' := ?_) #[i',i',i',i',o',o',o',o',o'] rfl rfl (any_of HT_.out (by kernel_rfl)) (fun _ _ _ h => h) (Or.inl ⟨by rfl, ?_⟩) ?_ ?_
             rotate_left;·intro w';go_simp;with_reducible rfl
             rotate_left;·simp only [Act.put, la_, lz_, ls_, i64_w, i32_w];rfl
             refine pure_ (i := 4) (N := some 54) (v := ?_) (a' := ?_) #[i',i',i',i',i',o',o',o',o'] rfl rfl (any_of HT_.out (by kernel_rfl)) (fun _ _ _ h => h) (Or.inl ⟨by rfl, ?_⟩) ?_ ?_
             rotate_left;·intro w';go_simp;with_reducible rfl
             rotate_left;·simp only [Act.put, la_, lz_, ls_, i64_w, i32_w];rfl
             refine pure_ (i := 6) (N := some 56) (v := ?_) (a' := ?_) #[i',i',i',i',i',o',i',o',o'] rfl rfl (any_of HT_.out (by kernel_rfl)) (fun _ _ _ h => h) (Or.inl ⟨by rfl, ?_⟩) ?_ ?_
             rotate_left;·intro w';go_simp;with_reducible rfl
             rotate_left;·simp only [Act.put, la_, lz_, ls_, i64_w, i32_w];rfl
             refine take_ (i := 5) (N := some 55) (v := ?_) (a' := ?_) #[i',i',i',i',i',i',i',o',o'] rfl rfl (take_ofW HT_.out HW_.out (by kernel_rfl)) (fun _ _ _ h => h) (Or.inl ⟨by rfl, ?_⟩) hHeld ?_ ?_
             rotate_left
             ·rintro w' ⟨s0, s1, s2, s3, s4, s5, s6, s7⟩
              go_simp
              with_reducible rfl
             rotate_left
             ·simp only [Act.put, la_, lz_, ls_, i64_w, i32_w]
              rfl
             refine one_ (i := 7) (N := some 57) #[i',i',i',i',i',i',i',i',o'] rfl rfl (one_of HT_.out (by kernel_rfl)) (by decide) (fun K hK => ?_)
             refine goes_ Try.func53 (by kernel_rfl) rfl #[.int .i64 (wrap64 ((wrap64 ((wrap64 ((wrap64 (x1_1 + 1)) + 1)) + 1)) + 1))] (by rfl) rfl rfl ar_ ?_
             with_reducible refine (laws_markText.calls k1 (wrap64 ((wrap64 ((wrap64 ((wrap64 (x1_1 + 1)) + 1)) + 1)) + 1)) t291 _ A9.out).mono ?_
             rintro e w16 ⟨rfl, hb⟩
             refine ⟨_, rfl, ?_⟩
             have n0_ := Aside0.mk (below_step (hb_ HB) hb)
             clear HB
             have HB := n0_
             clear n0_
             (try clear hb)
             (try clear hb2)
             (try clear hk)
             (try clear hi)
             refine hK.out _ _ ⟨((HB.out.cell (World.block_lt_of_cell? w _ hw290_0)).trans hw290_0), ((HB.out.cell (World.block_lt_of_cell? w _ hw290_1)).trans hw290_1), ((HB.out.cell (World.block_lt_of_cell? w _ hw290_2)).trans hw290_2), ((HB.out.cell (World.block_lt_of_cell? w _ hw290_3)).trans hw290_3), ((HB.out.cell (World.block_lt_of_cell? w _ hw290_4)).trans hw290_4), ((HB.out.cell (World.block_lt_of_cell? w _ hw290_5)).trans hw290_5), ((HB.out.cell (World.block_lt_of_cell? w _ hw290_6)).trans hw290_6), ((HB.out.cell (World.block_lt_of_cell? w _ hw290_7)).trans hw290_7)⟩ (fun hHeld => ?_)
             clear hK K
             refine norm_ (a' := ?_) ?_ ?_
             rotate_left
             ·show Act.put _ (some 57) _ = _
              simp only [Act.put, la_, lz_, ls_, i64_w, i32_w]
              rfl
             refine pure_ (i := 8) (N := some 58) (v := ?_) (a' := ?_) #[i',i',i',i',i',i',i',i',i'] rfl rfl (any_of HT_.out (by kernel_rfl)) (fun _ _ _ h => h) (Or.inl ⟨by rfl, ?_⟩) ?_ ?_
             rotate_left;·intro w';go_simp;with_reducible rfl
             rotate_left;·simp only [Act.put, la_, lz_, ls_, i64_w, i32_w];rfl
             refine done_ (done_of HT_.out (by kernel_rfl)) ?_
             try go_wp2
             have n0_ := Aside0.mk (below_drew1 HB.out)
             clear HB
             have HB := n0_
             clear n0_
             have p292 : 0 ≤ (x5_1 : Int) := of_decide_eq_true as_
             have q292 : x5_1 < (l0.length : Int) := of_decide_eq_true as_
             obtain ⟨ad292, e292, hx292_0, hx292_1, hx292_2, hx292_3, hx292_4, hx292_5, hx292_6, hx292_7⟩ := at_T51 HR0.out x5_1 p292 q292
             have hw292_7 := hx292_7
             have hw292_6 := hx292_6
             have hw292_5 := hx292_5
             have hw292_4 := hx292_4
             have hw292_3 := hx292_3
             have hw292_2 := hx292_2
             have hw292_1 := hx292_1
             have hw292_0 := hx292_0
             obtain rfl : ad286 = ad292 := (by injection e292)
             replace hx292_0 := (HB.out.cell (World.block_lt_of_cell? w _ hx292_0)).trans hx292_0
             replace hx292_1 := (HB.out.cell (World.block_lt_of_cell? w _ hx292_1)).trans hx292_1
             replace hx292_2 := (HB.out.cell (World.block_lt_of_cell? w _ hx292_2)).trans hx292_2
             replace hx292_3 := (HB.out.cell (World.block_lt_of_cell? w _ hx292_3)).trans hx292_3
             replace hx292_4 := (HB.out.cell (World.block_lt_of_cell? w _ hx292_4)).trans hx292_4
             replace hx292_5 := (HB.out.cell (World.block_lt_of_cell? w _ hx292_5)).trans hx292_5
             replace hx292_6 := (HB.out.cell (World.block_lt_of_cell? w _ hx292_6)).trans hx292_6
             replace hx292_7 := (HB.out.cell (World.block_lt_of_cell? w _ hx292_7)).trans hx292_7
             replace p292 := eq_true p292
             replace q292 := eq_true q292
             refine start_ (n := 9) (S := fun w' => w'.cell? (ad286.add ((x5_1).toNat * 8)) = some (.int .i64 ((rd_T51 l0 x5_1).f0)) ∧ w'.cell? ⟨(ad286.add ((x5_1).toNat * 8)).block, (ad286.add ((x5_1).toNat * 8)).off + 1, none⟩ = some (.int .i64 ((rd_T51 l0 x5_1).f1)) ∧ w'.cell? ⟨(ad286.add ((x5_1).toNat * 8)).block, (ad286.add ((x5_1).toNat * 8)).off + 2, none⟩ = some (.int .i64 ((rd_T51 l0 x5_1).f2.f0)) ∧ w'.cell? ⟨(ad286.add ((x5_1).toNat * 8)).block, (ad286.add ((x5_1).toNat * 8)).off + 3, none⟩ = some (.int .i64 ((rd_T51 l0 x5_1).f2.f1)) ∧ w'.cell? ⟨(ad286.add ((x5_1).toNat * 8)).block, (ad286.add ((x5_1).toNat * 8)).off + 4, none⟩ = some (.string ((rd_T51 l0 x5_1).f2.f2)) ∧ w'.cell? ⟨(ad286.add ((x5_1).toNat * 8)).block, (ad286.add ((x5_1).toNat * 8)).off + 5, none⟩ = some (.string ((rd_T51 l0 x5_1).f2.f3)) ∧ w'.cell? ⟨(ad286.add ((x5_1).toNat * 8)).block, (ad286.add ((x5_1).toNat * 8)).off + 6, none⟩ = some (.int .i64 ((rd_T51 l0 x5_1).f2.f4)) ∧ w'.cell? ⟨(ad286.add ((x5_1).toNat * 8)).block, (ad286.add ((x5_1).toNat * 8)).off + 7, none⟩ = some (.int .i64 ((rd_T51 l0 x5_1).f2.f5))) (ds := []) #[o',o',o',o',o',o',o',o',o'] (by kernel_rfl) rfl rfl ⟨((HB.out.cell (World.block_lt_of_cell? w _ hw292_0)).trans hw292_0), ((HB.out.cell (World.block_lt_of_cell? w _ hw292_1)).trans hw292_1), ((HB.out.cell (World.block_lt_of_cell? w _ hw292_2)).trans hw292_2), ((HB.out.cell (World.block_lt_of_cell? w _ hw292_3)).trans hw292_3), ((HB.out.cell (World.block_lt_of_cell? w _ hw292_4)).trans hw292_4), ((HB.out.cell (World.block_lt_of_cell? w _ hw292_5)).trans hw292_5), ((HB.out.cell (World.block_lt_of_cell? w _ hw292_6)).trans hw292_6), ((HB.out.cell (World.block_lt_of_cell? w _ hw292_7)).trans hw292_7)⟩ (fun hHeld => ?_); refine with_tabW laws_heldSpotS.tab19 laws_heldSpotS.bits19 (fun HT_ HW_ => ?_)
             generalize w16.drew = w17 at HB hx292_0 hx292_1 hx292_2 hx292_3 hx292_4 hx292_5 hx292_6 hx292_7 hHeld ⊢
             refine pure_ (i := 0) (N := some 61) (v := ?_) (a' := ?_) #[i',o',o',o',o',o',o',o',o'] rfl rfl (any_of HT_.out (by kernel_rfl)) (fun _ _ _ h => h) (Or.inl ⟨by rfl, ?_⟩) ?_ ?_
             rotate_left;·intro w';go_simp;with_reducible rfl
             rotate_left;·simp only [Act.put, la_, lz_, ls_, i64_w, i32_w];rfl
             refine pure_ (i := 1) (N := some 62) (v := ?_) (a' := ?_) #[i',i',o',o',o',o',o',o',o'] rfl rfl (any_of HT_.out (by kernel_rfl)) (fun _ _ _ h => h) (Or.inl ⟨by rfl, ?_⟩) ?_ ?_
             rotate_left;·intro w';go_simp;with_reducible rfl
             rotate_left;·simp only [Act.put, la_, lz_, ls_, i64_w, i32_w];rfl
             refine pure_ (i := 2) (N := some 63) (v := ?_) (a' := ?_) #[i',i',i',o',o',o',o',o',o'] rfl rfl (any_of HT_.out (by kernel_rfl)) (fun _ _ _ h => h) (Or.inl ⟨by rfl, ?_⟩) ?_ ?_
             rotate_left;·intro w';go_simp;with_reducible rfl
             rotate_left;·simp only [Act.put, la_, lz_, ls_, i64_w, i32_w];rfl
             refine pure_ (i := 3) (N := some 64) (v := ?_) (a' := ?_) #[i',i',i',i',o',o',o',o',o'] rfl rfl (any_of HT_.out (by kernel_rfl)) (fun _ _ _ h => h) (Or.inl ⟨by rfl, ?_⟩) ?_ ?_
             rotate_left;·intro w';go_simp;with_reducible rfl
             rotate_left;·simp only [Act.put, la_, lz_, ls_, i64_w, i32_w];rfl
             refine pure_ (i := 4) (N := some 65) (v := ?_) (a' := ?_) #[i',i',i',i',i',o',o',o',o'] rfl rfl (any_of HT_.out (by kernel_rfl)) (fun _ _ _ h => h) (Or.inl ⟨by rfl, ?_⟩) ?_ ?_
             rotate_left;·intro w';go_simp;with_reducible rfl
             rotate_left;·simp only [Act.put, la_, lz_, ls_, i64_w, i32_w];rfl
             refine pure_ (i := 6) (N := some 67) (v := ?_) (a' := ?_) #[i',i',i',i',i',o',i',o',o'] rfl rfl (any_of HT_.out (by kernel_rfl)) (fun _ _ _ h => h) (Or.inl ⟨by rfl, ?_⟩) ?_ ?_
             rotate_left;·intro w';go_simp;with_reducible rfl
             rotate_left;·simp only [Act.put, la_, lz_, ls_, i64_w, i32_w];rfl
             refine take_ (i := 5) (N := some 66) (v := ?_) (a' := ?_) #[i',i',i',i',i',i',i',o',o'] rfl rfl (take_ofW HT_.out HW_.out (by kernel_rfl)) (fun _ _ _ h => h) (Or.inl ⟨by rfl, ?_⟩) hHeld ?_ ?_
             rotate_left
             ·rintro w' ⟨s0, s1, s2, s3, s4, s5, s6, s7⟩
              go_simp
              with_reducible rfl
             rotate_left
             ·simp only [Act.put, la_, lz_, ls_, i64_w, i32_w]
              rfl
             refine one_ (i := 7) (N := some 68) #[i',i',i',i',i',i',i',i',o'] rfl rfl (one_of HT_.out (by kernel_rfl)) (by decide) (fun K hK => ?_)
             refine goes_ Try.func53 (by kernel_rfl) rfl #[.int .i64 (wrap64 ((wrap64 ((wrap64 ((wrap64 ((wrap64 (x1_1 + 1)) + 1)) + 1)) + 1)) + 1))] (by rfl) rfl rfl ar_ ?_
             with_reducible refine (laws_markText.calls k1 (wrap64 ((wrap64 ((wrap64 ((wrap64 ((wrap64 (x1_1 + 1)) + 1)) + 1)) + 1)) + 1)) t293 _ A11.out).mono ?_
             rintro e w18 ⟨rfl, hb⟩
             refine ⟨_, rfl, ?_⟩
             have n0_ := Aside0.mk (below_step (hb_ HB) hb)
             clear HB
             have HB := n0_
             clear n0_
             (try clear hb)
             (try clear hb2)
             (try clear hk)
             (try clear hi)
             refine hK.out _ _ ⟨((HB.out.cell (World.block_lt_of_cell? w _ hw292_0)).trans hw292_0), ((HB.out.cell (World.block_lt_of_cell? w _ hw292_1)).trans hw292_1), ((HB.out.cell (World.block_lt_of_cell? w _ hw292_2)).trans hw292_2), ((HB.out.cell (World.block_lt_of_cell? w _ hw292_3)).trans hw292_3), ((HB.out.cell (World.block_lt_of_cell? w _ hw292_4)).trans hw292_4), ((HB.out.cell (World.block_lt_of_cell? w _ hw292_5)).trans hw292_5), ((HB.out.cell (World.block_lt_of_cell? w _ hw292_6)).trans hw292_6), ((HB.out.cell (World.block_lt_of_cell? w _ hw292_7)).trans hw292_7)⟩ (fun hHeld => ?_)
             clear hK K
             refine norm_ (a' := ?_) ?_ ?_
             rotate_left
             ·show Act.put _ (some 68) _ = _
              simp only [Act.put, la_, lz_, ls_, i64_w, i32_w]
              rfl
             refine pure_ (i := 8) (N := some 69) (v := ?_) (a' := ?_) #[i',i',i',i',i',i',i',i',i'] rfl rfl (any_of HT_.out (by kernel_rfl)) (fun _ _ _ h => h) (Or.inl ⟨by rfl, ?_⟩) ?_ ?_
             rotate_left;·intro w';go_simp;with_reducible rfl
             rotate_left;·simp only [Act.put, la_, lz_, ls_, i64_w, i32_w];rfl
             refine done_ (done_of HT_.out (by kernel_rfl)) ?_
             have p294 : 0 ≤ (x5_1 : Int) := of_decide_eq_true as_
             have q294 : x5_1 < (l0.length : Int) := of_decide_eq_true as_
             obtain ⟨ad294, e294, hx294_0, hx294_1, hx294_2, hx294_3, hx294_4, hx294_5, hx294_6, hx294_7⟩ := at_T51 HR0.out x5_1 p294 q294
             obtain rfl : ad286 = ad294 := (by injection e294)
             replace hx294_0 := (HB.out.cell (World.block_lt_of_cell? w _ hx294_0)).trans hx294_0
             replace hx294_1 := (HB.out.cell (World.block_lt_of_cell? w _ hx294_1)).trans hx294_1
             replace hx294_2 := (HB.out.cell (World.block_lt_of_cell? w _ hx294_2)).trans hx294_2
             replace hx294_3 := (HB.out.cell (World.block_lt_of_cell? w _ hx294_3)).trans hx294_3
             replace hx294_4 := (HB.out.cell (World.block_lt_of_cell? w _ hx294_4)).trans hx294_4
             replace hx294_5 := (HB.out.cell (World.block_lt_of_cell? w _ hx294_5)).trans hx294_5
             replace hx294_6 := (HB.out.cell (World.block_lt_of_cell? w _ hx294_6)).trans hx294_6
             replace hx294_7 := (HB.out.cell (World.block_lt_of_cell? w _ hx294_7)).trans hx294_7
             replace p294 := eq_true p294
             replace q294 := eq_true q294
             have p295 : 0 ≤ (x5_1 : Int) := of_decide_eq_true as_
             have q295 : x5_1 < (l0.length : Int) := of_decide_eq_true as_
             obtain ⟨ad295, e295, hx295_0, hx295_1, hx295_2, hx295_3, hx295_4, hx295_5, hx295_6, hx295_7⟩ := at_T51 HR0.out x5_1 p295 q295
             obtain rfl : ad286 = ad295 := (by injection e295)
             replace hx295_0 := (HB.out.cell (World.block_lt_of_cell? w _ hx295_0)).trans hx295_0
             replace hx295_1 := (HB.out.cell (World.block_lt_of_cell? w _ hx295_1)).trans hx295_1
             replace hx295_2 := (HB.out.cell (World.block_lt_of_cell? w _ hx295_2)).trans hx295_2
             replace hx295_3 := (HB.out.cell (World.block_lt_of_cell? w _ hx295_3)).trans hx295_3
             replace hx295_4 := (HB.out.cell (World.block_lt_of_cell? w _ hx295_4)).trans hx295_4
             replace hx295_5 := (HB.out.cell (World.block_lt_of_cell? w _ hx295_5)).trans hx295_5
             replace hx295_6 := (HB.out.cell (World.block_lt_of_cell? w _ hx295_6)).trans hx295_6
             replace hx295_7 := (HB.out.cell (World.block_lt_of_cell? w _ hx295_7)).trans hx295_7
             replace p295 := eq_true p295
             replace q295 := eq_true q295
             try go_wp2
             go_roundg k1
             case measure => have := HK1.out; first | exact this | exact Nat.le_of_succ_le this | exact Nat.le_refl _ | omega
             case rel => exact ⟨(wrap64 ((wrap64 ((wrap64 ((wrap64 ((wrap64 ((wrap64 ((wrap64 ((wrap64 (x1_1 + 1)) + 1)) + 1)) + 1)) + 1)) + 1)) + 1)) + 1)), (wrap64 (x5_1 + 1)), rs_, rs_, H', ⟨by have := HK1.out; first | exact this | exact Nat.le_of_succ_le this | exact Nat.le_refl _ | omega⟩, ⟨hb_ HB⟩⟩
            ·rw [if_neg c14] at H
             have c14b0 : (((rd_T51 l0 x5_1).f2.f5) == (wrap64 ((wrap64 ((wrap64 ((wrap64 ((wrap64 ((wrap64 ((wrap64 (x1_1 + 1)) + 1)) + 1)) + 1)) + 1)) + 1)) + 1))) = false := beq_eq_false_iff_ne.mpr c14
             have c14b1 : (((rd_T51 l0 x5_1).f2.f5) != (wrap64 ((wrap64 ((wrap64 ((wrap64 ((wrap64 ((wrap64 ((wrap64 (x1_1 + 1)) + 1)) + 1)) + 1)) + 1)) + 1)) + 1))) = true := bne_iff_ne.mpr c14
             obtain rfl := Option.some.inj H
             have p286 : 0 ≤ (x5_1 : Int) := of_decide_eq_true as_
             have q286 : x5_1 < (l0.length : Int) := of_decide_eq_true as_
             obtain ⟨ad286, e286, hx286_0, hx286_1, hx286_2, hx286_3, hx286_4, hx286_5, hx286_6, hx286_7⟩ := at_T51 HR0.out x5_1 p286 q286
             cases e286
             replace hx286_0 := (HB.out.cell (World.block_lt_of_cell? w _ hx286_0)).trans hx286_0
             replace hx286_1 := (HB.out.cell (World.block_lt_of_cell? w _ hx286_1)).trans hx286_1
             replace hx286_2 := (HB.out.cell (World.block_lt_of_cell? w _ hx286_2)).trans hx286_2
             replace hx286_3 := (HB.out.cell (World.block_lt_of_cell? w _ hx286_3)).trans hx286_3
             replace hx286_4 := (HB.out.cell (World.block_lt_of_cell? w _ hx286_4)).trans hx286_4
             replace hx286_5 := (HB.out.cell (World.block_lt_of_cell? w _ hx286_5)).trans hx286_5
             replace hx286_6 := (HB.out.cell (World.block_lt_of_cell? w _ hx286_6)).trans hx286_6
             replace hx286_7 := (HB.out.cell (World.block_lt_of_cell? w _ hx286_7)).trans hx286_7
             replace p286 := eq_true p286
             replace q286 := eq_true q286
             have p287 : 0 ≤ (x5_1 : Int) := of_decide_eq_true as_
             have q287 : x5_1 < (l0.length : Int) := of_decide_eq_true as_
             obtain ⟨ad287, e287, hx287_0, hx287_1, hx287_2, hx287_3, hx287_4, hx287_5, hx287_6, hx287_7⟩ := at_T51 HR0.out x5_1 p287 q287
             obtain rfl : ad286 = ad287 := (by injection e287)
             replace hx287_0 := (HB.out.cell (World.block_lt_of_cell? w _ hx287_0)).trans hx287_0
             replace hx287_1 := (HB.out.cell (World.block_lt_of_cell? w _ hx287_1)).trans hx287_1
             replace hx287_2 := (HB.out.cell (World.block_lt_of_cell? w _ hx287_2)).trans hx287_2
             replace hx287_3 := (HB.out.cell (World.block_lt_of_cell? w _ hx287_3)).trans hx287_3
             replace hx287_4 := (HB.out.cell (World.block_lt_of_cell? w _ hx287_4)).trans hx287_4
             replace hx287_5 := (HB.out.cell (World.block_lt_of_cell? w _ hx287_5)).trans hx287_5
             replace hx287_6 := (HB.out.cell (World.block_lt_of_cell? w _ hx287_6)).trans hx287_6
             replace hx287_7 := (HB.out.cell (World.block_lt_of_cell? w _ hx287_7)).trans hx287_7
             replace p287 := eq_true p287
             replace q287 := eq_true q287
             have p288 : 0 ≤ (x5_1 : Int) := of_decide_eq_true as_
             have q288 : x5_1 < (l0.length : Int) := of_decide_eq_true as_
             obtain ⟨ad288, e288, hx288_0, hx288_1, hx288_2, hx288_3, hx288_4, hx288_5, hx288_6, hx288_7⟩ := at_T51 HR0.out x5_1 p288 q288
             obtain rfl : ad286 = ad288 := (by injection e288)
             replace hx288_0 := (HB.out.cell (World.block_lt_of_cell? w _ hx288_0)).trans hx288_0
             replace hx288_1 := (HB.out.cell (World.block_lt_of_cell? w _ hx288_1)).trans hx288_1
             replace hx288_2 := (HB.out.cell (World.block_lt_of_cell? w _ hx288_2)).trans hx288_2
             replace hx288_3 := (HB.out.cell (World.block_lt_of_cell? w _ hx288_3)).trans hx288_3
             replace hx288_4 := (HB.out.cell (World.block_lt_of_cell? w _ hx288_4)).trans hx288_4
             replace hx288_5 := (HB.out.cell (World.block_lt_of_cell? w _ hx288_5)).trans hx288_5
             replace hx288_6 := (HB.out.cell (World.block_lt_of_cell? w _ hx288_6)).trans hx288_6
             replace hx288_7 := (HB.out.cell (World.block_lt_of_cell? w _ hx288_7)).trans hx288_7
             replace p288 := eq_true p288
             replace q288 := eq_true q288
             have p289 : 0 ≤ (x5_1 : Int) := of_decide_eq_true as_
             have q289 : x5_1 < (l0.length : Int) := of_decide_eq_true as_
             obtain ⟨ad289, e289, hx289_0, hx289_1, hx289_2, hx289_3, hx289_4, hx289_5, hx289_6, hx289_7⟩ := at_T51 HR0.out x5_1 p289 q289
             obtain rfl : ad286 = ad289 := (by injection e289)
             replace hx289_0 := (HB.out.cell (World.block_lt_of_cell? w _ hx289_0)).trans hx289_0
             replace hx289_1 := (HB.out.cell (World.block_lt_of_cell? w _ hx289_1)).trans hx289_1
             replace hx289_2 := (HB.out.cell (World.block_lt_of_cell? w _ hx289_2)).trans hx289_2
             replace hx289_3 := (HB.out.cell (World.block_lt_of_cell? w _ hx289_3)).trans hx289_3
             replace hx289_4 := (HB.out.cell (World.block_lt_of_cell? w _ hx289_4)).trans hx289_4
             replace hx289_5 := (HB.out.cell (World.block_lt_of_cell? w _ hx289_5)).trans hx289_5
             replace hx289_6 := (HB.out.cell (World.block_lt_of_cell? w _ hx289_6)).trans hx289_6
             replace hx289_7 := (HB.out.cell (World.block_lt_of_cell? w _ hx289_7)).trans hx289_7
             replace p289 := eq_true p289
             replace q289 := eq_true q289
             try go_wp2
             have n0_ := Aside0.mk (below_drew1 HB.out)
             clear HB
             have HB := n0_
             clear n0_
             have p290 : 0 ≤ (x5_1 : Int) := of_decide_eq_true as_
             have q290 : x5_1 < (l0.length : Int) := of_decide_eq_true as_
             obtain ⟨ad290, e290, hx290_0, hx290_1, hx290_2, hx290_3, hx290_4, hx290_5, hx290_6, hx290_7⟩ := at_T51 HR0.out x5_1 p290 q290
             have hw290_7 := hx290_7
             have hw290_6 := hx290_6
             have hw290_5 := hx290_5
             have hw290_4 := hx290_4
             have hw290_3 := hx290_3
             have hw290_2 := hx290_2
             have hw290_1 := hx290_1
             have hw290_0 := hx290_0
             obtain rfl : ad286 = ad290 := (by injection e290)
             replace hx290_0 := (HB.out.cell (World.block_lt_of_cell? w _ hx290_0)).trans hx290_0
             replace hx290_1 := (HB.out.cell (World.block_lt_of_cell? w _ hx290_1)).trans hx290_1
             replace hx290_2 := (HB.out.cell (World.block_lt_of_cell? w _ hx290_2)).trans hx290_2
             replace hx290_3 := (HB.out.cell (World.block_lt_of_cell? w _ hx290_3)).trans hx290_3
             replace hx290_4 := (HB.out.cell (World.block_lt_of_cell? w _ hx290_4)).trans hx290_4
             replace hx290_5 := (HB.out.cell (World.block_lt_of_cell? w _ hx290_5)).trans hx290_5
             replace hx290_6 := (HB.out.cell (World.block_lt_of_cell? w _ hx290_6)).trans hx290_6
             replace hx290_7 := (HB.out.cell (World.block_lt_of_cell? w _ hx290_7)).trans hx290_7
             replace p290 := eq_true p290
             replace q290 := eq_true q290
             refine start_ (n := 9) (S := fun w' => w'.cell? (ad286.add ((x5_1).toNat * 8)) = some (.int .i64 ((rd_T51 l0 x5_1).f0)) ∧ w'.cell? ⟨(ad286.add ((x5_1).toNat * 8)).block, (ad286.add ((x5_1).toNat * 8)).off + 1, none⟩ = some (.int .i64 ((rd_T51 l0 x5_1).f1)) ∧ w'.cell? ⟨(ad286.add ((x5_1).toNat * 8)).block, (ad286.add ((x5_1).toNat * 8)).off + 2, none⟩ = some (.int .i64 ((rd_T51 l0 x5_1).f2.f0)) ∧ w'.cell? ⟨(ad286.add ((x5_1).toNat * 8)).block, (ad286.add ((x5_1).toNat * 8)).off + 3, none⟩ = some (.int .i64 ((rd_T51 l0 x5_1).f2.f1)) ∧ w'.cell? ⟨(ad286.add ((x5_1).toNat * 8)).block, (ad286.add ((x5_1).toNat * 8)).off + 4, none⟩ = some (.string ((rd_T51 l0 x5_1).f2.f2)) ∧ w'.cell? ⟨(ad286.add ((x5_1).toNat * 8)).block, (ad286.add ((x5_1).toNat * 8)).off + 5, none⟩ = some (.string ((rd_T51 l0 x5_1).f2.f3)) ∧ w'.cell? ⟨(ad286.add ((x5_1).toNat * 8)).block, (ad286.add ((x5_1).toNat * 8)).off + 6, none⟩ = some (.int .i64 ((rd_T51 l0 x5_1).f2.f4)) ∧ w'.cell? ⟨(ad286.add ((x5_1).toNat * 8)).block, (ad286.add ((x5_1).toNat * 8)).off + 7, none⟩ = some (.int .i64 ((rd_T51 l0 x5_1).f2.f5))) (ds := []) #[o',o',o',o',o',o',o',o',o'] (by kernel_rfl) rfl rfl ⟨((HB.out.cell (World.block_lt_of_cell? w _ hw290_0)).trans hw290_0), ((HB.out.cell (World.block_lt_of_cell? w _ hw290_1)).trans hw290_1), ((HB.out.cell (World.block_lt_of_cell? w _ hw290_2)).trans hw290_2), ((HB.out.cell (World.block_lt_of_cell? w _ hw290_3)).trans hw290_3), ((HB.out.cell (World.block_lt_of_cell? w _ hw290_4)).trans hw290_4), ((HB.out.cell (World.block_lt_of_cell? w _ hw290_5)).trans hw290_5), ((HB.out.cell (World.block_lt_of_cell? w _ hw290_6)).trans hw290_6), ((HB.out.cell (World.block_lt_of_cell? w _ hw290_7)).trans hw290_7)⟩ (fun hHeld => ?_); refine with_tabW laws_heldSpotS.tab16 laws_heldSpotS.bits16 (fun HT_ HW_ => ?_)
             generalize wr.drew = w19 at HB hx290_0 hx290_1 hx290_2 hx290_3 hx290_4 hx290_5 hx290_6 hx290_7 hHeld ⊢
             refine pure_ (i := 0) (N := some 50) (v := ?_) (a' := ?_) #[i',o',o',o',o',o',o',o',o'] rfl rfl (any_of HT_.out (by kernel_rfl)) (fun _ _ _ h => h) (Or.inl ⟨by rfl, ?_⟩) ?_ ?_
             rotate_left;·intro w';go_simp;with_reducible rfl
             rotate_left;·simp only [Act.put, la_, lz_, ls_, i64_w, i32_w];rfl
             refine pure_ (i := 1) (N := some 51) (v := ?_) (a' := ?_) #[i',i',o',o',o',o',o',o',o'] rfl rfl (any_of HT_.out (by kernel_rfl)) (fun _ _ _ h => h) (Or.inl ⟨by rfl, ?_⟩) ?_ ?_
             rotate_left;·intro w';go_simp;with_reducible rfl
             rotate_left;·simp only [Act.put, la_, lz_, ls_, i64_w, i32_w];rfl
             refine pure_ (i := 2) (N := some 52) (v := ?_) (a' := ?_) #[i',i',i',o',o',o',o',o',o'] rfl rfl (any_of HT_.out (by kernel_rfl)) (fun _ _ _ h => h) (Or.inl ⟨by rfl, ?_⟩) ?_ ?_
             rotate_left;·intro w';go_simp;with_reducible rfl
             rotate_left;·simp only [Act.put, la_, lz_, ls_, i64_w, i32_w];rfl
             refine pure_ (i := 3) (N := some 53) (v := ?_) (a' := ?_) #[i',i',i',i',o',o',o',o',o'] rfl rfl (any_of HT_.out (by kernel_rfl)) (fun _ _ _ h => h) (Or.inl ⟨by rfl, ?_⟩) ?_ ?_
             rotate_left;·intro w';go_simp;with_reducible rfl
             rotate_left;·simp only [Act.put, la_, lz_, ls_, i64_w, i32_w];rfl
             refine pure_ (i := 4) (N := some 54) (v := ?_) (a' := ?_) #[i',i',i',i',i',o',o',o',o'] rfl rfl (any_of HT_.out (by kernel_rfl)) (fun _ _ _ h => h) (Or.inl ⟨by rfl, ?_⟩) ?_ ?_
             rotate_left;·intro w';go_simp;with_reducible rfl
             rotate_left;·simp only [Act.put, la_, lz_, ls_, i64_w, i32_w];rfl
             refine pure_ (i := 6) (N := some 56) (v := ?_) (a' := ?_) #[i',i',i',i',i',o',i',o',o'] rfl rfl (any_of HT_.out (by kernel_rfl)) (fun _ _ _ h => h) (Or.inl ⟨by rfl, ?_⟩) ?_ ?_
             rotate_left;·intro w';go_simp;with_reducible rfl
             rotate_left;·simp only [Act.put, la_, lz_, ls_, i64_w, i32_w];rfl
             refine take_ (i := 5) (N := some 55) (v := ?_) (a' := ?_) #[i',i',i',i',i',i',i',o',o'] rfl rfl (take_ofW HT_.out HW_.out (by kernel_rfl)) (fun _ _ _ h => h) (Or.inl ⟨by rfl, ?_⟩) hHeld ?_ ?_
             rotate_left
             ·rintro w' ⟨s0, s1, s2, s3, s4, s5, s6, s7⟩
              go_simp
              with_reducible rfl
             rotate_left
             ·simp only [Act.put, la_, lz_, ls_, i64_w, i32_w]
              rfl
             refine one_ (i := 7) (N := some 57) #[i',i',i',i',i',i',i',i',o'] rfl rfl (one_of HT_.out (by kernel_rfl)) (by decide) (fun K hK => ?_)
             refine goes_ Try.func53 (by kernel_rfl) rfl #[.int .i64 (wrap64 ((wrap64 ((wrap64 ((wrap64 (x1_1 + 1)) + 1)) + 1)) + 1))] (by rfl) rfl rfl ar_ ?_
             with_reducible refine (laws_markText.calls k1 (wrap64 ((wrap64 ((wrap64 ((wrap64 (x1_1 + 1)) + 1)) + 1)) + 1)) t291 _ A9.out).mono ?_
             rintro e w20 ⟨rfl, hb⟩
             refine ⟨_, rfl, ?_⟩
             have n0_ := Aside0.mk (below_step (hb_ HB) hb)
             clear HB
             have HB := n0_
             clear n0_
             (try clear hb)
             (try clear hb2)
             (try clear hk)
             (try clear hi)
             refine hK.out _ _ ⟨((HB.out.cell (World.block_lt_of_cell? w _ hw290_0)).trans hw290_0), ((HB.out.cell (World.block_lt_of_cell? w _ hw290_1)).trans hw290_1), ((HB.out.cell (World.block_lt_of_cell? w _ hw290_2)).trans hw290_2), ((HB.out.cell (World.block_lt_of_cell? w _ hw290_3)).trans hw290_3), ((HB.out.cell (World.block_lt_of_cell? w _ hw290_4)).trans hw290_4), ((HB.out.cell (World.block_lt_of_cell? w _ hw290_5)).trans hw290_5), ((HB.out.cell (World.block_lt_of_cell? w _ hw290_6)).trans hw290_6), ((HB.out.cell (World.block_lt_of_cell? w _ hw290_7)).trans hw290_7)⟩ (fun hHeld => ?_)
             clear hK K
             refine norm_ (a' := ?_) ?_ ?_
             rotate_left
             ·show Act.put _ (some 57) _ = _
              simp only [Act.put, la_, lz_, ls_, i64_w, i32_w]
              rfl
             refine pure_ (i := 8) (N := some 58) (v := ?_) (a' := ?_) #[i',i',i',i',i',i',i',i',i'] rfl rfl (any_of HT_.out (by kernel_rfl)) (fun _ _ _ h => h) (Or.inl ⟨by rfl, ?_⟩) ?_ ?_
             rotate_left;·intro w';go_simp;with_reducible rfl
             rotate_left;·simp only [Act.put, la_, lz_, ls_, i64_w, i32_w];rfl
             refine done_ (done_of HT_.out (by kernel_rfl)) ?_
             try go_wp2
             have n0_ := Aside0.mk (below_drew1 HB.out)
             clear HB
             have HB := n0_
             clear n0_
             have p292 : 0 ≤ (x5_1 : Int) := of_decide_eq_true as_
             have q292 : x5_1 < (l0.length : Int) := of_decide_eq_true as_
             obtain ⟨ad292, e292, hx292_0, hx292_1, hx292_2, hx292_3, hx292_4, hx292_5, hx292_6, hx292_7⟩ := at_T51 HR0.out x5_1 p292 q292
             have hw292_7 := hx292_7
             have hw292_6 := hx292_6
             have hw292_5 := hx292_5
             have hw292_4 := hx292_4
             have hw292_3 := hx292_3
             have hw292_2 := hx292_2
             have hw292_1 := hx292_1
             have hw292_0 := hx292_0
             obtain rfl : ad286 = ad292 := (by injection e292)
             replace hx292_0 := (HB.out.cell (World.block_lt_of_cell? w _ hx292_0)).trans hx292_0
             replace hx292_1 := (HB.out.cell (World.block_lt_of_cell? w _ hx292_1)).trans hx292_1
             replace hx292_2 := (HB.out.cell (World.block_lt_of_cell? w _ hx292_2)).trans hx292_2
             replace hx292_3 := (HB.out.cell (World.block_lt_of_cell? w _ hx292_3)).trans hx292_3
             replace hx292_4 := (HB.out.cell (World.block_lt_of_cell? w _ hx292_4)).trans hx292_4
             replace hx292_5 := (HB.out.cell (World.block_lt_of_cell? w _ hx292_5)).trans hx292_5
             replace hx292_6 := (HB.out.cell (World.block_lt_of_cell? w _ hx292_6)).trans hx292_6
             replace hx292_7 := (HB.out.cell (World.block_lt_of_cell? w _ hx292_7)).trans hx292_7
             replace p292 := eq_true p292
             replace q292 := eq_true q292
             refine start_ (n := 9) (S := fun w' => w'.cell? (ad286.add ((x5_1).toNat * 8)) = some (.int .i64 ((rd_T51 l0 x5_1).f0)) ∧ w'.cell? ⟨(ad286.add ((x5_1).toNat * 8)).block, (ad286.add ((x5_1).toNat * 8)).off + 1, none⟩ = some (.int .i64 ((rd_T51 l0 x5_1).f1)) ∧ w'.cell? ⟨(ad286.add ((x5_1).toNat * 8)).block, (ad286.add ((x5_1).toNat * 8)).off + 2, none⟩ = some (.int .i64 ((rd_T51 l0 x5_1).f2.f0)) ∧ w'.cell? ⟨(ad286.add ((x5_1).toNat * 8)).block, (ad286.add ((x5_1).toNat * 8)).off + 3, none⟩ = some (.int .i64 ((rd_T51 l0 x5_1).f2.f1)) ∧ w'.cell? ⟨(ad286.add ((x5_1).toNat * 8)).block, (ad286.add ((x5_1).toNat * 8)).off + 4, none⟩ = some (.string ((rd_T51 l0 x5_1).f2.f2)) ∧ w'.cell? ⟨(ad286.add ((x5_1).toNat * 8)).block, (ad286.add ((x5_1).toNat * 8)).off + 5, none⟩ = some (.string ((rd_T51 l0 x5_1).f2.f3)) ∧ w'.cell? ⟨(ad286.add ((x5_1).toNat * 8)).block, (ad286.add ((x5_1).toNat * 8)).off + 6, none⟩ = some (.int .i64 ((rd_T51 l0 x5_1).f2.f4)) ∧ w'.cell? ⟨(ad286.add ((x5_1).toNat * 8)).block, (ad286.add ((x5_1).toNat * 8)).off + 7, none⟩ = some (.int .i64 ((rd_T51 l0 x5_1).f2.f5))) (ds := []) #[o',o',o',o',o',o',o',o',o'] (by kernel_rfl) rfl rfl ⟨((HB.out.cell (World.block_lt_of_cell? w _ hw292_0)).trans hw292_0), ((HB.out.cell (World.block_lt_of_cell? w _ hw292_1)).trans hw292_1), ((HB.out.cell (World.block_lt_of_cell? w _ hw292_2)).trans hw292_2), ((HB.out.cell (World.block_lt_of_cell? w _ hw292_3)).trans hw292_3), ((HB.out.cell (World.block_lt_of_cell? w _ hw292_4)).trans hw292_4), ((HB.out.cell (World.block_lt_of_cell? w _ hw292_5)).trans hw292_5), ((HB.out.cell (World.block_lt_of_cell? w _ hw292_6)).trans hw292_6), ((HB.out.cell (World.block_lt_of_cell? w _ hw292_7)).trans hw292_7)⟩ (fun hHeld => ?_); refine with_tabW laws_heldSpotS.tab19 laws_heldSpotS.bits19 (fun HT_ HW_ => ?_)
             generalize w20.drew = w21 at HB hx292_0 hx292_1 hx292_2 hx292_3 hx292_4 hx292_5 hx292_6 hx292_7 hHeld ⊢
             refine pure_ (i := 0) (N := some 61) (v := ?_) (a' := ?_) #[i',o',o',o',o',o',o',o',o'] rfl rfl (any_of HT_.out (by kernel_rfl)) (fun _ _ _ h => h) (Or.inl ⟨by rfl, ?_⟩) ?_ ?_
             rotate_left;·intro w';go_simp;with_reducible rfl
             rotate_left;·simp only [Act.put, la_, lz_, ls_, i64_w, i32_w];rfl
             refine pure_ (i := 1) (N := some 62) (v := ?_) (a' := ?_) #[i',i',o',o',o',o',o',o',o'] rfl rfl (any_of HT_.out (by kernel_rfl)) (fun _ _ _ h => h) (Or.inl ⟨by rfl, ?_⟩) ?_ ?_
             rotate_left;·intro w';go_simp;with_reducible rfl
             rotate_left;·simp only [Act.put, la_, lz_, ls_, i64_w, i32_w];rfl
             refine pure_ (i := 2) (N := some 63) (v := ?_) (a' := ?_) #[i',i',i',o',o',o',o',o',o'] rfl rfl (any_of HT_.out (by kernel_rfl)) (fun _ _ _ h => h) (Or.inl ⟨by rfl, ?_⟩) ?_ ?_
             rotate_left;·intro w';go_simp;with_reducible rfl
             rotate_left;·simp only [Act.put, la_, lz_, ls_, i64_w, i32_w];rfl
             refine pure_ (i := 3) (N := some 64) (v := ?_) (a' := ?_) #[i',i',i',i',o',o',o',o',o'] rfl rfl (any_of HT_.out (by kernel_rfl)) (fun _ _ _ h => h) (Or.inl ⟨by rfl, ?_⟩) ?_ ?_
             rotate_left;·intro w';go_simp;with_reducible rfl
             rotate_left;·simp only [Act.put, la_, lz_, ls_, i64_w, i32_w];rfl
             refine pure_ (i := 4) (N := some 65) (v := ?_) (a' := ?_) #[i',i',i',i',i',o',o',o',o'] rfl rfl (any_of HT_.out (by kernel_rfl)) (fun _ _ _ h => h) (Or.inl ⟨by rfl, ?_⟩) ?_ ?_
             rotate_left;·intro w';go_simp;with_reducible rfl
             rotate_left;·simp only [Act.put, la_, lz_, ls_, i64_w, i32_w];rfl
             refine pure_ (i := 6) (N := some 67) (v := ?_) (a' := ?_) #[i',i',i',i',i',o',i',o',o'] rfl rfl (any_of HT_.out (by kernel_rfl)) (fun _ _ _ h => h) (Or.inl ⟨by rfl, ?_⟩) ?_ ?_
             rotate_left;·intro w';go_simp;with_reducible rfl
             rotate_left;·simp only [Act.put, la_, lz_, ls_, i64_w, i32_w];rfl
             refine take_ (i := 5) (N := some 66) (v := ?_) (a' := ?_) #[i',i',i',i',i',i',i',o',o'] rfl rfl (take_ofW HT_.out HW_.out (by kernel_rfl)) (fun _ _ _ h => h) (Or.inl ⟨by rfl, ?_⟩) hHeld ?_ ?_
             rotate_left
             ·rintro w' ⟨s0, s1, s2, s3, s4, s5, s6, s7⟩
              go_simp
              with_reducible rfl
             rotate_left
             ·simp only [Act.put, la_, lz_, ls_, i64_w, i32_w]
              rfl
             refine one_ (i := 7) (N := some 68) #[i',i',i',i',i',i',i',i',o'] rfl rfl (one_of HT_.out (by kernel_rfl)) (by decide) (fun K hK => ?_)
             refine goes_ Try.func53 (by kernel_rfl) rfl #[.int .i64 (wrap64 ((wrap64 ((wrap64 ((wrap64 ((wrap64 (x1_1 + 1)) + 1)) + 1)) + 1)) + 1))] (by rfl) rfl rfl ar_ ?_
             with_reducible refine (laws_markText.calls k1 (wrap64 ((wrap64 ((wrap64 ((wrap64 ((wrap64 (x1_1 + 1)) + 1)) + 1)) + 1)) + 1)) t293 _ A11.out).mono ?_
             rintro e w22 ⟨rfl, hb⟩
             refine ⟨_, rfl, ?_⟩
             have n0_ := Aside0.mk (below_step (hb_ HB) hb)
             clear HB
             have HB := n0_
             clear n0_
             (try clear hb)
             (try clear hb2)
             (try clear hk)
             (try clear hi)
             refine hK.out _ _ ⟨((HB.out.cell (World.block_lt_of_cell? w _ hw292_0)).trans hw292_0), ((HB.out.cell (World.block_lt_of_cell? w _ hw292_1)).trans hw292_1), ((HB.out.cell (World.block_lt_of_cell? w _ hw292_2)).trans hw292_2), ((HB.out.cell (World.block_lt_of_cell? w _ hw292_3)).trans hw292_3), ((HB.out.cell (World.block_lt_of_cell? w _ hw292_4)).trans hw292_4), ((HB.out.cell (World.block_lt_of_cell? w _ hw292_5)).trans hw292_5), ((HB.out.cell (World.block_lt_of_cell? w _ hw292_6)).trans hw292_6), ((HB.out.cell (World.block_lt_of_cell? w _ hw292_7)).trans hw292_7)⟩ (fun hHeld => ?_)
             clear hK K
             refine norm_ (a' := ?_) ?_ ?_
             rotate_left
             ·show Act.put _ (some 68) _ = _
              simp only [Act.put, la_, lz_, ls_, i64_w, i32_w]
              rfl
             refine pure_ (i := 8) (N := some 69) (v := ?_) (a' := ?_) #[i',i',i',i',i',i',i',i',i'] rfl rfl (any_of HT_.out (by kernel_rfl)) (fun _ _ _ h => h) (Or.inl ⟨by rfl, ?_⟩) ?_ ?_
             rotate_left;·intro w';go_simp;with_reducible rfl
             rotate_left;·simp only [Act.put, la_, lz_, ls_, i64_w, i32_w];rfl
             refine done_ (done_of HT_.out (by kernel_rfl)) ?_
             have p294 : 0 ≤ (x5_1 : Int) := of_decide_eq_true as_
             have q294 : x5_1 < (l0.length : Int) := of_decide_eq_true as_
             obtain ⟨ad294, e294, hx294_0, hx294_1, hx294_2, hx294_3, hx294_4, hx294_5, hx294_6, hx294_7⟩ := at_T51 HR0.out x5_1 p294 q294
             obtain rfl : ad286 = ad294 := (by injection e294)
             replace hx294_0 := (HB.out.cell (World.block_lt_of_cell? w _ hx294_0)).trans hx294_0
             replace hx294_1 := (HB.out.cell (World.block_lt_of_cell? w _ hx294_1)).trans hx294_1
             replace hx294_2 := (HB.out.cell (World.block_lt_of_cell? w _ hx294_2)).trans hx294_2
             replace hx294_3 := (HB.out.cell (World.block_lt_of_cell? w _ hx294_3)).trans hx294_3
             replace hx294_4 := (HB.out.cell (World.block_lt_of_cell? w _ hx294_4)).trans hx294_4
             replace hx294_5 := (HB.out.cell (World.block_lt_of_cell? w _ hx294_5)).trans hx294_5
             replace hx294_6 := (HB.out.cell (World.block_lt_of_cell? w _ hx294_6)).trans hx294_6
             replace hx294_7 := (HB.out.cell (World.block_lt_of_cell? w _ hx294_7)).trans hx294_7
             replace p294 := eq_true p294
             replace q294 := eq_true q294
             have p295 : 0 ≤ (x5_1 : Int) := of_decide_eq_true as_
             have q295 : x5_1 < (l0.length : Int) := of_decide_eq_true as_
             obtain ⟨ad295, e295, hx295_0, hx295_1, hx295_2, hx295_3, hx295_4, hx295_5, hx295_6, hx295_7⟩ := at_T51 HR0.out x5_1 p295 q295
             obtain rfl : ad286 = ad295 := (by injection e295)
             replace hx295_0 := (HB.out.cell (World.block_lt_of_cell? w _ hx295_0)).trans hx295_0
             replace hx295_1 := (HB.out.cell (World.block_lt_of_cell? w _ hx295_1)).trans hx295_1
             replace hx295_2 := (HB.out.cell (World.block_lt_of_cell? w _ hx295_2)).trans hx295_2
             replace hx295_3 := (HB.out.cell (World.block_lt_of_cell? w _ hx295_3)).trans hx295_3
             replace hx295_4 := (HB.out.cell (World.block_lt_of_cell? w _ hx295_4)).trans hx295_4
             replace hx295_5 := (HB.out.cell (World.block_lt_of_cell? w _ hx295_5)).trans hx295_5
             replace hx295_6 := (HB.out.cell (World.block_lt_of_cell? w _ hx295_6)).trans hx295_6
             replace hx295_7 := (HB.out.cell (World.block_lt_of_cell? w _ hx295_7)).trans hx295_7
             replace p295 := eq_true p295
             replace q295 := eq_true q295
             try go_wp2
             go_ret
             exact ⟨re_, hb_ HB⟩
           ·rw [if_neg c13] at H
            have c13b0 : (((rd_T51 l0 x5_1).f2.f4) == (wrap64 ((wrap64 ((wrap64 ((wrap64 ((wrap64 ((wrap64 (x1_1 + 1)) + 1)) + 1)) + 1)) + 1)) + 1))) = false := beq_eq_false_iff_ne.mpr c13
            have c13b1 : (((rd_T51 l0 x5_1).f2.f4) != (wrap64 ((wrap64 ((wrap64 ((wrap64 ((wrap64 ((wrap64 (x1_1 + 1)) + 1)) + 1)) + 1)) + 1)) + 1))) = true := bne_iff_ne.mpr c13
            obtain rfl := Option.some.inj H
            have p286 : 0 ≤ (x5_1 : Int) := of_decide_eq_true as_
            have q286 : x5_1 < (l0.length : Int) := of_decide_eq_true as_
            obtain ⟨ad286, e286, hx286_0, hx286_1, hx286_2, hx286_3, hx286_4, hx286_5, hx286_6, hx286_7⟩ := at_T51 HR0.out x5_1 p286 q286
            cases e286
            replace hx286_0 := (HB.out.cell (World.block_lt_of_cell? w _ hx286_0)).trans hx286_0
            replace hx286_1 := (HB.out.cell (World.block_lt_of_cell? w _ hx286_1)).trans hx286_1
            replace hx286_2 := (HB.out.cell (World.block_lt_of_cell? w _ hx286_2)).trans hx286_2
            replace hx286_3 := (HB.out.cell (World.block_lt_of_cell? w _ hx286_3)).trans hx286_3
            replace hx286_4 := (HB.out.cell (World.block_lt_of_cell? w _ hx286_4)).trans hx286_4
            replace hx286_5 := (HB.out.cell (World.block_lt_of_cell? w _ hx286_5)).trans hx286_5
            replace hx286_6 := (HB.out.cell (World.block_lt_of_cell? w _ hx286_6)).trans hx286_6
            replace hx286_7 := (HB.out.cell (World.block_lt_of_cell? w _ hx286_7)).trans hx286_7
            replace p286 := eq_true p286
            replace q286 := eq_true q286
            have p287 : 0 ≤ (x5_1 : Int) := of_decide_eq_true as_
            have q287 : x5_1 < (l0.length : Int) := of_decide_eq_true as_
            obtain ⟨ad287, e287, hx287_0, hx287_1, hx287_2, hx287_3, hx287_4, hx287_5, hx287_6, hx287_7⟩ := at_T51 HR0.out x5_1 p287 q287
            obtain rfl : ad286 = ad287 := (by injection e287)
            replace hx287_0 := (HB.out.cell (World.block_lt_of_cell? w _ hx287_0)).trans hx287_0
            replace hx287_1 := (HB.out.cell (World.block_lt_of_cell? w _ hx287_1)).trans hx287_1
            replace hx287_2 := (HB.out.cell (World.block_lt_of_cell? w _ hx287_2)).trans hx287_2
            replace hx287_3 := (HB.out.cell (World.block_lt_of_cell? w _ hx287_3)).trans hx287_3
            replace hx287_4 := (HB.out.cell (World.block_lt_of_cell? w _ hx287_4)).trans hx287_4
            replace hx287_5 := (HB.out.cell (World.block_lt_of_cell? w _ hx287_5)).trans hx287_5
            replace hx287_6 := (HB.out.cell (World.block_lt_of_cell? w _ hx287_6)).trans hx287_6
            replace hx287_7 := (HB.out.cell (World.block_lt_of_cell? w _ hx287_7)).trans hx287_7
            replace p287 := eq_true p287
            replace q287 := eq_true q287
            have p288 : 0 ≤ (x5_1 : Int) := of_decide_eq_true as_
            have q288 : x5_1 < (l0.length : Int) := of_decide_eq_true as_
            obtain ⟨ad288, e288, hx288_0, hx288_1, hx288_2, hx288_3, hx288_4, hx288_5, hx288_6, hx288_7⟩ := at_T51 HR0.out x5_1 p288 q288
            obtain rfl : ad286 = ad288 := (by injection e288)
            replace hx288_0 := (HB.out.cell (World.block_lt_of_cell? w _ hx288_0)).trans hx288_0
            replace hx288_1 := (HB.out.cell (World.block_lt_of_cell? w _ hx288_1)).trans hx288_1
            replace hx288_2 := (HB.out.cell (World.block_lt_of_cell? w _ hx288_2)).trans hx288_2
            replace hx288_3 := (HB.out.cell (World.block_lt_of_cell? w _ hx288_3)).trans hx288_3
            replace hx288_4 := (HB.out.cell (World.block_lt_of_cell? w _ hx288_4)).trans hx288_4
            replace hx288_5 := (HB.out.cell (World.block_lt_of_cell? w _ hx288_5)).trans hx288_5
            replace hx288_6 := (HB.out.cell (World.block_lt_of_cell? w _ hx288_6)).trans hx288_6
            replace hx288_7 := (HB.out.cell (World.block_lt_of_cell? w _ hx288_7)).trans hx288_7
            replace p288 := eq_true p288
            replace q288 := eq_true q288
            have p289 : 0 ≤ (x5_1 : Int) := of_decide_eq_true as_
            have q289 : x5_1 < (l0.length : Int) := of_decide_eq_true as_
            obtain ⟨ad289, e289, hx289_0, hx289_1, hx289_2, hx289_3, hx289_4, hx289_5, hx289_6, hx289_7⟩ := at_T51 HR0.out x5_1 p289 q289
            obtain rfl : ad286 = ad289 := (by injection e289)
            replace hx289_0 := (HB.out.cell (World.block_lt_of_cell? w _ hx289_0)).trans hx289_0
            replace hx289_1 := (HB.out.cell (World.block_lt_of_cell? w _ hx289_1)).trans hx289_1
            replace hx289_2 := (HB.out.cell (World.block_lt_of_cell? w _ hx289_2)).trans hx289_2
            replace hx289_3 := (HB.out.cell (World.block_lt_of_cell? w _ hx289_3)).trans hx289_3
            replace hx289_4 := (HB.out.cell (World.block_lt_of_cell? w _ hx289_4)).trans hx289_4
            replace hx289_5 := (HB.out.cell (World.block_lt_of_cell? w _ hx289_5)).trans hx289_5
            replace hx289_6 := (HB.out.cell (World.block_lt_of_cell? w _ hx289_6)).trans hx289_6
            replace hx289_7 := (HB.out.cell (World.block_lt_of_cell? w _ hx289_7)).trans hx289_7
            replace p289 := eq_true p289
            replace q289 := eq_true q289
            try go_wp2
            have n0_ := Aside0.mk (below_drew1 HB.out)
            clear HB
            have HB := n0_
            clear n0_
            have p290 : 0 ≤ (x5_1 : Int) := of_decide_eq_true as_
            have q290 : x5_1 < (l0.length : Int) := of_decide_eq_true as_
            obtain ⟨ad290, e290, hx290_0, hx290_1, hx290_2, hx290_3, hx290_4, hx290_5, hx290_6, hx290_7⟩ := at_T51 HR0.out x5_1 p290 q290
            have hw290_7 := hx290_7
            have hw290_6 := hx290_6
            have hw290_5 := hx290_5
            have hw290_4 := hx290_4
            have hw290_3 := hx290_3
            have hw290_2 := hx290_2
            have hw290_1 := hx290_1
            have hw290_0 := hx290_0
            obtain rfl : ad286 = ad290 := (by injection e290)
            replace hx290_0 := (HB.out.cell (World.block_lt_of_cell? w _ hx290_0)).trans hx290_0
            replace hx290_1 := (HB.out.cell (World.block_lt_of_cell? w _ hx290_1)).trans hx290_1
            replace hx290_2 := (HB.out.cell (World.block_lt_of_cell? w _ hx290_2)).trans hx290_2
            replace hx290_3 := (HB.out.cell (World.block_lt_of_cell? w _ hx290_3)).trans hx290_3
            replace hx290_4 := (HB.out.cell (World.block_lt_of_cell? w _ hx290_4)).trans hx290_4
            replace hx290_5 := (HB.out.cell (World.block_lt_of_cell? w _ hx290_5)).trans hx290_5
            replace hx290_6 := (HB.out.cell (World.block_lt_of_cell? w _ hx290_6)).trans hx290_6
            replace hx290_7 := (HB.out.cell (World.block_lt_of_cell? w _ hx290_7)).trans hx290_7
            replace p290 := eq_true p290
            replace q290 := eq_true q290
            refine start_ (n := 9) (S := fun w' => w'.cell? (ad286.add ((x5_1).toNat * 8)) = some (.int .i64 ((rd_T51 l0 x5_1).f0)) ∧ w'.cell? ⟨(ad286.add ((x5_1).toNat * 8)).block, (ad286.add ((x5_1).toNat * 8)).off + 1, none⟩ = some (.int .i64 ((rd_T51 l0 x5_1).f1)) ∧ w'.cell? ⟨(ad286.add ((x5_1).toNat * 8)).block, (ad286.add ((x5_1).toNat * 8)).off + 2, none⟩ = some (.int .i64 ((rd_T51 l0 x5_1).f2.f0)) ∧ w'.cell? ⟨(ad286.add ((x5_1).toNat * 8)).block, (ad286.add ((x5_1).toNat * 8)).off + 3, none⟩ = some (.int .i64 ((rd_T51 l0 x5_1).f2.f1)) ∧ w'.cell? ⟨(ad286.add ((x5_1).toNat * 8)).block, (ad286.add ((x5_1).toNat * 8)).off + 4, none⟩ = some (.string ((rd_T51 l0 x5_1).f2.f2)) ∧ w'.cell? ⟨(ad286.add ((x5_1).toNat * 8)).block, (ad286.add ((x5_1).toNat * 8)).off + 5, none⟩ = some (.string ((rd_T51 l0 x5_1).f2.f3)) ∧ w'.cell? ⟨(ad286.add ((x5_1).toNat * 8)).block, (ad286.add ((x5_1).toNat * 8)).off + 6, none⟩ = some (.int .i64 ((rd_T51 l0 x5_1).f2.f4)) ∧ w'.cell? ⟨(ad286.add ((x5_1).toNat * 8)).block, (ad286.add ((x5_1).toNat * 8)).off + 7, none⟩ = some (.int .i64 ((rd_T51 l0 x5_1).f2.f5))) (ds := []) #[o',o',o',o',o',o',o',o',o'] (by kernel_rfl) rfl rfl ⟨((HB.out.cell (World.block_lt_of_cell? w _ hw290_0)).trans hw290_0), ((HB.out.cell (World.block_lt_of_cell? w _ hw290_1)).trans hw290_1), ((HB.out.cell (World.block_lt_of_cell? w _ hw290_2)).trans hw290_2), ((HB.out.cell (World.block_lt_of_cell? w _ hw290_3)).trans hw290_3), ((HB.out.cell (World.block_lt_of_cell? w _ hw290_4)).trans hw290_4), ((HB.out.cell (World.block_lt_of_cell? w _ hw290_5)).trans hw290_5), ((HB.out.cell (World.block_lt_of_cell? w _ hw290_6)).trans hw290_6), ((HB.out.cell (World.block_lt_of_cell? w _ hw290_7)).trans hw290_7)⟩ (fun hHeld => ?_); refine with_tabW laws_heldSpotS.tab16 laws_heldSpotS.bits16 (fun HT_ HW_ => ?_)
            generalize wr.drew = w23 at HB hx290_0 hx290_1 hx290_2 hx290_3 hx290_4 hx290_5 hx290_6 hx290_7 hHeld ⊢
            refine pure_ (i := 0) (N := some 50) (v := ?_) (a' := ?_) #[i',o',o',o',o',o',o',o',o'] rfl rfl (any_of HT_.out (by kernel_rfl)) (fun _ _ _ h => h) (Or.inl ⟨by rfl, ?_⟩) ?_ ?_
            rotate_left;·intro w';go_simp;with_reducible rfl
            rotate_left;·simp only [Act.put, la_, lz_, ls_, i64_w, i32_w];rfl
            refine pure_ (i := 1) (N := some 51) (v := ?_) (a' := ?_) #[i',i',o',o',o',o',o',o',o'] rfl rfl (any_of HT_.out (by kernel_rfl)) (fun _ _ _ h => h) (Or.inl ⟨by rfl, ?_⟩) ?_ ?_
            rotate_left;·intro w';go_simp;with_reducible rfl
            rotate_left;·simp only [Act.put, la_, lz_, ls_, i64_w, i32_w];rfl
            refine pure_ (i := 2) (N := some 52) (v := ?_) (a' := ?_) #[i',i',i',o',o',o',o',o',o'] rfl rfl (any_of HT_.out (by kernel_rfl)) (fun _ _ _ h => h) (Or.inl ⟨by rfl, ?_⟩) ?_ ?_
            rotate_left;·intro w';go_simp;with_reducible rfl
            rotate_left;·simp only [Act.put, la_, lz_, ls_, i64_w, i32_w];rfl
            refine pure_ (i := 3) (N := some 53) (v := ?_) (a' := ?_) #[i',i',i',i',o',o',o',o',o'] rfl rfl (any_of HT_.out (by kernel_rfl)) (fun _ _ _ h => h) (Or.inl ⟨by rfl, ?_⟩) ?_ ?_
            rotate_left;·intro w';go_simp;with_reducible rfl
            rotate_left;·simp only [Act.put, la_, lz_, ls_, i64_w, i32_w];rfl
            refine pure_ (i := 4) (N := some 54) (v := ?_) (a' := ?_) #[i',i',i',i',i',o',o',o',o'] rfl rfl (any_of HT_.out (by kernel_rfl)) (fun _ _ _ h => h) (Or.inl ⟨by rfl, ?_⟩) ?_ ?_
            rotate_left;·intro w';go_simp;with_reducible rfl
            rotate_left;·simp only [Act.put, la_, lz_, ls_, i64_w, i32_w];rfl
            refine pure_ (i := 6) (N := some 56) (v := ?_) (a' := ?_) #[i',i',i',i',i',o',i',o',o'] rfl rfl (any_of HT_.out (by kernel_rfl)) (fun _ _ _ h => h) (Or.inl ⟨by rfl, ?_⟩) ?_ ?_
            rotate_left;·intro w';go_simp;with_reducible rfl
            rotate_left;·simp only [Act.put, la_, lz_, ls_, i64_w, i32_w];rfl
            refine take_ (i := 5) (N := some 55) (v := ?_) (a' := ?_) #[i',i',i',i',i',i',i',o',o'] rfl rfl (take_ofW HT_.out HW_.out (by kernel_rfl)) (fun _ _ _ h => h) (Or.inl ⟨by rfl, ?_⟩) hHeld ?_ ?_
            rotate_left
            ·rintro w' ⟨s0, s1, s2, s3, s4, s5, s6, s7⟩
             go_simp
             with_reducible rfl
            rotate_left
            ·simp only [Act.put, la_, lz_, ls_, i64_w, i32_w]
             rfl
            refine one_ (i := 7) (N := some 57) #[i',i',i',i',i',i',i',i',o'] rfl rfl (one_of HT_.out (by kernel_rfl)) (by decide) (fun K hK => ?_)
            refine goes_ Try.func53 (by kernel_rfl) rfl #[.int .i64 (wrap64 ((wrap64 ((wrap64 ((wrap64 (x1_1 + 1)) + 1)) + 1)) + 1))] (by rfl) rfl rfl ar_ ?_
            with_reducible refine (laws_markText.calls k1 (wrap64 ((wrap64 ((wrap64 ((wrap64 (x1_1 + 1)) + 1)) + 1)) + 1)) t291 _ A9.out).mono ?_
            rintro e w24 ⟨rfl, hb⟩
            refine ⟨_, rfl, ?_⟩
            have n0_ := Aside0.mk (below_step (hb_ HB) hb)
            clear HB
            have HB := n0_
            clear n0_
            (try clear hb)
            (try clear hb2)
            (try clear hk)
            (try clear hi)
            refine hK.out _ _ ⟨((HB.out.cell (World.block_lt_of_cell? w _ hw290_0)).trans hw290_0), ((HB.out.cell (World.block_lt_of_cell? w _ hw290_1)).trans hw290_1), ((HB.out.cell (World.block_lt_of_cell? w _ hw290_2)).trans hw290_2), ((HB.out.cell (World.block_lt_of_cell? w _ hw290_3)).trans hw290_3), ((HB.out.cell (World.block_lt_of_cell? w _ hw290_4)).trans hw290_4), ((HB.out.cell (World.block_lt_of_cell? w _ hw290_5)).trans hw290_5), ((HB.out.cell (World.block_lt_of_cell? w _ hw290_6)).trans hw290_6), ((HB.out.cell (World.block_lt_of_cell? w _ hw290_7)).trans hw290_7)⟩ (fun hHeld => ?_)
            clear hK K
            refine norm_ (a' := ?_) ?_ ?_
            rotate_left
            ·show Act.put _ (some 57) _ = _
             simp only [Act.put, la_, lz_, ls_, i64_w, i32_w]
             rfl
            refine pure_ (i := 8) (N := some 58) (v := ?_) (a' := ?_) #[i',i',i',i',i',i',i',i',i'] rfl rfl (any_of HT_.out (by kernel_rfl)) (fun _ _ _ h => h) (Or.inl ⟨by rfl, ?_⟩) ?_ ?_
            rotate_left;·intro w';go_simp;with_reducible rfl
            rotate_left;·simp only [Act.put, la_, lz_, ls_, i64_w, i32_w];rfl
            refine done_ (done_of HT_.out (by kernel_rfl)) ?_
            try go_wp2
            have n0_ := Aside0.mk (below_drew1 HB.out)
            clear HB
            have HB := n0_
            clear n0_
            have p292 : 0 ≤ (x5_1 : Int) := of_decide_eq_true as_
            have q292 : x5_1 < (l0.length : Int) := of_decide_eq_true as_
            obtain ⟨ad292, e292, hx292_0, hx292_1, hx292_2, hx292_3, hx292_4, hx292_5, hx292_6, hx292_7⟩ := at_T51 HR0.out x5_1 p292 q292
            have hw292_7 := hx292_7
            have hw292_6 := hx292_6
            have hw292_5 := hx292_5
            have hw292_4 := hx292_4
            have hw292_3 := hx292_3
            have hw292_2 := hx292_2
            have hw292_1 := hx292_1
            have hw292_0 := hx292_0
            obtain rfl : ad286 = ad292 := (by injection e292)
            replace hx292_0 := (HB.out.cell (World.block_lt_of_cell? w _ hx292_0)).trans hx292_0
            replace hx292_1 := (HB.out.cell (World.block_lt_of_cell? w _ hx292_1)).trans hx292_1
            replace hx292_2 := (HB.out.cell (World.block_lt_of_cell? w _ hx292_2)).trans hx292_2
            replace hx292_3 := (HB.out.cell (World.block_lt_of_cell? w _ hx292_3)).trans hx292_3
            replace hx292_4 := (HB.out.cell (World.block_lt_of_cell? w _ hx292_4)).trans hx292_4
            replace hx292_5 := (HB.out.cell (World.block_lt_of_cell? w _ hx292_5)).trans hx292_5
            replace hx292_6 := (HB.out.cell (World.block_lt_of_cell? w _ hx292_6)).trans hx292_6
            replace hx292_7 := (HB.out.cell (World.block_lt_of_cell? w _ hx292_7)).trans hx292_7
            replace p292 := eq_true p292
            replace q292 := eq_true q292
            refine start_ (n := 9) (S := fun w' => w'.cell? (ad286.add ((x5_1).toNat * 8)) = some (.int .i64 ((rd_T51 l0 x5_1).f0)) ∧ w'.cell? ⟨(ad286.add ((x5_1).toNat * 8)).block, (ad286.add ((x5_1).toNat * 8)).off + 1, none⟩ = some (.int .i64 ((rd_T51 l0 x5_1).f1)) ∧ w'.cell? ⟨(ad286.add ((x5_1).toNat * 8)).block, (ad286.add ((x5_1).toNat * 8)).off + 2, none⟩ = some (.int .i64 ((rd_T51 l0 x5_1).f2.f0)) ∧ w'.cell? ⟨(ad286.add ((x5_1).toNat * 8)).block, (ad286.add ((x5_1).toNat * 8)).off + 3, none⟩ = some (.int .i64 ((rd_T51 l0 x5_1).f2.f1)) ∧ w'.cell? ⟨(ad286.add ((x5_1).toNat * 8)).block, (ad286.add ((x5_1).toNat * 8)).off + 4, none⟩ = some (.string ((rd_T51 l0 x5_1).f2.f2)) ∧ w'.cell? ⟨(ad286.add ((x5_1).toNat * 8)).block, (ad286.add ((x5_1).toNat * 8)).off + 5, none⟩ = some (.string ((rd_T51 l0 x5_1).f2.f3)) ∧ w'.cell? ⟨(ad286.add ((x5_1).toNat * 8)).block, (ad286.add ((x5_1).toNat * 8)).off + 6, none⟩ = some (.int .i64 ((rd_T51 l0 x5_1).f2.f4)) ∧ w'.cell? ⟨(ad286.add ((x5_1).toNat * 8)).block, (ad286.add ((x5_1).toNat * 8)).off + 7, none⟩ = some (.int .i64 ((rd_T51 l0 x5_1).f2.f5))) (ds := []) #[o',o',o',o',o',o',o',o',o'] (by kernel_rfl) rfl rfl ⟨((HB.out.cell (World.block_lt_of_cell? w _ hw292_0)).trans hw292_0), ((HB.out.cell (World.block_lt_of_cell? w _ hw292_1)).trans hw292_1), ((HB.out.cell (World.block_lt_of_cell? w _ hw292_2)).trans hw292_2), ((HB.out.cell (World.block_lt_of_cell? w _ hw292_3)).trans hw292_3), ((HB.out.cell (World.block_lt_of_cell? w _ hw292_4)).trans hw292_4), ((HB.out.cell (World.block_lt_of_cell? w _ hw292_5)).trans hw292_5), ((HB.out.cell (World.block_lt_of_cell? w _ hw292_6)).trans hw292_6), ((HB.out.cell (World.block_lt_of_cell? w _ hw292_7)).trans hw292_7)⟩ (fun hHeld => ?_); refine with_tabW laws_heldSpotS.tab19 laws_heldSpotS.bits19 (fun HT_ HW_ => ?_)
            generalize w24.drew = w25 at HB hx292_0 hx292_1 hx292_2 hx292_3 hx292_4 hx292_5 hx292_6 hx292_7 hHeld ⊢
            refine pure_ (i := 0) (N := some 61) (v := ?_) (a' := ?_) #[i',o',o',o',o',o',o',o',o'] rfl rfl (any_of HT_.out (by kernel_rfl)) (fun _ _ _ h => h) (Or.inl ⟨by rfl, ?_⟩) ?_ ?_
            rotate_left;·intro w';go_simp;with_reducible rfl
            rotate_left;·simp only [Act.put, la_, lz_, ls_, i64_w, i32_w];rfl
            refine pure_ (i := 1) (N := some 62) (v := ?_) (a' := ?_) #[i',i',o',o',o',o',o',o',o'] rfl rfl (any_of HT_.out (by kernel_rfl)) (fun _ _ _ h => h) (Or.inl ⟨by rfl, ?_⟩) ?_ ?_
            rotate_left;·intro w';go_simp;with_reducible rfl
            rotate_left;·simp only [Act.put, la_, lz_, ls_, i64_w, i32_w];rfl
            refine pure_ (i := 2) (N := some 63) (v := ?_) (a' := ?_) #[i',i',i',o',o',o',o',o',o'] rfl rfl (any_of HT_.out (by kernel_rfl)) (fun _ _ _ h => h) (Or.inl ⟨by rfl, ?_⟩) ?_ ?_
            rotate_left;·intro w';go_simp;with_reducible rfl
            rotate_left;·simp only [Act.put, la_, lz_, ls_, i64_w, i32_w];rfl
            refine pure_ (i := 3) (N := some 64) (v := ?_) (a' := ?_) #[i',i',i',i',o',o',o',o',o'] rfl rfl (any_of HT_.out (by kernel_rfl)) (fun _ _ _ h => h) (Or.inl ⟨by rfl, ?_⟩) ?_ ?_
            rotate_left;·intro w';go_simp;with_reducible rfl
            rotate_left;·simp only [Act.put, la_, lz_, ls_, i64_w, i32_w];rfl
            refine pure_ (i := 4) (N := some 65) (v := ?_) (a' := ?_) #[i',i',i',i',i',o',o',o',o'] rfl rfl (any_of HT_.out (by kernel_rfl)) (fun _ _ _ h => h) (Or.inl ⟨by rfl, ?_⟩) ?_ ?_
            rotate_left;·intro w';go_simp;with_reducible rfl
            rotate_left;·simp only [Act.put, la_, lz_, ls_, i64_w, i32_w];rfl
            refine pure_ (i := 6) (N := some 67) (v := ?_) (a' := ?_) #[i',i',i',i',i',o',i',o',o'] rfl rfl (any_of HT_.out (by kernel_rfl)) (fun _ _ _ h => h) (Or.inl ⟨by rfl, ?_⟩) ?_ ?_
            rotate_left;·intro w';go_simp;with_reducible rfl
            rotate_left;·simp only [Act.put, la_, lz_, ls_, i64_w, i32_w];rfl
            refine take_ (i := 5) (N := some 66) (v := ?_) (a' := ?_) #[i',i',i',i',i',i',i',o',o'] rfl rfl (take_ofW HT_.out HW_.out (by kernel_rfl)) (fun _ _ _ h => h) (Or.inl ⟨by rfl, ?_⟩) hHeld ?_ ?_
            rotate_left
            ·rintro w' ⟨s0, s1, s2, s3, s4, s5, s6, s7⟩
             go_simp
             with_reducible rfl
            rotate_left
            ·simp only [Act.put, la_, lz_, ls_, i64_w, i32_w]
             rfl
            refine one_ (i := 7) (N := some 68) #[i',i',i',i',i',i',i',i',o'] rfl rfl (one_of HT_.out (by kernel_rfl)) (by decide) (fun K hK => ?_)
            refine goes_ Try.func53 (by kernel_rfl) rfl #[.int .i64 (wrap64 ((wrap64 ((wrap64 ((wrap64 ((wrap64 (x1_1 + 1)) + 1)) + 1)) + 1)) + 1))] (by rfl) rfl rfl ar_ ?_
            with_reducible refine (laws_markText.calls k1 (wrap64 ((wrap64 ((wrap64 ((wrap64 ((wrap64 (x1_1 + 1)) + 1)) + 1)) + 1)) + 1)) t293 _ A11.out).mono ?_
            rintro e w26 ⟨rfl, hb⟩
            refine ⟨_, rfl, ?_⟩
            have n0_ := Aside0.mk (below_step (hb_ HB) hb)
            clear HB
            have HB := n0_
            clear n0_
            (try clear hb)
            (try clear hb2)
            (try clear hk)
            (try clear hi)
            refine hK.out _ _ ⟨((HB.out.cell (World.block_lt_of_cell? w _ hw292_0)).trans hw292_0), ((HB.out.cell (World.block_lt_of_cell? w _ hw292_1)).trans hw292_1), ((HB.out.cell (World.block_lt_of_cell? w _ hw292_2)).trans hw292_2), ((HB.out.cell (World.block_lt_of_cell? w _ hw292_3)).trans hw292_3), ((HB.out.cell (World.block_lt_of_cell? w _ hw292_4)).trans hw292_4), ((HB.out.cell (World.block_lt_of_cell? w _ hw292_5)).trans hw292_5), ((HB.out.cell (World.block_lt_of_cell? w _ hw292_6)).trans hw292_6), ((HB.out.cell (World.block_lt_of_cell? w _ hw292_7)).trans hw292_7)⟩ (fun hHeld => ?_)
            clear hK K
            refine norm_ (a' := ?_) ?_ ?_
            rotate_left
            ·show Act.put _ (some 68) _ = _
             simp only [Act.put, la_, lz_, ls_, i64_w, i32_w]
             rfl
            refine pure_ (i := 8) (N := some 69) (v := ?_) (a' := ?_) #[i',i',i',i',i',i',i',i',i'] rfl rfl (any_of HT_.out (by kernel_rfl)) (fun _ _ _ h => h) (Or.inl ⟨by rfl, ?_⟩) ?_ ?_
            rotate_left;·intro w';go_simp;with_reducible rfl
            rotate_left;·simp only [Act.put, la_, lz_, ls_, i64_w, i32_w];rfl
            refine done_ (done_of HT_.out (by kernel_rfl)) ?_
            have p294 : 0 ≤ (x5_1 : Int) := of_decide_eq_true as_
            have q294 : x5_1 < (l0.length : Int) := of_decide_eq_true as_
            obtain ⟨ad294, e294, hx294_0, hx294_1, hx294_2, hx294_3, hx294_4, hx294_5, hx294_6, hx294_7⟩ := at_T51 HR0.out x5_1 p294 q294
            obtain rfl : ad286 = ad294 := (by injection e294)
            replace hx294_0 := (HB.out.cell (World.block_lt_of_cell? w _ hx294_0)).trans hx294_0
            replace hx294_1 := (HB.out.cell (World.block_lt_of_cell? w _ hx294_1)).trans hx294_1
            replace hx294_2 := (HB.out.cell (World.block_lt_of_cell? w _ hx294_2)).trans hx294_2
            replace hx294_3 := (HB.out.cell (World.block_lt_of_cell? w _ hx294_3)).trans hx294_3
            replace hx294_4 := (HB.out.cell (World.block_lt_of_cell? w _ hx294_4)).trans hx294_4
            replace hx294_5 := (HB.out.cell (World.block_lt_of_cell? w _ hx294_5)).trans hx294_5
            replace hx294_6 := (HB.out.cell (World.block_lt_of_cell? w _ hx294_6)).trans hx294_6
            replace hx294_7 := (HB.out.cell (World.block_lt_of_cell? w _ hx294_7)).trans hx294_7
            replace p294 := eq_true p294
            replace q294 := eq_true q294
            try go_wp2
            go_ret
            exact ⟨re_, hb_ HB⟩
          ·rw [if_neg c12] at H
           have c12b0 : (((rd_T51 l0 x5_1).f2.f3).toList == t293.toList) = false := beq_eq_false_iff_ne.mpr c12
           have c12b1 : (((rd_T51 l0 x5_1).f2.f3).toList != t293.toList) = true := bne_iff_ne.mpr c12
           obtain rfl := Option.some.inj H
           have p286 : 0 ≤ (x5_1 : Int) := of_decide_eq_true as_
           have q286 : x5_1 < (l0.length : Int) := of_decide_eq_true as_
           obtain ⟨ad286, e286, hx286_0, hx286_1, hx286_2, hx286_3, hx286_4, hx286_5, hx286_6, hx286_7⟩ := at_T51 HR0.out x5_1 p286 q286
           cases e286
           replace hx286_0 := (HB.out.cell (World.block_lt_of_cell? w _ hx286_0)).trans hx286_0
           replace hx286_1 := (HB.out.cell (World.block_lt_of_cell? w _ hx286_1)).trans hx286_1
           replace hx286_2 := (HB.out.cell (World.block_lt_of_cell? w _ hx286_2)).trans hx286_2
           replace hx286_3 := (HB.out.cell (World.block_lt_of_cell? w _ hx286_3)).trans hx286_3
           replace hx286_4 := (HB.out.cell (World.block_lt_of_cell? w _ hx286_4)).trans hx286_4
           replace hx286_5 := (HB.out.cell (World.block_lt_of_cell? w _ hx286_5)).trans hx286_5
           replace hx286_6 := (HB.out.cell (World.block_lt_of_cell? w _ hx286_6)).trans hx286_6
           replace hx286_7 := (HB.out.cell (World.block_lt_of_cell? w _ hx286_7)).trans hx286_7
           replace p286 := eq_true p286
           replace q286 := eq_true q286
           have p287 : 0 ≤ (x5_1 : Int) := of_decide_eq_true as_
           have q287 : x5_1 < (l0.length : Int) := of_decide_eq_true as_
           obtain ⟨ad287, e287, hx287_0, hx287_1, hx287_2, hx287_3, hx287_4, hx287_5, hx287_6, hx287_7⟩ := at_T51 HR0.out x5_1 p287 q287
           obtain rfl : ad286 = ad287 := (by injection e287)
           replace hx287_0 := (HB.out.cell (World.block_lt_of_cell? w _ hx287_0)).trans hx287_0
           replace hx287_1 := (HB.out.cell (World.block_lt_of_cell? w _ hx287_1)).trans hx287_1
           replace hx287_2 := (HB.out.cell (World.block_lt_of_cell? w _ hx287_2)).trans hx287_2
           replace hx287_3 := (HB.out.cell (World.block_lt_of_cell? w _ hx287_3)).trans hx287_3
           replace hx287_4 := (HB.out.cell (World.block_lt_of_cell? w _ hx287_4)).trans hx287_4
           replace hx287_5 := (HB.out.cell (World.block_lt_of_cell? w _ hx287_5)).trans hx287_5
           replace hx287_6 := (HB.out.cell (World.block_lt_of_cell? w _ hx287_6)).trans hx287_6
           replace hx287_7 := (HB.out.cell (World.block_lt_of_cell? w _ hx287_7)).trans hx287_7
           replace p287 := eq_true p287
           replace q287 := eq_true q287
           have p288 : 0 ≤ (x5_1 : Int) := of_decide_eq_true as_
           have q288 : x5_1 < (l0.length : Int) := of_decide_eq_true as_
           obtain ⟨ad288, e288, hx288_0, hx288_1, hx288_2, hx288_3, hx288_4, hx288_5, hx288_6, hx288_7⟩ := at_T51 HR0.out x5_1 p288 q288
           obtain rfl : ad286 = ad288 := (by injection e288)
           replace hx288_0 := (HB.out.cell (World.block_lt_of_cell? w _ hx288_0)).trans hx288_0
           replace hx288_1 := (HB.out.cell (World.block_lt_of_cell? w _ hx288_1)).trans hx288_1
           replace hx288_2 := (HB.out.cell (World.block_lt_of_cell? w _ hx288_2)).trans hx288_2
           replace hx288_3 := (HB.out.cell (World.block_lt_of_cell? w _ hx288_3)).trans hx288_3
           replace hx288_4 := (HB.out.cell (World.block_lt_of_cell? w _ hx288_4)).trans hx288_4
           replace hx288_5 := (HB.out.cell (World.block_lt_of_cell? w _ hx288_5)).trans hx288_5
           replace hx288_6 := (HB.out.cell (World.block_lt_of_cell? w _ hx288_6)).trans hx288_6
           replace hx288_7 := (HB.out.cell (World.block_lt_of_cell? w _ hx288_7)).trans hx288_7
           replace p288 := eq_true p288
           replace q288 := eq_true q288
           have p289 : 0 ≤ (x5_1 : Int) := of_decide_eq_true as_
           have q289 : x5_1 < (l0.length : Int) := of_decide_eq_true as_
           obtain ⟨ad289, e289, hx289_0, hx289_1, hx289_2, hx289_3, hx289_4, hx289_5, hx289_6, hx289_7⟩ := at_T51 HR0.out x5_1 p289 q289
           obtain rfl : ad286 = ad289 := (by injection e289)
           replace hx289_0 := (HB.out.cell (World.block_lt_of_cell? w _ hx289_0)).trans hx289_0
           replace hx289_1 := (HB.out.cell (World.block_lt_of_cell? w _ hx289_1)).trans hx289_1
           replace hx289_2 := (HB.out.cell (World.block_lt_of_cell? w _ hx289_2)).trans hx289_2
           replace hx289_3 := (HB.out.cell (World.block_lt_of_cell? w _ hx289_3)).trans hx289_3
           replace hx289_4 := (HB.out.cell (World.block_lt_of_cell? w _ hx289_4)).trans hx289_4
           replace hx289_5 := (HB.out.cell (World.block_lt_of_cell? w _ hx289_5)).trans hx289_5
           replace hx289_6 := (HB.out.cell (World.block_lt_of_cell? w _ hx289_6)).trans hx289_6
           replace hx289_7 := (HB.out.cell (World.block_lt_of_cell? w _ hx289_7)).trans hx289_7
           replace p289 := eq_true p289
           replace q289 := eq_true q289
           try go_wp2
           have n0_ := Aside0.mk (below_drew1 HB.out)
           clear HB
           have HB := n0_
           clear n0_
           have p290 : 0 ≤ (x5_1 : Int) := of_decide_eq_true as_
           have q290 : x5_1 < (l0.length : Int) := of_decide_eq_true as_
           obtain ⟨ad290, e290, hx290_0, hx290_1, hx290_2, hx290_3, hx290_4, hx290_5, hx290_6, hx290_7⟩ := at_T51 HR0.out x5_1 p290 q290
           have hw290_7 := hx290_7
           have hw290_6 := hx290_6
           have hw290_5 := hx290_5
           have hw290_4 := hx290_4
           have hw290_3 := hx290_3
           have hw290_2 := hx290_2
           have hw290_1 := hx290_1
           have hw290_0 := hx290_0
           obtain rfl : ad286 = ad290 := (by injection e290)
           replace hx290_0 := (HB.out.cell (World.block_lt_of_cell? w _ hx290_0)).trans hx290_0
           replace hx290_1 := (HB.out.cell (World.block_lt_of_cell? w _ hx290_1)).trans hx290_1
           replace hx290_2 := (HB.out.cell (World.block_lt_of_cell? w _ hx290_2)).trans hx290_2
           replace hx290_3 := (HB.out.cell (World.block_lt_of_cell? w _ hx290_3)).trans hx290_3
           replace hx290_4 := (HB.out.cell (World.block_lt_of_cell? w _ hx290_4)).trans hx290_4
           replace hx290_5 := (HB.out.cell (World.block_lt_of_cell? w _ hx290_5)).trans hx290_5
           replace hx290_6 := (HB.out.cell (World.block_lt_of_cell? w _ hx290_6)).trans hx290_6
           replace hx290_7 := (HB.out.cell (World.block_lt_of_cell? w _ hx290_7)).trans hx290_7
           replace p290 := eq_true p290
           replace q290 := eq_true q290
           refine start_ (n := 9) (S := fun w' => w'.cell? (ad286.add ((x5_1).toNat * 8)) = some (.int .i64 ((rd_T51 l0 x5_1).f0)) ∧ w'.cell? ⟨(ad286.add ((x5_1).toNat * 8)).block, (ad286.add ((x5_1).toNat * 8)).off + 1, none⟩ = some (.int .i64 ((rd_T51 l0 x5_1).f1)) ∧ w'.cell? ⟨(ad286.add ((x5_1).toNat * 8)).block, (ad286.add ((x5_1).toNat * 8)).off + 2, none⟩ = some (.int .i64 ((rd_T51 l0 x5_1).f2.f0)) ∧ w'.cell? ⟨(ad286.add ((x5_1).toNat * 8)).block, (ad286.add ((x5_1).toNat * 8)).off + 3, none⟩ = some (.int .i64 ((rd_T51 l0 x5_1).f2.f1)) ∧ w'.cell? ⟨(ad286.add ((x5_1).toNat * 8)).block, (ad286.add ((x5_1).toNat * 8)).off + 4, none⟩ = some (.string ((rd_T51 l0 x5_1).f2.f2)) ∧ w'.cell? ⟨(ad286.add ((x5_1).toNat * 8)).block, (ad286.add ((x5_1).toNat * 8)).off + 5, none⟩ = some (.string ((rd_T51 l0 x5_1).f2.f3)) ∧ w'.cell? ⟨(ad286.add ((x5_1).toNat * 8)).block, (ad286.add ((x5_1).toNat * 8)).off + 6, none⟩ = some (.int .i64 ((rd_T51 l0 x5_1).f2.f4)) ∧ w'.cell? ⟨(ad286.add ((x5_1).toNat * 8)).block, (ad286.add ((x5_1).toNat * 8)).off + 7, none⟩ = some (.int .i64 ((rd_T51 l0 x5_1).f2.f5))) (ds := []) #[o',o',o',o',o',o',o',o',o'] (by kernel_rfl) rfl rfl ⟨((HB.out.cell (World.block_lt_of_cell? w _ hw290_0)).trans hw290_0), ((HB.out.cell (World.block_lt_of_cell? w _ hw290_1)).trans hw290_1), ((HB.out.cell (World.block_lt_of_cell? w _ hw290_2)).trans hw290_2), ((HB.out.cell (World.block_lt_of_cell? w _ hw290_3)).trans hw290_3), ((HB.out.cell (World.block_lt_of_cell? w _ hw290_4)).trans hw290_4), ((HB.out.cell (World.block_lt_of_cell? w _ hw290_5)).trans hw290_5), ((HB.out.cell (World.block_lt_of_cell? w _ hw290_6)).trans hw290_6), ((HB.out.cell (World.block_lt_of_cell? w _ hw290_7)).trans hw290_7)⟩ (fun hHeld => ?_); refine with_tabW laws_heldSpotS.tab16 laws_heldSpotS.bits16 (fun HT_ HW_ => ?_)
           generalize wr.drew = w27 at HB hx290_0 hx290_1 hx290_2 hx290_3 hx290_4 hx290_5 hx290_6 hx290_7 hHeld ⊢
           refine pure_ (i := 0) (N := some 50) (v := ?_) (a' := ?_) #[i',o',o',o',o',o',o',o',o'] rfl rfl (any_of HT_.out (by kernel_rfl)) (fun _ _ _ h => h) (Or.inl ⟨by rfl, ?_⟩) ?_ ?_
           rotate_left;·intro w';go_simp;with_reducible rfl
           rotate_left;·simp only [Act.put, la_, lz_, ls_, i64_w, i32_w];rfl
           refine pure_ (i := 1) (N := some 51) (v := ?_) (a' := ?_) #[i',i',o',o',o',o',o',o',o'] rfl rfl (any_of HT_.out (by kernel_rfl)) (fun _ _ _ h => h) (Or.inl ⟨by rfl, ?_⟩) ?_ ?_
           rotate_left;·intro w';go_simp;with_reducible rfl
           rotate_left;·simp only [Act.put, la_, lz_, ls_, i64_w, i32_w];rfl
           refine pure_ (i := 2) (N := some 52) (v := ?_) (a' := ?_) #[i',i',i',o',o',o',o',o',o'] rfl rfl (any_of HT_.out (by kernel_rfl)) (fun _ _ _ h => h) (Or.inl ⟨by rfl, ?_⟩) ?_ ?_
           rotate_left;·intro w';go_simp;with_reducible rfl
           rotate_left;·simp only [Act.put, la_, lz_, ls_, i64_w, i32_w];rfl
           refine pure_ (i := 3) (N := some 53) (v := ?_) (a' := ?_) #[i',i',i',i',o',o',o',o',o'] rfl rfl (any_of HT_.out (by kernel_rfl)) (fun _ _ _ h => h) (Or.inl ⟨by rfl, ?_⟩) ?_ ?_
           rotate_left;·intro w';go_simp;with_reducible rfl
           rotate_left;·simp only [Act.put, la_, lz_, ls_, i64_w, i32_w];rfl
           refine pure_ (i := 4) (N := some 54) (v := ?_) (a' := ?_) #[i',i',i',i',i',o',o',o',o'] rfl rfl (any_of HT_.out (by kernel_rfl)) (fun _ _ _ h => h) (Or.inl ⟨by rfl, ?_⟩) ?_ ?_
           rotate_left;·intro w';go_simp;with_reducible rfl
           rotate_left;·simp only [Act.put, la_, lz_, ls_, i64_w, i32_w];rfl
           refine pure_ (i := 6) (N := some 56) (v := ?_) (a' := ?_) #[i',i',i',i',i',o',i',o',o'] rfl rfl (any_of HT_.out (by kernel_rfl)) (fun _ _ _ h => h) (Or.inl ⟨by rfl, ?_⟩) ?_ ?_
           rotate_left;·intro w';go_simp;with_reducible rfl
           rotate_left;·simp only [Act.put, la_, lz_, ls_, i64_w, i32_w];rfl
           refine take_ (i := 5) (N := some 55) (v := ?_) (a' := ?_) #[i',i',i',i',i',i',i',o',o'] rfl rfl (take_ofW HT_.out HW_.out (by kernel_rfl)) (fun _ _ _ h => h) (Or.inl ⟨by rfl, ?_⟩) hHeld ?_ ?_
           rotate_left
           ·rintro w' ⟨s0, s1, s2, s3, s4, s5, s6, s7⟩
            go_simp
            with_reducible rfl
           rotate_left
           ·simp only [Act.put, la_, lz_, ls_, i64_w, i32_w]
            rfl
           refine one_ (i := 7) (N := some 57) #[i',i',i',i',i',i',i',i',o'] rfl rfl (one_of HT_.out (by kernel_rfl)) (by decide) (fun K hK => ?_)
           refine goes_ Try.func53 (by kernel_rfl) rfl #[.int .i64 (wrap64 ((wrap64 ((wrap64 ((wrap64 (x1_1 + 1)) + 1)) + 1)) + 1))] (by rfl) rfl rfl ar_ ?_
           with_reducible refine (laws_markText.calls k1 (wrap64 ((wrap64 ((wrap64 ((wrap64 (x1_1 + 1)) + 1)) + 1)) + 1)) t291 _ A9.out).mono ?_
           rintro e w28 ⟨rfl, hb⟩
           refine ⟨_, rfl, ?_⟩
           have n0_ := Aside0.mk (below_step (hb_ HB) hb)
           clear HB
           have HB := n0_
           clear n0_
           (try clear hb)
           (try clear hb2)
           (try clear hk)
           (try clear hi)
           refine hK.out _ _ ⟨((HB.out.cell (World.block_lt_of_cell? w _ hw290_0)).trans hw290_0), ((HB.out.cell (World.block_lt_of_cell? w _ hw290_1)).trans hw290_1), ((HB.out.cell (World.block_lt_of_cell? w _ hw290_2)).trans hw290_2), ((HB.out.cell (World.block_lt_of_cell? w _ hw290_3)).trans hw290_3), ((HB.out.cell (World.block_lt_of_cell? w _ hw290_4)).trans hw290_4), ((HB.out.cell (World.block_lt_of_cell? w _ hw290_5)).trans hw290_5), ((HB.out.cell (World.block_lt_of_cell? w _ hw290_6)).trans hw290_6), ((HB.out.cell (World.block_lt_of_cell? w _ hw290_7)).trans hw290_7)⟩ (fun hHeld => ?_)
           clear hK K
           refine norm_ (a' := ?_) ?_ ?_
           rotate_left
           ·show Act.put _ (some 57) _ = _
            simp only [Act.put, la_, lz_, ls_, i64_w, i32_w]
            rfl
           refine pure_ (i := 8) (N := some 58) (v := ?_) (a' := ?_) #[i',i',i',i',i',i',i',i',i'] rfl rfl (any_of HT_.out (by kernel_rfl)) (fun _ _ _ h => h) (Or.inl ⟨by rfl, ?_⟩) ?_ ?_
           rotate_left;·intro w';go_simp;with_reducible rfl
           rotate_left;·simp only [Act.put, la_, lz_, ls_, i64_w, i32_w];rfl
           refine done_ (done_of HT_.out (by kernel_rfl)) ?_
           try go_wp2
           have n0_ := Aside0.mk (below_drew1 HB.out)
           clear HB
           have HB := n0_
           clear n0_
           have p292 : 0 ≤ (x5_1 : Int) := of_decide_eq_true as_
           have q292 : x5_1 < (l0.length : Int) := of_decide_eq_true as_
           obtain ⟨ad292, e292, hx292_0, hx292_1, hx292_2, hx292_3, hx292_4, hx292_5, hx292_6, hx292_7⟩ := at_T51 HR0.out x5_1 p292 q292
           have hw292_7 := hx292_7
           have hw292_6 := hx292_6
           have hw292_5 := hx292_5
           have hw292_4 := hx292_4
           have hw292_3 := hx292_3
           have hw292_2 := hx292_2
           have hw292_1 := hx292_1
           have hw292_0 := hx292_0
           obtain rfl : ad286 = ad292 := (by injection e292)
           replace hx292_0 := (HB.out.cell (World.block_lt_of_cell? w _ hx292_0)).trans hx292_0
           replace hx292_1 := (HB.out.cell (World.block_lt_of_cell? w _ hx292_1)).trans hx292_1
           replace hx292_2 := (HB.out.cell (World.block_lt_of_cell? w _ hx292_2)).trans hx292_2
           replace hx292_3 := (HB.out.cell (World.block_lt_of_cell? w _ hx292_3)).trans hx292_3
           replace hx292_4 := (HB.out.cell (World.block_lt_of_cell? w _ hx292_4)).trans hx292_4
           replace hx292_5 := (HB.out.cell (World.block_lt_of_cell? w _ hx292_5)).trans hx292_5
           replace hx292_6 := (HB.out.cell (World.block_lt_of_cell? w _ hx292_6)).trans hx292_6
           replace hx292_7 := (HB.out.cell (World.block_lt_of_cell? w _ hx292_7)).trans hx292_7
           replace p292 := eq_true p292
           replace q292 := eq_true q292
           refine start_ (n := 9) (S := fun w' => w'.cell? (ad286.add ((x5_1).toNat * 8)) = some (.int .i64 ((rd_T51 l0 x5_1).f0)) ∧ w'.cell? ⟨(ad286.add ((x5_1).toNat * 8)).block, (ad286.add ((x5_1).toNat * 8)).off + 1, none⟩ = some (.int .i64 ((rd_T51 l0 x5_1).f1)) ∧ w'.cell? ⟨(ad286.add ((x5_1).toNat * 8)).block, (ad286.add ((x5_1).toNat * 8)).off + 2, none⟩ = some (.int .i64 ((rd_T51 l0 x5_1).f2.f0)) ∧ w'.cell? ⟨(ad286.add ((x5_1).toNat * 8)).block, (ad286.add ((x5_1).toNat * 8)).off + 3, none⟩ = some (.int .i64 ((rd_T51 l0 x5_1).f2.f1)) ∧ w'.cell? ⟨(ad286.add ((x5_1).toNat * 8)).block, (ad286.add ((x5_1).toNat * 8)).off + 4, none⟩ = some (.string ((rd_T51 l0 x5_1).f2.f2)) ∧ w'.cell? ⟨(ad286.add ((x5_1).toNat * 8)).block, (ad286.add ((x5_1).toNat * 8)).off + 5, none⟩ = some (.string ((rd_T51 l0 x5_1).f2.f3)) ∧ w'.cell? ⟨(ad286.add ((x5_1).toNat * 8)).block, (ad286.add ((x5_1).toNat * 8)).off + 6, none⟩ = some (.int .i64 ((rd_T51 l0 x5_1).f2.f4)) ∧ w'.cell? ⟨(ad286.add ((x5_1).toNat * 8)).block, (ad286.add ((x5_1).toNat * 8)).off + 7, none⟩ = some (.int .i64 ((rd_T51 l0 x5_1).f2.f5))) (ds := []) #[o',o',o',o',o',o',o',o',o'] (by kernel_rfl) rfl rfl ⟨((HB.out.cell (World.block_lt_of_cell? w _ hw292_0)).trans hw292_0), ((HB.out.cell (World.block_lt_of_cell? w _ hw292_1)).trans hw292_1), ((HB.out.cell (World.block_lt_of_cell? w _ hw292_2)).trans hw292_2), ((HB.out.cell (World.block_lt_of_cell? w _ hw292_3)).trans hw292_3), ((HB.out.cell (World.block_lt_of_cell? w _ hw292_4)).trans hw292_4), ((HB.out.cell (World.block_lt_of_cell? w _ hw292_5)).trans hw292_5), ((HB.out.cell (World.block_lt_of_cell? w _ hw292_6)).trans hw292_6), ((HB.out.cell (World.block_lt_of_cell? w _ hw292_7)).trans hw292_7)⟩ (fun hHeld => ?_); refine with_tabW laws_heldSpotS.tab19 laws_heldSpotS.bits19 (fun HT_ HW_ => ?_)
           generalize w28.drew = w29 at HB hx292_0 hx292_1 hx292_2 hx292_3 hx292_4 hx292_5 hx292_6 hx292_7 hHeld ⊢
           refine pure_ (i := 0) (N := some 61) (v := ?_) (a' := ?_) #[i',o',o',o',o',o',o',o',o'] rfl rfl (any_of HT_.out (by kernel_rfl)) (fun _ _ _ h => h) (Or.inl ⟨by rfl, ?_⟩) ?_ ?_
           rotate_left;·intro w';go_simp;with_reducible rfl
           rotate_left;·simp only [Act.put, la_, lz_, ls_, i64_w, i32_w];rfl
           refine pure_ (i := 1) (N := some 62) (v := ?_) (a' := ?_) #[i',i',o',o',o',o',o',o',o'] rfl rfl (any_of HT_.out (by kernel_rfl)) (fun _ _ _ h => h) (Or.inl ⟨by rfl, ?_⟩) ?_ ?_
           rotate_left;·intro w';go_simp;with_reducible rfl
           rotate_left;·simp only [Act.put, la_, lz_, ls_, i64_w, i32_w];rfl
           refine pure_ (i := 2) (N := some 63) (v := ?_) (a' := ?_) #[i',i',i',o',o',o',o',o',o'] rfl rfl (any_of HT_.out (by kernel_rfl)) (fun _ _ _ h => h) (Or.inl ⟨by rfl, ?_⟩) ?_ ?_
           rotate_left;·intro w';go_simp;with_reducible rfl
           rotate_left;·simp only [Act.put, la_, lz_, ls_, i64_w, i32_w];rfl
           refine pure_ (i := 3) (N := some 64) (v := ?_) (a' := ?_) #[i',i',i',i',o',o',o',o',o'] rfl rfl (any_of HT_.out (by kernel_rfl)) (fun _ _ _ h => h) (Or.inl ⟨by rfl, ?_⟩) ?_ ?_
           rotate_left;·intro w';go_simp;with_reducible rfl
           rotate_left;·simp only [Act.put, la_, lz_, ls_, i64_w, i32_w];rfl
           refine pure_ (i := 4) (N := some 65) (v := ?_) (a' := ?_) #[i',i',i',i',i',o',o',o',o'] rfl rfl (any_of HT_.out (by kernel_rfl)) (fun _ _ _ h => h) (Or.inl ⟨by rfl, ?_⟩) ?_ ?_
           rotate_left;·intro w';go_simp;with_reducible rfl
           rotate_left;·simp only [Act.put, la_, lz_, ls_, i64_w, i32_w];rfl
           refine pure_ (i := 6) (N := some 67) (v := ?_) (a' := ?_) #[i',i',i',i',i',o',i',o',o'] rfl rfl (any_of HT_.out (by kernel_rfl)) (fun _ _ _ h => h) (Or.inl ⟨by rfl, ?_⟩) ?_ ?_
           rotate_left;·intro w';go_simp;with_reducible rfl
           rotate_left;·simp only [Act.put, la_, lz_, ls_, i64_w, i32_w];rfl
           refine take_ (i := 5) (N := some 66) (v := ?_) (a' := ?_) #[i',i',i',i',i',i',i',o',o'] rfl rfl (take_ofW HT_.out HW_.out (by kernel_rfl)) (fun _ _ _ h => h) (Or.inl ⟨by rfl, ?_⟩) hHeld ?_ ?_
           rotate_left
           ·rintro w' ⟨s0, s1, s2, s3, s4, s5, s6, s7⟩
            go_simp
            with_reducible rfl
           rotate_left
           ·simp only [Act.put, la_, lz_, ls_, i64_w, i32_w]
            rfl
           refine one_ (i := 7) (N := some 68) #[i',i',i',i',i',i',i',i',o'] rfl rfl (one_of HT_.out (by kernel_rfl)) (by decide) (fun K hK => ?_)
           refine goes_ Try.func53 (by kernel_rfl) rfl #[.int .i64 (wrap64 ((wrap64 ((wrap64 ((wrap64 ((wrap64 (x1_1 + 1)) + 1)) + 1)) + 1)) + 1))] (by rfl) rfl rfl ar_ ?_
           with_reducible refine (laws_markText.calls k1 (wrap64 ((wrap64 ((wrap64 ((wrap64 ((wrap64 (x1_1 + 1)) + 1)) + 1)) + 1)) + 1)) t293 _ A11.out).mono ?_
           rintro e w30 ⟨rfl, hb⟩
           refine ⟨_, rfl, ?_⟩
           have n0_ := Aside0.mk (below_step (hb_ HB) hb)
           clear HB
           have HB := n0_
           clear n0_
           (try clear hb)
           (try clear hb2)
           (try clear hk)
           (try clear hi)
           refine hK.out _ _ ⟨((HB.out.cell (World.block_lt_of_cell? w _ hw292_0)).trans hw292_0), ((HB.out.cell (World.block_lt_of_cell? w _ hw292_1)).trans hw292_1), ((HB.out.cell (World.block_lt_of_cell? w _ hw292_2)).trans hw292_2), ((HB.out.cell (World.block_lt_of_cell? w _ hw292_3)).trans hw292_3), ((HB.out.cell (World.block_lt_of_cell? w _ hw292_4)).trans hw292_4), ((HB.out.cell (World.block_lt_of_cell? w _ hw292_5)).trans hw292_5), ((HB.out.cell (World.block_lt_of_cell? w _ hw292_6)).trans hw292_6), ((HB.out.cell (World.block_lt_of_cell? w _ hw292_7)).trans hw292_7)⟩ (fun hHeld => ?_)
           clear hK K
           refine norm_ (a' := ?_) ?_ ?_
           rotate_left
           ·show Act.put _ (some 68) _ = _
            simp only [Act.put, la_, lz_, ls_, i64_w, i32_w]
            rfl
           refine pure_ (i := 8) (N := some 69) (v := ?_) (a' := ?_) #[i',i',i',i',i',i',i',i',i'] rfl rfl (any_of HT_.out (by kernel_rfl)) (fun _ _ _ h => h) (Or.inl ⟨by rfl, ?_⟩) ?_ ?_
           rotate_left;·intro w';go_simp;with_reducible rfl
           rotate_left;·simp only [Act.put, la_, lz_, ls_, i64_w, i32_w];rfl
           refine done_ (done_of HT_.out (by kernel_rfl)) ?_
           try go_wp2
           go_ret
           exact ⟨re_, hb_ HB⟩
         ·rw [if_neg c10] at H
          have c10b0 : (((rd_T51 l0 x5_1).f2.f2).toList == t291.toList) = false := beq_eq_false_iff_ne.mpr c10
          have c10b1 : (((rd_T51 l0 x5_1).f2.f2).toList != t291.toList) = true := bne_iff_ne.mpr c10
          obtain rfl := Option.some.inj H
          have p286 : 0 ≤ (x5_1 : Int) := of_decide_eq_true as_
          have q286 : x5_1 < (l0.length : Int) := of_decide_eq_true as_
          obtain ⟨ad286, e286, hx286_0, hx286_1, hx286_2, hx286_3, hx286_4, hx286_5, hx286_6, hx286_7⟩ := at_T51 HR0.out x5_1 p286 q286
          cases e286
          replace hx286_0 := (HB.out.cell (World.block_lt_of_cell? w _ hx286_0)).trans hx286_0
          replace hx286_1 := (HB.out.cell (World.block_lt_of_cell? w _ hx286_1)).trans hx286_1
          replace hx286_2 := (HB.out.cell (World.block_lt_of_cell? w _ hx286_2)).trans hx286_2
          replace hx286_3 := (HB.out.cell (World.block_lt_of_cell? w _ hx286_3)).trans hx286_3
          replace hx286_4 := (HB.out.cell (World.block_lt_of_cell? w _ hx286_4)).trans hx286_4
          replace hx286_5 := (HB.out.cell (World.block_lt_of_cell? w _ hx286_5)).trans hx286_5
          replace hx286_6 := (HB.out.cell (World.block_lt_of_cell? w _ hx286_6)).trans hx286_6
          replace hx286_7 := (HB.out.cell (World.block_lt_of_cell? w _ hx286_7)).trans hx286_7
          replace p286 := eq_true p286
          replace q286 := eq_true q286
          have p287 : 0 ≤ (x5_1 : Int) := of_decide_eq_true as_
          have q287 : x5_1 < (l0.length : Int) := of_decide_eq_true as_
          obtain ⟨ad287, e287, hx287_0, hx287_1, hx287_2, hx287_3, hx287_4, hx287_5, hx287_6, hx287_7⟩ := at_T51 HR0.out x5_1 p287 q287
          obtain rfl : ad286 = ad287 := (by injection e287)
          replace hx287_0 := (HB.out.cell (World.block_lt_of_cell? w _ hx287_0)).trans hx287_0
          replace hx287_1 := (HB.out.cell (World.block_lt_of_cell? w _ hx287_1)).trans hx287_1
          replace hx287_2 := (HB.out.cell (World.block_lt_of_cell? w _ hx287_2)).trans hx287_2
          replace hx287_3 := (HB.out.cell (World.block_lt_of_cell? w _ hx287_3)).trans hx287_3
          replace hx287_4 := (HB.out.cell (World.block_lt_of_cell? w _ hx287_4)).trans hx287_4
          replace hx287_5 := (HB.out.cell (World.block_lt_of_cell? w _ hx287_5)).trans hx287_5
          replace hx287_6 := (HB.out.cell (World.block_lt_of_cell? w _ hx287_6)).trans hx287_6
          replace hx287_7 := (HB.out.cell (World.block_lt_of_cell? w _ hx287_7)).trans hx287_7
          replace p287 := eq_true p287
          replace q287 := eq_true q287
          have p288 : 0 ≤ (x5_1 : Int) := of_decide_eq_true as_
          have q288 : x5_1 < (l0.length : Int) := of_decide_eq_true as_
          obtain ⟨ad288, e288, hx288_0, hx288_1, hx288_2, hx288_3, hx288_4, hx288_5, hx288_6, hx288_7⟩ := at_T51 HR0.out x5_1 p288 q288
          obtain rfl : ad286 = ad288 := (by injection e288)
          replace hx288_0 := (HB.out.cell (World.block_lt_of_cell? w _ hx288_0)).trans hx288_0
          replace hx288_1 := (HB.out.cell (World.block_lt_of_cell? w _ hx288_1)).trans hx288_1
          replace hx288_2 := (HB.out.cell (World.block_lt_of_cell? w _ hx288_2)).trans hx288_2
          replace hx288_3 := (HB.out.cell (World.block_lt_of_cell? w _ hx288_3)).trans hx288_3
          replace hx288_4 := (HB.out.cell (World.block_lt_of_cell? w _ hx288_4)).trans hx288_4
          replace hx288_5 := (HB.out.cell (World.block_lt_of_cell? w _ hx288_5)).trans hx288_5
          replace hx288_6 := (HB.out.cell (World.block_lt_of_cell? w _ hx288_6)).trans hx288_6
          replace hx288_7 := (HB.out.cell (World.block_lt_of_cell? w _ hx288_7)).trans hx288_7
          replace p288 := eq_true p288
          replace q288 := eq_true q288
          have p289 : 0 ≤ (x5_1 : Int) := of_decide_eq_true as_
          have q289 : x5_1 < (l0.length : Int) := of_decide_eq_true as_
          obtain ⟨ad289, e289, hx289_0, hx289_1, hx289_2, hx289_3, hx289_4, hx289_5, hx289_6, hx289_7⟩ := at_T51 HR0.out x5_1 p289 q289
          obtain rfl : ad286 = ad289 := (by injection e289)
          replace hx289_0 := (HB.out.cell (World.block_lt_of_cell? w _ hx289_0)).trans hx289_0
          replace hx289_1 := (HB.out.cell (World.block_lt_of_cell? w _ hx289_1)).trans hx289_1
          replace hx289_2 := (HB.out.cell (World.block_lt_of_cell? w _ hx289_2)).trans hx289_2
          replace hx289_3 := (HB.out.cell (World.block_lt_of_cell? w _ hx289_3)).trans hx289_3
          replace hx289_4 := (HB.out.cell (World.block_lt_of_cell? w _ hx289_4)).trans hx289_4
          replace hx289_5 := (HB.out.cell (World.block_lt_of_cell? w _ hx289_5)).trans hx289_5
          replace hx289_6 := (HB.out.cell (World.block_lt_of_cell? w _ hx289_6)).trans hx289_6
          replace hx289_7 := (HB.out.cell (World.block_lt_of_cell? w _ hx289_7)).trans hx289_7
          replace p289 := eq_true p289
          replace q289 := eq_true q289
          try go_wp2
          have n0_ := Aside0.mk (below_drew1 HB.out)
          clear HB
          have HB := n0_
          clear n0_
          have p290 : 0 ≤ (x5_1 : Int) := of_decide_eq_true as_
          have q290 : x5_1 < (l0.length : Int) := of_decide_eq_true as_
          obtain ⟨ad290, e290, hx290_0, hx290_1, hx290_2, hx290_3, hx290_4, hx290_5, hx290_6, hx290_7⟩ := at_T51 HR0.out x5_1 p290 q290
          have hw290_7 := hx290_7
          have hw290_6 := hx290_6
          have hw290_5 := hx290_5
          have hw290_4 := hx290_4
          have hw290_3 := hx290_3
          have hw290_2 := hx290_2
          have hw290_1 := hx290_1
          have hw290_0 := hx290_0
          obtain rfl : ad286 = ad290 := (by injection e290)
          replace hx290_0 := (HB.out.cell (World.block_lt_of_cell? w _ hx290_0)).trans hx290_0
          replace hx290_1 := (HB.out.cell (World.block_lt_of_cell? w _ hx290_1)).trans hx290_1
          replace hx290_2 := (HB.out.cell (World.block_lt_of_cell? w _ hx290_2)).trans hx290_2
          replace hx290_3 := (HB.out.cell (World.block_lt_of_cell? w _ hx290_3)).trans hx290_3
          replace hx290_4 := (HB.out.cell (World.block_lt_of_cell? w _ hx290_4)).trans hx290_4
          replace hx290_5 := (HB.out.cell (World.block_lt_of_cell? w _ hx290_5)).trans hx290_5
          replace hx290_6 := (HB.out.cell (World.block_lt_of_cell? w _ hx290_6)).trans hx290_6
          replace hx290_7 := (HB.out.cell (World.block_lt_of_cell? w _ hx290_7)).trans hx290_7
          replace p290 := eq_true p290
          replace q290 := eq_true q290
          refine start_ (n := 9) (S := fun w' => w'.cell? (ad286.add ((x5_1).toNat * 8)) = some (.int .i64 ((rd_T51 l0 x5_1).f0)) ∧ w'.cell? ⟨(ad286.add ((x5_1).toNat * 8)).block, (ad286.add ((x5_1).toNat * 8)).off + 1, none⟩ = some (.int .i64 ((rd_T51 l0 x5_1).f1)) ∧ w'.cell? ⟨(ad286.add ((x5_1).toNat * 8)).block, (ad286.add ((x5_1).toNat * 8)).off + 2, none⟩ = some (.int .i64 ((rd_T51 l0 x5_1).f2.f0)) ∧ w'.cell? ⟨(ad286.add ((x5_1).toNat * 8)).block, (ad286.add ((x5_1).toNat * 8)).off + 3, none⟩ = some (.int .i64 ((rd_T51 l0 x5_1).f2.f1)) ∧ w'.cell? ⟨(ad286.add ((x5_1).toNat * 8)).block, (ad286.add ((x5_1).toNat * 8)).off + 4, none⟩ = some (.string ((rd_T51 l0 x5_1).f2.f2)) ∧ w'.cell? ⟨(ad286.add ((x5_1).toNat * 8)).block, (ad286.add ((x5_1).toNat * 8)).off + 5, none⟩ = some (.string ((rd_T51 l0 x5_1).f2.f3)) ∧ w'.cell? ⟨(ad286.add ((x5_1).toNat * 8)).block, (ad286.add ((x5_1).toNat * 8)).off + 6, none⟩ = some (.int .i64 ((rd_T51 l0 x5_1).f2.f4)) ∧ w'.cell? ⟨(ad286.add ((x5_1).toNat * 8)).block, (ad286.add ((x5_1).toNat * 8)).off + 7, none⟩ = some (.int .i64 ((rd_T51 l0 x5_1).f2.f5))) (ds := []) #[o',o',o',o',o',o',o',o',o'] (by kernel_rfl) rfl rfl ⟨((HB.out.cell (World.block_lt_of_cell? w _ hw290_0)).trans hw290_0), ((HB.out.cell (World.block_lt_of_cell? w _ hw290_1)).trans hw290_1), ((HB.out.cell (World.block_lt_of_cell? w _ hw290_2)).trans hw290_2), ((HB.out.cell (World.block_lt_of_cell? w _ hw290_3)).trans hw290_3), ((HB.out.cell (World.block_lt_of_cell? w _ hw290_4)).trans hw290_4), ((HB.out.cell (World.block_lt_of_cell? w _ hw290_5)).trans hw290_5), ((HB.out.cell (World.block_lt_of_cell? w _ hw290_6)).trans hw290_6), ((HB.out.cell (World.block_lt_of_cell? w _ hw290_7)).trans hw290_7)⟩ (fun hHeld => ?_); refine with_tabW laws_heldSpotS.tab16 laws_heldSpotS.bits16 (fun HT_ HW_ => ?_)
          generalize wr.drew = w31 at HB hx290_0 hx290_1 hx290_2 hx290_3 hx290_4 hx290_5 hx290_6 hx290_7 hHeld ⊢
          refine pure_ (i := 0) (N := some 50) (v := ?_) (a' := ?_) #[i',o',o',o',o',o',o',o',o'] rfl rfl (any_of HT_.out (by kernel_rfl)) (fun _ _ _ h => h) (Or.inl ⟨by rfl, ?_⟩) ?_ ?_
          rotate_left;·intro w';go_simp;with_reducible rfl
          rotate_left;·simp only [Act.put, la_, lz_, ls_, i64_w, i32_w];rfl
          refine pure_ (i := 1) (N := some 51) (v := ?_) (a' := ?_) #[i',i',o',o',o',o',o',o',o'] rfl rfl (any_of HT_.out (by kernel_rfl)) (fun _ _ _ h => h) (Or.inl ⟨by rfl, ?_⟩) ?_ ?_
          rotate_left;·intro w';go_simp;with_reducible rfl
          rotate_left;·simp only [Act.put, la_, lz_, ls_, i64_w, i32_w];rfl
          refine pure_ (i := 2) (N := some 52) (v := ?_) (a' := ?_) #[i',i',i',o',o',o',o',o',o'] rfl rfl (any_of HT_.out (by kernel_rfl)) (fun _ _ _ h => h) (Or.inl ⟨by rfl, ?_⟩) ?_ ?_
          rotate_left;·intro w';go_simp;with_reducible rfl
          rotate_left;·simp only [Act.put, la_, lz_, ls_, i64_w, i32_w];rfl
          refine pure_ (i := 3) (N := some 53) (v := ?_) (a' := ?_) #[i',i',i',i',o',o',o',o',o'] rfl rfl (any_of HT_.out (by kernel_rfl)) (fun _ _ _ h => h) (Or.inl ⟨by rfl, ?_⟩) ?_ ?_
          rotate_left;·intro w';go_simp;with_reducible rfl
          rotate_left;·simp only [Act.put, la_, lz_, ls_, i64_w, i32_w];rfl
          refine pure_ (i := 4) (N := some 54) (v := ?_) (a' := ?_) #[i',i',i',i',i',o',o',o',o'] rfl rfl (any_of HT_.out (by kernel_rfl)) (fun _ _ _ h => h) (Or.inl ⟨by rfl, ?_⟩) ?_ ?_
          rotate_left;·intro w';go_simp;with_reducible rfl
          rotate_left;·simp only [Act.put, la_, lz_, ls_, i64_w, i32_w];rfl
          refine pure_ (i := 6) (N := some 56) (v := ?_) (a' := ?_) #[i',i',i',i',i',o',i',o',o'] rfl rfl (any_of HT_.out (by kernel_rfl)) (fun _ _ _ h => h) (Or.inl ⟨by rfl, ?_⟩) ?_ ?_
          rotate_left;·intro w';go_simp;with_reducible rfl
          rotate_left;·simp only [Act.put, la_, lz_, ls_, i64_w, i32_w];rfl
          refine take_ (i := 5) (N := some 55) (v := ?_) (a' := ?_) #[i',i',i',i',i',i',i',o',o'] rfl rfl (take_ofW HT_.out HW_.out (by kernel_rfl)) (fun _ _ _ h => h) (Or.inl ⟨by rfl, ?_⟩) hHeld ?_ ?_
          rotate_left
          ·rintro w' ⟨s0, s1, s2, s3, s4, s5, s6, s7⟩
           go_simp
           with_reducible rfl
          rotate_left
          ·simp only [Act.put, la_, lz_, ls_, i64_w, i32_w]
           rfl
          refine one_ (i := 7) (N := some 57) #[i',i',i',i',i',i',i',i',o'] rfl rfl (one_of HT_.out (by kernel_rfl)) (by decide) (fun K hK => ?_)
          refine goes_ Try.func53 (by kernel_rfl) rfl #[.int .i64 (wrap64 ((wrap64 ((wrap64 ((wrap64 (x1_1 + 1)) + 1)) + 1)) + 1))] (by rfl) rfl rfl ar_ ?_
          with_reducible refine (laws_markText.calls k1 (wrap64 ((wrap64 ((wrap64 ((wrap64 (x1_1 + 1)) + 1)) + 1)) + 1)) t291 _ A9.out).mono ?_
          rintro e w32 ⟨rfl, hb⟩
          refine ⟨_, rfl, ?_⟩
          have n0_ := Aside0.mk (below_step (hb_ HB) hb)
          clear HB
          have HB := n0_
          clear n0_
          (try clear hb)
          (try clear hb2)
          (try clear hk)
          (try clear hi)
          refine hK.out _ _ ⟨((HB.out.cell (World.block_lt_of_cell? w _ hw290_0)).trans hw290_0), ((HB.out.cell (World.block_lt_of_cell? w _ hw290_1)).trans hw290_1), ((HB.out.cell (World.block_lt_of_cell? w _ hw290_2)).trans hw290_2), ((HB.out.cell (World.block_lt_of_cell? w _ hw290_3)).trans hw290_3), ((HB.out.cell (World.block_lt_of_cell? w _ hw290_4)).trans hw290_4), ((HB.out.cell (World.block_lt_of_cell? w _ hw290_5)).trans hw290_5), ((HB.out.cell (World.block_lt_of_cell? w _ hw290_6)).trans hw290_6), ((HB.out.cell (World.block_lt_of_cell? w _ hw290_7)).trans hw290_7)⟩ (fun hHeld => ?_)
          clear hK K
          refine norm_ (a' := ?_) ?_ ?_
          rotate_left
          ·show Act.put _ (some 57) _ = _
           simp only [Act.put, la_, lz_, ls_, i64_w, i32_w]
           rfl
          refine pure_ (i := 8) (N := some 58) (v := ?_) (a' := ?_) #[i',i',i',i',i',i',i',i',i'] rfl rfl (any_of HT_.out (by kernel_rfl)) (fun _ _ _ h => h) (Or.inl ⟨by rfl, ?_⟩) ?_ ?_
          rotate_left;·intro w';go_simp;with_reducible rfl
          rotate_left;·simp only [Act.put, la_, lz_, ls_, i64_w, i32_w];rfl
          refine done_ (done_of HT_.out (by kernel_rfl)) ?_
          try go_wp2
          go_ret
          exact ⟨re_, hb_ HB⟩
        ·rw [if_neg c8] at H
         have c8b0 : (((rd_T51 l0 x5_1).f2.f1) == (wrap64 ((wrap64 ((wrap64 (x1_1 + 1)) + 1)) + 1))) = false := beq_eq_false_iff_ne.mpr c8
         have c8b1 : (((rd_T51 l0 x5_1).f2.f1) != (wrap64 ((wrap64 ((wrap64 (x1_1 + 1)) + 1)) + 1))) = true := bne_iff_ne.mpr c8
         obtain rfl := Option.some.inj H
         have p286 : 0 ≤ (x5_1 : Int) := of_decide_eq_true as_
         have q286 : x5_1 < (l0.length : Int) := of_decide_eq_true as_
         obtain ⟨ad286, e286, hx286_0, hx286_1, hx286_2, hx286_3, hx286_4, hx286_5, hx286_6, hx286_7⟩ := at_T51 HR0.out x5_1 p286 q286
         cases e286
         replace hx286_0 := (HB.out.cell (World.block_lt_of_cell? w _ hx286_0)).trans hx286_0
         replace hx286_1 := (HB.out.cell (World.block_lt_of_cell? w _ hx286_1)).trans hx286_1
         replace hx286_2 := (HB.out.cell (World.block_lt_of_cell? w _ hx286_2)).trans hx286_2
         replace hx286_3 := (HB.out.cell (World.block_lt_of_cell? w _ hx286_3)).trans hx286_3
         replace hx286_4 := (HB.out.cell (World.block_lt_of_cell? w _ hx286_4)).trans hx286_4
         replace hx286_5 := (HB.out.cell (World.block_lt_of_cell? w _ hx286_5)).trans hx286_5
         replace hx286_6 := (HB.out.cell (World.block_lt_of_cell? w _ hx286_6)).trans hx286_6
         replace hx286_7 := (HB.out.cell (World.block_lt_of_cell? w _ hx286_7)).trans hx286_7
         replace p286 := eq_true p286
         replace q286 := eq_true q286
         have p287 : 0 ≤ (x5_1 : Int) := of_decide_eq_true as_
         have q287 : x5_1 < (l0.length : Int) := of_decide_eq_true as_
         obtain ⟨ad287, e287, hx287_0, hx287_1, hx287_2, hx287_3, hx287_4, hx287_5, hx287_6, hx287_7⟩ := at_T51 HR0.out x5_1 p287 q287
         obtain rfl : ad286 = ad287 := (by injection e287)
         replace hx287_0 := (HB.out.cell (World.block_lt_of_cell? w _ hx287_0)).trans hx287_0
         replace hx287_1 := (HB.out.cell (World.block_lt_of_cell? w _ hx287_1)).trans hx287_1
         replace hx287_2 := (HB.out.cell (World.block_lt_of_cell? w _ hx287_2)).trans hx287_2
         replace hx287_3 := (HB.out.cell (World.block_lt_of_cell? w _ hx287_3)).trans hx287_3
         replace hx287_4 := (HB.out.cell (World.block_lt_of_cell? w _ hx287_4)).trans hx287_4
         replace hx287_5 := (HB.out.cell (World.block_lt_of_cell? w _ hx287_5)).trans hx287_5
         replace hx287_6 := (HB.out.cell (World.block_lt_of_cell? w _ hx287_6)).trans hx287_6
         replace hx287_7 := (HB.out.cell (World.block_lt_of_cell? w _ hx287_7)).trans hx287_7
         replace p287 := eq_true p287
         replace q287 := eq_true q287
         have p288 : 0 ≤ (x5_1 : Int) := of_decide_eq_true as_
         have q288 : x5_1 < (l0.length : Int) := of_decide_eq_true as_
         obtain ⟨ad288, e288, hx288_0, hx288_1, hx288_2, hx288_3, hx288_4, hx288_5, hx288_6, hx288_7⟩ := at_T51 HR0.out x5_1 p288 q288
         obtain rfl : ad286 = ad288 := (by injection e288)
         replace hx288_0 := (HB.out.cell (World.block_lt_of_cell? w _ hx288_0)).trans hx288_0
         replace hx288_1 := (HB.out.cell (World.block_lt_of_cell? w _ hx288_1)).trans hx288_1
         replace hx288_2 := (HB.out.cell (World.block_lt_of_cell? w _ hx288_2)).trans hx288_2
         replace hx288_3 := (HB.out.cell (World.block_lt_of_cell? w _ hx288_3)).trans hx288_3
         replace hx288_4 := (HB.out.cell (World.block_lt_of_cell? w _ hx288_4)).trans hx288_4
         replace hx288_5 := (HB.out.cell (World.block_lt_of_cell? w _ hx288_5)).trans hx288_5
         replace hx288_6 := (HB.out.cell (World.block_lt_of_cell? w _ hx288_6)).trans hx288_6
         replace hx288_7 := (HB.out.cell (World.block_lt_of_cell? w _ hx288_7)).trans hx288_7
         replace p288 := eq_true p288
         replace q288 := eq_true q288
         have p289 : 0 ≤ (x5_1 : Int) := of_decide_eq_true as_
         have q289 : x5_1 < (l0.length : Int) := of_decide_eq_true as_
         obtain ⟨ad289, e289, hx289_0, hx289_1, hx289_2, hx289_3, hx289_4, hx289_5, hx289_6, hx289_7⟩ := at_T51 HR0.out x5_1 p289 q289
         obtain rfl : ad286 = ad289 := (by injection e289)
         replace hx289_0 := (HB.out.cell (World.block_lt_of_cell? w _ hx289_0)).trans hx289_0
         replace hx289_1 := (HB.out.cell (World.block_lt_of_cell? w _ hx289_1)).trans hx289_1
         replace hx289_2 := (HB.out.cell (World.block_lt_of_cell? w _ hx289_2)).trans hx289_2
         replace hx289_3 := (HB.out.cell (World.block_lt_of_cell? w _ hx289_3)).trans hx289_3
         replace hx289_4 := (HB.out.cell (World.block_lt_of_cell? w _ hx289_4)).trans hx289_4
         replace hx289_5 := (HB.out.cell (World.block_lt_of_cell? w _ hx289_5)).trans hx289_5
         replace hx289_6 := (HB.out.cell (World.block_lt_of_cell? w _ hx289_6)).trans hx289_6
         replace hx289_7 := (HB.out.cell (World.block_lt_of_cell? w _ hx289_7)).trans hx289_7
         replace p289 := eq_true p289
         replace q289 := eq_true q289
         go_wp2
         go_ret
         exact ⟨re_, hb_ HB⟩
       ·rw [if_neg c7] at H
        have c7b0 : (((rd_T51 l0 x5_1).f2.f0) == (wrap64 ((wrap64 (x1_1 + 1)) + 1))) = false := beq_eq_false_iff_ne.mpr c7
        have c7b1 : (((rd_T51 l0 x5_1).f2.f0) != (wrap64 ((wrap64 (x1_1 + 1)) + 1))) = true := bne_iff_ne.mpr c7
        obtain rfl := Option.some.inj H
        have p286 : 0 ≤ (x5_1 : Int) := of_decide_eq_true as_
        have q286 : x5_1 < (l0.length : Int) := of_decide_eq_true as_
        obtain ⟨ad286, e286, hx286_0, hx286_1, hx286_2, hx286_3, hx286_4, hx286_5, hx286_6, hx286_7⟩ := at_T51 HR0.out x5_1 p286 q286
        cases e286
        replace hx286_0 := (HB.out.cell (World.block_lt_of_cell? w _ hx286_0)).trans hx286_0
        replace hx286_1 := (HB.out.cell (World.block_lt_of_cell? w _ hx286_1)).trans hx286_1
        replace hx286_2 := (HB.out.cell (World.block_lt_of_cell? w _ hx286_2)).trans hx286_2
        replace hx286_3 := (HB.out.cell (World.block_lt_of_cell? w _ hx286_3)).trans hx286_3
        replace hx286_4 := (HB.out.cell (World.block_lt_of_cell? w _ hx286_4)).trans hx286_4
        replace hx286_5 := (HB.out.cell (World.block_lt_of_cell? w _ hx286_5)).trans hx286_5
        replace hx286_6 := (HB.out.cell (World.block_lt_of_cell? w _ hx286_6)).trans hx286_6
        replace hx286_7 := (HB.out.cell (World.block_lt_of_cell? w _ hx286_7)).trans hx286_7
        replace p286 := eq_true p286
        replace q286 := eq_true q286
        have p287 : 0 ≤ (x5_1 : Int) := of_decide_eq_true as_
        have q287 : x5_1 < (l0.length : Int) := of_decide_eq_true as_
        obtain ⟨ad287, e287, hx287_0, hx287_1, hx287_2, hx287_3, hx287_4, hx287_5, hx287_6, hx287_7⟩ := at_T51 HR0.out x5_1 p287 q287
        obtain rfl : ad286 = ad287 := (by injection e287)
        replace hx287_0 := (HB.out.cell (World.block_lt_of_cell? w _ hx287_0)).trans hx287_0
        replace hx287_1 := (HB.out.cell (World.block_lt_of_cell? w _ hx287_1)).trans hx287_1
        replace hx287_2 := (HB.out.cell (World.block_lt_of_cell? w _ hx287_2)).trans hx287_2
        replace hx287_3 := (HB.out.cell (World.block_lt_of_cell? w _ hx287_3)).trans hx287_3
        replace hx287_4 := (HB.out.cell (World.block_lt_of_cell? w _ hx287_4)).trans hx287_4
        replace hx287_5 := (HB.out.cell (World.block_lt_of_cell? w _ hx287_5)).trans hx287_5
        replace hx287_6 := (HB.out.cell (World.block_lt_of_cell? w _ hx287_6)).trans hx287_6
        replace hx287_7 := (HB.out.cell (World.block_lt_of_cell? w _ hx287_7)).trans hx287_7
        replace p287 := eq_true p287
        replace q287 := eq_true q287
        have p288 : 0 ≤ (x5_1 : Int) := of_decide_eq_true as_
        have q288 : x5_1 < (l0.length : Int) := of_decide_eq_true as_
        obtain ⟨ad288, e288, hx288_0, hx288_1, hx288_2, hx288_3, hx288_4, hx288_5, hx288_6, hx288_7⟩ := at_T51 HR0.out x5_1 p288 q288
        obtain rfl : ad286 = ad288 := (by injection e288)
        replace hx288_0 := (HB.out.cell (World.block_lt_of_cell? w _ hx288_0)).trans hx288_0
        replace hx288_1 := (HB.out.cell (World.block_lt_of_cell? w _ hx288_1)).trans hx288_1
        replace hx288_2 := (HB.out.cell (World.block_lt_of_cell? w _ hx288_2)).trans hx288_2
        replace hx288_3 := (HB.out.cell (World.block_lt_of_cell? w _ hx288_3)).trans hx288_3
        replace hx288_4 := (HB.out.cell (World.block_lt_of_cell? w _ hx288_4)).trans hx288_4
        replace hx288_5 := (HB.out.cell (World.block_lt_of_cell? w _ hx288_5)).trans hx288_5
        replace hx288_6 := (HB.out.cell (World.block_lt_of_cell? w _ hx288_6)).trans hx288_6
        replace hx288_7 := (HB.out.cell (World.block_lt_of_cell? w _ hx288_7)).trans hx288_7
        replace p288 := eq_true p288
        replace q288 := eq_true q288
        go_wp2
        go_ret
        exact ⟨re_, hb_ HB⟩
      ·rw [if_neg c6] at H
       have c6b0 : (((rd_T51 l0 x5_1).f1) == (wrap64 (x1_1 + 1))) = false := beq_eq_false_iff_ne.mpr c6
       have c6b1 : (((rd_T51 l0 x5_1).f1) != (wrap64 (x1_1 + 1))) = true := bne_iff_ne.mpr c6
       obtain rfl := Option.some.inj H
       have p286 : 0 ≤ (x5_1 : Int) := of_decide_eq_true as_
       have q286 : x5_1 < (l0.length : Int) := of_decide_eq_true as_
       obtain ⟨ad286, e286, hx286_0, hx286_1, hx286_2, hx286_3, hx286_4, hx286_5, hx286_6, hx286_7⟩ := at_T51 HR0.out x5_1 p286 q286
       cases e286
       replace hx286_0 := (HB.out.cell (World.block_lt_of_cell? w _ hx286_0)).trans hx286_0
       replace hx286_1 := (HB.out.cell (World.block_lt_of_cell? w _ hx286_1)).trans hx286_1
       replace hx286_2 := (HB.out.cell (World.block_lt_of_cell? w _ hx286_2)).trans hx286_2
       replace hx286_3 := (HB.out.cell (World.block_lt_of_cell? w _ hx286_3)).trans hx286_3
       replace hx286_4 := (HB.out.cell (World.block_lt_of_cell? w _ hx286_4)).trans hx286_4
       replace hx286_5 := (HB.out.cell (World.block_lt_of_cell? w _ hx286_5)).trans hx286_5
       replace hx286_6 := (HB.out.cell (World.block_lt_of_cell? w _ hx286_6)).trans hx286_6
       replace hx286_7 := (HB.out.cell (World.block_lt_of_cell? w _ hx286_7)).trans hx286_7
       replace p286 := eq_true p286
       replace q286 := eq_true q286
       have p287 : 0 ≤ (x5_1 : Int) := of_decide_eq_true as_
       have q287 : x5_1 < (l0.length : Int) := of_decide_eq_true as_
       obtain ⟨ad287, e287, hx287_0, hx287_1, hx287_2, hx287_3, hx287_4, hx287_5, hx287_6, hx287_7⟩ := at_T51 HR0.out x5_1 p287 q287
       obtain rfl : ad286 = ad287 := (by injection e287)
       replace hx287_0 := (HB.out.cell (World.block_lt_of_cell? w _ hx287_0)).trans hx287_0
       replace hx287_1 := (HB.out.cell (World.block_lt_of_cell? w _ hx287_1)).trans hx287_1
       replace hx287_2 := (HB.out.cell (World.block_lt_of_cell? w _ hx287_2)).trans hx287_2
       replace hx287_3 := (HB.out.cell (World.block_lt_of_cell? w _ hx287_3)).trans hx287_3
       replace hx287_4 := (HB.out.cell (World.block_lt_of_cell? w _ hx287_4)).trans hx287_4
       replace hx287_5 := (HB.out.cell (World.block_lt_of_cell? w _ hx287_5)).trans hx287_5
       replace hx287_6 := (HB.out.cell (World.block_lt_of_cell? w _ hx287_6)).trans hx287_6
       replace hx287_7 := (HB.out.cell (World.block_lt_of_cell? w _ hx287_7)).trans hx287_7
       replace p287 := eq_true p287
       replace q287 := eq_true q287
       go_wp2
       go_ret
       exact ⟨re_, hb_ HB⟩
     ·rw [if_neg c5] at H
      have c5b0 : (((rd_T51 l0 x5_1).f0) == x1_1) = false := beq_eq_false_iff_ne.mpr c5
      have c5b1 : (((rd_T51 l0 x5_1).f0) != x1_1) = true := bne_iff_ne.mpr c5
      obtain rfl := Option.some.inj H
      have p286 : 0 ≤ (x5_1 : Int) := of_decide_eq_true as_
      have q286 : x5_1 < (l0.length : Int) := of_decide_eq_true as_
      obtain ⟨ad286, e286, hx286_0, hx286_1, hx286_2, hx286_3, hx286_4, hx286_5, hx286_6, hx286_7⟩ := at_T51 HR0.out x5_1 p286 q286
      cases e286
      replace hx286_0 := (HB.out.cell (World.block_lt_of_cell? w _ hx286_0)).trans hx286_0
      replace hx286_1 := (HB.out.cell (World.block_lt_of_cell? w _ hx286_1)).trans hx286_1
      replace hx286_2 := (HB.out.cell (World.block_lt_of_cell? w _ hx286_2)).trans hx286_2
      replace hx286_3 := (HB.out.cell (World.block_lt_of_cell? w _ hx286_3)).trans hx286_3
      replace hx286_4 := (HB.out.cell (World.block_lt_of_cell? w _ hx286_4)).trans hx286_4
      replace hx286_5 := (HB.out.cell (World.block_lt_of_cell? w _ hx286_5)).trans hx286_5
      replace hx286_6 := (HB.out.cell (World.block_lt_of_cell? w _ hx286_6)).trans hx286_6
      replace hx286_7 := (HB.out.cell (World.block_lt_of_cell? w _ hx286_7)).trans hx286_7
      replace p286 := eq_true p286
      replace q286 := eq_true q286
      go_wp2
      go_ret
      exact ⟨re_, hb_ HB⟩
    ·rw [if_neg c4] at H
     exact absurd H (by simp)
   ·rw [if_neg c3] at H
    have c3b0 : decide (x5_1 < (l0.length : Int)) = false := decide_eq_false c3
    clear c3
    obtain rfl := Option.some.inj H
    go_wp2
    go_ret
    exact ⟨re_, hb_ HB⟩

end Go.Proofs.Ytebeafcdabkkfab.PFnExactScanRecs
