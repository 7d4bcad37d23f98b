-- Laid by a program of this session, a copy of the kit's printer with additions (wip/patch_print.py): myhead. Lean checks it.
import Derived.Test.YtebeafcdabkkfaaPFnExactReadHintx0
import Derived.Test.YtebeafcdabkkfaaPFnExactReadHintx7
import Derived.Test.YtebeafcdabkkfaaPFnExactReadHintx8
namespace Go.Proofs.Ytebeafcdabkkfaa.PFnExactReadHint
open Go.RowKit Go.Proofs.YtebeafcdabkkfaaW.PrintWords Go.Proofs.YtebeafcdabkkfaaW.PrintLast Go.Proofs.YtebeafcdabkkfaaW.PrintMore
attribute [local go_sem] max2_int min2_int max_two min_two max_three min_three max_four min_four   -- for this text's walks alone
set_option linter.unusedVariables false
set_option linter.unusedSimpArgs false

/-! ### impl_hintOk: function 89 -/
def impl_hintOk.l0 : Nat → List (S113) → Int → Int → Int → Int → List (S113) → Option (Bool)
 | 0, _, _, _, _, _, _ => none
 | k + 1, x6, x7, x8, x200000, x200001, x200002 => if x8 < x7 then (if 0 ≤ x8 then (if x8 < (x6.length : Int) then (if 0 < (x200002.length : Int) then (if ((rd_T113 x6 x8).f1) = ((rd_T113 x200002 0).f1) then (if ((rd_T113 x6 x8).f2) > 100000 then (some false) else (impl_hintOk.l0 k x6 x7 (wrap64 (x8 + 1)) x200000 x200001 x200002)) else (some false)) else (none)) else (none)) else (none)) else ((impl_in.f x200000 0 100000).bind fun t203 => (if t203 = true then ((impl_in.f x200001 0 1000000).bind fun t204 => (if t204 = true then ((impl_DirOk.f k x200002).bind fun t205 => (some t205)) else (some false))) else (some false)))
def impl_hintOk.f (k : Nat) (a0_0 : Int) (a0_1 : Int) (l0_2 : List (S113)) : Option (Bool) := impl_hintOk.l0 k l0_2 (l0_2.length : Int) 0 a0_0 a0_1 l0_2
theorem impl_hintOk.mono_l : ∀ k, (∀ y0 y1 y2 y3 y4 y5, LeO (impl_hintOk.l0 k y0 y1 y2 y3 y4 y5) (impl_hintOk.l0 (k + 1) y0 y1 y2 y3 y4 y5))
 | 0 => fun _ _ _ _ _ _ r h => by simp [impl_hintOk.l0] at h
 | k + 1 => by
  have ih0 := impl_hintOk.mono_l k
  ·intro y0 y1 y2 y3 y4 y5
   unfold impl_hintOk.l0
   repeat' first
   | (with_reducible exact ih0 _ _ _ _ _ _)
   | (with_reducible exact impl_DirOk.mono _ _)
   | (with_reducible exact LeO.refl _)
   | (with_reducible exact LeO.none _)
   | (with_reducible refine LeO.ite ?_ ?_)
   | (with_reducible refine LeO.bind ?_ (fun _ => ?_))
   | exact ih0 _ _ _ _ _ _
   | exact impl_DirOk.mono _ _
   | exact LeO.none _
   | refine LeO.ite ?_ ?_
   | refine LeO.bind ?_ (fun _ => ?_)
theorem impl_hintOk.mono : ∀ a0 a1 a2 k, LeO (impl_hintOk.f k a0 a1 a2) (impl_hintOk.f (k + 1) a0 a1 a2) := by
 intro a0 a1 a2 k
 have ih0 := impl_hintOk.mono_l k
 unfold impl_hintOk.f
 repeat' first
   | (with_reducible exact ih0 _ _ _ _ _ _)
   | (with_reducible exact impl_DirOk.mono _ _)
   | (with_reducible exact LeO.refl _)
   | (with_reducible exact LeO.none _)
   | (with_reducible refine LeO.ite ?_ ?_)
   | (with_reducible refine LeO.bind ?_ (fun _ => ?_))
   | exact ih0 _ _ _ _ _ _
   | exact impl_DirOk.mono _ _
   | exact LeO.none _
   | refine LeO.ite ?_ ?_
   | refine LeO.bind ?_ (fun _ => ?_)
set_option maxHeartbeats 8000000 in
set_option maxRecDepth 100000 in
theorem impl_hintOk.calls (k : Nat) (a0_0 : Int) (a0_1 : Int) (A0_2 : Option Addr) (c0_2 : Nat) (l0_2 : List (S113)) (r : Bool) (w : World) (hr0_2 : Kd.C k113 w A0_2 l0_2.length l0_2) (hc0_2 : l0_2.length ≤ c0_2) (h : impl_hintOk.f k a0_0 a0_1 l0_2 = some r) :
  Calls Try.prog 89 #[.agg #[.int .i64 a0_0, .int .i64 a0_1, .slice A0_2 l0_2.length c0_2]] w fun e w' => e = .returned (.bool r) ∧ Below w.heap.size w w' := by
 have hu54 := Try.underlying54
 have hu113 := Try.underlying113
 have HR0_2 := Aside0.mk hr0_2
 have HC0_2 := Aside0.mk hc0_2
 clear hr0_2 hc0_2
 have HB := Aside0.mk (Below.refl w.heap.size w)
 have H : (impl_hintOk.l0 k l0_2 (l0_2.length : Int) 0 a0_0 a0_1 l0_2) = some r := h
 clear h
 have H' := Aside0.mk H
 clear H
 go_enter Try.func89, Try.ntmps89
 go_wp2_with (first | ((with_reducible refine gate_dst (N := 1) rfl ?_); refine box_event ?hg (N := 1) ?hd (cs := #[.int .i64 a0_0, .int .i64 a0_1, .slice A0_2 l0_2.length c0_2]) (t := 54) ?hr ?_; (case hd => rfl); (case hg => rfl); (case hr => first | (go_simp; done) | (go_simp; rfl)); intro gb199 hg w2 hbox hb; have n0_ := Aside0.mk (below_step (hb_ HB) hb); have n1_ := Aside0.mk (hbox); have n2_ := Aside0.mk ((by rw [hg]; exact (below_size (hb_ HB)) : w.heap.size ≤ gb199)); have n3_ := Aside0.mk ((by rw [hg]; exact (below_size (hb_ HB)) : w.heap.size ≤ gb199)); clear HB; have HB := n0_; have BK199 := n1_; have GW199 := n2_; have GE199 := n3_; clear n0_ n1_ n2_ n3_; clear hb hbox hg; have hcz3_0 : w2.cell? ⟨gb199, 0, none⟩ = some (.int .i64 a0_0) := (blk_cell BK199.out 0).trans rfl; have hcz3_1 : w2.cell? ⟨gb199, 1, none⟩ = some (.int .i64 a0_1) := (blk_cell BK199.out 1).trans rfl; have hcz3_2 : w2.cell? ⟨gb199, 2, none⟩ = some (.slice A0_2 l0_2.length c0_2) := (blk_cell BK199.out 2).trans rfl; have hfz3_0 := blk_frozen BK199.out 0; have hfz3_1 := blk_frozen BK199.out 1; have hfz3_2 := blk_frozen BK199.out 2))
 repeat (go_quiet (first | ((with_reducible refine gate_dst (N := 1) rfl ?_); refine box_event ?hg (N := 1) ?hd (cs := #[.int .i64 a0_0, .int .i64 a0_1, .slice A0_2 l0_2.length c0_2]) (t := 54) ?hr ?_; (case hd => rfl); (case hg => rfl); (case hr => first | (go_simp; done) | (go_simp; rfl)); intro gb199 hg w2 hbox hb; have n0_ := Aside0.mk (below_step (hb_ HB) hb); have n1_ := Aside0.mk (hbox); have n2_ := Aside0.mk ((by rw [hg]; exact (below_size (hb_ HB)) : w.heap.size ≤ gb199)); have n3_ := Aside0.mk ((by rw [hg]; exact (below_size (hb_ HB)) : w.heap.size ≤ gb199)); clear HB; have HB := n0_; have BK199 := n1_; have GW199 := n2_; have GE199 := n3_; clear n0_ n1_ n2_ n3_; clear hb hbox hg; have hcz3_0 : w2.cell? ⟨gb199, 0, none⟩ = some (.int .i64 a0_0) := (blk_cell BK199.out 0).trans rfl; have hcz3_1 : w2.cell? ⟨gb199, 1, none⟩ = some (.int .i64 a0_1) := (blk_cell BK199.out 1).trans rfl; have hcz3_2 : w2.cell? ⟨gb199, 2, none⟩ = some (.slice A0_2 l0_2.length c0_2) := (blk_cell BK199.out 2).trans rfl; have hfz3_0 := blk_frozen BK199.out 0; have hfz3_1 := blk_frozen BK199.out 1; have hfz3_2 := blk_frozen BK199.out 2)); try go_wp2_with (first | ((with_reducible refine gate_dst (N := 1) rfl ?_); refine box_event ?hg (N := 1) ?hd (cs := #[.int .i64 a0_0, .int .i64 a0_1, .slice A0_2 l0_2.length c0_2]) (t := 54) ?hr ?_; (case hd => rfl); (case hg => rfl); (case hr => first | (go_simp; done) | (go_simp; rfl)); intro gb199 hg w2 hbox hb; have n0_ := Aside0.mk (below_step (hb_ HB) hb); have n1_ := Aside0.mk (hbox); have n2_ := Aside0.mk ((by rw [hg]; exact (below_size (hb_ HB)) : w.heap.size ≤ gb199)); have n3_ := Aside0.mk ((by rw [hg]; exact (below_size (hb_ HB)) : w.heap.size ≤ gb199)); clear HB; have HB := n0_; have BK199 := n1_; have GW199 := n2_; have GE199 := n3_; clear n0_ n1_ n2_ n3_; clear hb hbox hg; have hcz3_0 : w2.cell? ⟨gb199, 0, none⟩ = some (.int .i64 a0_0) := (blk_cell BK199.out 0).trans rfl; have hcz3_1 : w2.cell? ⟨gb199, 1, none⟩ = some (.int .i64 a0_1) := (blk_cell BK199.out 1).trans rfl; have hcz3_2 : w2.cell? ⟨gb199, 2, none⟩ = some (.slice A0_2 l0_2.length c0_2) := (blk_cell BK199.out 2).trans rfl; have hfz3_0 := blk_frozen BK199.out 0; have hfz3_1 := blk_frozen BK199.out 1; have hfz3_2 := blk_frozen BK199.out 2)))
 go_loopg [8] k (fun kq v8 w' => ∃ (x8_1 : Int), v8 = .int .i64 x8_1 ∧ Aside0 (impl_hintOk.l0 kq l0_2 (l0_2.length : Int) x8_1 a0_0 a0_1 l0_2 = some r) ∧ Aside0 (kq ≤ k) ∧ Aside0 (w'.heap[gb199]? = some (.cells #[.int .i64 a0_0, .int .i64 a0_1, (.slice A0_2 l0_2.length c0_2)] 54 (0, 0))) ∧ Aside0 (Below w.heap.size w w'))
 case atStart => exact ⟨(0), rs_, H', ⟨Nat.le_refl _⟩, ⟨bk_ BK199⟩, ⟨hs_ HB GE199⟩⟩
 case round =>
  clear H'
  try clear p2
  try clear hcz3_0
  try clear hcz3_1
  try clear hcz3_2
  try clear hfz3_0
  try clear hfz3_1
  try clear hfz3_2
  obtain ⟨x8_1, rfl, HA, HK1, BK199, HB⟩ := hrel
  cases gk with
  | zero => exact absurd HA.out (by simp [impl_hintOk.l0])
  | succ k1 =>
   have H := HA.out
   clear HA
   simp only [impl_hintOk.l0] at H
   by_cases c4 : x8_1 < (l0_2.length : Int)
   ·rw [if_pos c4] at H
    have c4b0 : decide (x8_1 < (l0_2.length : Int)) = true := decide_eq_true c4
    clear c4
    by_cases c5 : 0 ≤ x8_1
    ·rw [if_pos c5] at H
     have c5b0 : decide (0 ≤ x8_1) = true := decide_eq_true c5
     clear c5
     by_cases c6 : x8_1 < (l0_2.length : Int)
     ·rw [if_pos c6] at H
      have c6b0 : decide (x8_1 < (l0_2.length : Int)) = true := decide_eq_true c6
      clear c6
      by_cases c7 : 0 < (l0_2.length : Int)
      ·rw [if_pos c7] at H
       have c7b0 : decide (0 < (l0_2.length : Int)) = true := decide_eq_true c7
       have c7b1 : decide (0 < l0_2.length) = true := decide_eq_true (by omega)
       clear c7
       by_cases c8 : ((rd_T113 l0_2 x8_1).f1) = ((rd_T113 l0_2 0).f1)
       ·rw [if_pos c8] at H
        have c8b0 : (((rd_T113 l0_2 x8_1).f1) == ((rd_T113 l0_2 0).f1)) = true := beq_iff_eq.mpr c8
        have c8b1 : (((rd_T113 l0_2 x8_1).f1) != ((rd_T113 l0_2 0).f1)) = false := bne_eq_false_iff_eq.mpr c8
        clear c8
        by_cases c9 : ((rd_T113 l0_2 x8_1).f2) > 100000
        ·rw [if_pos c9] at H
         have c9b0 : decide (100000 < ((rd_T113 l0_2 x8_1).f2)) = true := decide_eq_true c9
         clear c9
         obtain rfl := Option.some.inj H
         have p200 : 0 ≤ (x8_1 : Int) := of_decide_eq_true as_
         have q200 : x8_1 < (l0_2.length : Int) := of_decide_eq_true as_
         obtain ⟨ad200, e200, hx200_0, hx200_1, hx200_2, hx200_3, hx200_4⟩ := at_T113 HR0_2.out x8_1 p200 q200
         cases e200
         replace hx200_0 := cb_ HB hx200_0
         replace hx200_1 := cb_ HB hx200_1
         replace hx200_2 := cb_ HB hx200_2
         replace hx200_3 := cb_ HB hx200_3
         replace hx200_4 := cb_ HB hx200_4
         replace p200 := eq_true p200
         replace q200 := eq_true q200
         go_wp2_with (first | ((with_reducible refine gate_dst (N := 4) rfl ?_); refine box_event ?hg (N := 4) ?hd (cs := #[.string (⟨#[]⟩ : ByteArray), .int .i64 0, .int .i64 0, .int .i64 0, .int .i64 0]) (t := 113) ?hr ?_; (case hd => rfl); (case hg => rfl); (case hr => first | (go_simp; done) | (go_simp; rfl)); intro gb201 hg w10 hbox hb; have n0_ := Aside0.mk (blk_below (g := gb199) (o := .cells #[.int .i64 a0_0, .int .i64 a0_1, .slice (some ad200) l0_2.length c0_2] 54 (0, 0)) (bk_ BK199) hb); have n1_ := Aside0.mk (below_step (hs_ HB GE199) hb); have n2_ := Aside0.mk (hbox); have n3_ := Aside0.mk ((by rw [hg]; exact (below_size (hs_ HB GE199)) : w.heap.size ≤ gb201)); have n4_ := Aside0.mk ((by rw [hg]; exact (below_size (hs_ HB GE199)) : w.heap.size ≤ gb201)); have n5_ := Aside0.mk ((by rw [hg]; exact Nat.ne_of_lt (blk_lt (g := gb199) (o := .cells #[.int .i64 a0_0, .int .i64 a0_1, .slice (some ad200) l0_2.length c0_2] 54 (0, 0)) (bk_ BK199)) : gb199 ≠ gb201)); have n6_ := Aside0.mk ((by rw [hg]; exact Nat.ne_of_gt (blk_lt (g := gb199) (o := .cells #[.int .i64 a0_0, .int .i64 a0_1, .slice (some ad200) l0_2.length c0_2] 54 (0, 0)) (bk_ BK199)) : gb201 ≠ gb199)); clear BK199; clear HB; have BK199 := n0_; have HB := n1_; have BK201 := n2_; have GW201 := n3_; have GE201 := n4_; have NB199_201 := n5_; have NB201_199 := n6_; clear n0_ n1_ n2_ n3_ n4_ n5_ n6_; clear hb hbox hg; have hnb11 := NB201_199.out; have hnc11 := NB199_201.out; have hcz12_0 : w10.cell? ⟨gb201, 0, none⟩ = some (.string (⟨#[]⟩ : ByteArray)) := (blk_cell BK201.out 0).trans rfl; have hcz12_1 : w10.cell? ⟨gb201, 1, none⟩ = some (.int .i64 0) := (blk_cell BK201.out 1).trans rfl; have hcz12_2 : w10.cell? ⟨gb201, 2, none⟩ = some (.int .i64 0) := (blk_cell BK201.out 2).trans rfl; have hcz12_3 : w10.cell? ⟨gb201, 3, none⟩ = some (.int .i64 0) := (blk_cell BK201.out 3).trans rfl; have hcz12_4 : w10.cell? ⟨gb201, 4, none⟩ = some (.int .i64 0) := (blk_cell BK201.out 4).trans rfl; have hfz12_0 := blk_frozen BK201.out 0; have hfz12_1 := blk_frozen BK201.out 1; have hfz12_2 := blk_frozen BK201.out 2; have hfz12_3 := blk_frozen BK201.out 3; have hfz12_4 := blk_frozen BK201.out 4; have hcz13_0 : w10.cell? ⟨gb199, 0, none⟩ = some (.int .i64 a0_0) := (blk_cell BK199.out 0).trans rfl; have hcz13_1 : w10.cell? ⟨gb199, 1, none⟩ = some (.int .i64 a0_1) := (blk_cell BK199.out 1).trans rfl; have hcz13_2 : w10.cell? ⟨gb199, 2, none⟩ = some (.slice (some ad200) l0_2.length c0_2) := (blk_cell BK199.out 2).trans rfl; have hfz13_0 := blk_frozen BK199.out 0; have hfz13_1 := blk_frozen BK199.out 1; have hfz13_2 := blk_frozen BK199.out 2; have p202 : 0 ≤ (0 : Int) := (by omega); have q202 : 0 < (l0_2.length : Int) := of_decide_eq_true as_; obtain ⟨ad202, e202, hx202_0, hx202_1, hx202_2, hx202_3, hx202_4⟩ := at_T113 HR0_2.out 0 p202 q202; obtain rfl : ad200 = ad202 := (by injection e202); have qi202 : (0 < l0_2.length) = True := eq_true (by omega); (try rw [show ((0 : Int)).toNat = 0 from rfl] at hx202_0); (try rw [show 0 * 5 = 0 from rfl] at hx202_0); (try rw [Addr.add_zero'] at hx202_0); (try rw [show ((0 : Int)).toNat = 0 from rfl] at hx202_1); (try rw [show 0 * 5 = 0 from rfl] at hx202_1); (try rw [Addr.add_zero'] at hx202_1); (try rw [show ((0 : Int)).toNat = 0 from rfl] at hx202_2); (try rw [show 0 * 5 = 0 from rfl] at hx202_2); (try rw [Addr.add_zero'] at hx202_2); (try rw [show ((0 : Int)).toNat = 0 from rfl] at hx202_3); (try rw [show 0 * 5 = 0 from rfl] at hx202_3); (try rw [Addr.add_zero'] at hx202_3); (try rw [show ((0 : Int)).toNat = 0 from rfl] at hx202_4); (try rw [show 0 * 5 = 0 from rfl] at hx202_4); (try rw [Addr.add_zero'] at hx202_4); have hn202_0 : ad200.block ≠ gb201 := Nat.ne_of_lt (Nat.lt_of_lt_of_le (by have := World.block_lt_of_cell? _ _ hx202_0; first | rwa [add_block] at this | exact this) GW201.out); have hn202_1 : ad200.block ≠ gb201 := Nat.ne_of_lt (Nat.lt_of_lt_of_le (by have := World.block_lt_of_cell? _ _ hx202_0; first | rwa [add_block] at this | exact this) GW201.out); have hn202_2 : ad200.block ≠ gb201 := Nat.ne_of_lt (Nat.lt_of_lt_of_le (by have := World.block_lt_of_cell? _ _ hx202_0; first | rwa [add_block] at this | exact this) GW201.out); have hn202_3 : ad200.block ≠ gb201 := Nat.ne_of_lt (Nat.lt_of_lt_of_le (by have := World.block_lt_of_cell? _ _ hx202_0; first | rwa [add_block] at this | exact this) GW201.out); have hn202_4 : ad200.block ≠ gb201 := Nat.ne_of_lt (Nat.lt_of_lt_of_le (by have := World.block_lt_of_cell? _ _ hx202_0; first | rwa [add_block] at this | exact this) GW201.out); replace hx202_0 := cb_ HB hx202_0; replace hx202_1 := cb_ HB hx202_1; replace hx202_2 := cb_ HB hx202_2; replace hx202_3 := cb_ HB hx202_3; replace hx202_4 := cb_ HB hx202_4; replace hx202_0 := (cell_far (p := ⟨gb201, 0, none⟩) (nb_ hn202_0) (.string ((rd_T113 l0_2 x8_1).f0))).trans hx202_0; replace hx202_1 := (cell_far (p := ⟨gb201, 0, none⟩) (nb_ hn202_0) (.string ((rd_T113 l0_2 x8_1).f0))).trans hx202_1; replace hx202_2 := (cell_far (p := ⟨gb201, 0, none⟩) (nb_ hn202_0) (.string ((rd_T113 l0_2 x8_1).f0))).trans hx202_2; replace hx202_3 := (cell_far (p := ⟨gb201, 0, none⟩) (nb_ hn202_0) (.string ((rd_T113 l0_2 x8_1).f0))).trans hx202_3; replace hx202_4 := (cell_far (p := ⟨gb201, 0, none⟩) (nb_ hn202_0) (.string ((rd_T113 l0_2 x8_1).f0))).trans hx202_4; replace hx202_0 := (cell_far (p := ⟨gb201, 1, none⟩) (nb_ hn202_1) (.int .i64 ((rd_T113 l0_2 x8_1).f1))).trans hx202_0; replace hx202_1 := (cell_far (p := ⟨gb201, 1, none⟩) (nb_ hn202_1) (.int .i64 ((rd_T113 l0_2 x8_1).f1))).trans hx202_1; replace hx202_2 := (cell_far (p := ⟨gb201, 1, none⟩) (nb_ hn202_1) (.int .i64 ((rd_T113 l0_2 x8_1).f1))).trans hx202_2; replace hx202_3 := (cell_far (p := ⟨gb201, 1, none⟩) (nb_ hn202_1) (.int .i64 ((rd_T113 l0_2 x8_1).f1))).trans hx202_3; replace hx202_4 := (cell_far (p := ⟨gb201, 1, none⟩) (nb_ hn202_1) (.int .i64 ((rd_T113 l0_2 x8_1).f1))).trans hx202_4; replace hx202_0 := (cell_far (p := ⟨gb201, 2, none⟩) (nb_ hn202_2) (.int .i64 ((rd_T113 l0_2 x8_1).f2))).trans hx202_0; replace hx202_1 := (cell_far (p := ⟨gb201, 2, none⟩) (nb_ hn202_2) (.int .i64 ((rd_T113 l0_2 x8_1).f2))).trans hx202_1; replace hx202_2 := (cell_far (p := ⟨gb201, 2, none⟩) (nb_ hn202_2) (.int .i64 ((rd_T113 l0_2 x8_1).f2))).trans hx202_2; replace hx202_3 := (cell_far (p := ⟨gb201, 2, none⟩) (nb_ hn202_2) (.int .i64 ((rd_T113 l0_2 x8_1).f2))).trans hx202_3; replace hx202_4 := (cell_far (p := ⟨gb201, 2, none⟩) (nb_ hn202_2) (.int .i64 ((rd_T113 l0_2 x8_1).f2))).trans hx202_4; replace hx202_0 := (cell_far (p := ⟨gb201, 3, none⟩) (nb_ hn202_3) (.int .i64 ((rd_T113 l0_2 x8_1).f3))).trans hx202_0; replace hx202_1 := (cell_far (p := ⟨gb201, 3, none⟩) (nb_ hn202_3) (.int .i64 ((rd_T113 l0_2 x8_1).f3))).trans hx202_1; replace hx202_2 := (cell_far (p := ⟨gb201, 3, none⟩) (nb_ hn202_3) (.int .i64 ((rd_T113 l0_2 x8_1).f3))).trans hx202_2; replace hx202_3 := (cell_far (p := ⟨gb201, 3, none⟩) (nb_ hn202_3) (.int .i64 ((rd_T113 l0_2 x8_1).f3))).trans hx202_3; replace hx202_4 := (cell_far (p := ⟨gb201, 3, none⟩) (nb_ hn202_3) (.int .i64 ((rd_T113 l0_2 x8_1).f3))).trans hx202_4; replace hx202_0 := (cell_far (p := ⟨gb201, 4, none⟩) (nb_ hn202_4) (.int .i64 ((rd_T113 l0_2 x8_1).f4))).trans hx202_0; replace hx202_1 := (cell_far (p := ⟨gb201, 4, none⟩) (nb_ hn202_4) (.int .i64 ((rd_T113 l0_2 x8_1).f4))).trans hx202_1; replace hx202_2 := (cell_far (p := ⟨gb201, 4, none⟩) (nb_ hn202_4) (.int .i64 ((rd_T113 l0_2 x8_1).f4))).trans hx202_2; replace hx202_3 := (cell_far (p := ⟨gb201, 4, none⟩) (nb_ hn202_4) (.int .i64 ((rd_T113 l0_2 x8_1).f4))).trans hx202_3; replace hx202_4 := (cell_far (p := ⟨gb201, 4, none⟩) (nb_ hn202_4) (.int .i64 ((rd_T113 l0_2 x8_1).f4))).trans hx202_4; (try have hy202_0 := fun (n_ : Nat) => (cdk5_ n_ hx202_0)); (try have hy202_1 := fun (n_ : Nat) => (cdk5_ n_ hx202_1)); (try have hy202_2 := fun (n_ : Nat) => (cdk5_ n_ hx202_2)); (try have hy202_3 := fun (n_ : Nat) => (cdk5_ n_ hx202_3)); (try have hy202_4 := fun (n_ : Nat) => (cdk5_ n_ hx202_4)); clear hn202_0; clear hn202_1; clear hn202_2; clear hn202_3; clear hn202_4; replace p202 := eq_true p202; replace q202 := eq_true q202))
         repeat (go_quiet (first | ((with_reducible refine gate_dst (N := 4) rfl ?_); refine box_event ?hg (N := 4) ?hd (cs := #[.string (⟨#[]⟩ : ByteArray), .int .i64 0, .int .i64 0, .int .i64 0, .int .i64 0]) (t := 113) ?hr ?_; (case hd => rfl); (case hg => rfl); (case hr => first | (go_simp; done) | (go_simp; rfl)); intro gb201 hg w10 hbox hb; have n0_ := Aside0.mk (blk_below (g := gb199) (o := .cells #[.int .i64 a0_0, .int .i64 a0_1, .slice (some ad200) l0_2.length c0_2] 54 (0, 0)) (bk_ BK199) hb); have n1_ := Aside0.mk (below_step (hs_ HB GE199) hb); have n2_ := Aside0.mk (hbox); have n3_ := Aside0.mk ((by rw [hg]; exact (below_size (hs_ HB GE199)) : w.heap.size ≤ gb201)); have n4_ := Aside0.mk ((by rw [hg]; exact (below_size (hs_ HB GE199)) : w.heap.size ≤ gb201)); have n5_ := Aside0.mk ((by rw [hg]; exact Nat.ne_of_lt (blk_lt (g := gb199) (o := .cells #[.int .i64 a0_0, .int .i64 a0_1, .slice (some ad200) l0_2.length c0_2] 54 (0, 0)) (bk_ BK199)) : gb199 ≠ gb201)); have n6_ := Aside0.mk ((by rw [hg]; exact Nat.ne_of_gt (blk_lt (g := gb199) (o := .cells #[.int .i64 a0_0, .int .i64 a0_1, .slice (some ad200) l0_2.length c0_2] 54 (0, 0)) (bk_ BK199)) : gb201 ≠ gb199)); clear BK199; clear HB; have BK199 := n0_; have HB := n1_; have BK201 := n2_; have GW201 := n3_; have GE201 := n4_; have NB199_201 := n5_; have NB201_199 := n6_; clear n0_ n1_ n2_ n3_ n4_ n5_ n6_; clear hb hbox hg; have hnb11 := NB201_199.out; have hnc11 := NB199_201.out; have hcz12_0 : w10.cell? ⟨gb201, 0, none⟩ = some (.string (⟨#[]⟩ : ByteArray)) := (blk_cell BK201.out 0).trans rfl; have hcz12_1 : w10.cell? ⟨gb201, 1, none⟩ = some (.int .i64 0) := (blk_cell BK201.out 1).trans rfl; have hcz12_2 : w10.cell? ⟨gb201, 2, none⟩ = some (.int .i64 0) := (blk_cell BK201.out 2).trans rfl; have hcz12_3 : w10.cell? ⟨gb201, 3, none⟩ = some (.int .i64 0) := (blk_cell BK201.out 3).trans rfl; have hcz12_4 : w10.cell? ⟨gb201, 4, none⟩ = some (.int .i64 0) := (blk_cell BK201.out 4).trans rfl; have hfz12_0 := blk_frozen BK201.out 0; have hfz12_1 := blk_frozen BK201.out 1; have hfz12_2 := blk_frozen BK201.out 2; have hfz12_3 := blk_frozen BK201.out 3; have hfz12_4 := blk_frozen BK201.out 4; have hcz13_0 : w10.cell? ⟨gb199, 0, none⟩ = some (.int .i64 a0_0) := (blk_cell BK199.out 0).trans rfl; have hcz13_1 : w10.cell? ⟨gb199, 1, none⟩ = some (.int .i64 a0_1) := (blk_cell BK199.out 1).trans rfl; have hcz13_2 : w10.cell? ⟨gb199, 2, none⟩ = some (.slice (some ad200) l0_2.length c0_2) := (blk_cell BK199.out 2).trans rfl; have hfz13_0 := blk_frozen BK199.out 0; have hfz13_1 := blk_frozen BK199.out 1; have hfz13_2 := blk_frozen BK199.out 2; have p202 : 0 ≤ (0 : Int) := (by omega); have q202 : 0 < (l0_2.length : Int) := of_decide_eq_true as_; obtain ⟨ad202, e202, hx202_0, hx202_1, hx202_2, hx202_3, hx202_4⟩ := at_T113 HR0_2.out 0 p202 q202; obtain rfl : ad200 = ad202 := (by injection e202); have qi202 : (0 < l0_2.length) = True := eq_true (by omega); (try rw [show ((0 : Int)).toNat = 0 from rfl] at hx202_0); (try rw [show 0 * 5 = 0 from rfl] at hx202_0); (try rw [Addr.add_zero'] at hx202_0); (try rw [show ((0 : Int)).toNat = 0 from rfl] at hx202_1); (try rw [show 0 * 5 = 0 from rfl] at hx202_1); (try rw [Addr.add_zero'] at hx202_1); (try rw [show ((0 : Int)).toNat = 0 from rfl] at hx202_2); (try rw [show 0 * 5 = 0 from rfl] at hx202_2); (try rw [Addr.add_zero'] at hx202_2); (try rw [show ((0 : Int)).toNat = 0 from rfl] at hx202_3); (try rw [show 0 * 5 = 0 from rfl] at hx202_3); (try rw [Addr.add_zero'] at hx202_3); (try rw [show ((0 : Int)).toNat = 0 from rfl] at hx202_4); (try rw [show 0 * 5 = 0 from rfl] at hx202_4); (try rw [Addr.add_zero'] at hx202_4); have hn202_0 : ad200.block ≠ gb201 := Nat.ne_of_lt (Nat.lt_of_lt_of_le (by have := World.block_lt_of_cell? _ _ hx202_0; first | rwa [add_block] at this | exact this) GW201.out); have hn202_1 : ad200.block ≠ gb201 := Nat.ne_of_lt (Nat.lt_of_lt_of_le (by have := World.block_lt_of_cell? _ _ hx202_0; first | rwa [add_block] at this | exact this) GW201.out); have hn202_2 : ad200.block ≠ gb201 := Nat.ne_of_lt (Nat.lt_of_lt_of_le (by have := World.block_lt_of_cell? _ _ hx202_0; first | rwa [add_block] at this | exact this) GW201.out); have hn202_3 : ad200.block ≠ gb201 := Nat.ne_of_lt (Nat.lt_of_lt_of_le (by have := World.block_lt_of_cell? _ _ hx202_0; first | rwa [add_block] at this | exact this) GW201.out); have hn202_4 : ad200.block ≠ gb201 := Nat.ne_of_lt (Nat.lt_of_lt_of_le (by have := World.block_lt_of_cell? _ _ hx202_0; first | rwa [add_block] at this | exact this) GW201.out); replace hx202_0 := cb_ HB hx202_0; replace hx202_1 := cb_ HB hx202_1; replace hx202_2 := cb_ HB hx202_2; replace hx202_3 := cb_ HB hx202_3; replace hx202_4 := cb_ HB hx202_4; replace hx202_0 := (cell_far (p := ⟨gb201, 0, none⟩) (nb_ hn202_0) (.string ((rd_T113 l0_2 x8_1).f0))).trans hx202_0; replace hx202_1 := (cell_far (p := ⟨gb201, 0, none⟩) (nb_ hn202_0) (.string ((rd_T113 l0_2 x8_1).f0))).trans hx202_1; replace hx202_2 := (cell_far (p := ⟨gb201, 0, none⟩) (nb_ hn202_0) (.string ((rd_T113 l0_2 x8_1).f0))).trans hx202_2; replace hx202_3 := (cell_far (p := ⟨gb201, 0, none⟩) (nb_ hn202_0) (.string ((rd_T113 l0_2 x8_1).f0))).trans hx202_3; replace hx202_4 := (cell_far (p := ⟨gb201, 0, none⟩) (nb_ hn202_0) (.string ((rd_T113 l0_2 x8_1).f0))).trans hx202_4; replace hx202_0 := (cell_far (p := ⟨gb201, 1, none⟩) (nb_ hn202_1) (.int .i64 ((rd_T113 l0_2 x8_1).f1))).trans hx202_0; replace hx202_1 := (cell_far (p := ⟨gb201, 1, none⟩) (nb_ hn202_1) (.int .i64 ((rd_T113 l0_2 x8_1).f1))).trans hx202_1; replace hx202_2 := (cell_far (p := ⟨gb201, 1, none⟩) (nb_ hn202_1) (.int .i64 ((rd_T113 l0_2 x8_1).f1))).trans hx202_2; replace hx202_3 := (cell_far (p := ⟨gb201, 1, none⟩) (nb_ hn202_1) (.int .i64 ((rd_T113 l0_2 x8_1).f1))).trans hx202_3; replace hx202_4 := (cell_far (p := ⟨gb201, 1, none⟩) (nb_ hn202_1) (.int .i64 ((rd_T113 l0_2 x8_1).f1))).trans hx202_4; replace hx202_0 := (cell_far (p := ⟨gb201, 2, none⟩) (nb_ hn202_2) (.int .i64 ((rd_T113 l0_2 x8_1).f2))).trans hx202_0; replace hx202_1 := (cell_far (p := ⟨gb201, 2, none⟩) (nb_ hn202_2) (.int .i64 ((rd_T113 l0_2 x8_1).f2))).trans hx202_1; replace hx202_2 := (cell_far (p := ⟨gb201, 2, none⟩) (nb_ hn202_2) (.int .i64 ((rd_T113 l0_2 x8_1).f2))).trans hx202_2; replace hx202_3 := (cell_far (p := ⟨gb201, 2, none⟩) (nb_ hn202_2) (.int .i64 ((rd_T113 l0_2 x8_1).f2))).trans hx202_3; replace hx202_4 := (cell_far (p := ⟨gb201, 2, none⟩) (nb_ hn202_2) (.int .i64 ((rd_T113 l0_2 x8_1).f2))).trans hx202_4; replace hx202_0 := (cell_far (p := ⟨gb201, 3, none⟩) (nb_ hn202_3) (.int .i64 ((rd_T113 l0_2 x8_1).f3))).trans hx202_0; replace hx202_1 := (cell_far (p := ⟨gb201, 3, none⟩) (nb_ hn202_3) (.int .i64 ((rd_T113 l0_2 x8_1).f3))).trans hx202_1; replace hx202_2 := (cell_far (p := ⟨gb201, 3, none⟩) (nb_ hn202_3) (.int .i64 ((rd_T113 l0_2 x8_1).f3))).trans hx202_2; replace hx202_3 := (cell_far (p := ⟨gb201, 3, none⟩) (nb_ hn202_3) (.int .i64 ((rd_T113 l0_2 x8_1).f3))).trans hx202_3; replace hx202_4 := (cell_far (p := ⟨gb201, 3, none⟩) (nb_ hn202_3) (.int .i64 ((rd_T113 l0_2 x8_1).f3))).trans hx202_4; replace hx202_0 := (cell_far (p := ⟨gb201, 4, none⟩) (nb_ hn202_4) (.int .i64 ((rd_T113 l0_2 x8_1).f4))).trans hx202_0; replace hx202_1 := (cell_far (p := ⟨gb201, 4, none⟩) (nb_ hn202_4) (.int .i64 ((rd_T113 l0_2 x8_1).f4))).trans hx202_1; replace hx202_2 := (cell_far (p := ⟨gb201, 4, none⟩) (nb_ hn202_4) (.int .i64 ((rd_T113 l0_2 x8_1).f4))).trans hx202_2; replace hx202_3 := (cell_far (p := ⟨gb201, 4, none⟩) (nb_ hn202_4) (.int .i64 ((rd_T113 l0_2 x8_1).f4))).trans hx202_3; replace hx202_4 := (cell_far (p := ⟨gb201, 4, none⟩) (nb_ hn202_4) (.int .i64 ((rd_T113 l0_2 x8_1).f4))).trans hx202_4; (try have hy202_0 := fun (n_ : Nat) => (cdk5_ n_ hx202_0)); (try have hy202_1 := fun (n_ : Nat) => (cdk5_ n_ hx202_1)); (try have hy202_2 := fun (n_ : Nat) => (cdk5_ n_ hx202_2)); (try have hy202_3 := fun (n_ : Nat) => (cdk5_ n_ hx202_3)); (try have hy202_4 := fun (n_ : Nat) => (cdk5_ n_ hx202_4)); clear hn202_0; clear hn202_1; clear hn202_2; clear hn202_3; clear hn202_4; replace p202 := eq_true p202; replace q202 := eq_true q202)); try go_wp2_with (first | ((with_reducible refine gate_dst (N := 4) rfl ?_); refine box_event ?hg (N := 4) ?hd (cs := #[.string (⟨#[]⟩ : ByteArray), .int .i64 0, .int .i64 0, .int .i64 0, .int .i64 0]) (t := 113) ?hr ?_; (case hd => rfl); (case hg => rfl); (case hr => first | (go_simp; done) | (go_simp; rfl)); intro gb201 hg w10 hbox hb; have n0_ := Aside0.mk (blk_below (g := gb199) (o := .cells #[.int .i64 a0_0, .int .i64 a0_1, .slice (some ad200) l0_2.length c0_2] 54 (0, 0)) (bk_ BK199) hb); have n1_ := Aside0.mk (below_step (hs_ HB GE199) hb); have n2_ := Aside0.mk (hbox); have n3_ := Aside0.mk ((by rw [hg]; exact (below_size (hs_ HB GE199)) : w.heap.size ≤ gb201)); have n4_ := Aside0.mk ((by rw [hg]; exact (below_size (hs_ HB GE199)) : w.heap.size ≤ gb201)); have n5_ := Aside0.mk ((by rw [hg]; exact Nat.ne_of_lt (blk_lt (g := gb199) (o := .cells #[.int .i64 a0_0, .int .i64 a0_1, .slice (some ad200) l0_2.length c0_2] 54 (0, 0)) (bk_ BK199)) : gb199 ≠ gb201)); have n6_ := Aside0.mk ((by rw [hg]; exact Nat.ne_of_gt (blk_lt (g := gb199) (o := .cells #[.int .i64 a0_0, .int .i64 a0_1, .slice (some ad200) l0_2.length c0_2] 54 (0, 0)) (bk_ BK199)) : gb201 ≠ gb199)); clear BK199; clear HB; have BK199 := n0_; have HB := n1_; have BK201 := n2_; have GW201 := n3_; have GE201 := n4_; have NB199_201 := n5_; have NB201_199 := n6_; clear n0_ n1_ n2_ n3_ n4_ n5_ n6_; clear hb hbox hg; have hnb11 := NB201_199.out; have hnc11 := NB199_201.out; have hcz12_0 : w10.cell? ⟨gb201, 0, none⟩ = some (.string (⟨#[]⟩ : ByteArray)) := (blk_cell BK201.out 0).trans rfl; have hcz12_1 : w10.cell? ⟨gb201, 1, none⟩ = some (.int .i64 0) := (blk_cell BK201.out 1).trans rfl; have hcz12_2 : w10.cell? ⟨gb201, 2, none⟩ = some (.int .i64 0) := (blk_cell BK201.out 2).trans rfl; have hcz12_3 : w10.cell? ⟨gb201, 3, none⟩ = some (.int .i64 0) := (blk_cell BK201.out 3).trans rfl; have hcz12_4 : w10.cell? ⟨gb201, 4, none⟩ = some (.int .i64 0) := (blk_cell BK201.out 4).trans rfl; have hfz12_0 := blk_frozen BK201.out 0; have hfz12_1 := blk_frozen BK201.out 1; have hfz12_2 := blk_frozen BK201.out 2; have hfz12_3 := blk_frozen BK201.out 3; have hfz12_4 := blk_frozen BK201.out 4; have hcz13_0 : w10.cell? ⟨gb199, 0, none⟩ = some (.int .i64 a0_0) := (blk_cell BK199.out 0).trans rfl; have hcz13_1 : w10.cell? ⟨gb199, 1, none⟩ = some (.int .i64 a0_1) := (blk_cell BK199.out 1).trans rfl; have hcz13_2 : w10.cell? ⟨gb199, 2, none⟩ = some (.slice (some ad200) l0_2.length c0_2) := (blk_cell BK199.out 2).trans rfl; have hfz13_0 := blk_frozen BK199.out 0; have hfz13_1 := blk_frozen BK199.out 1; have hfz13_2 := blk_frozen BK199.out 2; have p202 : 0 ≤ (0 : Int) := (by omega); have q202 : 0 < (l0_2.length : Int) := of_decide_eq_true as_; obtain ⟨ad202, e202, hx202_0, hx202_1, hx202_2, hx202_3, hx202_4⟩ := at_T113 HR0_2.out 0 p202 q202; obtain rfl : ad200 = ad202 := (by injection e202); have qi202 : (0 < l0_2.length) = True := eq_true (by omega); (try rw [show ((0 : Int)).toNat = 0 from rfl] at hx202_0); (try rw [show 0 * 5 = 0 from rfl] at hx202_0); (try rw [Addr.add_zero'] at hx202_0); (try rw [show ((0 : Int)).toNat = 0 from rfl] at hx202_1); (try rw [show 0 * 5 = 0 from rfl] at hx202_1); (try rw [Addr.add_zero'] at hx202_1); (try rw [show ((0 : Int)).toNat = 0 from rfl] at hx202_2); (try rw [show 0 * 5 = 0 from rfl] at hx202_2); (try rw [Addr.add_zero'] at hx202_2); (try rw [show ((0 : Int)).toNat = 0 from rfl] at hx202_3); (try rw [show 0 * 5 = 0 from rfl] at hx202_3); (try rw [Addr.add_zero'] at hx202_3); (try rw [show ((0 : Int)).toNat = 0 from rfl] at hx202_4); (try rw [show 0 * 5 = 0 from rfl] at hx202_4); (try rw [Addr.add_zero'] at hx202_4); have hn202_0 : ad200.block ≠ gb201 := Nat.ne_of_lt (Nat.lt_of_lt_of_le (by have := World.block_lt_of_cell? _ _ hx202_0; first | rwa [add_block] at this | exact this) GW201.out); have hn202_1 : ad200.block ≠ gb201 := Nat.ne_of_lt (Nat.lt_of_lt_of_le (by have := World.block_lt_of_cell? _ _ hx202_0; first | rwa [add_block] at this | exact this) GW201.out); have hn202_2 : ad200.block ≠ gb201 := Nat.ne_of_lt (Nat.lt_of_lt_of_le (by have := World.block_lt_of_cell? _ _ hx202_0; first | rwa [add_block] at this | exact this) GW201.out); have hn202_3 : ad200.block ≠ gb201 := Nat.ne_of_lt (Nat.lt_of_lt_of_le (by have := World.block_lt_of_cell? _ _ hx202_0; first | rwa [add_block] at this | exact this) GW201.out); have hn202_4 : ad200.block ≠ gb201 := Nat.ne_of_lt (Nat.lt_of_lt_of_le (by have := World.block_lt_of_cell? _ _ hx202_0; first | rwa [add_block] at this | exact this) GW201.out); replace hx202_0 := cb_ HB hx202_0; replace hx202_1 := cb_ HB hx202_1; replace hx202_2 := cb_ HB hx202_2; replace hx202_3 := cb_ HB hx202_3; replace hx202_4 := cb_ HB hx202_4; replace hx202_0 := (cell_far (p := ⟨gb201, 0, none⟩) (nb_ hn202_0) (.string ((rd_T113 l0_2 x8_1).f0))).trans hx202_0; replace hx202_1 := (cell_far (p := ⟨gb201, 0, none⟩) (nb_ hn202_0) (.string ((rd_T113 l0_2 x8_1).f0))).trans hx202_1; replace hx202_2 := (cell_far (p := ⟨gb201, 0, none⟩) (nb_ hn202_0) (.string ((rd_T113 l0_2 x8_1).f0))).trans hx202_2; replace hx202_3 := (cell_far (p := ⟨gb201, 0, none⟩) (nb_ hn202_0) (.string ((rd_T113 l0_2 x8_1).f0))).trans hx202_3; replace hx202_4 := (cell_far (p := ⟨gb201, 0, none⟩) (nb_ hn202_0) (.string ((rd_T113 l0_2 x8_1).f0))).trans hx202_4; replace hx202_0 := (cell_far (p := ⟨gb201, 1, none⟩) (nb_ hn202_1) (.int .i64 ((rd_T113 l0_2 x8_1).f1))).trans hx202_0; replace hx202_1 := (cell_far (p := ⟨gb201, 1, none⟩) (nb_ hn202_1) (.int .i64 ((rd_T113 l0_2 x8_1).f1))).trans hx202_1; replace hx202_2 := (cell_far (p := ⟨gb201, 1, none⟩) (nb_ hn202_1) (.int .i64 ((rd_T113 l0_2 x8_1).f1))).trans hx202_2; replace hx202_3 := (cell_far (p := ⟨gb201, 1, none⟩) (nb_ hn202_1) (.int .i64 ((rd_T113 l0_2 x8_1).f1))).trans hx202_3; replace hx202_4 := (cell_far (p := ⟨gb201, 1, none⟩) (nb_ hn202_1) (.int .i64 ((rd_T113 l0_2 x8_1).f1))).trans hx202_4; replace hx202_0 := (cell_far (p := ⟨gb201, 2, none⟩) (nb_ hn202_2) (.int .i64 ((rd_T113 l0_2 x8_1).f2))).trans hx202_0; replace hx202_1 := (cell_far (p := ⟨gb201, 2, none⟩) (nb_ hn202_2) (.int .i64 ((rd_T113 l0_2 x8_1).f2))).trans hx202_1; replace hx202_2 := (cell_far (p := ⟨gb201, 2, none⟩) (nb_ hn202_2) (.int .i64 ((rd_T113 l0_2 x8_1).f2))).trans hx202_2; replace hx202_3 := (cell_far (p := ⟨gb201, 2, none⟩) (nb_ hn202_2) (.int .i64 ((rd_T113 l0_2 x8_1).f2))).trans hx202_3; replace hx202_4 := (cell_far (p := ⟨gb201, 2, none⟩) (nb_ hn202_2) (.int .i64 ((rd_T113 l0_2 x8_1).f2))).trans hx202_4; replace hx202_0 := (cell_far (p := ⟨gb201, 3, none⟩) (nb_ hn202_3) (.int .i64 ((rd_T113 l0_2 x8_1).f3))).trans hx202_0; replace hx202_1 := (cell_far (p := ⟨gb201, 3, none⟩) (nb_ hn202_3) (.int .i64 ((rd_T113 l0_2 x8_1).f3))).trans hx202_1; replace hx202_2 := (cell_far (p := ⟨gb201, 3, none⟩) (nb_ hn202_3) (.int .i64 ((rd_T113 l0_2 x8_1).f3))).trans hx202_2; replace hx202_3 := (cell_far (p := ⟨gb201, 3, none⟩) (nb_ hn202_3) (.int .i64 ((rd_T113 l0_2 x8_1).f3))).trans hx202_3; replace hx202_4 := (cell_far (p := ⟨gb201, 3, none⟩) (nb_ hn202_3) (.int .i64 ((rd_T113 l0_2 x8_1).f3))).trans hx202_4; replace hx202_0 := (cell_far (p := ⟨gb201, 4, none⟩) (nb_ hn202_4) (.int .i64 ((rd_T113 l0_2 x8_1).f4))).trans hx202_0; replace hx202_1 := (cell_far (p := ⟨gb201, 4, none⟩) (nb_ hn202_4) (.int .i64 ((rd_T113 l0_2 x8_1).f4))).trans hx202_1; replace hx202_2 := (cell_far (p := ⟨gb201, 4, none⟩) (nb_ hn202_4) (.int .i64 ((rd_T113 l0_2 x8_1).f4))).trans hx202_2; replace hx202_3 := (cell_far (p := ⟨gb201, 4, none⟩) (nb_ hn202_4) (.int .i64 ((rd_T113 l0_2 x8_1).f4))).trans hx202_3; replace hx202_4 := (cell_far (p := ⟨gb201, 4, none⟩) (nb_ hn202_4) (.int .i64 ((rd_T113 l0_2 x8_1).f4))).trans hx202_4; (try have hy202_0 := fun (n_ : Nat) => (cdk5_ n_ hx202_0)); (try have hy202_1 := fun (n_ : Nat) => (cdk5_ n_ hx202_1)); (try have hy202_2 := fun (n_ : Nat) => (cdk5_ n_ hx202_2)); (try have hy202_3 := fun (n_ : Nat) => (cdk5_ n_ hx202_3)); (try have hy202_4 := fun (n_ : Nat) => (cdk5_ n_ hx202_4)); clear hn202_0; clear hn202_1; clear hn202_2; clear hn202_3; clear hn202_4; replace p202 := eq_true p202; replace q202 := eq_true q202)))
         go_ret
         exact ⟨re_, by repeat (first | (with_reducible first | exact HB.out | apply below_alloc | apply pw_below_drewN | apply below_drew1 | refine below_set ?_ GE199.out | refine below_set ?_ GE201.out) | exact HB.out)⟩
        ·rw [if_neg c9] at H
         have c9b0 : decide (100000 < ((rd_T113 l0_2 x8_1).f2)) = false := decide_eq_false c9
         clear c9
         have H' := Aside0.mk H
         clear H
         have p200 : 0 ≤ (x8_1 : Int) := of_decide_eq_true as_
         have q200 : x8_1 < (l0_2.length : Int) := of_decide_eq_true as_
         obtain ⟨ad200, e200, hx200_0, hx200_1, hx200_2, hx200_3, hx200_4⟩ := at_T113 HR0_2.out x8_1 p200 q200
         cases e200
         replace hx200_0 := cb_ HB hx200_0
         replace hx200_1 := cb_ HB hx200_1
         replace hx200_2 := cb_ HB hx200_2
         replace hx200_3 := cb_ HB hx200_3
         replace hx200_4 := cb_ HB hx200_4
         replace p200 := eq_true p200
         replace q200 := eq_true q200
         go_wp2_with (first | ((with_reducible refine gate_dst (N := 4) rfl ?_); refine box_event ?hg (N := 4) ?hd (cs := #[.string (⟨#[]⟩ : ByteArray), .int .i64 0, .int .i64 0, .int .i64 0, .int .i64 0]) (t := 113) ?hr ?_; (case hd => rfl); (case hg => rfl); (case hr => first | (go_simp; done) | (go_simp; rfl)); intro gb201 hg w14 hbox hb; have n0_ := Aside0.mk (blk_below (g := gb199) (o := .cells #[.int .i64 a0_0, .int .i64 a0_1, .slice (some ad200) l0_2.length c0_2] 54 (0, 0)) (bk_ BK199) hb); have n1_ := Aside0.mk (below_step (hs_ HB GE199) hb); have n2_ := Aside0.mk (hbox); have n3_ := Aside0.mk ((by rw [hg]; exact (below_size (hs_ HB GE199)) : w.heap.size ≤ gb201)); have n4_ := Aside0.mk ((by rw [hg]; exact (below_size (hs_ HB GE199)) : w.heap.size ≤ gb201)); have n5_ := Aside0.mk ((by rw [hg]; exact Nat.ne_of_lt (blk_lt (g := gb199) (o := .cells #[.int .i64 a0_0, .int .i64 a0_1, .slice (some ad200) l0_2.length c0_2] 54 (0, 0)) (bk_ BK199)) : gb199 ≠ gb201)); have n6_ := Aside0.mk ((by rw [hg]; exact Nat.ne_of_gt (blk_lt (g := gb199) (o := .cells #[.int .i64 a0_0, .int .i64 a0_1, .slice (some ad200) l0_2.length c0_2] 54 (0, 0)) (bk_ BK199)) : gb201 ≠ gb199)); clear BK199; clear HB; have BK199 := n0_; have HB := n1_; have BK201 := n2_; have GW201 := n3_; have GE201 := n4_; have NB199_201 := n5_; have NB201_199 := n6_; clear n0_ n1_ n2_ n3_ n4_ n5_ n6_; clear hb hbox hg; have hnb15 := NB201_199.out; have hnc15 := NB199_201.out; have hcz16_0 : w14.cell? ⟨gb201, 0, none⟩ = some (.string (⟨#[]⟩ : ByteArray)) := (blk_cell BK201.out 0).trans rfl; have hcz16_1 : w14.cell? ⟨gb201, 1, none⟩ = some (.int .i64 0) := (blk_cell BK201.out 1).trans rfl; have hcz16_2 : w14.cell? ⟨gb201, 2, none⟩ = some (.int .i64 0) := (blk_cell BK201.out 2).trans rfl; have hcz16_3 : w14.cell? ⟨gb201, 3, none⟩ = some (.int .i64 0) := (blk_cell BK201.out 3).trans rfl; have hcz16_4 : w14.cell? ⟨gb201, 4, none⟩ = some (.int .i64 0) := (blk_cell BK201.out 4).trans rfl; have hfz16_0 := blk_frozen BK201.out 0; have hfz16_1 := blk_frozen BK201.out 1; have hfz16_2 := blk_frozen BK201.out 2; have hfz16_3 := blk_frozen BK201.out 3; have hfz16_4 := blk_frozen BK201.out 4; have hcz17_0 : w14.cell? ⟨gb199, 0, none⟩ = some (.int .i64 a0_0) := (blk_cell BK199.out 0).trans rfl; have hcz17_1 : w14.cell? ⟨gb199, 1, none⟩ = some (.int .i64 a0_1) := (blk_cell BK199.out 1).trans rfl; have hcz17_2 : w14.cell? ⟨gb199, 2, none⟩ = some (.slice (some ad200) l0_2.length c0_2) := (blk_cell BK199.out 2).trans rfl; have hfz17_0 := blk_frozen BK199.out 0; have hfz17_1 := blk_frozen BK199.out 1; have hfz17_2 := blk_frozen BK199.out 2; have p202 : 0 ≤ (0 : Int) := (by omega); have q202 : 0 < (l0_2.length : Int) := of_decide_eq_true as_; obtain ⟨ad202, e202, hx202_0, hx202_1, hx202_2, hx202_3, hx202_4⟩ := at_T113 HR0_2.out 0 p202 q202; obtain rfl : ad200 = ad202 := (by injection e202); have qi202 : (0 < l0_2.length) = True := eq_true (by omega); (try rw [show ((0 : Int)).toNat = 0 from rfl] at hx202_0); (try rw [show 0 * 5 = 0 from rfl] at hx202_0); (try rw [Addr.add_zero'] at hx202_0); (try rw [show ((0 : Int)).toNat = 0 from rfl] at hx202_1); (try rw [show 0 * 5 = 0 from rfl] at hx202_1); (try rw [Addr.add_zero'] at hx202_1); (try rw [show ((0 : Int)).toNat = 0 from rfl] at hx202_2); (try rw [show 0 * 5 = 0 from rfl] at hx202_2); (try rw [Addr.add_zero'] at hx202_2); (try rw [show ((0 : Int)).toNat = 0 from rfl] at hx202_3); (try rw [show 0 * 5 = 0 from rfl] at hx202_3); (try rw [Addr.add_zero'] at hx202_3); (try rw [show ((0 : Int)).toNat = 0 from rfl] at hx202_4); (try rw [show 0 * 5 = 0 from rfl] at hx202_4); (try rw [Addr.add_zero'] at hx202_4); have hn202_0 : ad200.block ≠ gb201 := Nat.ne_of_lt (Nat.lt_of_lt_of_le (by have := World.block_lt_of_cell? _ _ hx202_0; first | rwa [add_block] at this | exact this) GW201.out); have hn202_1 : ad200.block ≠ gb201 := Nat.ne_of_lt (Nat.lt_of_lt_of_le (by have := World.block_lt_of_cell? _ _ hx202_0; first | rwa [add_block] at this | exact this) GW201.out); have hn202_2 : ad200.block ≠ gb201 := Nat.ne_of_lt (Nat.lt_of_lt_of_le (by have := World.block_lt_of_cell? _ _ hx202_0; first | rwa [add_block] at this | exact this) GW201.out); have hn202_3 : ad200.block ≠ gb201 := Nat.ne_of_lt (Nat.lt_of_lt_of_le (by have := World.block_lt_of_cell? _ _ hx202_0; first | rwa [add_block] at this | exact this) GW201.out); have hn202_4 : ad200.block ≠ gb201 := Nat.ne_of_lt (Nat.lt_of_lt_of_le (by have := World.block_lt_of_cell? _ _ hx202_0; first | rwa [add_block] at this | exact this) GW201.out); replace hx202_0 := cb_ HB hx202_0; replace hx202_1 := cb_ HB hx202_1; replace hx202_2 := cb_ HB hx202_2; replace hx202_3 := cb_ HB hx202_3; replace hx202_4 := cb_ HB hx202_4; replace hx202_0 := (cell_far (p := ⟨gb201, 0, none⟩) (nb_ hn202_0) (.string ((rd_T113 l0_2 x8_1).f0))).trans hx202_0; replace hx202_1 := (cell_far (p := ⟨gb201, 0, none⟩) (nb_ hn202_0) (.string ((rd_T113 l0_2 x8_1).f0))).trans hx202_1; replace hx202_2 := (cell_far (p := ⟨gb201, 0, none⟩) (nb_ hn202_0) (.string ((rd_T113 l0_2 x8_1).f0))).trans hx202_2; replace hx202_3 := (cell_far (p := ⟨gb201, 0, none⟩) (nb_ hn202_0) (.string ((rd_T113 l0_2 x8_1).f0))).trans hx202_3; replace hx202_4 := (cell_far (p := ⟨gb201, 0, none⟩) (nb_ hn202_0) (.string ((rd_T113 l0_2 x8_1).f0))).trans hx202_4; replace hx202_0 := (cell_far (p := ⟨gb201, 1, none⟩) (nb_ hn202_1) (.int .i64 ((rd_T113 l0_2 x8_1).f1))).trans hx202_0; replace hx202_1 := (cell_far (p := ⟨gb201, 1, none⟩) (nb_ hn202_1) (.int .i64 ((rd_T113 l0_2 x8_1).f1))).trans hx202_1; replace hx202_2 := (cell_far (p := ⟨gb201, 1, none⟩) (nb_ hn202_1) (.int .i64 ((rd_T113 l0_2 x8_1).f1))).trans hx202_2; replace hx202_3 := (cell_far (p := ⟨gb201, 1, none⟩) (nb_ hn202_1) (.int .i64 ((rd_T113 l0_2 x8_1).f1))).trans hx202_3; replace hx202_4 := (cell_far (p := ⟨gb201, 1, none⟩) (nb_ hn202_1) (.int .i64 ((rd_T113 l0_2 x8_1).f1))).trans hx202_4; replace hx202_0 := (cell_far (p := ⟨gb201, 2, none⟩) (nb_ hn202_2) (.int .i64 ((rd_T113 l0_2 x8_1).f2))).trans hx202_0; replace hx202_1 := (cell_far (p := ⟨gb201, 2, none⟩) (nb_ hn202_2) (.int .i64 ((rd_T113 l0_2 x8_1).f2))).trans hx202_1; replace hx202_2 := (cell_far (p := ⟨gb201, 2, none⟩) (nb_ hn202_2) (.int .i64 ((rd_T113 l0_2 x8_1).f2))).trans hx202_2; replace hx202_3 := (cell_far (p := ⟨gb201, 2, none⟩) (nb_ hn202_2) (.int .i64 ((rd_T113 l0_2 x8_1).f2))).trans hx202_3; replace hx202_4 := (cell_far (p := ⟨gb201, 2, none⟩) (nb_ hn202_2) (.int .i64 ((rd_T113 l0_2 x8_1).f2))).trans hx202_4; replace hx202_0 := (cell_far (p := ⟨gb201, 3, none⟩) (nb_ hn202_3) (.int .i64 ((rd_T113 l0_2 x8_1).f3))).trans hx202_0; replace hx202_1 := (cell_far (p := ⟨gb201, 3, none⟩) (nb_ hn202_3) (.int .i64 ((rd_T113 l0_2 x8_1).f3))).trans hx202_1; replace hx202_2 := (cell_far (p := ⟨gb201, 3, none⟩) (nb_ hn202_3) (.int .i64 ((rd_T113 l0_2 x8_1).f3))).trans hx202_2; replace hx202_3 := (cell_far (p := ⟨gb201, 3, none⟩) (nb_ hn202_3) (.int .i64 ((rd_T113 l0_2 x8_1).f3))).trans hx202_3; replace hx202_4 := (cell_far (p := ⟨gb201, 3, none⟩) (nb_ hn202_3) (.int .i64 ((rd_T113 l0_2 x8_1).f3))).trans hx202_4; replace hx202_0 := (cell_far (p := ⟨gb201, 4, none⟩) (nb_ hn202_4) (.int .i64 ((rd_T113 l0_2 x8_1).f4))).trans hx202_0; replace hx202_1 := (cell_far (p := ⟨gb201, 4, none⟩) (nb_ hn202_4) (.int .i64 ((rd_T113 l0_2 x8_1).f4))).trans hx202_1; replace hx202_2 := (cell_far (p := ⟨gb201, 4, none⟩) (nb_ hn202_4) (.int .i64 ((rd_T113 l0_2 x8_1).f4))).trans hx202_2; replace hx202_3 := (cell_far (p := ⟨gb201, 4, none⟩) (nb_ hn202_4) (.int .i64 ((rd_T113 l0_2 x8_1).f4))).trans hx202_3; replace hx202_4 := (cell_far (p := ⟨gb201, 4, none⟩) (nb_ hn202_4) (.int .i64 ((rd_T113 l0_2 x8_1).f4))).trans hx202_4; (try have hy202_0 := fun (n_ : Nat) => (cdk5_ n_ hx202_0)); (try have hy202_1 := fun (n_ : Nat) => (cdk5_ n_ hx202_1)); (try have hy202_2 := fun (n_ : Nat) => (cdk5_ n_ hx202_2)); (try have hy202_3 := fun (n_ : Nat) => (cdk5_ n_ hx202_3)); (try have hy202_4 := fun (n_ : Nat) => (cdk5_ n_ hx202_4)); clear hn202_0; clear hn202_1; clear hn202_2; clear hn202_3; clear hn202_4; replace p202 := eq_true p202; replace q202 := eq_true q202))
         repeat (go_quiet (first | ((with_reducible refine gate_dst (N := 4) rfl ?_); refine box_event ?hg (N := 4) ?hd (cs := #[.string (⟨#[]⟩ : ByteArray), .int .i64 0, .int .i64 0, .int .i64 0, .int .i64 0]) (t := 113) ?hr ?_; (case hd => rfl); (case hg => rfl); (case hr => first | (go_simp; done) | (go_simp; rfl)); intro gb201 hg w14 hbox hb; have n0_ := Aside0.mk (blk_below (g := gb199) (o := .cells #[.int .i64 a0_0, .int .i64 a0_1, .slice (some ad200) l0_2.length c0_2] 54 (0, 0)) (bk_ BK199) hb); have n1_ := Aside0.mk (below_step (hs_ HB GE199) hb); have n2_ := Aside0.mk (hbox); have n3_ := Aside0.mk ((by rw [hg]; exact (below_size (hs_ HB GE199)) : w.heap.size ≤ gb201)); have n4_ := Aside0.mk ((by rw [hg]; exact (below_size (hs_ HB GE199)) : w.heap.size ≤ gb201)); have n5_ := Aside0.mk ((by rw [hg]; exact Nat.ne_of_lt (blk_lt (g := gb199) (o := .cells #[.int .i64 a0_0, .int .i64 a0_1, .slice (some ad200) l0_2.length c0_2] 54 (0, 0)) (bk_ BK199)) : gb199 ≠ gb201)); have n6_ := Aside0.mk ((by rw [hg]; exact Nat.ne_of_gt (blk_lt (g := gb199) (o := .cells #[.int .i64 a0_0, .int .i64 a0_1, .slice (some ad200) l0_2.length c0_2] 54 (0, 0)) (bk_ BK199)) : gb201 ≠ gb199)); clear BK199; clear HB; have BK199 := n0_; have HB := n1_; have BK201 := n2_; have GW201 := n3_; have GE201 := n4_; have NB199_201 := n5_; have NB201_199 := n6_; clear n0_ n1_ n2_ n3_ n4_ n5_ n6_; clear hb hbox hg; have hnb15 := NB201_199.out; have hnc15 := NB199_201.out; have hcz16_0 : w14.cell? ⟨gb201, 0, none⟩ = some (.string (⟨#[]⟩ : ByteArray)) := (blk_cell BK201.out 0).trans rfl; have hcz16_1 : w14.cell? ⟨gb201, 1, none⟩ = some (.int .i64 0) := (blk_cell BK201.out 1).trans rfl; have hcz16_2 : w14.cell? ⟨gb201, 2, none⟩ = some (.int .i64 0) := (blk_cell BK201.out 2).trans rfl; have hcz16_3 : w14.cell? ⟨gb201, 3, none⟩ = some (.int .i64 0) := (blk_cell BK201.out 3).trans rfl; have hcz16_4 : w14.cell? ⟨gb201, 4, none⟩ = some (.int .i64 0) := (blk_cell BK201.out 4).trans rfl; have hfz16_0 := blk_frozen BK201.out 0; have hfz16_1 := blk_frozen BK201.out 1; have hfz16_2 := blk_frozen BK201.out 2; have hfz16_3 := blk_frozen BK201.out 3; have hfz16_4 := blk_frozen BK201.out 4; have hcz17_0 : w14.cell? ⟨gb199, 0, none⟩ = some (.int .i64 a0_0) := (blk_cell BK199.out 0).trans rfl; have hcz17_1 : w14.cell? ⟨gb199, 1, none⟩ = some (.int .i64 a0_1) := (blk_cell BK199.out 1).trans rfl; have hcz17_2 : w14.cell? ⟨gb199, 2, none⟩ = some (.slice (some ad200) l0_2.length c0_2) := (blk_cell BK199.out 2).trans rfl; have hfz17_0 := blk_frozen BK199.out 0; have hfz17_1 := blk_frozen BK199.out 1; have hfz17_2 := blk_frozen BK199.out 2; have p202 : 0 ≤ (0 : Int) := (by omega); have q202 : 0 < (l0_2.length : Int) := of_decide_eq_true as_; obtain ⟨ad202, e202, hx202_0, hx202_1, hx202_2, hx202_3, hx202_4⟩ := at_T113 HR0_2.out 0 p202 q202; obtain rfl : ad200 = ad202 := (by injection e202); have qi202 : (0 < l0_2.length) = True := eq_true (by omega); (try rw [show ((0 : Int)).toNat = 0 from rfl] at hx202_0); (try rw [show 0 * 5 = 0 from rfl] at hx202_0); (try rw [Addr.add_zero'] at hx202_0); (try rw [show ((0 : Int)).toNat = 0 from rfl] at hx202_1); (try rw [show 0 * 5 = 0 from rfl] at hx202_1); (try rw [Addr.add_zero'] at hx202_1); (try rw [show ((0 : Int)).toNat = 0 from rfl] at hx202_2); (try rw [show 0 * 5 = 0 from rfl] at hx202_2); (try rw [Addr.add_zero'] at hx202_2); (try rw [show ((0 : Int)).toNat = 0 from rfl] at hx202_3); (try rw [show 0 * 5 = 0 from rfl] at hx202_3); (try rw [Addr.add_zero'] at hx202_3); (try rw [show ((0 : Int)).toNat = 0 from rfl] at hx202_4); (try rw [show 0 * 5 = 0 from rfl] at hx202_4); (try rw [Addr.add_zero'] at hx202_4); have hn202_0 : ad200.block ≠ gb201 := Nat.ne_of_lt (Nat.lt_of_lt_of_le (by have := World.block_lt_of_cell? _ _ hx202_0; first | rwa [add_block] at this | exact this) GW201.out); have hn202_1 : ad200.block ≠ gb201 := Nat.ne_of_lt (Nat.lt_of_lt_of_le (by have := World.block_lt_of_cell? _ _ hx202_0; first | rwa [add_block] at this | exact this) GW201.out); have hn202_2 : ad200.block ≠ gb201 := Nat.ne_of_lt (Nat.lt_of_lt_of_le (by have := World.block_lt_of_cell? _ _ hx202_0; first | rwa [add_block] at this | exact this) GW201.out); have hn202_3 : ad200.block ≠ gb201 := Nat.ne_of_lt (Nat.lt_of_lt_of_le (by have := World.block_lt_of_cell? _ _ hx202_0; first | rwa [add_block] at this | exact this) GW201.out); have hn202_4 : ad200.block ≠ gb201 := Nat.ne_of_lt (Nat.lt_of_lt_of_le (by have := World.block_lt_of_cell? _ _ hx202_0; first | rwa [add_block] at this | exact this) GW201.out); replace hx202_0 := cb_ HB hx202_0; replace hx202_1 := cb_ HB hx202_1; replace hx202_2 := cb_ HB hx202_2; replace hx202_3 := cb_ HB hx202_3; replace hx202_4 := cb_ HB hx202_4; replace hx202_0 := (cell_far (p := ⟨gb201, 0, none⟩) (nb_ hn202_0) (.string ((rd_T113 l0_2 x8_1).f0))).trans hx202_0; replace hx202_1 := (cell_far (p := ⟨gb201, 0, none⟩) (nb_ hn202_0) (.string ((rd_T113 l0_2 x8_1).f0))).trans hx202_1; replace hx202_2 := (cell_far (p := ⟨gb201, 0, none⟩) (nb_ hn202_0) (.string ((rd_T113 l0_2 x8_1).f0))).trans hx202_2; replace hx202_3 := (cell_far (p := ⟨gb201, 0, none⟩) (nb_ hn202_0) (.string ((rd_T113 l0_2 x8_1).f0))).trans hx202_3; replace hx202_4 := (cell_far (p := ⟨gb201, 0, none⟩) (nb_ hn202_0) (.string ((rd_T113 l0_2 x8_1).f0))).trans hx202_4; replace hx202_0 := (cell_far (p := ⟨gb201, 1, none⟩) (nb_ hn202_1) (.int .i64 ((rd_T113 l0_2 x8_1).f1))).trans hx202_0; replace hx202_1 := (cell_far (p := ⟨gb201, 1, none⟩) (nb_ hn202_1) (.int .i64 ((rd_T113 l0_2 x8_1).f1))).trans hx202_1; replace hx202_2 := (cell_far (p := ⟨gb201, 1, none⟩) (nb_ hn202_1) (.int .i64 ((rd_T113 l0_2 x8_1).f1))).trans hx202_2; replace hx202_3 := (cell_far (p := ⟨gb201, 1, none⟩) (nb_ hn202_1) (.int .i64 ((rd_T113 l0_2 x8_1).f1))).trans hx202_3; replace hx202_4 := (cell_far (p := ⟨gb201, 1, none⟩) (nb_ hn202_1) (.int .i64 ((rd_T113 l0_2 x8_1).f1))).trans hx202_4; replace hx202_0 := (cell_far (p := ⟨gb201, 2, none⟩) (nb_ hn202_2) (.int .i64 ((rd_T113 l0_2 x8_1).f2))).trans hx202_0; replace hx202_1 := (cell_far (p := ⟨gb201, 2, none⟩) (nb_ hn202_2) (.int .i64 ((rd_T113 l0_2 x8_1).f2))).trans hx202_1; replace hx202_2 := (cell_far (p := ⟨gb201, 2, none⟩) (nb_ hn202_2) (.int .i64 ((rd_T113 l0_2 x8_1).f2))).trans hx202_2; replace hx202_3 := (cell_far (p := ⟨gb201, 2, none⟩) (nb_ hn202_2) (.int .i64 ((rd_T113 l0_2 x8_1).f2))).trans hx202_3; replace hx202_4 := (cell_far (p := ⟨gb201, 2, none⟩) (nb_ hn202_2) (.int .i64 ((rd_T113 l0_2 x8_1).f2))).trans hx202_4; replace hx202_0 := (cell_far (p := ⟨gb201, 3, none⟩) (nb_ hn202_3) (.int .i64 ((rd_T113 l0_2 x8_1).f3))).trans hx202_0; replace hx202_1 := (cell_far (p := ⟨gb201, 3, none⟩) (nb_ hn202_3) (.int .i64 ((rd_T113 l0_2 x8_1).f3))).trans hx202_1; replace hx202_2 := (cell_far (p := ⟨gb201, 3, none⟩) (nb_ hn202_3) (.int .i64 ((rd_T113 l0_2 x8_1).f3))).trans hx202_2; replace hx202_3 := (cell_far (p := ⟨gb201, 3, none⟩) (nb_ hn202_3) (.int .i64 ((rd_T113 l0_2 x8_1).f3))).trans hx202_3; replace hx202_4 := (cell_far (p := ⟨gb201, 3, none⟩) (nb_ hn202_3) (.int .i64 ((rd_T113 l0_2 x8_1).f3))).trans hx202_4; replace hx202_0 := (cell_far (p := ⟨gb201, 4, none⟩) (nb_ hn202_4) (.int .i64 ((rd_T113 l0_2 x8_1).f4))).trans hx202_0; replace hx202_1 := (cell_far (p := ⟨gb201, 4, none⟩) (nb_ hn202_4) (.int .i64 ((rd_T113 l0_2 x8_1).f4))).trans hx202_1; replace hx202_2 := (cell_far (p := ⟨gb201, 4, none⟩) (nb_ hn202_4) (.int .i64 ((rd_T113 l0_2 x8_1).f4))).trans hx202_2; replace hx202_3 := (cell_far (p := ⟨gb201, 4, none⟩) (nb_ hn202_4) (.int .i64 ((rd_T113 l0_2 x8_1).f4))).trans hx202_3; replace hx202_4 := (cell_far (p := ⟨gb201, 4, none⟩) (nb_ hn202_4) (.int .i64 ((rd_T113 l0_2 x8_1).f4))).trans hx202_4; (try have hy202_0 := fun (n_ : Nat) => (cdk5_ n_ hx202_0)); (try have hy202_1 := fun (n_ : Nat) => (cdk5_ n_ hx202_1)); (try have hy202_2 := fun (n_ : Nat) => (cdk5_ n_ hx202_2)); (try have hy202_3 := fun (n_ : Nat) => (cdk5_ n_ hx202_3)); (try have hy202_4 := fun (n_ : Nat) => (cdk5_ n_ hx202_4)); clear hn202_0; clear hn202_1; clear hn202_2; clear hn202_3; clear hn202_4; replace p202 := eq_true p202; replace q202 := eq_true q202)); try go_wp2_with (first | ((with_reducible refine gate_dst (N := 4) rfl ?_); refine box_event ?hg (N := 4) ?hd (cs := #[.string (⟨#[]⟩ : ByteArray), .int .i64 0, .int .i64 0, .int .i64 0, .int .i64 0]) (t := 113) ?hr ?_; (case hd => rfl); (case hg => rfl); (case hr => first | (go_simp; done) | (go_simp; rfl)); intro gb201 hg w14 hbox hb; have n0_ := Aside0.mk (blk_below (g := gb199) (o := .cells #[.int .i64 a0_0, .int .i64 a0_1, .slice (some ad200) l0_2.length c0_2] 54 (0, 0)) (bk_ BK199) hb); have n1_ := Aside0.mk (below_step (hs_ HB GE199) hb); have n2_ := Aside0.mk (hbox); have n3_ := Aside0.mk ((by rw [hg]; exact (below_size (hs_ HB GE199)) : w.heap.size ≤ gb201)); have n4_ := Aside0.mk ((by rw [hg]; exact (below_size (hs_ HB GE199)) : w.heap.size ≤ gb201)); have n5_ := Aside0.mk ((by rw [hg]; exact Nat.ne_of_lt (blk_lt (g := gb199) (o := .cells #[.int .i64 a0_0, .int .i64 a0_1, .slice (some ad200) l0_2.length c0_2] 54 (0, 0)) (bk_ BK199)) : gb199 ≠ gb201)); have n6_ := Aside0.mk ((by rw [hg]; exact Nat.ne_of_gt (blk_lt (g := gb199) (o := .cells #[.int .i64 a0_0, .int .i64 a0_1, .slice (some ad200) l0_2.length c0_2] 54 (0, 0)) (bk_ BK199)) : gb201 ≠ gb199)); clear BK199; clear HB; have BK199 := n0_; have HB := n1_; have BK201 := n2_; have GW201 := n3_; have GE201 := n4_; have NB199_201 := n5_; have NB201_199 := n6_; clear n0_ n1_ n2_ n3_ n4_ n5_ n6_; clear hb hbox hg; have hnb15 := NB201_199.out; have hnc15 := NB199_201.out; have hcz16_0 : w14.cell? ⟨gb201, 0, none⟩ = some (.string (⟨#[]⟩ : ByteArray)) := (blk_cell BK201.out 0).trans rfl; have hcz16_1 : w14.cell? ⟨gb201, 1, none⟩ = some (.int .i64 0) := (blk_cell BK201.out 1).trans rfl; have hcz16_2 : w14.cell? ⟨gb201, 2, none⟩ = some (.int .i64 0) := (blk_cell BK201.out 2).trans rfl; have hcz16_3 : w14.cell? ⟨gb201, 3, none⟩ = some (.int .i64 0) := (blk_cell BK201.out 3).trans rfl; have hcz16_4 : w14.cell? ⟨gb201, 4, none⟩ = some (.int .i64 0) := (blk_cell BK201.out 4).trans rfl; have hfz16_0 := blk_frozen BK201.out 0; have hfz16_1 := blk_frozen BK201.out 1; have hfz16_2 := blk_frozen BK201.out 2; have hfz16_3 := blk_frozen BK201.out 3; have hfz16_4 := blk_frozen BK201.out 4; have hcz17_0 : w14.cell? ⟨gb199, 0, none⟩ = some (.int .i64 a0_0) := (blk_cell BK199.out 0).trans rfl; have hcz17_1 : w14.cell? ⟨gb199, 1, none⟩ = some (.int .i64 a0_1) := (blk_cell BK199.out 1).trans rfl; have hcz17_2 : w14.cell? ⟨gb199, 2, none⟩ = some (.slice (some ad200) l0_2.length c0_2) := (blk_cell BK199.out 2).trans rfl; have hfz17_0 := blk_frozen BK199.out 0; have hfz17_1 := blk_frozen BK199.out 1; have hfz17_2 := blk_frozen BK199.out 2; have p202 : 0 ≤ (0 : Int) := (by omega); have q202 : 0 < (l0_2.length : Int) := of_decide_eq_true as_; obtain ⟨ad202, e202, hx202_0, hx202_1, hx202_2, hx202_3, hx202_4⟩ := at_T113 HR0_2.out 0 p202 q202; obtain rfl : ad200 = ad202 := (by injection e202); have qi202 : (0 < l0_2.length) = True := eq_true (by omega); (try rw [show ((0 : Int)).toNat = 0 from rfl] at hx202_0); (try rw [show 0 * 5 = 0 from rfl] at hx202_0); (try rw [Addr.add_zero'] at hx202_0); (try rw [show ((0 : Int)).toNat = 0 from rfl] at hx202_1); (try rw [show 0 * 5 = 0 from rfl] at hx202_1); (try rw [Addr.add_zero'] at hx202_1); (try rw [show ((0 : Int)).toNat = 0 from rfl] at hx202_2); (try rw [show 0 * 5 = 0 from rfl] at hx202_2); (try rw [Addr.add_zero'] at hx202_2); (try rw [show ((0 : Int)).toNat = 0 from rfl] at hx202_3); (try rw [show 0 * 5 = 0 from rfl] at hx202_3); (try rw [Addr.add_zero'] at hx202_3); (try rw [show ((0 : Int)).toNat = 0 from rfl] at hx202_4); (try rw [show 0 * 5 = 0 from rfl] at hx202_4); (try rw [Addr.add_zero'] at hx202_4); have hn202_0 : ad200.block ≠ gb201 := Nat.ne_of_lt (Nat.lt_of_lt_of_le (by have := World.block_lt_of_cell? _ _ hx202_0; first | rwa [add_block] at this | exact this) GW201.out); have hn202_1 : ad200.block ≠ gb201 := Nat.ne_of_lt (Nat.lt_of_lt_of_le (by have := World.block_lt_of_cell? _ _ hx202_0; first | rwa [add_block] at this | exact this) GW201.out); have hn202_2 : ad200.block ≠ gb201 := Nat.ne_of_lt (Nat.lt_of_lt_of_le (by have := World.block_lt_of_cell? _ _ hx202_0; first | rwa [add_block] at this | exact this) GW201.out); have hn202_3 : ad200.block ≠ gb201 := Nat.ne_of_lt (Nat.lt_of_lt_of_le (by have := World.block_lt_of_cell? _ _ hx202_0; first | rwa [add_block] at this | exact this) GW201.out); have hn202_4 : ad200.block ≠ gb201 := Nat.ne_of_lt (Nat.lt_of_lt_of_le (by have := World.block_lt_of_cell? _ _ hx202_0; first | rwa [add_block] at this | exact this) GW201.out); replace hx202_0 := cb_ HB hx202_0; replace hx202_1 := cb_ HB hx202_1; replace hx202_2 := cb_ HB hx202_2; replace hx202_3 := cb_ HB hx202_3; replace hx202_4 := cb_ HB hx202_4; replace hx202_0 := (cell_far (p := ⟨gb201, 0, none⟩) (nb_ hn202_0) (.string ((rd_T113 l0_2 x8_1).f0))).trans hx202_0; replace hx202_1 := (cell_far (p := ⟨gb201, 0, none⟩) (nb_ hn202_0) (.string ((rd_T113 l0_2 x8_1).f0))).trans hx202_1; replace hx202_2 := (cell_far (p := ⟨gb201, 0, none⟩) (nb_ hn202_0) (.string ((rd_T113 l0_2 x8_1).f0))).trans hx202_2; replace hx202_3 := (cell_far (p := ⟨gb201, 0, none⟩) (nb_ hn202_0) (.string ((rd_T113 l0_2 x8_1).f0))).trans hx202_3; replace hx202_4 := (cell_far (p := ⟨gb201, 0, none⟩) (nb_ hn202_0) (.string ((rd_T113 l0_2 x8_1).f0))).trans hx202_4; replace hx202_0 := (cell_far (p := ⟨gb201, 1, none⟩) (nb_ hn202_1) (.int .i64 ((rd_T113 l0_2 x8_1).f1))).trans hx202_0; replace hx202_1 := (cell_far (p := ⟨gb201, 1, none⟩) (nb_ hn202_1) (.int .i64 ((rd_T113 l0_2 x8_1).f1))).trans hx202_1; replace hx202_2 := (cell_far (p := ⟨gb201, 1, none⟩) (nb_ hn202_1) (.int .i64 ((rd_T113 l0_2 x8_1).f1))).trans hx202_2; replace hx202_3 := (cell_far (p := ⟨gb201, 1, none⟩) (nb_ hn202_1) (.int .i64 ((rd_T113 l0_2 x8_1).f1))).trans hx202_3; replace hx202_4 := (cell_far (p := ⟨gb201, 1, none⟩) (nb_ hn202_1) (.int .i64 ((rd_T113 l0_2 x8_1).f1))).trans hx202_4; replace hx202_0 := (cell_far (p := ⟨gb201, 2, none⟩) (nb_ hn202_2) (.int .i64 ((rd_T113 l0_2 x8_1).f2))).trans hx202_0; replace hx202_1 := (cell_far (p := ⟨gb201, 2, none⟩) (nb_ hn202_2) (.int .i64 ((rd_T113 l0_2 x8_1).f2))).trans hx202_1; replace hx202_2 := (cell_far (p := ⟨gb201, 2, none⟩) (nb_ hn202_2) (.int .i64 ((rd_T113 l0_2 x8_1).f2))).trans hx202_2; replace hx202_3 := (cell_far (p := ⟨gb201, 2, none⟩) (nb_ hn202_2) (.int .i64 ((rd_T113 l0_2 x8_1).f2))).trans hx202_3; replace hx202_4 := (cell_far (p := ⟨gb201, 2, none⟩) (nb_ hn202_2) (.int .i64 ((rd_T113 l0_2 x8_1).f2))).trans hx202_4; replace hx202_0 := (cell_far (p := ⟨gb201, 3, none⟩) (nb_ hn202_3) (.int .i64 ((rd_T113 l0_2 x8_1).f3))).trans hx202_0; replace hx202_1 := (cell_far (p := ⟨gb201, 3, none⟩) (nb_ hn202_3) (.int .i64 ((rd_T113 l0_2 x8_1).f3))).trans hx202_1; replace hx202_2 := (cell_far (p := ⟨gb201, 3, none⟩) (nb_ hn202_3) (.int .i64 ((rd_T113 l0_2 x8_1).f3))).trans hx202_2; replace hx202_3 := (cell_far (p := ⟨gb201, 3, none⟩) (nb_ hn202_3) (.int .i64 ((rd_T113 l0_2 x8_1).f3))).trans hx202_3; replace hx202_4 := (cell_far (p := ⟨gb201, 3, none⟩) (nb_ hn202_3) (.int .i64 ((rd_T113 l0_2 x8_1).f3))).trans hx202_4; replace hx202_0 := (cell_far (p := ⟨gb201, 4, none⟩) (nb_ hn202_4) (.int .i64 ((rd_T113 l0_2 x8_1).f4))).trans hx202_0; replace hx202_1 := (cell_far (p := ⟨gb201, 4, none⟩) (nb_ hn202_4) (.int .i64 ((rd_T113 l0_2 x8_1).f4))).trans hx202_1; replace hx202_2 := (cell_far (p := ⟨gb201, 4, none⟩) (nb_ hn202_4) (.int .i64 ((rd_T113 l0_2 x8_1).f4))).trans hx202_2; replace hx202_3 := (cell_far (p := ⟨gb201, 4, none⟩) (nb_ hn202_4) (.int .i64 ((rd_T113 l0_2 x8_1).f4))).trans hx202_3; replace hx202_4 := (cell_far (p := ⟨gb201, 4, none⟩) (nb_ hn202_4) (.int .i64 ((rd_T113 l0_2 x8_1).f4))).trans hx202_4; (try have hy202_0 := fun (n_ : Nat) => (cdk5_ n_ hx202_0)); (try have hy202_1 := fun (n_ : Nat) => (cdk5_ n_ hx202_1)); (try have hy202_2 := fun (n_ : Nat) => (cdk5_ n_ hx202_2)); (try have hy202_3 := fun (n_ : Nat) => (cdk5_ n_ hx202_3)); (try have hy202_4 := fun (n_ : Nat) => (cdk5_ n_ hx202_4)); clear hn202_0; clear hn202_1; clear hn202_2; clear hn202_3; clear hn202_4; replace p202 := eq_true p202; replace q202 := eq_true q202)))
         go_roundg k1
         case measure => have := HK1.out; first | exact this | exact Nat.le_of_succ_le this | exact Nat.le_refl _ | omega
         case rel => exact ⟨(wrap64 (x8_1 + 1)), rs_, H', ⟨by have := HK1.out; first | exact this | exact Nat.le_of_succ_le this | exact Nat.le_refl _ | omega⟩, ⟨by (with_reducible repeat (first | refine blk_drewN ?_ _ | refine blk_drew ?_ | refine blk_alloc ?_ _)); refine blk_far ?_ NB199_201.out _; (with_reducible repeat (first | refine blk_drewN ?_ _ | refine blk_drew ?_ | refine blk_alloc ?_ _)); refine blk_far ?_ NB199_201.out _; (with_reducible repeat (first | refine blk_drewN ?_ _ | refine blk_drew ?_ | refine blk_alloc ?_ _)); refine blk_far ?_ NB199_201.out _; (with_reducible repeat (first | refine blk_drewN ?_ _ | refine blk_drew ?_ | refine blk_alloc ?_ _)); refine blk_far ?_ NB199_201.out _; (with_reducible repeat (first | refine blk_drewN ?_ _ | refine blk_drew ?_ | refine blk_alloc ?_ _)); refine blk_far ?_ NB199_201.out _; (with_reducible repeat (first | refine blk_drewN ?_ _ | refine blk_drew ?_ | refine blk_alloc ?_ _)); exact BK199.out⟩, ⟨by repeat (first | (with_reducible first | exact HB.out | apply below_alloc | apply pw_below_drewN | apply below_drew1 | refine below_set ?_ GE199.out | refine below_set ?_ GE201.out) | exact HB.out)⟩⟩
       ·rw [if_neg c8] at H
        have c8b0 : (((rd_T113 l0_2 x8_1).f1) == ((rd_T113 l0_2 0).f1)) = false := beq_eq_false_iff_ne.mpr c8
        have c8b1 : (((rd_T113 l0_2 x8_1).f1) != ((rd_T113 l0_2 0).f1)) = true := bne_iff_ne.mpr c8
        obtain rfl := Option.some.inj H
        have p200 : 0 ≤ (x8_1 : Int) := of_decide_eq_true as_
        have q200 : x8_1 < (l0_2.length : Int) := of_decide_eq_true as_
        obtain ⟨ad200, e200, hx200_0, hx200_1, hx200_2, hx200_3, hx200_4⟩ := at_T113 HR0_2.out x8_1 p200 q200
        cases e200
        replace hx200_0 := cb_ HB hx200_0
        replace hx200_1 := cb_ HB hx200_1
        replace hx200_2 := cb_ HB hx200_2
        replace hx200_3 := cb_ HB hx200_3
        replace hx200_4 := cb_ HB hx200_4
        replace p200 := eq_true p200
        replace q200 := eq_true q200
        go_wp2_with (first | ((with_reducible refine gate_dst (N := 4) rfl ?_); refine box_event ?hg (N := 4) ?hd (cs := #[.string (⟨#[]⟩ : ByteArray), .int .i64 0, .int .i64 0, .int .i64 0, .int .i64 0]) (t := 113) ?hr ?_; (case hd => rfl); (case hg => rfl); (case hr => first | (go_simp; done) | (go_simp; rfl)); intro gb201 hg w18 hbox hb; have n0_ := Aside0.mk (blk_below (g := gb199) (o := .cells #[.int .i64 a0_0, .int .i64 a0_1, .slice (some ad200) l0_2.length c0_2] 54 (0, 0)) (bk_ BK199) hb); have n1_ := Aside0.mk (below_step (hs_ HB GE199) hb); have n2_ := Aside0.mk (hbox); have n3_ := Aside0.mk ((by rw [hg]; exact (below_size (hs_ HB GE199)) : w.heap.size ≤ gb201)); have n4_ := Aside0.mk ((by rw [hg]; exact (below_size (hs_ HB GE199)) : w.heap.size ≤ gb201)); have n5_ := Aside0.mk ((by rw [hg]; exact Nat.ne_of_lt (blk_lt (g := gb199) (o := .cells #[.int .i64 a0_0, .int .i64 a0_1, .slice (some ad200) l0_2.length c0_2] 54 (0, 0)) (bk_ BK199)) : gb199 ≠ gb201)); have n6_ := Aside0.mk ((by rw [hg]; exact Nat.ne_of_gt (blk_lt (g := gb199) (o := .cells #[.int .i64 a0_0, .int .i64 a0_1, .slice (some ad200) l0_2.length c0_2] 54 (0, 0)) (bk_ BK199)) : gb201 ≠ gb199)); clear BK199; clear HB; have BK199 := n0_; have HB := n1_; have BK201 := n2_; have GW201 := n3_; have GE201 := n4_; have NB199_201 := n5_; have NB201_199 := n6_; clear n0_ n1_ n2_ n3_ n4_ n5_ n6_; clear hb hbox hg; have hnb19 := NB201_199.out; have hnc19 := NB199_201.out; have hcz20_0 : w18.cell? ⟨gb201, 0, none⟩ = some (.string (⟨#[]⟩ : ByteArray)) := (blk_cell BK201.out 0).trans rfl; have hcz20_1 : w18.cell? ⟨gb201, 1, none⟩ = some (.int .i64 0) := (blk_cell BK201.out 1).trans rfl; have hcz20_2 : w18.cell? ⟨gb201, 2, none⟩ = some (.int .i64 0) := (blk_cell BK201.out 2).trans rfl; have hcz20_3 : w18.cell? ⟨gb201, 3, none⟩ = some (.int .i64 0) := (blk_cell BK201.out 3).trans rfl; have hcz20_4 : w18.cell? ⟨gb201, 4, none⟩ = some (.int .i64 0) := (blk_cell BK201.out 4).trans rfl; have hfz20_0 := blk_frozen BK201.out 0; have hfz20_1 := blk_frozen BK201.out 1; have hfz20_2 := blk_frozen BK201.out 2; have hfz20_3 := blk_frozen BK201.out 3; have hfz20_4 := blk_frozen BK201.out 4; have hcz21_0 : w18.cell? ⟨gb199, 0, none⟩ = some (.int .i64 a0_0) := (blk_cell BK199.out 0).trans rfl; have hcz21_1 : w18.cell? ⟨gb199, 1, none⟩ = some (.int .i64 a0_1) := (blk_cell BK199.out 1).trans rfl; have hcz21_2 : w18.cell? ⟨gb199, 2, none⟩ = some (.slice (some ad200) l0_2.length c0_2) := (blk_cell BK199.out 2).trans rfl; have hfz21_0 := blk_frozen BK199.out 0; have hfz21_1 := blk_frozen BK199.out 1; have hfz21_2 := blk_frozen BK199.out 2; have p202 : 0 ≤ (0 : Int) := (by omega); have q202 : 0 < (l0_2.length : Int) := of_decide_eq_true as_; obtain ⟨ad202, e202, hx202_0, hx202_1, hx202_2, hx202_3, hx202_4⟩ := at_T113 HR0_2.out 0 p202 q202; obtain rfl : ad200 = ad202 := (by injection e202); have qi202 : (0 < l0_2.length) = True := eq_true (by omega); (try rw [show ((0 : Int)).toNat = 0 from rfl] at hx202_0); (try rw [show 0 * 5 = 0 from rfl] at hx202_0); (try rw [Addr.add_zero'] at hx202_0); (try rw [show ((0 : Int)).toNat = 0 from rfl] at hx202_1); (try rw [show 0 * 5 = 0 from rfl] at hx202_1); (try rw [Addr.add_zero'] at hx202_1); (try rw [show ((0 : Int)).toNat = 0 from rfl] at hx202_2); (try rw [show 0 * 5 = 0 from rfl] at hx202_2); (try rw [Addr.add_zero'] at hx202_2); (try rw [show ((0 : Int)).toNat = 0 from rfl] at hx202_3); (try rw [show 0 * 5 = 0 from rfl] at hx202_3); (try rw [Addr.add_zero'] at hx202_3); (try rw [show ((0 : Int)).toNat = 0 from rfl] at hx202_4); (try rw [show 0 * 5 = 0 from rfl] at hx202_4); (try rw [Addr.add_zero'] at hx202_4); have hn202_0 : ad200.block ≠ gb201 := Nat.ne_of_lt (Nat.lt_of_lt_of_le (by have := World.block_lt_of_cell? _ _ hx202_0; first | rwa [add_block] at this | exact this) GW201.out); have hn202_1 : ad200.block ≠ gb201 := Nat.ne_of_lt (Nat.lt_of_lt_of_le (by have := World.block_lt_of_cell? _ _ hx202_0; first | rwa [add_block] at this | exact this) GW201.out); have hn202_2 : ad200.block ≠ gb201 := Nat.ne_of_lt (Nat.lt_of_lt_of_le (by have := World.block_lt_of_cell? _ _ hx202_0; first | rwa [add_block] at this | exact this) GW201.out); have hn202_3 : ad200.block ≠ gb201 := Nat.ne_of_lt (Nat.lt_of_lt_of_le (by have := World.block_lt_of_cell? _ _ hx202_0; first | rwa [add_block] at this | exact this) GW201.out); have hn202_4 : ad200.block ≠ gb201 := Nat.ne_of_lt (Nat.lt_of_lt_of_le (by have := World.block_lt_of_cell? _ _ hx202_0; first | rwa [add_block] at this | exact this) GW201.out); replace hx202_0 := cb_ HB hx202_0; replace hx202_1 := cb_ HB hx202_1; replace hx202_2 := cb_ HB hx202_2; replace hx202_3 := cb_ HB hx202_3; replace hx202_4 := cb_ HB hx202_4; replace hx202_0 := (cell_far (p := ⟨gb201, 0, none⟩) (nb_ hn202_0) (.string ((rd_T113 l0_2 x8_1).f0))).trans hx202_0; replace hx202_1 := (cell_far (p := ⟨gb201, 0, none⟩) (nb_ hn202_0) (.string ((rd_T113 l0_2 x8_1).f0))).trans hx202_1; replace hx202_2 := (cell_far (p := ⟨gb201, 0, none⟩) (nb_ hn202_0) (.string ((rd_T113 l0_2 x8_1).f0))).trans hx202_2; replace hx202_3 := (cell_far (p := ⟨gb201, 0, none⟩) (nb_ hn202_0) (.string ((rd_T113 l0_2 x8_1).f0))).trans hx202_3; replace hx202_4 := (cell_far (p := ⟨gb201, 0, none⟩) (nb_ hn202_0) (.string ((rd_T113 l0_2 x8_1).f0))).trans hx202_4; replace hx202_0 := (cell_far (p := ⟨gb201, 1, none⟩) (nb_ hn202_1) (.int .i64 ((rd_T113 l0_2 x8_1).f1))).trans hx202_0; replace hx202_1 := (cell_far (p := ⟨gb201, 1, none⟩) (nb_ hn202_1) (.int .i64 ((rd_T113 l0_2 x8_1).f1))).trans hx202_1; replace hx202_2 := (cell_far (p := ⟨gb201, 1, none⟩) (nb_ hn202_1) (.int .i64 ((rd_T113 l0_2 x8_1).f1))).trans hx202_2; replace hx202_3 := (cell_far (p := ⟨gb201, 1, none⟩) (nb_ hn202_1) (.int .i64 ((rd_T113 l0_2 x8_1).f1))).trans hx202_3; replace hx202_4 := (cell_far (p := ⟨gb201, 1, none⟩) (nb_ hn202_1) (.int .i64 ((rd_T113 l0_2 x8_1).f1))).trans hx202_4; replace hx202_0 := (cell_far (p := ⟨gb201, 2, none⟩) (nb_ hn202_2) (.int .i64 ((rd_T113 l0_2 x8_1).f2))).trans hx202_0; replace hx202_1 := (cell_far (p := ⟨gb201, 2, none⟩) (nb_ hn202_2) (.int .i64 ((rd_T113 l0_2 x8_1).f2))).trans hx202_1; replace hx202_2 := (cell_far (p := ⟨gb201, 2, none⟩) (nb_ hn202_2) (.int .i64 ((rd_T113 l0_2 x8_1).f2))).trans hx202_2; replace hx202_3 := (cell_far (p := ⟨gb201, 2, none⟩) (nb_ hn202_2) (.int .i64 ((rd_T113 l0_2 x8_1).f2))).trans hx202_3; replace hx202_4 := (cell_far (p := ⟨gb201, 2, none⟩) (nb_ hn202_2) (.int .i64 ((rd_T113 l0_2 x8_1).f2))).trans hx202_4; replace hx202_0 := (cell_far (p := ⟨gb201, 3, none⟩) (nb_ hn202_3) (.int .i64 ((rd_T113 l0_2 x8_1).f3))).trans hx202_0; replace hx202_1 := (cell_far (p := ⟨gb201, 3, none⟩) (nb_ hn202_3) (.int .i64 ((rd_T113 l0_2 x8_1).f3))).trans hx202_1; replace hx202_2 := (cell_far (p := ⟨gb201, 3, none⟩) (nb_ hn202_3) (.int .i64 ((rd_T113 l0_2 x8_1).f3))).trans hx202_2; replace hx202_3 := (cell_far (p := ⟨gb201, 3, none⟩) (nb_ hn202_3) (.int .i64 ((rd_T113 l0_2 x8_1).f3))).trans hx202_3; replace hx202_4 := (cell_far (p := ⟨gb201, 3, none⟩) (nb_ hn202_3) (.int .i64 ((rd_T113 l0_2 x8_1).f3))).trans hx202_4; replace hx202_0 := (cell_far (p := ⟨gb201, 4, none⟩) (nb_ hn202_4) (.int .i64 ((rd_T113 l0_2 x8_1).f4))).trans hx202_0; replace hx202_1 := (cell_far (p := ⟨gb201, 4, none⟩) (nb_ hn202_4) (.int .i64 ((rd_T113 l0_2 x8_1).f4))).trans hx202_1; replace hx202_2 := (cell_far (p := ⟨gb201, 4, none⟩) (nb_ hn202_4) (.int .i64 ((rd_T113 l0_2 x8_1).f4))).trans hx202_2; replace hx202_3 := (cell_far (p := ⟨gb201, 4, none⟩) (nb_ hn202_4) (.int .i64 ((rd_T113 l0_2 x8_1).f4))).trans hx202_3; replace hx202_4 := (cell_far (p := ⟨gb201, 4, none⟩) (nb_ hn202_4) (.int .i64 ((rd_T113 l0_2 x8_1).f4))).trans hx202_4; (try have hy202_0 := fun (n_ : Nat) => (cdk5_ n_ hx202_0)); (try have hy202_1 := fun (n_ : Nat) => (cdk5_ n_ hx202_1)); (try have hy202_2 := fun (n_ : Nat) => (cdk5_ n_ hx202_2)); (try have hy202_3 := fun (n_ : Nat) => (cdk5_ n_ hx202_3)); (try have hy202_4 := fun (n_ : Nat) => (cdk5_ n_ hx202_4)); clear hn202_0; clear hn202_1; clear hn202_2; clear hn202_3; clear hn202_4; replace p202 := eq_true p202; replace q202 := eq_true q202))
        repeat (go_quiet (first | ((with_reducible refine gate_dst (N := 4) rfl ?_); refine box_event ?hg (N := 4) ?hd (cs := #[.string (⟨#[]⟩ : ByteArray), .int .i64 0, .int .i64 0, .int .i64 0, .int .i64 0]) (t := 113) ?hr ?_; (case hd => rfl); (case hg => rfl); (case hr => first | (go_simp; done) | (go_simp; rfl)); intro gb201 hg w18 hbox hb; have n0_ := Aside0.mk (blk_below (g := gb199) (o := .cells #[.int .i64 a0_0, .int .i64 a0_1, .slice (some ad200) l0_2.length c0_2] 54 (0, 0)) (bk_ BK199) hb); have n1_ := Aside0.mk (below_step (hs_ HB GE199) hb); have n2_ := Aside0.mk (hbox); have n3_ := Aside0.mk ((by rw [hg]; exact (below_size (hs_ HB GE199)) : w.heap.size ≤ gb201)); have n4_ := Aside0.mk ((by rw [hg]; exact (below_size (hs_ HB GE199)) : w.heap.size ≤ gb201)); have n5_ := Aside0.mk ((by rw [hg]; exact Nat.ne_of_lt (blk_lt (g := gb199) (o := .cells #[.int .i64 a0_0, .int .i64 a0_1, .slice (some ad200) l0_2.length c0_2] 54 (0, 0)) (bk_ BK199)) : gb199 ≠ gb201)); have n6_ := Aside0.mk ((by rw [hg]; exact Nat.ne_of_gt (blk_lt (g := gb199) (o := .cells #[.int .i64 a0_0, .int .i64 a0_1, .slice (some ad200) l0_2.length c0_2] 54 (0, 0)) (bk_ BK199)) : gb201 ≠ gb199)); clear BK199; clear HB; have BK199 := n0_; have HB := n1_; have BK201 := n2_; have GW201 := n3_; have GE201 := n4_; have NB199_201 := n5_; have NB201_199 := n6_; clear n0_ n1_ n2_ n3_ n4_ n5_ n6_; clear hb hbox hg; have hnb19 := NB201_199.out; have hnc19 := NB199_201.out; have hcz20_0 : w18.cell? ⟨gb201, 0, none⟩ = some (.string (⟨#[]⟩ : ByteArray)) := (blk_cell BK201.out 0).trans rfl; have hcz20_1 : w18.cell? ⟨gb201, 1, none⟩ = some (.int .i64 0) := (blk_cell BK201.out 1).trans rfl; have hcz20_2 : w18.cell? ⟨gb201, 2, none⟩ = some (.int .i64 0) := (blk_cell BK201.out 2).trans rfl; have hcz20_3 : w18.cell? ⟨gb201, 3, none⟩ = some (.int .i64 0) := (blk_cell BK201.out 3).trans rfl; have hcz20_4 : w18.cell? ⟨gb201, 4, none⟩ = some (.int .i64 0) := (blk_cell BK201.out 4).trans rfl; have hfz20_0 := blk_frozen BK201.out 0; have hfz20_1 := blk_frozen BK201.out 1; have hfz20_2 := blk_frozen BK201.out 2; have hfz20_3 := blk_frozen BK201.out 3; have hfz20_4 := blk_frozen BK201.out 4; have hcz21_0 : w18.cell? ⟨gb199, 0, none⟩ = some (.int .i64 a0_0) := (blk_cell BK199.out 0).trans rfl; have hcz21_1 : w18.cell? ⟨gb199, 1, none⟩ = some (.int .i64 a0_1) := (blk_cell BK199.out 1).trans rfl; have hcz21_2 : w18.cell? ⟨gb199, 2, none⟩ = some (.slice (some ad200) l0_2.length c0_2) := (blk_cell BK199.out 2).trans rfl; have hfz21_0 := blk_frozen BK199.out 0; have hfz21_1 := blk_frozen BK199.out 1; have hfz21_2 := blk_frozen BK199.out 2; have p202 : 0 ≤ (0 : Int) := (by omega); have q202 : 0 < (l0_2.length : Int) := of_decide_eq_true as_; obtain ⟨ad202, e202, hx202_0, hx202_1, hx202_2, hx202_3, hx202_4⟩ := at_T113 HR0_2.out 0 p202 q202; obtain rfl : ad200 = ad202 := (by injection e202); have qi202 : (0 < l0_2.length) = True := eq_true (by omega); (try rw [show ((0 : Int)).toNat = 0 from rfl] at hx202_0); (try rw [show 0 * 5 = 0 from rfl] at hx202_0); (try rw [Addr.add_zero'] at hx202_0); (try rw [show ((0 : Int)).toNat = 0 from rfl] at hx202_1); (try rw [show 0 * 5 = 0 from rfl] at hx202_1); (try rw [Addr.add_zero'] at hx202_1); (try rw [show ((0 : Int)).toNat = 0 from rfl] at hx202_2); (try rw [show 0 * 5 = 0 from rfl] at hx202_2); (try rw [Addr.add_zero'] at hx202_2); (try rw [show ((0 : Int)).toNat = 0 from rfl] at hx202_3); (try rw [show 0 * 5 = 0 from rfl] at hx202_3); (try rw [Addr.add_zero'] at hx202_3); (try rw [show ((0 : Int)).toNat = 0 from rfl] at hx202_4); (try rw [show 0 * 5 = 0 from rfl] at hx202_4); (try rw [Addr.add_zero'] at hx202_4); have hn202_0 : ad200.block ≠ gb201 := Nat.ne_of_lt (Nat.lt_of_lt_of_le (by have := World.block_lt_of_cell? _ _ hx202_0; first | rwa [add_block] at this | exact this) GW201.out); have hn202_1 : ad200.block ≠ gb201 := Nat.ne_of_lt (Nat.lt_of_lt_of_le (by have := World.block_lt_of_cell? _ _ hx202_0; first | rwa [add_block] at this | exact this) GW201.out); have hn202_2 : ad200.block ≠ gb201 := Nat.ne_of_lt (Nat.lt_of_lt_of_le (by have := World.block_lt_of_cell? _ _ hx202_0; first | rwa [add_block] at this | exact this) GW201.out); have hn202_3 : ad200.block ≠ gb201 := Nat.ne_of_lt (Nat.lt_of_lt_of_le (by have := World.block_lt_of_cell? _ _ hx202_0; first | rwa [add_block] at this | exact this) GW201.out); have hn202_4 : ad200.block ≠ gb201 := Nat.ne_of_lt (Nat.lt_of_lt_of_le (by have := World.block_lt_of_cell? _ _ hx202_0; first | rwa [add_block] at this | exact this) GW201.out); replace hx202_0 := cb_ HB hx202_0; replace hx202_1 := cb_ HB hx202_1; replace hx202_2 := cb_ HB hx202_2; replace hx202_3 := cb_ HB hx202_3; replace hx202_4 := cb_ HB hx202_4; replace hx202_0 := (cell_far (p := ⟨gb201, 0, none⟩) (nb_ hn202_0) (.string ((rd_T113 l0_2 x8_1).f0))).trans hx202_0; replace hx202_1 := (cell_far (p := ⟨gb201, 0, none⟩) (nb_ hn202_0) (.string ((rd_T113 l0_2 x8_1).f0))).trans hx202_1; replace hx202_2 := (cell_far (p := ⟨gb201, 0, none⟩) (nb_ hn202_0) (.string ((rd_T113 l0_2 x8_1).f0))).trans hx202_2; replace hx202_3 := (cell_far (p := ⟨gb201, 0, none⟩) (nb_ hn202_0) (.string ((rd_T113 l0_2 x8_1).f0))).trans hx202_3; replace hx202_4 := (cell_far (p := ⟨gb201, 0, none⟩) (nb_ hn202_0) (.string ((rd_T113 l0_2 x8_1).f0))).trans hx202_4; replace hx202_0 := (cell_far (p := ⟨gb201, 1, none⟩) (nb_ hn202_1) (.int .i64 ((rd_T113 l0_2 x8_1).f1))).trans hx202_0; replace hx202_1 := (cell_far (p := ⟨gb201, 1, none⟩) (nb_ hn202_1) (.int .i64 ((rd_T113 l0_2 x8_1).f1))).trans hx202_1; replace hx202_2 := (cell_far (p := ⟨gb201, 1, none⟩) (nb_ hn202_1) (.int .i64 ((rd_T113 l0_2 x8_1).f1))).trans hx202_2; replace hx202_3 := (cell_far (p := ⟨gb201, 1, none⟩) (nb_ hn202_1) (.int .i64 ((rd_T113 l0_2 x8_1).f1))).trans hx202_3; replace hx202_4 := (cell_far (p := ⟨gb201, 1, none⟩) (nb_ hn202_1) (.int .i64 ((rd_T113 l0_2 x8_1).f1))).trans hx202_4; replace hx202_0 := (cell_far (p := ⟨gb201, 2, none⟩) (nb_ hn202_2) (.int .i64 ((rd_T113 l0_2 x8_1).f2))).trans hx202_0; replace hx202_1 := (cell_far (p := ⟨gb201, 2, none⟩) (nb_ hn202_2) (.int .i64 ((rd_T113 l0_2 x8_1).f2))).trans hx202_1; replace hx202_2 := (cell_far (p := ⟨gb201, 2, none⟩) (nb_ hn202_2) (.int .i64 ((rd_T113 l0_2 x8_1).f2))).trans hx202_2; replace hx202_3 := (cell_far (p := ⟨gb201, 2, none⟩) (nb_ hn202_2) (.int .i64 ((rd_T113 l0_2 x8_1).f2))).trans hx202_3; replace hx202_4 := (cell_far (p := ⟨gb201, 2, none⟩) (nb_ hn202_2) (.int .i64 ((rd_T113 l0_2 x8_1).f2))).trans hx202_4; replace hx202_0 := (cell_far (p := ⟨gb201, 3, none⟩) (nb_ hn202_3) (.int .i64 ((rd_T113 l0_2 x8_1).f3))).trans hx202_0; replace hx202_1 := (cell_far (p := ⟨gb201, 3, none⟩) (nb_ hn202_3) (.int .i64 ((rd_T113 l0_2 x8_1).f3))).trans hx202_1; replace hx202_2 := (cell_far (p := ⟨gb201, 3, none⟩) (nb_ hn202_3) (.int .i64 ((rd_T113 l0_2 x8_1).f3))).trans hx202_2; replace hx202_3 := (cell_far (p := ⟨gb201, 3, none⟩) (nb_ hn202_3) (.int .i64 ((rd_T113 l0_2 x8_1).f3))).trans hx202_3; replace hx202_4 := (cell_far (p := ⟨gb201, 3, none⟩) (nb_ hn202_3) (.int .i64 ((rd_T113 l0_2 x8_1).f3))).trans hx202_4; replace hx202_0 := (cell_far (p := ⟨gb201, 4, none⟩) (nb_ hn202_4) (.int .i64 ((rd_T113 l0_2 x8_1).f4))).trans hx202_0; replace hx202_1 := (cell_far (p := ⟨gb201, 4, none⟩) (nb_ hn202_4) (.int .i64 ((rd_T113 l0_2 x8_1).f4))).trans hx202_1; replace hx202_2 := (cell_far (p := ⟨gb201, 4, none⟩) (nb_ hn202_4) (.int .i64 ((rd_T113 l0_2 x8_1).f4))).trans hx202_2; replace hx202_3 := (cell_far (p := ⟨gb201, 4, none⟩) (nb_ hn202_4) (.int .i64 ((rd_T113 l0_2 x8_1).f4))).trans hx202_3; replace hx202_4 := (cell_far (p := ⟨gb201, 4, none⟩) (nb_ hn202_4) (.int .i64 ((rd_T113 l0_2 x8_1).f4))).trans hx202_4; (try have hy202_0 := fun (n_ : Nat) => (cdk5_ n_ hx202_0)); (try have hy202_1 := fun (n_ : Nat) => (cdk5_ n_ hx202_1)); (try have hy202_2 := fun (n_ : Nat) => (cdk5_ n_ hx202_2)); (try have hy202_3 := fun (n_ : Nat) => (cdk5_ n_ hx202_3)); (try have hy202_4 := fun (n_ : Nat) => (cdk5_ n_ hx202_4)); clear hn202_0; clear hn202_1; clear hn202_2; clear hn202_3; clear hn202_4; replace p202 := eq_true p202; replace q202 := eq_true q202)); try go_wp2_with (first | ((with_reducible refine gate_dst (N := 4) rfl ?_); refine box_event ?hg (N := 4) ?hd (cs := #[.string (⟨#[]⟩ : ByteArray), .int .i64 0, .int .i64 0, .int .i64 0, .int .i64 0]) (t := 113) ?hr ?_; (case hd => rfl); (case hg => rfl); (case hr => first | (go_simp; done) | (go_simp; rfl)); intro gb201 hg w18 hbox hb; have n0_ := Aside0.mk (blk_below (g := gb199) (o := .cells #[.int .i64 a0_0, .int .i64 a0_1, .slice (some ad200) l0_2.length c0_2] 54 (0, 0)) (bk_ BK199) hb); have n1_ := Aside0.mk (below_step (hs_ HB GE199) hb); have n2_ := Aside0.mk (hbox); have n3_ := Aside0.mk ((by rw [hg]; exact (below_size (hs_ HB GE199)) : w.heap.size ≤ gb201)); have n4_ := Aside0.mk ((by rw [hg]; exact (below_size (hs_ HB GE199)) : w.heap.size ≤ gb201)); have n5_ := Aside0.mk ((by rw [hg]; exact Nat.ne_of_lt (blk_lt (g := gb199) (o := .cells #[.int .i64 a0_0, .int .i64 a0_1, .slice (some ad200) l0_2.length c0_2] 54 (0, 0)) (bk_ BK199)) : gb199 ≠ gb201)); have n6_ := Aside0.mk ((by rw [hg]; exact Nat.ne_of_gt (blk_lt (g := gb199) (o := .cells #[.int .i64 a0_0, .int .i64 a0_1, .slice (some ad200) l0_2.length c0_2] 54 (0, 0)) (bk_ BK199)) : gb201 ≠ gb199)); clear BK199; clear HB; have BK199 := n0_; have HB := n1_; have BK201 := n2_; have GW201 := n3_; have GE201 := n4_; have NB199_201 := n5_; have NB201_199 := n6_; clear n0_ n1_ n2_ n3_ n4_ n5_ n6_; clear hb hbox hg; have hnb19 := NB201_199.out; have hnc19 := NB199_201.out; have hcz20_0 : w18.cell? ⟨gb201, 0, none⟩ = some (.string (⟨#[]⟩ : ByteArray)) := (blk_cell BK201.out 0).trans rfl; have hcz20_1 : w18.cell? ⟨gb201, 1, none⟩ = some (.int .i64 0) := (blk_cell BK201.out 1).trans rfl; have hcz20_2 : w18.cell? ⟨gb201, 2, none⟩ = some (.int .i64 0) := (blk_cell BK201.out 2).trans rfl; have hcz20_3 : w18.cell? ⟨gb201, 3, none⟩ = some (.int .i64 0) := (blk_cell BK201.out 3).trans rfl; have hcz20_4 : w18.cell? ⟨gb201, 4, none⟩ = some (.int .i64 0) := (blk_cell BK201.out 4).trans rfl; have hfz20_0 := blk_frozen BK201.out 0; have hfz20_1 := blk_frozen BK201.out 1; have hfz20_2 := blk_frozen BK201.out 2; have hfz20_3 := blk_frozen BK201.out 3; have hfz20_4 := blk_frozen BK201.out 4; have hcz21_0 : w18.cell? ⟨gb199, 0, none⟩ = some (.int .i64 a0_0) := (blk_cell BK199.out 0).trans rfl; have hcz21_1 : w18.cell? ⟨gb199, 1, none⟩ = some (.int .i64 a0_1) := (blk_cell BK199.out 1).trans rfl; have hcz21_2 : w18.cell? ⟨gb199, 2, none⟩ = some (.slice (some ad200) l0_2.length c0_2) := (blk_cell BK199.out 2).trans rfl; have hfz21_0 := blk_frozen BK199.out 0; have hfz21_1 := blk_frozen BK199.out 1; have hfz21_2 := blk_frozen BK199.out 2; have p202 : 0 ≤ (0 : Int) := (by omega); have q202 : 0 < (l0_2.length : Int) := of_decide_eq_true as_; obtain ⟨ad202, e202, hx202_0, hx202_1, hx202_2, hx202_3, hx202_4⟩ := at_T113 HR0_2.out 0 p202 q202; obtain rfl : ad200 = ad202 := (by injection e202); have qi202 : (0 < l0_2.length) = True := eq_true (by omega); (try rw [show ((0 : Int)).toNat = 0 from rfl] at hx202_0); (try rw [show 0 * 5 = 0 from rfl] at hx202_0); (try rw [Addr.add_zero'] at hx202_0); (try rw [show ((0 : Int)).toNat = 0 from rfl] at hx202_1); (try rw [show 0 * 5 = 0 from rfl] at hx202_1); (try rw [Addr.add_zero'] at hx202_1); (try rw [show ((0 : Int)).toNat = 0 from rfl] at hx202_2); (try rw [show 0 * 5 = 0 from rfl] at hx202_2); (try rw [Addr.add_zero'] at hx202_2); (try rw [show ((0 : Int)).toNat = 0 from rfl] at hx202_3); (try rw [show 0 * 5 = 0 from rfl] at hx202_3); (try rw [Addr.add_zero'] at hx202_3); (try rw [show ((0 : Int)).toNat = 0 from rfl] at hx202_4); (try rw [show 0 * 5 = 0 from rfl] at hx202_4); (try rw [Addr.add_zero'] at hx202_4); have hn202_0 : ad200.block ≠ gb201 := Nat.ne_of_lt (Nat.lt_of_lt_of_le (by have := World.block_lt_of_cell? _ _ hx202_0; first | rwa [add_block] at this | exact this) GW201.out); have hn202_1 : ad200.block ≠ gb201 := Nat.ne_of_lt (Nat.lt_of_lt_of_le (by have := World.block_lt_of_cell? _ _ hx202_0; first | rwa [add_block] at this | exact this) GW201.out); have hn202_2 : ad200.block ≠ gb201 := Nat.ne_of_lt (Nat.lt_of_lt_of_le (by have := World.block_lt_of_cell? _ _ hx202_0; first | rwa [add_block] at this | exact this) GW201.out); have hn202_3 : ad200.block ≠ gb201 := Nat.ne_of_lt (Nat.lt_of_lt_of_le (by have := World.block_lt_of_cell? _ _ hx202_0; first | rwa [add_block] at this | exact this) GW201.out); have hn202_4 : ad200.block ≠ gb201 := Nat.ne_of_lt (Nat.lt_of_lt_of_le (by have := World.block_lt_of_cell? _ _ hx202_0; first | rwa [add_block] at this | exact this) GW201.out); replace hx202_0 := cb_ HB hx202_0; replace hx202_1 := cb_ HB hx202_1; replace hx202_2 := cb_ HB hx202_2; replace hx202_3 := cb_ HB hx202_3; replace hx202_4 := cb_ HB hx202_4; replace hx202_0 := (cell_far (p := ⟨gb201, 0, none⟩) (nb_ hn202_0) (.string ((rd_T113 l0_2 x8_1).f0))).trans hx202_0; replace hx202_1 := (cell_far (p := ⟨gb201, 0, none⟩) (nb_ hn202_0) (.string ((rd_T113 l0_2 x8_1).f0))).trans hx202_1; replace hx202_2 := (cell_far (p := ⟨gb201, 0, none⟩) (nb_ hn202_0) (.string ((rd_T113 l0_2 x8_1).f0))).trans hx202_2; replace hx202_3 := (cell_far (p := ⟨gb201, 0, none⟩) (nb_ hn202_0) (.string ((rd_T113 l0_2 x8_1).f0))).trans hx202_3; replace hx202_4 := (cell_far (p := ⟨gb201, 0, none⟩) (nb_ hn202_0) (.string ((rd_T113 l0_2 x8_1).f0))).trans hx202_4; replace hx202_0 := (cell_far (p := ⟨gb201, 1, none⟩) (nb_ hn202_1) (.int .i64 ((rd_T113 l0_2 x8_1).f1))).trans hx202_0; replace hx202_1 := (cell_far (p := ⟨gb201, 1, none⟩) (nb_ hn202_1) (.int .i64 ((rd_T113 l0_2 x8_1).f1))).trans hx202_1; replace hx202_2 := (cell_far (p := ⟨gb201, 1, none⟩) (nb_ hn202_1) (.int .i64 ((rd_T113 l0_2 x8_1).f1))).trans hx202_2; replace hx202_3 := (cell_far (p := ⟨gb201, 1, none⟩) (nb_ hn202_1) (.int .i64 ((rd_T113 l0_2 x8_1).f1))).trans hx202_3; replace hx202_4 := (cell_far (p := ⟨gb201, 1, none⟩) (nb_ hn202_1) (.int .i64 ((rd_T113 l0_2 x8_1).f1))).trans hx202_4; replace hx202_0 := (cell_far (p := ⟨gb201, 2, none⟩) (nb_ hn202_2) (.int .i64 ((rd_T113 l0_2 x8_1).f2))).trans hx202_0; replace hx202_1 := (cell_far (p := ⟨gb201, 2, none⟩) (nb_ hn202_2) (.int .i64 ((rd_T113 l0_2 x8_1).f2))).trans hx202_1; replace hx202_2 := (cell_far (p := ⟨gb201, 2, none⟩) (nb_ hn202_2) (.int .i64 ((rd_T113 l0_2 x8_1).f2))).trans hx202_2; replace hx202_3 := (cell_far (p := ⟨gb201, 2, none⟩) (nb_ hn202_2) (.int .i64 ((rd_T113 l0_2 x8_1).f2))).trans hx202_3; replace hx202_4 := (cell_far (p := ⟨gb201, 2, none⟩) (nb_ hn202_2) (.int .i64 ((rd_T113 l0_2 x8_1).f2))).trans hx202_4; replace hx202_0 := (cell_far (p := ⟨gb201, 3, none⟩) (nb_ hn202_3) (.int .i64 ((rd_T113 l0_2 x8_1).f3))).trans hx202_0; replace hx202_1 := (cell_far (p := ⟨gb201, 3, none⟩) (nb_ hn202_3) (.int .i64 ((rd_T113 l0_2 x8_1).f3))).trans hx202_1; replace hx202_2 := (cell_far (p := ⟨gb201, 3, none⟩) (nb_ hn202_3) (.int .i64 ((rd_T113 l0_2 x8_1).f3))).trans hx202_2; replace hx202_3 := (cell_far (p := ⟨gb201, 3, none⟩) (nb_ hn202_3) (.int .i64 ((rd_T113 l0_2 x8_1).f3))).trans hx202_3; replace hx202_4 := (cell_far (p := ⟨gb201, 3, none⟩) (nb_ hn202_3) (.int .i64 ((rd_T113 l0_2 x8_1).f3))).trans hx202_4; replace hx202_0 := (cell_far (p := ⟨gb201, 4, none⟩) (nb_ hn202_4) (.int .i64 ((rd_T113 l0_2 x8_1).f4))).trans hx202_0; replace hx202_1 := (cell_far (p := ⟨gb201, 4, none⟩) (nb_ hn202_4) (.int .i64 ((rd_T113 l0_2 x8_1).f4))).trans hx202_1; replace hx202_2 := (cell_far (p := ⟨gb201, 4, none⟩) (nb_ hn202_4) (.int .i64 ((rd_T113 l0_2 x8_1).f4))).trans hx202_2; replace hx202_3 := (cell_far (p := ⟨gb201, 4, none⟩) (nb_ hn202_4) (.int .i64 ((rd_T113 l0_2 x8_1).f4))).trans hx202_3; replace hx202_4 := (cell_far (p := ⟨gb201, 4, none⟩) (nb_ hn202_4) (.int .i64 ((rd_T113 l0_2 x8_1).f4))).trans hx202_4; (try have hy202_0 := fun (n_ : Nat) => (cdk5_ n_ hx202_0)); (try have hy202_1 := fun (n_ : Nat) => (cdk5_ n_ hx202_1)); (try have hy202_2 := fun (n_ : Nat) => (cdk5_ n_ hx202_2)); (try have hy202_3 := fun (n_ : Nat) => (cdk5_ n_ hx202_3)); (try have hy202_4 := fun (n_ : Nat) => (cdk5_ n_ hx202_4)); clear hn202_0; clear hn202_1; clear hn202_2; clear hn202_3; clear hn202_4; replace p202 := eq_true p202; replace q202 := eq_true q202)))
        go_ret
        exact ⟨re_, by repeat (first | (with_reducible first | exact HB.out | apply below_alloc | apply pw_below_drewN | apply below_drew1 | refine below_set ?_ GE199.out | refine below_set ?_ GE201.out) | exact HB.out)⟩
      ·rw [if_neg c7] at H
       exact absurd H (by simp)
     ·rw [if_neg c6] at H
      exact absurd H (by simp)
    ·rw [if_neg c5] at H
     exact absurd H (by simp)
   ·rw [if_neg c4] at H
    have c4b0 : decide (x8_1 < (l0_2.length : Int)) = false := decide_eq_false c4
    clear c4
    replace H := Option.bind_eq_some_iff.mp H
    obtain ⟨t203, A220, H⟩ := H
    replace H : (if t203 = true then ((impl_in.f a0_1 0 1000000).bind fun t204 => (if t204 = true then ((impl_DirOk.f k1 l0_2).bind fun t205 => (some t205)) else (some false))) else (some false)) = some r := H
    have A22 := Aside0.mk A220
    clear A220
    by_cases c23 : t203 = true
    ·subst c23
     have H1 : ((impl_in.f a0_1 0 1000000).bind fun t204 => (if t204 = true then ((impl_DirOk.f k1 l0_2).bind fun t205 => (some t205)) else (some false))) = some r := by rw [if_pos rfl] at H; exact H
     clear H
     have H := H1
     clear H1
     replace H := Option.bind_eq_some_iff.mp H
     obtain ⟨t204, A240, H⟩ := H
     replace H : (if t204 = true then ((impl_DirOk.f k1 l0_2).bind fun t205 => (some t205)) else (some false)) = some r := H
     have A24 := Aside0.mk A240
     clear A240
     by_cases c25 : t204 = true
     ·subst c25
      have H1 : ((impl_DirOk.f k1 l0_2).bind fun t205 => (some t205)) = some r := by rw [if_pos rfl] at H; exact H
      clear H
      have H := H1
      clear H1
      replace H := Option.bind_eq_some_iff.mp H
      obtain ⟨t205, A260, H⟩ := H
      replace H : (some t205) = some r := H
      have A26 := Aside0.mk A260
      clear A260
      obtain rfl := Option.some.inj H
      have hcz27_0 : wr.cell? ⟨gb199, 0, none⟩ = some (.int .i64 a0_0) := (blk_cell BK199.out 0).trans rfl
      have hcz27_1 : wr.cell? ⟨gb199, 1, none⟩ = some (.int .i64 a0_1) := (blk_cell BK199.out 1).trans rfl
      have hcz27_2 : wr.cell? ⟨gb199, 2, none⟩ = some (.slice A0_2 l0_2.length c0_2) := (blk_cell BK199.out 2).trans rfl
      have hfz27_0 := blk_frozen BK199.out 0
      have hfz27_1 := blk_frozen BK199.out 1
      have hfz27_2 := blk_frozen BK199.out 2
      go_wp2_with (first | (go_at_call 68; (with_reducible refine (impl_in.calls a0_0 0 100000 true _ A22.out).mono ?_); rintro e w' ⟨rfl, ⟨nd, rfl⟩⟩; (try first | exact ⟨rfl, _, World.drewN_drewN _ _ _⟩ | exact ⟨rfl, _, Eq.trans (World.drewN_drewN _ _ _) (congrArg (World.drewN _) (Nat.add_assoc _ _ _))⟩)) | (go_at_call 68; (with_reducible refine (impl_in.calls a0_1 0 1000000 true _ A24.out).mono ?_); rintro e w' ⟨rfl, ⟨nd, rfl⟩⟩; (try first | exact ⟨rfl, _, World.drewN_drewN _ _ _⟩ | exact ⟨rfl, _, Eq.trans (World.drewN_drewN _ _ _) (congrArg (World.drewN _) (Nat.add_assoc _ _ _))⟩)) | (go_at_call 125; (with_reducible refine (impl_DirOk.calls k1 _ _ l0_2 t205 _ ?side1 ?side2 A26.out).mono ?_); (case side1 => repeat (first | exact (Kd.C_below HR0_2.out (hs_ HB GE199)) | (with_reducible refine Kd.C_alloc ?_ _) | (with_reducible refine Kd.C_drewN ?_ _) | (with_reducible refine Kd.C_drew ?_))); (case side2 => exact HC0_2.out); rintro e w28 ⟨rfl, hb⟩; have n0_ := Aside0.mk (blk_below (g := gb199) (o := .cells #[.int .i64 a0_0, .int .i64 a0_1, .slice A0_2 l0_2.length c0_2] 54 (0, 0)) (bk_ BK199) hb); have n1_ := Aside0.mk (below_step (hs_ HB GE199) hb); clear BK199; clear HB; have BK199 := n0_; have HB := n1_; clear n0_ n1_; (try clear hb); (try clear hb2); (try clear hk); (try clear hi)))
      repeat (go_quiet (first | (go_at_call 68; (with_reducible refine (impl_in.calls a0_0 0 100000 true _ A22.out).mono ?_); rintro e w' ⟨rfl, ⟨nd, rfl⟩⟩; (try first | exact ⟨rfl, _, World.drewN_drewN _ _ _⟩ | exact ⟨rfl, _, Eq.trans (World.drewN_drewN _ _ _) (congrArg (World.drewN _) (Nat.add_assoc _ _ _))⟩)) | (go_at_call 68; (with_reducible refine (impl_in.calls a0_1 0 1000000 true _ A24.out).mono ?_); rintro e w' ⟨rfl, ⟨nd, rfl⟩⟩; (try first | exact ⟨rfl, _, World.drewN_drewN _ _ _⟩ | exact ⟨rfl, _, Eq.trans (World.drewN_drewN _ _ _) (congrArg (World.drewN _) (Nat.add_assoc _ _ _))⟩)) | (go_at_call 125; (with_reducible refine (impl_DirOk.calls k1 _ _ l0_2 t205 _ ?side1 ?side2 A26.out).mono ?_); (case side1 => repeat (first | exact (Kd.C_below HR0_2.out (hs_ HB GE199)) | (with_reducible refine Kd.C_alloc ?_ _) | (with_reducible refine Kd.C_drewN ?_ _) | (with_reducible refine Kd.C_drew ?_))); (case side2 => exact HC0_2.out); rintro e w28 ⟨rfl, hb⟩; have n0_ := Aside0.mk (blk_below (g := gb199) (o := .cells #[.int .i64 a0_0, .int .i64 a0_1, .slice A0_2 l0_2.length c0_2] 54 (0, 0)) (bk_ BK199) hb); have n1_ := Aside0.mk (below_step (hs_ HB GE199) hb); clear BK199; clear HB; have BK199 := n0_; have HB := n1_; clear n0_ n1_; (try clear hb); (try clear hb2); (try clear hk); (try clear hi))); try go_wp2_with (first | (go_at_call 68; (with_reducible refine (impl_in.calls a0_0 0 100000 true _ A22.out).mono ?_); rintro e w' ⟨rfl, ⟨nd, rfl⟩⟩; (try first | exact ⟨rfl, _, World.drewN_drewN _ _ _⟩ | exact ⟨rfl, _, Eq.trans (World.drewN_drewN _ _ _) (congrArg (World.drewN _) (Nat.add_assoc _ _ _))⟩)) | (go_at_call 68; (with_reducible refine (impl_in.calls a0_1 0 1000000 true _ A24.out).mono ?_); rintro e w' ⟨rfl, ⟨nd, rfl⟩⟩; (try first | exact ⟨rfl, _, World.drewN_drewN _ _ _⟩ | exact ⟨rfl, _, Eq.trans (World.drewN_drewN _ _ _) (congrArg (World.drewN _) (Nat.add_assoc _ _ _))⟩)) | (go_at_call 125; (with_reducible refine (impl_DirOk.calls k1 _ _ l0_2 t205 _ ?side1 ?side2 A26.out).mono ?_); (case side1 => repeat (first | exact (Kd.C_below HR0_2.out (hs_ HB GE199)) | (with_reducible refine Kd.C_alloc ?_ _) | (with_reducible refine Kd.C_drewN ?_ _) | (with_reducible refine Kd.C_drew ?_))); (case side2 => exact HC0_2.out); rintro e w28 ⟨rfl, hb⟩; have n0_ := Aside0.mk (blk_below (g := gb199) (o := .cells #[.int .i64 a0_0, .int .i64 a0_1, .slice A0_2 l0_2.length c0_2] 54 (0, 0)) (bk_ BK199) hb); have n1_ := Aside0.mk (below_step (hs_ HB GE199) hb); clear BK199; clear HB; have BK199 := n0_; have HB := n1_; clear n0_ n1_; (try clear hb); (try clear hb2); (try clear hk); (try clear hi))))
      go_ret
      exact ⟨re_, hs_ HB GE199⟩
     ·replace c25 := Bool.eq_false_iff.mpr c25
      subst c25
      have H1 : (some false) = some r := by rw [if_neg (show ¬ (false = true) by decide)] at H; exact H
      clear H
      have H := H1
      clear H1
      obtain rfl := Option.some.inj H
      have hcz29_0 : wr.cell? ⟨gb199, 0, none⟩ = some (.int .i64 a0_0) := (blk_cell BK199.out 0).trans rfl
      have hcz29_1 : wr.cell? ⟨gb199, 1, none⟩ = some (.int .i64 a0_1) := (blk_cell BK199.out 1).trans rfl
      have hcz29_2 : wr.cell? ⟨gb199, 2, none⟩ = some (.slice A0_2 l0_2.length c0_2) := (blk_cell BK199.out 2).trans rfl
      have hfz29_0 := blk_frozen BK199.out 0
      have hfz29_1 := blk_frozen BK199.out 1
      have hfz29_2 := blk_frozen BK199.out 2
      go_wp2_with (first | (go_at_call 68; (with_reducible refine (impl_in.calls a0_0 0 100000 true _ A22.out).mono ?_); rintro e w' ⟨rfl, ⟨nd, rfl⟩⟩; (try first | exact ⟨rfl, _, World.drewN_drewN _ _ _⟩ | exact ⟨rfl, _, Eq.trans (World.drewN_drewN _ _ _) (congrArg (World.drewN _) (Nat.add_assoc _ _ _))⟩)) | (go_at_call 68; (with_reducible refine (impl_in.calls a0_1 0 1000000 false _ A24.out).mono ?_); rintro e w' ⟨rfl, ⟨nd, rfl⟩⟩; (try first | exact ⟨rfl, _, World.drewN_drewN _ _ _⟩ | exact ⟨rfl, _, Eq.trans (World.drewN_drewN _ _ _) (congrArg (World.drewN _) (Nat.add_assoc _ _ _))⟩)))
      repeat (go_quiet (first | (go_at_call 68; (with_reducible refine (impl_in.calls a0_0 0 100000 true _ A22.out).mono ?_); rintro e w' ⟨rfl, ⟨nd, rfl⟩⟩; (try first | exact ⟨rfl, _, World.drewN_drewN _ _ _⟩ | exact ⟨rfl, _, Eq.trans (World.drewN_drewN _ _ _) (congrArg (World.drewN _) (Nat.add_assoc _ _ _))⟩)) | (go_at_call 68; (with_reducible refine (impl_in.calls a0_1 0 1000000 false _ A24.out).mono ?_); rintro e w' ⟨rfl, ⟨nd, rfl⟩⟩; (try first | exact ⟨rfl, _, World.drewN_drewN _ _ _⟩ | exact ⟨rfl, _, Eq.trans (World.drewN_drewN _ _ _) (congrArg (World.drewN _) (Nat.add_assoc _ _ _))⟩))); try go_wp2_with (first | (go_at_call 68; (with_reducible refine (impl_in.calls a0_0 0 100000 true _ A22.out).mono ?_); rintro e w' ⟨rfl, ⟨nd, rfl⟩⟩; (try first | exact ⟨rfl, _, World.drewN_drewN _ _ _⟩ | exact ⟨rfl, _, Eq.trans (World.drewN_drewN _ _ _) (congrArg (World.drewN _) (Nat.add_assoc _ _ _))⟩)) | (go_at_call 68; (with_reducible refine (impl_in.calls a0_1 0 1000000 false _ A24.out).mono ?_); rintro e w' ⟨rfl, ⟨nd, rfl⟩⟩; (try first | exact ⟨rfl, _, World.drewN_drewN _ _ _⟩ | exact ⟨rfl, _, Eq.trans (World.drewN_drewN _ _ _) (congrArg (World.drewN _) (Nat.add_assoc _ _ _))⟩))))
      go_ret
      exact ⟨re_, hs_ HB GE199⟩
    ·replace c23 := Bool.eq_false_iff.mpr c23
     subst c23
     have H1 : (some false) = some r := by rw [if_neg (show ¬ (false = true) by decide)] at H; exact H
     clear H
     have H := H1
     clear H1
     obtain rfl := Option.some.inj H
     have hcz30_0 : wr.cell? ⟨gb199, 0, none⟩ = some (.int .i64 a0_0) := (blk_cell BK199.out 0).trans rfl
     have hcz30_1 : wr.cell? ⟨gb199, 1, none⟩ = some (.int .i64 a0_1) := (blk_cell BK199.out 1).trans rfl
     have hcz30_2 : wr.cell? ⟨gb199, 2, none⟩ = some (.slice A0_2 l0_2.length c0_2) := (blk_cell BK199.out 2).trans rfl
     have hfz30_0 := blk_frozen BK199.out 0
     have hfz30_1 := blk_frozen BK199.out 1
     have hfz30_2 := blk_frozen BK199.out 2
     go_wp2_with (first | (go_at_call 68; (with_reducible refine (impl_in.calls a0_0 0 100000 false _ A22.out).mono ?_); rintro e w' ⟨rfl, ⟨nd, rfl⟩⟩; (try first | exact ⟨rfl, _, World.drewN_drewN _ _ _⟩ | exact ⟨rfl, _, Eq.trans (World.drewN_drewN _ _ _) (congrArg (World.drewN _) (Nat.add_assoc _ _ _))⟩)))
     repeat (go_quiet (first | (go_at_call 68; (with_reducible refine (impl_in.calls a0_0 0 100000 false _ A22.out).mono ?_); rintro e w' ⟨rfl, ⟨nd, rfl⟩⟩; (try first | exact ⟨rfl, _, World.drewN_drewN _ _ _⟩ | exact ⟨rfl, _, Eq.trans (World.drewN_drewN _ _ _) (congrArg (World.drewN _) (Nat.add_assoc _ _ _))⟩))); try go_wp2_with (first | (go_at_call 68; (with_reducible refine (impl_in.calls a0_0 0 100000 false _ A22.out).mono ?_); rintro e w' ⟨rfl, ⟨nd, rfl⟩⟩; (try first | exact ⟨rfl, _, World.drewN_drewN _ _ _⟩ | exact ⟨rfl, _, Eq.trans (World.drewN_drewN _ _ _) (congrArg (World.drewN _) (Nat.add_assoc _ _ _))⟩))))
     go_ret
     exact ⟨re_, hs_ HB GE199⟩

/-! ### impl_Var: function 101 -/
def impl_Var.l0 : Nat → Int → List Int → Option (ByteArray)
 | 0, _, _ => none
 | k + 1, x0, x3 => if x0 > 127 then (if x3.length < 140737488355328 then (impl_Var.l0 k (wrap64 (Int.tdiv x0 128)) (x3 ++ [(wrap64 ((Int.tmod x0 128) + 128)) % 256])) else (none)) else (if x3.length < 140737488355328 then (some (strOfNums (x3 ++ [(x0) % 256]))) else (none))
def impl_Var.f (k : Nat) (a0 : Int) : Option (ByteArray) := (impl_in.f a0 0 562949953421311).bind fun t206 => (if t206 = true then (impl_Var.l0 k a0 ([] : List Int)) else (some (⟨#[]⟩ : ByteArray)))
theorem impl_Var.mono_l : ∀ k, (∀ y0 y1, LeO (impl_Var.l0 k y0 y1) (impl_Var.l0 (k + 1) y0 y1))
 | 0 => fun _ _ r h => by simp [impl_Var.l0] at h
 | k + 1 => by
  have ih0 := impl_Var.mono_l k
  ·intro y0 y1
   unfold impl_Var.l0
   repeat' first
   | (with_reducible exact ih0 _ _)
   | (with_reducible exact LeO.refl _)
   | (with_reducible exact LeO.none _)
   | (with_reducible refine LeO.ite ?_ ?_)
   | (with_reducible refine LeO.bind ?_ (fun _ => ?_))
   | exact ih0 _ _
   | exact LeO.none _
   | refine LeO.ite ?_ ?_
   | refine LeO.bind ?_ (fun _ => ?_)
theorem impl_Var.mono : ∀ a0 k, LeO (impl_Var.f k a0) (impl_Var.f (k + 1) a0) := by
 intro a0 k
 have ih0 := impl_Var.mono_l k
 unfold impl_Var.f
 repeat' first
   | (with_reducible exact ih0 _ _)
   | (with_reducible exact LeO.refl _)
   | (with_reducible exact LeO.none _)
   | (with_reducible refine LeO.ite ?_ ?_)
   | (with_reducible refine LeO.bind ?_ (fun _ => ?_))
   | exact ih0 _ _
   | exact LeO.none _
   | refine LeO.ite ?_ ?_
   | refine LeO.bind ?_ (fun _ => ?_)
set_option maxHeartbeats 8000000 in
set_option maxRecDepth 100000 in
theorem impl_Var.calls (k : Nat) (a0 : Int) (r : ByteArray) (w : World) (h : impl_Var.f k a0 = some r) :
  Calls Try.prog 101 #[.int .i64 a0] w fun e w' => e = .returned (.string r) ∧ Below w.heap.size w w' := by
 have HB := Aside0.mk (Below.refl w.heap.size w)
 have H : ((impl_in.f a0 0 562949953421311).bind fun t206 => (if t206 = true then (impl_Var.l0 k a0 ([] : List Int)) else (some (⟨#[]⟩ : ByteArray)))) = some r := h
 clear h
 replace H := Option.bind_eq_some_iff.mp H
 obtain ⟨t206, A20, H⟩ := H
 replace H : (if t206 = true then (impl_Var.l0 k a0 ([] : List Int)) else (some (⟨#[]⟩ : ByteArray))) = some r := H
 have A2 := Aside0.mk A20
 clear A20
 by_cases c3 : t206 = true
 ·subst c3
  have H1 : (impl_Var.l0 k a0 ([] : List Int)) = some r := by rw [if_pos rfl] at H; exact H
  clear H
  have H := H1
  clear H1
  have H' := Aside0.mk H
  clear H
  go_enter Try.func101, Try.ntmps101
  go_wp2_with (first | ((with_reducible refine gate_callee (f := 68) rfl ?_); refine goesL_ (some 5) rfl rfl Try.func68 (by kernel_rfl) rfl #[.int .i64 a0, .int .i64 0, .int .i64 562949953421311] rfl ar_ ?_; (with_reducible refine (impl_in.calls a0 0 562949953421311 true _ A2.out).mono ?_); rintro e w' ⟨rfl, ⟨nd, rfl⟩⟩; refine ⟨_, rfl, ?_⟩))
  go_loopg [0, 3] k (fun kq v0 v3 w' => ∃ (x0_1 : Int) (x3_1 : List Int), v0 = .int .i64 x0_1 ∧ Aside0 (impl_Var.l0 kq x0_1 x3_1 = some r) ∧ Aside0 (kq ≤ k) ∧ Aside0 (Kd.R (Kd.int .u8) 5 w' w.heap.size (fun _ => True) v3 x3_1) ∧ Aside0 (Below w.heap.size w w'))
  case atStart => exact ⟨(a0), (([] : List Int)), rs_, H', ⟨Nat.le_refl _⟩, ⟨by first | exact Kd.R_nil _ _ _ _ _ | exact Kd.N_nil _ _ _ _ _ | exact Kd.V_nil _ _ _ _ _ | exact Kd.Q_nil _ _ _ _ _ | exact Kd.S_nil _ _ _ _ _⟩, ⟨hb_ HB⟩⟩
  case round =>
   clear H'
   try clear c1
   try clear p2
   try clear c3
   obtain ⟨x0_1, x3_1, rfl, HA, HK1, HO_3, HB⟩ := hrel
   cases gk with
   | zero => exact absurd HA.out (by simp [impl_Var.l0])
   | succ k1 =>
    have H := HA.out
    clear HA
    simp only [impl_Var.l0] at H
    by_cases c4 : x0_1 > 127
    ·rw [if_pos c4] at H
     have c4b0 : decide (127 < x0_1) = true := decide_eq_true c4
     clear c4
     by_cases c5 : x3_1.length < 140737488355328
     ·rw [if_pos c5] at H
      have LMc5 := Aside0.mk c5
      clear c5
      obtain ⟨y207, hy207⟩ : ∃ y_ : List Int, y_ = (x3_1 ++ [(wrap64 ((Int.tmod x0_1 128) + 128)) % 256]) := ⟨_, rfl⟩
      replace H : (impl_Var.l0 k1 (wrap64 (Int.tdiv x0_1 128)) y207) = some r := by first | (rw [hy207]; with_reducible exact H) | (have H2_ := (Option.bind_some _ _).symm.trans H; rw [hy207]; with_reducible exact H2_) | (have H2_ := (Option.bind_some _ _).symm.trans H; with_reducible exact H2_) | with_reducible exact H | (rw [hy207]; exact H) | exact H
      have Ny207 := Aside0.mk hy207
      clear hy207
      have H' := Aside0.mk H
      clear H
      go_wp2_with (first | (at_builtin; (with_reducible refine gate_builtin (b := .append) (xs := #[.tmp 9, .tmp 14]) rfl ?_); refine Kd.R_append (Kd.int .u8) (w0 := w) w.heap.size rfl (.tmp 9) (.tmp 14) 70 5 (.int .u8 0) 1 rfl Try.underlying70 info5 rfl (by decide) (by omega) u3 x3_1 ((wrap64 ((Int.tmod x0_1 128) + 128)) % 256) [.int .u8 ((wrap64 ((Int.tmod x0_1 128) + 128)) % 256)] (fun _ => True) (fun _ => False) rfl rfl ?aP (fun _ hk => hk.elim) ?aF ?aO ?aB ?aS ?aL ?_; (case aP => exact rfl); (case aB => exact (hb_ HB)); (case aF => exact (fun _ _ => trivial)); (case aO => exact (rr_ HO_3)); (case aS => exact (below_size (hb_ HB))); (case aL => have := LMc5.out; omega); intro v208 w6 ho hb hg hat; rw [← Ny207.out] at ho; have n0_ := Aside0.mk (hb); have n1_ := Aside0.mk (ho); clear HB; clear HO_3; have HB := n0_; have HO209 := n1_; clear n0_ n1_; clear ho hb hg hat))
      go_roundg k1
      case measure => have := HK1.out; first | exact this | exact Nat.le_of_succ_le this | exact Nat.le_refl _ | omega
      case rel => exact ⟨(wrap64 (Int.tdiv x0_1 128)), (y207), rs_, H', ⟨by have := HK1.out; first | exact this | exact Nat.le_of_succ_le this | exact Nat.le_refl _ | omega⟩, ⟨rr_ HO209⟩, ⟨hb_ HB⟩⟩
     ·rw [if_neg c5] at H
      exact absurd H (by simp)
    ·rw [if_neg c4] at H
     have c4b0 : decide (127 < x0_1) = false := decide_eq_false c4
     clear c4
     by_cases c7 : x3_1.length < 140737488355328
     ·rw [if_pos c7] at H
      have LMc7 := Aside0.mk c7
      clear c7
      obtain ⟨y210, hy210⟩ : ∃ y_ : List Int, y_ = (x3_1 ++ [(x0_1) % 256]) := ⟨_, rfl⟩
      replace H : (some (strOfNums y210)) = some r := by first | (rw [hy210]; with_reducible exact H) | (have H2_ := (Option.bind_some _ _).symm.trans H; rw [hy210]; with_reducible exact H2_) | (have H2_ := (Option.bind_some _ _).symm.trans H; with_reducible exact H2_) | with_reducible exact H | (rw [hy210]; exact H) | exact H
      have Ny210 := Aside0.mk hy210
      clear hy210
      obtain rfl := Option.some.inj H
      go_wp2_with (first | (at_builtin; (with_reducible refine gate_builtin (b := .append) (xs := #[.tmp 18, .tmp 21]) rfl ?_); refine Kd.R_append (Kd.int .u8) (w0 := w) w.heap.size rfl (.tmp 18) (.tmp 21) 70 5 (.int .u8 0) 1 rfl Try.underlying70 info5 rfl (by decide) (by omega) u3 x3_1 ((x0_1) % 256) [.int .u8 ((x0_1) % 256)] (fun _ => True) (fun _ => False) rfl rfl ?aP (fun _ hk => hk.elim) ?aF ?aO ?aB ?aS ?aL ?_; (case aP => exact rfl); (case aB => exact (hb_ HB)); (case aF => exact (fun _ _ => trivial)); (case aO => exact (rr_ HO_3)); (case aS => exact (below_size (hb_ HB))); (case aL => have := LMc7.out; omega); intro v211 w8 ho hb hg hat; rw [← Ny210.out] at ho; have n0_ := Aside0.mk (hb); have n1_ := Aside0.mk (ho); clear HB; clear HO_3; have HB := n0_; have HO212 := n1_; clear n0_ n1_; clear ho hb hg hat; have hcv9 := own_string (P := Try.prog) Try.underlying70 Try.underlying5 Try.underlying9 (Kd.own_of_R HO212.out)))
      go_ret
      exact ⟨re_, hb_ HB⟩
     ·rw [if_neg c7] at H
      exact absurd H (by simp)
 ·replace c3 := Bool.eq_false_iff.mpr c3
  subst c3
  have H1 : (some (⟨#[]⟩ : ByteArray)) = some r := by rw [if_neg (show ¬ (false = true) by decide)] at H; exact H
  clear H
  have H := H1
  clear H1
  obtain rfl := Option.some.inj H
  go_enter Try.func101, Try.ntmps101
  go_wp2_with (first | ((with_reducible refine gate_callee (f := 68) rfl ?_); refine goesL_ (some 5) rfl rfl Try.func68 (by kernel_rfl) rfl #[.int .i64 a0, .int .i64 0, .int .i64 562949953421311] rfl ar_ ?_; (with_reducible refine (impl_in.calls a0 0 562949953421311 false _ A2.out).mono ?_); rintro e w' ⟨rfl, ⟨nd, rfl⟩⟩; refine ⟨_, rfl, ?_⟩))
  go_ret
  exact ⟨re_, hb_ HB⟩

/-! ### impl_vars: function 90 -/
def impl_vars.l0 : Nat → ByteArray → List Int → Int → Int → Option (ByteArray)
 | 0, _, _, _, _ => none
 | k + 1, x3, x6, x7, x8 => if x8 < x7 then (if 0 ≤ x8 then (if x8 < (x6.length : Int) then ((impl_Var.f k (rd x6 x8)).bind fun t214 => (if x3.size + t214.size ≤ 9223372036854775807 then (impl_vars.l0 k (x3 ++ t214) x6 x7 (wrap64 (x8 + 1))) else (none))) else (none)) else (none)) else (some x3)
def impl_vars.f (k : Nat) (l0 : List Int) : Option (ByteArray) := impl_vars.l0 k (⟨#[]⟩ : ByteArray) l0 (l0.length : Int) 0
theorem impl_vars.mono_l : ∀ k, (∀ y0 y1 y2 y3, LeO (impl_vars.l0 k y0 y1 y2 y3) (impl_vars.l0 (k + 1) y0 y1 y2 y3))
 | 0 => fun _ _ _ _ r h => by simp [impl_vars.l0] at h
 | k + 1 => by
  have ih0 := impl_vars.mono_l k
  ·intro y0 y1 y2 y3
   unfold impl_vars.l0
   repeat' first
   | (with_reducible exact ih0 _ _ _ _)
   | (with_reducible exact impl_Var.mono _ _)
   | (with_reducible exact LeO.refl _)
   | (with_reducible exact LeO.none _)
   | (with_reducible refine LeO.ite ?_ ?_)
   | (with_reducible refine LeO.bind ?_ (fun _ => ?_))
   | exact ih0 _ _ _ _
   | exact impl_Var.mono _ _
   | exact LeO.none _
   | refine LeO.ite ?_ ?_
   | refine LeO.bind ?_ (fun _ => ?_)
theorem impl_vars.mono : ∀ a0 k, LeO (impl_vars.f k a0) (impl_vars.f (k + 1) a0) := by
 intro a0 k
 have ih0 := impl_vars.mono_l k
 unfold impl_vars.f
 repeat' first
   | (with_reducible exact ih0 _ _ _ _)
   | (with_reducible exact impl_Var.mono _ _)
   | (with_reducible exact LeO.refl _)
   | (with_reducible exact LeO.none _)
   | (with_reducible refine LeO.ite ?_ ?_)
   | (with_reducible refine LeO.bind ?_ (fun _ => ?_))
   | exact ih0 _ _ _ _
   | exact impl_Var.mono _ _
   | exact LeO.none _
   | refine LeO.ite ?_ ?_
   | refine LeO.bind ?_ (fun _ => ?_)
set_option maxHeartbeats 8000000 in
set_option maxRecDepth 100000 in
theorem impl_vars.calls (k : Nat) (A0 : Option Addr) (c0 : Nat) (l0 : List Int) (r : ByteArray) (w : World) (hr0 : Kd.C (Kd.int .i64) w A0 l0.length l0) (hc0 : l0.length ≤ c0) (h : impl_vars.f k l0 = some r) :
  Calls Try.prog 90 #[.slice A0 l0.length c0] w fun e w' => e = .returned (.string r) ∧ Below w.heap.size w w' := by
 have HR0 := Aside0.mk hr0
 have HC0 := Aside0.mk hc0
 clear hr0 hc0
 have HB := Aside0.mk (Below.refl w.heap.size w)
 have H : (impl_vars.l0 k (⟨#[]⟩ : ByteArray) l0 (l0.length : Int) 0) = some r := h
 clear h
 have H' := Aside0.mk H
 clear H
 go_enter Try.func90, Try.ntmps90
 go_wp2
 go_loopg [3, 8] k (fun kq v3 v8 w' => ∃ (x3_1 : ByteArray) (x8_1 : Int), v3 = .string x3_1 ∧ v8 = .int .i64 x8_1 ∧ Aside0 (impl_vars.l0 kq x3_1 l0 (l0.length : Int) x8_1 = some r) ∧ Aside0 (kq ≤ k) ∧ Aside0 (Below w.heap.size w w'))
 case atStart => exact ⟨((⟨#[]⟩ : ByteArray)), (0), rs_, rs_, H', ⟨Nat.le_refl _⟩, ⟨hb_ HB⟩⟩
 case round =>
  clear H'
  obtain ⟨x3_1, x8_1, rfl, rfl, HA, HK1, HB⟩ := hrel
  cases gk with
  | zero => exact absurd HA.out (by simp [impl_vars.l0])
  | succ k1 =>
   have H := HA.out
   clear HA
   simp only [impl_vars.l0] at H
   by_cases c2 : x8_1 < (l0.length : Int)
   ·rw [if_pos c2] at H
    have c2b0 : decide (x8_1 < (l0.length : Int)) = true := decide_eq_true c2
    clear c2
    by_cases c3 : 0 ≤ x8_1
    ·rw [if_pos c3] at H
     have c3b0 : decide (0 ≤ x8_1) = true := decide_eq_true c3
     clear c3
     by_cases c4 : x8_1 < (l0.length : Int)
     ·rw [if_pos c4] at H
      have c4b0 : decide (x8_1 < (l0.length : Int)) = true := decide_eq_true c4
      clear c4
      replace H := Option.bind_eq_some_iff.mp H
      obtain ⟨t214, A50, H⟩ := H
      replace H : (if x3_1.size + t214.size ≤ 9223372036854775807 then (impl_vars.l0 k1 (x3_1 ++ t214) l0 (l0.length : Int) (wrap64 (x8_1 + 1))) else (none)) = some r := H
      have A5 := Aside0.mk A50
      clear A50
      by_cases c6 : x3_1.size + t214.size ≤ 9223372036854775807
      ·rw [if_pos c6] at H
       have c6b0 := eq_true c6
       have c6b1 : decide (x3_1.size + t214.size ≤ 9223372036854775807) = true := decide_eq_true c6
       try have c6b2 : (9223372036854775807 < x3_1.size + t214.size) = False := eq_false (Nat.not_lt.2 c6)
       (try (have c6b3 := c6b2; simp only [ByteArray.size_append] at c6b3))
       have H' := Aside0.mk H
       clear H
       have p213 : 0 ≤ (x8_1 : Int) := of_decide_eq_true as_
       have q213 : x8_1 < (l0.length : Int) := of_decide_eq_true as_
       obtain ⟨ad213, e213, hx213_0⟩ := Kd.at_int HR0.out x8_1 p213 q213
       cases e213
       replace hx213_0 := cb_ HB hx213_0
       replace p213 := eq_true p213
       replace q213 := eq_true q213
       go_wp2_with (first | ((with_reducible refine gate_callee (f := 101) rfl ?_); refine goesL_ (some 14) rfl rfl Try.func101 (by kernel_rfl) rfl #[.int .i64 (rd l0 x8_1)] rfl ar_ ?_; (with_reducible refine (impl_Var.calls k1 (rd l0 x8_1) t214 _ A5.out).mono ?_); rintro e w7 ⟨rfl, hb⟩; refine ⟨_, rfl, ?_⟩; have n0_ := Aside0.mk (below_step (hb_ HB) hb); clear HB; have HB := n0_; clear n0_; (try clear hb); (try clear hb2); (try clear hk); (try clear hi)))
       go_roundg k1
       case measure => have := HK1.out; first | exact this | exact Nat.le_of_succ_le this | exact Nat.le_refl _ | omega
       case rel => exact ⟨(x3_1 ++ t214), (wrap64 (x8_1 + 1)), rs_, rs_, H', ⟨by have := HK1.out; first | exact this | exact Nat.le_of_succ_le this | exact Nat.le_refl _ | omega⟩, ⟨hb_ HB⟩⟩
      ·rw [if_neg c6] at H
       exact absurd H (by simp)
     ·rw [if_neg c4] at H
      exact absurd H (by simp)
    ·rw [if_neg c3] at H
     exact absurd H (by simp)
   ·rw [if_neg c2] at H
    have c2b0 : decide (x8_1 < (l0.length : Int)) = false := decide_eq_false c2
    clear c2
    obtain rfl := Option.some.inj H
    go_wp2
    go_ret
    exact ⟨re_, hb_ HB⟩

/-! ### impl_textOf: function 91 -/
def impl_textOf.f (k : Nat) (a0 : ByteArray) : Option (ByteArray) := (impl_Var.f k (a0.size : Int)).bind fun t215 => (if t215.size + a0.size ≤ 9223372036854775807 then (some (t215 ++ a0)) else (none))
theorem impl_textOf.mono : ∀ a0 k, LeO (impl_textOf.f k a0) (impl_textOf.f (k + 1) a0) := by
 intro a0 k
 unfold impl_textOf.f
 repeat' first
   | (with_reducible exact impl_Var.mono _ _)
   | (with_reducible exact LeO.refl _)
   | (with_reducible exact LeO.none _)
   | (with_reducible refine LeO.ite ?_ ?_)
   | (with_reducible refine LeO.bind ?_ (fun _ => ?_))
   | exact impl_Var.mono _ _
   | exact LeO.none _
   | refine LeO.ite ?_ ?_
   | refine LeO.bind ?_ (fun _ => ?_)
set_option maxHeartbeats 8000000 in
set_option maxRecDepth 100000 in
theorem impl_textOf.calls (k : Nat) (a0 : ByteArray) (r : ByteArray) (w : World) (h : impl_textOf.f k a0 = some r) :
  Calls Try.prog 91 #[.string a0] w fun e w' => e = .returned (.string r) ∧ Below w.heap.size w w' := by
 have HB := Aside0.mk (Below.refl w.heap.size w)
 have H : ((impl_Var.f k (a0.size : Int)).bind fun t215 => (if t215.size + a0.size ≤ 9223372036854775807 then (some (t215 ++ a0)) else (none))) = some r := h
 clear h
 replace H := Option.bind_eq_some_iff.mp H
 obtain ⟨t215, A20, H⟩ := H
 replace H : (if t215.size + a0.size ≤ 9223372036854775807 then (some (t215 ++ a0)) else (none)) = some r := H
 have A2 := Aside0.mk A20
 clear A20
 by_cases c3 : t215.size + a0.size ≤ 9223372036854775807
 ·rw [if_pos c3] at H
  have c3b0 := eq_true c3
  have c3b1 : decide (t215.size + a0.size ≤ 9223372036854775807) = true := decide_eq_true c3
  try have c3b2 : (9223372036854775807 < t215.size + a0.size) = False := eq_false (Nat.not_lt.2 c3)
  (try (have c3b3 := c3b2; simp only [ByteArray.size_append] at c3b3))
  obtain rfl := Option.some.inj H
  go_enter Try.func91, Try.ntmps91
  go_wp2_with (first | ((with_reducible refine gate_callee (f := 101) rfl ?_); refine goesL_ (some 5) rfl rfl Try.func101 (by kernel_rfl) rfl #[.int .i64 (a0.size : Int)] rfl ar_ ?_; (with_reducible refine (impl_Var.calls k (a0.size : Int) t215 _ A2.out).mono ?_); rintro e w4 ⟨rfl, hb⟩; refine ⟨_, rfl, ?_⟩; have n0_ := Aside0.mk (below_step (hb_ HB) hb); clear HB; have HB := n0_; clear n0_; (try clear hb); (try clear hb2); (try clear hk); (try clear hi)))
  go_ret
  exact ⟨re_, hb_ HB⟩
 ·rw [if_neg c3] at H
  exact absurd H (by simp)

/-! ### impl_Fixed: function 92 -/
mutual
def impl_Fixed.j0 : Nat → Int → Int → Bool → Option (ByteArray)
 | 0, _, _, _ => none
 | k + 1, x0, x1, x18 => if x18 = true then (some (⟨#[]⟩ : ByteArray)) else (impl_Fixed.l0 k x0 ([] : List Int) (wrap64 (x1 - 1)))
def impl_Fixed.l0 : Nat → Int → List Int → Int → Option (ByteArray)
 | 0, _, _, _ => none
 | k + 1, x0, x5, x6 => if x6 ≥ 0 then (if 0 ≤ (wrap64 (8 * x6)) then (if x5.length < 140737488355328 then (impl_Fixed.l0 k x0 (x5 ++ [(shr .i64 x0 (wrap64 (8 * x6))) % 256]) (wrap64 (x6 - 1))) else (none)) else (none)) else (some (strOfNums x5))
end
def impl_Fixed.f (k : Nat) (a0 : Int) (a1 : Int) : Option (ByteArray) := (impl_in.f a1 1 7).bind fun t216 => (if t216 = true then (if 0 ≤ (wrap64 (8 * a1)) then ((impl_in.f a0 0 (wrap64 ((shl .i64 1 (wrap64 (8 * a1))) - 1))).bind fun t217 => (impl_Fixed.j0 k a0 a1 (!t217))) else (none)) else (impl_Fixed.j0 k a0 a1 true))
theorem impl_Fixed.mono_l : ∀ k, (∀ y0 y1 y2, LeO (impl_Fixed.j0 k y0 y1 y2) (impl_Fixed.j0 (k + 1) y0 y1 y2)) ∧ (∀ y0 y1 y2, LeO (impl_Fixed.l0 k y0 y1 y2) (impl_Fixed.l0 (k + 1) y0 y1 y2))
 | 0 => ⟨fun _ _ _ r h => by simp [impl_Fixed.j0] at h, fun _ _ _ r h => by simp [impl_Fixed.l0] at h⟩
 | k + 1 => by
  obtain ⟨ih0, ih1⟩ := impl_Fixed.mono_l k
  refine ⟨?_, ?_⟩
  ·intro y0 y1 y2
   unfold impl_Fixed.j0
   repeat' first
   | (with_reducible exact ih0 _ _ _)
   | (with_reducible exact ih1 _ _ _)
   | (with_reducible exact LeO.refl _)
   | (with_reducible exact LeO.none _)
   | (with_reducible refine LeO.ite ?_ ?_)
   | (with_reducible refine LeO.bind ?_ (fun _ => ?_))
   | exact ih0 _ _ _
   | exact ih1 _ _ _
   | exact LeO.none _
   | refine LeO.ite ?_ ?_
   | refine LeO.bind ?_ (fun _ => ?_)
  ·intro y0 y1 y2
   unfold impl_Fixed.l0
   repeat' first
   | (with_reducible exact ih0 _ _ _)
   | (with_reducible exact ih1 _ _ _)
   | (with_reducible exact LeO.refl _)
   | (with_reducible exact LeO.none _)
   | (with_reducible refine LeO.ite ?_ ?_)
   | (with_reducible refine LeO.bind ?_ (fun _ => ?_))
   | exact ih0 _ _ _
   | exact ih1 _ _ _
   | exact LeO.none _
   | refine LeO.ite ?_ ?_
   | refine LeO.bind ?_ (fun _ => ?_)
theorem impl_Fixed.mono : ∀ a0 a1 k, LeO (impl_Fixed.f k a0 a1) (impl_Fixed.f (k + 1) a0 a1) := by
 intro a0 a1 k
 obtain ⟨ih0, ih1⟩ := impl_Fixed.mono_l k
 unfold impl_Fixed.f
 repeat' first
   | (with_reducible exact ih0 _ _ _)
   | (with_reducible exact ih1 _ _ _)
   | (with_reducible exact LeO.refl _)
   | (with_reducible exact LeO.none _)
   | (with_reducible refine LeO.ite ?_ ?_)
   | (with_reducible refine LeO.bind ?_ (fun _ => ?_))
   | exact ih0 _ _ _
   | exact ih1 _ _ _
   | exact LeO.none _
   | refine LeO.ite ?_ ?_
   | refine LeO.bind ?_ (fun _ => ?_)
set_option maxHeartbeats 8000000 in
set_option maxRecDepth 100000 in
theorem impl_Fixed.calls (k : Nat) (a0 : Int) (a1 : Int) (r : ByteArray) (w : World) (h : impl_Fixed.f k a0 a1 = some r) :
  Calls Try.prog 92 #[.int .i64 a0, .int .i64 a1] w fun e w' => e = .returned (.string r) ∧ Below w.heap.size w w' := by
 have HB := Aside0.mk (Below.refl w.heap.size w)
 have H : ((impl_in.f a1 1 7).bind fun t216 => (if t216 = true then (if 0 ≤ (wrap64 (8 * a1)) then ((impl_in.f a0 0 (wrap64 ((shl .i64 1 (wrap64 (8 * a1))) - 1))).bind fun t217 => (impl_Fixed.j0 k a0 a1 (!t217))) else (none)) else (impl_Fixed.j0 k a0 a1 true))) = some r := h
 clear h
 have HC3 := Aside0.mk H
 clear H
 go_enter Try.func92, Try.ntmps92
 go_upto_region 1 with (fail)
 go_cut [18] (fun v18 wc => ∃ (kq : Nat) (x18_2 : Bool), v18 = .bool x18_2 ∧ Aside0 (impl_Fixed.j0 kq a0 a1 x18_2 = some r) ∧ Aside0 (kq ≤ k) ∧ Aside0 (Below w.heap.size w wc))
 case first =>
  have H := HC3.out
  clear HC3
  replace H := Option.bind_eq_some_iff.mp H
  obtain ⟨t216, A40, H⟩ := H
  replace H : (if t216 = true then (if 0 ≤ (wrap64 (8 * a1)) then ((impl_in.f a0 0 (wrap64 ((shl .i64 1 (wrap64 (8 * a1))) - 1))).bind fun t217 => (impl_Fixed.j0 k a0 a1 (!t217))) else (none)) else (impl_Fixed.j0 k a0 a1 true)) = some r := H
  have A4 := Aside0.mk A40
  clear A40
  by_cases c5 : t216 = true
  ·subst c5
   have H1 : (if 0 ≤ (wrap64 (8 * a1)) then ((impl_in.f a0 0 (wrap64 ((shl .i64 1 (wrap64 (8 * a1))) - 1))).bind fun t217 => (impl_Fixed.j0 k a0 a1 (!t217))) else (none)) = some r := by rw [if_pos rfl] at H; exact H
   clear H
   have H := H1
   clear H1
   obtain ⟨ji6, hji6⟩ : ∃ j_ : Int, (wrap64 (8 * a1)) = j_ := ⟨_, rfl⟩
   replace H : (if 0 ≤ (ji6) then ((impl_in.f a0 0 (wrap64 ((shl .i64 1 (ji6)) - 1))).bind fun t217 => (impl_Fixed.j0 k a0 a1 (!t217))) else (none)) = some r := by first | (rw [hji6] at H; exact H) | (simp only [hji6] at H ⊢; exact H)
   (try rw [hji6] at A4)
   have hji6w : (IntKind.i64.wrap (8 * a1)) = ji6 := (i64_w _).trans hji6
   by_cases c7 : 0 ≤ (ji6)
   ·rw [if_pos c7] at H
    have c7b0 := eq_true c7
    have c7b1 : decide (0 ≤ (ji6)) = true := decide_eq_true c7
    clear c7
    obtain ⟨ji8, hji8⟩ : ∃ j_ : Int, (shl .i64 1 (ji6)) = j_ := ⟨_, rfl⟩
    replace H : ((impl_in.f a0 0 (wrap64 ((ji8) - 1))).bind fun t217 => (impl_Fixed.j0 k a0 a1 (!t217))) = some r := by first | (rw [hji8] at H; exact H) | (simp only [hji8] at H ⊢; exact H)
    (try rw [hji8] at A4)
    have hji8_ : (IntKind.i64.wrap (1 * 2 ^ min (ji6).toNat 64)) = ji8 := hji8
    have hji8z : (ji6) ≤ 64 → (IntKind.i64.wrap (1 * 2 ^ (ji6).toNat)) = ji8 := shl_small hji8
    have hji8u : (IntKind.i64.wrap (2 ^ min (ji6).toNat 64)) = ji8 := by have h_ := hji8_; rw [Int.one_mul] at h_; exact h_
    have hji8v : (ji6) ≤ 64 → (IntKind.i64.wrap (2 ^ (ji6).toNat)) = ji8 := fun hle_ => by have h_ := hji8z hle_; rw [Int.one_mul] at h_; exact h_
    have hji8y : (wrap64 (1 * 2 ^ min (ji6).toNat 64)) = ji8 := (i64_w _).symm.trans hji8_
    have hji8x : (ji6) ≤ 64 → (wrap64 (1 * 2 ^ (ji6).toNat)) = ji8 := fun h_ => (i64_w _).symm.trans (hji8z h_)
    replace H := Option.bind_eq_some_iff.mp H
    obtain ⟨t217, A90, H⟩ := H
    replace H : (impl_Fixed.j0 k a0 a1 (!t217)) = some r := H
    have A9 := Aside0.mk A90
    clear A90
    have H' := Aside0.mk H
    clear H
    go_wp2_with (first | ((with_reducible refine gate_callee (f := 68) rfl ?_); refine goesL_ (some 8) rfl rfl Try.func68 (by kernel_rfl) rfl #[.int .i64 a1, .int .i64 1, .int .i64 7] rfl ar_ ?_; (with_reducible refine (impl_in.calls a1 1 7 true _ A4.out).mono ?_); rintro e w' ⟨rfl, ⟨nd, rfl⟩⟩; refine ⟨_, rfl, ?_⟩) | (go_at_call 68; (with_reducible refine (impl_in.calls a0 0 (wrap64 ((ji8) - 1)) t217 _ A9.out).mono ?_); rintro e w' ⟨rfl, ⟨nd, rfl⟩⟩))
    go_meet
    case rel => exact ⟨_, (!t217), rs_, H', ⟨by first | exact Nat.le_refl _ | exact Nat.le_of_succ_le this | omega⟩, ⟨hb_ HB⟩⟩
   ·rw [if_neg c7] at H
    exact absurd H (by simp)
  ·replace c5 := Bool.eq_false_iff.mpr c5
   subst c5
   have H1 : (impl_Fixed.j0 k a0 a1 true) = some r := by rw [if_neg (show ¬ (false = true) by decide)] at H; exact H
   clear H
   have H := H1
   clear H1
   have H' := Aside0.mk H
   clear H
   go_wp2_with (first | ((with_reducible refine gate_callee (f := 68) rfl ?_); refine goesL_ (some 8) rfl rfl Try.func68 (by kernel_rfl) rfl #[.int .i64 a1, .int .i64 1, .int .i64 7] rfl ar_ ?_; (with_reducible refine (impl_in.calls a1 1 7 false _ A4.out).mono ?_); rintro e w' ⟨rfl, ⟨nd, rfl⟩⟩; refine ⟨_, rfl, ?_⟩))
   go_meet
   case rel => exact ⟨_, (true), rs_, H', ⟨by first | exact Nat.le_refl _ | exact Nat.le_of_succ_le this | omega⟩, ⟨hb_ HB⟩⟩
 case rest =>
  clear HC3
  try clear p2
  try clear c5
  try clear c6
  try clear p6
  try clear c7
  try clear c7b0
  try clear c7b1
  try clear c9
  obtain ⟨kq, x18_2, rfl, HA, HJ2, HB⟩ := hcut
  cases kq with
  | zero => exact absurd HA.out (by simp [impl_Fixed.j0])
  | succ kj2 =>
   have H := HA.out
   clear HA
   simp only [impl_Fixed.j0] at H
   by_cases c10 : x18_2 = true
   ·subst c10
    have H1 : (some (⟨#[]⟩ : ByteArray)) = some r := by rw [if_pos rfl] at H; exact H
    clear H
    have H := H1
    clear H1
    obtain rfl := Option.some.inj H
    go_wp2
    go_ret
    exact ⟨re_, hb_ HB⟩
   ·replace c10 := Bool.eq_false_iff.mpr c10
    subst c10
    have H1 : (impl_Fixed.l0 kj2 a0 ([] : List Int) (wrap64 (a1 - 1))) = some r := by rw [if_neg (show ¬ (false = true) by decide)] at H; exact H
    clear H
    have H := H1
    clear H1
    have H' := Aside0.mk H
    clear H
    go_wp2
    go_loopg [5, 6] kj2 (fun kq v5 v6 w' => ∃ (x5_2 : List Int) (x6_2 : Int), v6 = .int .i64 x6_2 ∧ Aside0 (impl_Fixed.l0 kq a0 x5_2 x6_2 = some r) ∧ Aside0 (kq ≤ kj2) ∧ Aside0 (Kd.R (Kd.int .u8) 5 w' w.heap.size (fun _ => True) v5 x5_2) ∧ Aside0 (Below w.heap.size w w'))
    case atStart => exact ⟨(([] : List Int)), (wrap64 (a1 - 1)), rs_, H', ⟨Nat.le_refl _⟩, ⟨by first | exact Kd.R_nil _ _ _ _ _ | exact Kd.N_nil _ _ _ _ _ | exact Kd.V_nil _ _ _ _ _ | exact Kd.Q_nil _ _ _ _ _ | exact Kd.S_nil _ _ _ _ _⟩, ⟨hb_ HB⟩⟩
    case round =>
     clear H'
     try clear c1
     try clear p2
     try clear c5
     try clear c6
     try clear p6
     try clear c7
     try clear c7b0
     try clear c7b1
     try clear c9
     try clear c10
     try clear p2
     try clear p6
     obtain ⟨x5_2, x6_2, rfl, HA, HK2, HO_5, HB⟩ := hrel
     cases gk with
     | zero => exact absurd HA.out (by simp [impl_Fixed.l0])
     | succ k2 =>
      have H := HA.out
      clear HA
      simp only [impl_Fixed.l0] at H
      by_cases c11 : x6_2 ≥ 0
      ·rw [if_pos c11] at H
       have c11b0 : decide (0 ≤ x6_2) = true := decide_eq_true c11
       clear c11
       obtain ⟨ji12, hji12⟩ : ∃ j_ : Int, (wrap64 (8 * x6_2)) = j_ := ⟨_, rfl⟩
       replace H : (if 0 ≤ (ji12) then (if x5_2.length < 140737488355328 then (impl_Fixed.l0 k2 a0 (x5_2 ++ [(shr .i64 a0 (ji12)) % 256]) (wrap64 (x6_2 - 1))) else (none)) else (none)) = some r := by first | (rw [hji12] at H; exact H) | (simp only [hji12] at H ⊢; exact H)
       have hji12w : (IntKind.i64.wrap (8 * x6_2)) = ji12 := (i64_w _).trans hji12
       by_cases c13 : 0 ≤ (ji12)
       ·rw [if_pos c13] at H
        have c13b0 := eq_true c13
        have c13b1 : decide (0 ≤ (ji12)) = true := decide_eq_true c13
        clear c13
        obtain ⟨ji14, hji14⟩ : ∃ j_ : Int, (shr .i64 a0 (ji12)) = j_ := ⟨_, rfl⟩
        replace H : (if x5_2.length < 140737488355328 then (impl_Fixed.l0 k2 a0 (x5_2 ++ [(ji14) % 256]) (wrap64 (x6_2 - 1))) else (none)) = some r := by first | (rw [hji14] at H; exact H) | (simp only [hji14] at H ⊢; exact H)
        have hji14_ : (a0 / 2 ^ min (ji12).toNat 64) = ji14 := hji14
        have hji14z : (ji12) ≤ 64 → (a0 / 2 ^ (ji12).toNat) = ji14 := shr_small hji14
        by_cases c15 : x5_2.length < 140737488355328
        ·rw [if_pos c15] at H
         have LMc15 := Aside0.mk c15
         clear c15
         obtain ⟨y218, hy218⟩ : ∃ y_ : List Int, y_ = (x5_2 ++ [(ji14) % 256]) := ⟨_, rfl⟩
         replace H : (impl_Fixed.l0 k2 a0 y218 (wrap64 (x6_2 - 1))) = some r := by first | (rw [hy218]; with_reducible exact H) | (have H2_ := (Option.bind_some _ _).symm.trans H; rw [hy218]; with_reducible exact H2_) | (have H2_ := (Option.bind_some _ _).symm.trans H; with_reducible exact H2_) | with_reducible exact H | (rw [hy218]; exact H) | exact H
         have Ny218 := Aside0.mk hy218
         clear hy218
         have H' := Aside0.mk H
         clear H
         go_wp2_with (first | (at_builtin; (with_reducible refine gate_builtin (b := .append) (xs := #[.tmp 25, .tmp 31]) rfl ?_); refine Kd.R_append (Kd.int .u8) (w0 := w) w.heap.size rfl (.tmp 25) (.tmp 31) 70 5 (.int .u8 0) 1 rfl Try.underlying70 info5 rfl (by decide) (by omega) u5 x5_2 ((ji14) % 256) [.int .u8 ((ji14) % 256)] (fun _ => True) (fun _ => False) rfl rfl ?aP (fun _ hk => hk.elim) ?aF ?aO ?aB ?aS ?aL ?_; (case aP => exact rfl); (case aB => exact (hb_ HB)); (case aF => exact (fun _ _ => trivial)); (case aO => exact (rr_ HO_5)); (case aS => exact (below_size (hb_ HB))); (case aL => have := LMc15.out; omega); intro v219 w16 ho hb hg hat; rw [← Ny218.out] at ho; have n0_ := Aside0.mk (hb); have n1_ := Aside0.mk (ho); clear HB; clear HO_5; have HB := n0_; have HO220 := n1_; clear n0_ n1_; clear ho hb hg hat))
         go_roundg k2
         case measure => have := HJ2.out; have := HK2.out; first | exact this | exact Nat.le_of_succ_le this | exact Nat.le_refl _ | omega
         case rel => exact ⟨(y218), (wrap64 (x6_2 - 1)), rs_, H', ⟨by have := HJ2.out; have := HK2.out; first | exact this | exact Nat.le_of_succ_le this | exact Nat.le_refl _ | omega⟩, ⟨rr_ HO220⟩, ⟨hb_ HB⟩⟩
        ·rw [if_neg c15] at H
         exact absurd H (by simp)
       ·rw [if_neg c13] at H
        exact absurd H (by simp)
      ·rw [if_neg c11] at H
       have c11b0 : decide (0 ≤ x6_2) = false := decide_eq_false c11
       clear c11
       obtain rfl := Option.some.inj H
       have hcv17 := own_string (P := Try.prog) Try.underlying70 Try.underlying5 Try.underlying9 (Kd.own_of_R HO_5.out)
       go_wp2
       go_ret
       exact ⟨re_, hb_ HB⟩

end Go.Proofs.Ytebeafcdabkkfaa.PFnExactReadHint
