-- Laid by a program of this session, a copy of the kit's printer with additions (wip/patch_print.py): myhead. Lean checks it.
import Derived.Test.YtebeafcdabkkfabPFnExactSealedx0
namespace Go.Proofs.Ytebeafcdabkkfab.PFnExactSealed
open Go.RowKit Go.Proofs.YtebeafcdabkkfabW.PrintWords Go.Proofs.YtebeafcdabkkfabW.PrintLast Go.Proofs.YtebeafcdabkkfabW.PrintMore
attribute [local go_sem] max2_int min2_int max_two min_two max_three min_three max_four min_four   -- for this text's walks alone
set_option linter.unusedVariables false
set_option linter.unusedSimpArgs false

/-! ### spec_l9Of: function 48 -/
mutual
def spec_l9Of.l0 : Nat → List (S82) → Int → Int → List (S82) → Int → Option ((List (S82)))
 | 0, _, _, _, _, _ => none
 | k + 1, x0, x1, x2, x7, x8 => if x8 < x1 then (if 0 ≤ x8 then (if x8 < (x0.length : Int) then (if ((rd_T82 x0 x8).f3.f1) = x2 then (spec_l9Of.j1 k x0 x1 x2 x7 x8 (((rd_T82 x0 x8).f3.f0) == 3) ((rd_T82 x0 x8).f3.f0) ((rd_T82 x0 x8).f3.f1) ((rd_T82 x0 x8).f3.f2) ((rd_T82 x0 x8).f3.f3) ((rd_T82 x0 x8).f3.f4) ((rd_T82 x0 x8).f3.f5)) else (spec_l9Of.j1 k x0 x1 x2 x7 x8 false ((rd_T82 x0 x8).f3.f0) ((rd_T82 x0 x8).f3.f1) ((rd_T82 x0 x8).f3.f2) ((rd_T82 x0 x8).f3.f3) ((rd_T82 x0 x8).f3.f4) ((rd_T82 x0 x8).f3.f5))) else (none)) else (none)) else (some x7)
def spec_l9Of.j1 : Nat → List (S82) → Int → Int → List (S82) → Int → Bool → Int → Int → ByteArray → ByteArray → Int → Int → Option ((List (S82)))
 | 0, _, _, _, _, _, _, _, _, _, _, _, _ => none
 | k + 1, x0, x1, x2, x7, x8, x29, x158000, x158001, x158002, x158003, x158004, x158005 => if x29 = true then ((some (([] : List (S82)) : List (S82))).bind fun y158 => (if x158001 = x2 then (if x158000 = 1 then (if 0 ≤ x8 then (if x8 < (x0.length : Int) then (if y158.length < 1599289640401 then (spec_l9Of.l0 k x0 x1 x2 (y158 ++ [(⟨(rd_T82 x0 x8).f0, (rd_T82 x0 x8).f1, (rd_T82 x0 x8).f2, (⟨(rd_T82 x0 x8).f3.f0, (rd_T82 x0 x8).f3.f1, (rd_T82 x0 x8).f3.f2, (rd_T82 x0 x8).f3.f3, (rd_T82 x0 x8).f3.f4, (rd_T82 x0 x8).f3.f5⟩ : S47)⟩ : S82)]) (wrap64 (x8 + 1))) else (none)) else (none)) else (none)) else (if x158000 = 2 then (if 0 ≤ x8 then (if x8 < (x0.length : Int) then (if y158.length < 1599289640401 then (spec_l9Of.l0 k x0 x1 x2 (y158 ++ [(⟨(rd_T82 x0 x8).f0, (rd_T82 x0 x8).f1, (rd_T82 x0 x8).f2, (⟨(rd_T82 x0 x8).f3.f0, (rd_T82 x0 x8).f3.f1, (rd_T82 x0 x8).f3.f2, (rd_T82 x0 x8).f3.f3, (rd_T82 x0 x8).f3.f4, (rd_T82 x0 x8).f3.f5⟩ : S47)⟩ : S82)]) (wrap64 (x8 + 1))) else (none)) else (none)) else (none)) else (spec_l9Of.l0 k x0 x1 x2 y158 (wrap64 (x8 + 1))))) else (spec_l9Of.l0 k x0 x1 x2 y158 (wrap64 (x8 + 1))))) else (if x158001 = x2 then (if x158000 = 1 then (if 0 ≤ x8 then (if x8 < (x0.length : Int) then (if x7.length < 1599289640401 then (spec_l9Of.l0 k x0 x1 x2 (x7 ++ [(⟨(rd_T82 x0 x8).f0, (rd_T82 x0 x8).f1, (rd_T82 x0 x8).f2, (⟨(rd_T82 x0 x8).f3.f0, (rd_T82 x0 x8).f3.f1, (rd_T82 x0 x8).f3.f2, (rd_T82 x0 x8).f3.f3, (rd_T82 x0 x8).f3.f4, (rd_T82 x0 x8).f3.f5⟩ : S47)⟩ : S82)]) (wrap64 (x8 + 1))) else (none)) else (none)) else (none)) else (if x158000 = 2 then (if 0 ≤ x8 then (if x8 < (x0.length : Int) then (if x7.length < 1599289640401 then (spec_l9Of.l0 k x0 x1 x2 (x7 ++ [(⟨(rd_T82 x0 x8).f0, (rd_T82 x0 x8).f1, (rd_T82 x0 x8).f2, (⟨(rd_T82 x0 x8).f3.f0, (rd_T82 x0 x8).f3.f1, (rd_T82 x0 x8).f3.f2, (rd_T82 x0 x8).f3.f3, (rd_T82 x0 x8).f3.f4, (rd_T82 x0 x8).f3.f5⟩ : S47)⟩ : S82)]) (wrap64 (x8 + 1))) else (none)) else (none)) else (none)) else (spec_l9Of.l0 k x0 x1 x2 x7 (wrap64 (x8 + 1))))) else (spec_l9Of.l0 k x0 x1 x2 x7 (wrap64 (x8 + 1))))
end
def spec_l9Of.f (k : Nat) (l0 : List (S82)) (a1 : Int) (a2 : Int) : Option ((List (S82))) := spec_l9Of.l0 k l0 a1 a2 (([] : List (S82))) 0
theorem spec_l9Of.mono_l : ∀ k, (∀ y0 y1 y2 y3 y4, LeO (spec_l9Of.l0 k y0 y1 y2 y3 y4) (spec_l9Of.l0 (k + 1) y0 y1 y2 y3 y4)) ∧ (∀ y0 y1 y2 y3 y4 y5 y6 y7 y8 y9 y10 y11, LeO (spec_l9Of.j1 k y0 y1 y2 y3 y4 y5 y6 y7 y8 y9 y10 y11) (spec_l9Of.j1 (k + 1) y0 y1 y2 y3 y4 y5 y6 y7 y8 y9 y10 y11))
 | 0 => ⟨fun _ _ _ _ _ r h => by simp [spec_l9Of.l0] at h, fun _ _ _ _ _ _ _ _ _ _ _ _ r h => by simp [spec_l9Of.j1] at h⟩
 | k + 1 => by
  obtain ⟨ih0, ih1⟩ := spec_l9Of.mono_l k
  refine ⟨?_, ?_⟩
  ·intro y0 y1 y2 y3 y4
   unfold spec_l9Of.l0
   repeat' first
   | (with_reducible exact ih0 _ _ _ _ _)
   | (with_reducible exact ih1 _ _ _ _ _ _ _ _ _ _ _ _)
   | (with_reducible exact LeO.refl _)
   | (with_reducible exact LeO.none _)
   | (with_reducible refine LeO.ite ?_ ?_)
   | (with_reducible refine LeO.bind ?_ (fun _ => ?_))
   | exact ih0 _ _ _ _ _
   | exact ih1 _ _ _ _ _ _ _ _ _ _ _ _
   | exact LeO.none _
   | refine LeO.ite ?_ ?_
   | refine LeO.bind ?_ (fun _ => ?_)
  ·intro y0 y1 y2 y3 y4 y5 y6 y7 y8 y9 y10 y11
   unfold spec_l9Of.j1
   repeat' first
   | (with_reducible exact ih0 _ _ _ _ _)
   | (with_reducible exact ih1 _ _ _ _ _ _ _ _ _ _ _ _)
   | (with_reducible exact LeO.refl _)
   | (with_reducible exact LeO.none _)
   | (with_reducible refine LeO.ite ?_ ?_)
   | (with_reducible refine LeO.bind ?_ (fun _ => ?_))
   | exact ih0 _ _ _ _ _
   | exact ih1 _ _ _ _ _ _ _ _ _ _ _ _
   | exact LeO.none _
   | refine LeO.ite ?_ ?_
   | refine LeO.bind ?_ (fun _ => ?_)
theorem spec_l9Of.mono : ∀ a0 a1 a2 k, LeO (spec_l9Of.f k a0 a1 a2) (spec_l9Of.f (k + 1) a0 a1 a2) := by
 intro a0 a1 a2 k
 obtain ⟨ih0, ih1⟩ := spec_l9Of.mono_l k
 unfold spec_l9Of.f
 repeat' first
   | (with_reducible exact ih0 _ _ _ _ _)
   | (with_reducible exact ih1 _ _ _ _ _ _ _ _ _ _ _ _)
   | (with_reducible exact LeO.refl _)
   | (with_reducible exact LeO.none _)
   | (with_reducible refine LeO.ite ?_ ?_)
   | (with_reducible refine LeO.bind ?_ (fun _ => ?_))
   | exact ih0 _ _ _ _ _
   | exact ih1 _ _ _ _ _ _ _ _ _ _ _ _
   | exact LeO.none _
   | refine LeO.ite ?_ ?_
   | refine LeO.bind ?_ (fun _ => ?_)
set_option maxHeartbeats 8000000 in
set_option maxRecDepth 100000 in
theorem spec_l9Of.calls (k : Nat) (A0 : Option Addr) (c0 : Nat) (l0 : List (S82)) (a1 : Int) (a2 : Int) (r : List (S82)) (w : World) (hr0 : Kd.C k82 w A0 l0.length l0) (hc0 : l0.length ≤ c0) (h : spec_l9Of.f k l0 a1 a2 = some r) :
  Calls Try.prog 48 #[.slice A0 l0.length c0, .int .i64 a1, .int .i64 a2] w fun e w' => ∃ v0_ : Value, e = .returned (v0_) ∧ Kd.R k82 82 w' w.heap.size (fun _ => True) v0_ r ∧ Below w.heap.size w w' := by
 have hu47 := Try.underlying47
 have hu82 := Try.underlying82
 have HR0 := Aside0.mk hr0
 have HC0 := Aside0.mk hc0
 clear hr0 hc0
 have HB := Aside0.mk (Below.refl w.heap.size w)
 have H : (spec_l9Of.l0 k l0 a1 a2 (([] : List (S82))) 0) = some r := h
 clear h
 obtain ⟨y153, hy153⟩ : ∃ y_ : List (S82), y_ = (([] : List (S82))) := ⟨_, rfl⟩
 replace H : (spec_l9Of.l0 k l0 a1 a2 y153 0) = some r := by first | (rw [hy153]; with_reducible exact H) | (have H2_ := (Option.bind_some _ _).symm.trans H; rw [hy153]; with_reducible exact H2_) | (have H2_ := (Option.bind_some _ _).symm.trans H; with_reducible exact H2_) | with_reducible exact H | (rw [hy153]; exact H) | exact H
 have Ny153 := Aside0.mk hy153
 clear hy153
 have H' := Aside0.mk H
 clear H
 go_enter Try.func48, Try.ntmps48
 go_wp2_with (first | ((with_reducible refine gate_dst (N := 10) rfl ?_); refine Kd.R_lit k82 _ 82 ?hg (N := 10) ?hd (xs := ([] : List (S82))) (inner := []) (ok := fun _ => True) (okp := fun _ => True) ?hr ?hp (fun _ hk => hk) trivial (Below.refl _ _) (Nat.le_refl _) (by simp) ?_; (case hd => rfl); (case hg => rfl); (case hr => first | (go_simp; done) | (go_simp; rfl)); (case hp => exact (Reps.none _ _)); intro v154 w4 ho5 hb hg_ hnew_; clear hg_ hnew_; (first | rw [← Ny153.out] at ho5 | (simp only [Int.reduceToNat] at ho5; rw [← Ny153.out] at ho5)); have n0_ := Aside0.mk (Kd.R_lower ho5 (below_size (hb_ HB))); have n1_ := Aside0.mk (below_step (hb_ HB) hb); clear HB; have HO155 := n0_; have HB := n1_; clear n0_ n1_; clear hb ho5))
 go_loopg [7, 8] k (fun kq v7 v8 w' => ∃ (x7_1 : List (S82)) (x8_1 : Int), v8 = .int .i64 x8_1 ∧ Aside0 (spec_l9Of.l0 kq l0 a1 a2 x7_1 x8_1 = some r) ∧ Aside0 (kq ≤ k) ∧ Aside0 (Kd.R k82 82 w' w.heap.size (fun _ => True) v7 x7_1) ∧ Aside0 (Below w.heap.size w w'))
 case atStart => exact ⟨(y153), (0), rs_, H', ⟨Nat.le_refl _⟩, ⟨rr_ HO155⟩, ⟨hb_ HB⟩⟩
 case round =>
  clear H'
  try clear p2
  try clear c4
  obtain ⟨x7_1, x8_1, rfl, HA, HK1, HO_7, HB⟩ := hrel
  cases gk with
  | zero => exact absurd HA.out (by simp [spec_l9Of.l0])
  | succ k1 =>
   have H := HA.out
   clear HA
   simp only [spec_l9Of.l0] at H
   by_cases c6 : x8_1 < a1
   ·rw [if_pos c6] at H
    have c6b0 : decide (x8_1 < a1) = true := decide_eq_true c6
    clear c6
    by_cases c7 : 0 ≤ x8_1
    ·rw [if_pos c7] at H
     have c7b0 : decide (0 ≤ x8_1) = true := decide_eq_true c7
     clear c7
     by_cases c8 : x8_1 < (l0.length : Int)
     ·rw [if_pos c8] at H
      have c8b0 : decide (x8_1 < (l0.length : Int)) = true := decide_eq_true c8
      clear c8
      have HC9 := Aside0.mk H
      clear H
      have p156 : 0 ≤ (x8_1 : Int) := of_decide_eq_true as_
      have q156 : x8_1 < (l0.length : Int) := of_decide_eq_true as_
      obtain ⟨ad156, e156, hx156_0, hx156_1, hx156_2, hx156_3, hx156_4, hx156_5, hx156_6, hx156_7, hx156_8⟩ := at_T82 HR0.out x8_1 p156 q156
      cases e156
      replace hx156_0 := (HB.out.cell (World.block_lt_of_cell? w _ hx156_0)).trans hx156_0
      replace hx156_1 := (HB.out.cell (World.block_lt_of_cell? w _ hx156_1)).trans hx156_1
      replace hx156_2 := (HB.out.cell (World.block_lt_of_cell? w _ hx156_2)).trans hx156_2
      replace hx156_3 := (HB.out.cell (World.block_lt_of_cell? w _ hx156_3)).trans hx156_3
      replace hx156_4 := (HB.out.cell (World.block_lt_of_cell? w _ hx156_4)).trans hx156_4
      replace hx156_5 := (HB.out.cell (World.block_lt_of_cell? w _ hx156_5)).trans hx156_5
      replace hx156_6 := (HB.out.cell (World.block_lt_of_cell? w _ hx156_6)).trans hx156_6
      replace hx156_7 := (HB.out.cell (World.block_lt_of_cell? w _ hx156_7)).trans hx156_7
      replace hx156_8 := (HB.out.cell (World.block_lt_of_cell? w _ hx156_8)).trans hx156_8
      replace p156 := eq_true p156
      replace q156 := eq_true q156
      go_upto_region 6 with (first | ((with_reducible refine gate_dst (N := 9) rfl ?_); refine box_event ?hg (N := 9) ?hd (cs := #[.int .i64 0, .int .i64 0, .string (⟨#[]⟩ : ByteArray), .string (⟨#[]⟩ : ByteArray), .int .i64 0, .int .i64 0]) (t := 47) ?hr ?_; (case hd => rfl); (case hg => rfl); (case hr => first | (go_simp; done) | (go_simp; rfl)); intro gb157 hg w10 hbox hb; have n0_ := Aside0.mk (Kd.R_below (rr_ HO_7) hb); have n1_ := Aside0.mk (below_step (hb_ HB) hb); have n2_ := Aside0.mk (hbox); have n3_ := Aside0.mk ((by rw [hg]; exact (below_size (hb_ HB)) : w.heap.size ≤ gb157)); have n4_ := Aside0.mk ((by rw [hg]; exact (below_size (hb_ HB)) : w.heap.size ≤ gb157)); clear HO_7; clear HB; have HO_7 := n0_; have HB := n1_; have BK157 := n2_; have GW157 := n3_; have GE157 := n4_; clear n0_ n1_ n2_ n3_ n4_; clear hb hbox hg; have hcz11_0 : w10.cell? ⟨gb157, 0, none⟩ = some (.int .i64 0) := (blk_cell BK157.out 0).trans rfl; have hcz11_1 : w10.cell? ⟨gb157, 1, none⟩ = some (.int .i64 0) := (blk_cell BK157.out 1).trans rfl; have hcz11_2 : w10.cell? ⟨gb157, 2, none⟩ = some (.string (⟨#[]⟩ : ByteArray)) := (blk_cell BK157.out 2).trans rfl; have hcz11_3 : w10.cell? ⟨gb157, 3, none⟩ = some (.string (⟨#[]⟩ : ByteArray)) := (blk_cell BK157.out 3).trans rfl; have hcz11_4 : w10.cell? ⟨gb157, 4, none⟩ = some (.int .i64 0) := (blk_cell BK157.out 4).trans rfl; have hcz11_5 : w10.cell? ⟨gb157, 5, none⟩ = some (.int .i64 0) := (blk_cell BK157.out 5).trans rfl; have hfz11_0 := blk_frozen BK157.out 0; have hfz11_1 := blk_frozen BK157.out 1; have hfz11_2 := blk_frozen BK157.out 2; have hfz11_3 := blk_frozen BK157.out 3; have hfz11_4 := blk_frozen BK157.out 4; have hfz11_5 := blk_frozen BK157.out 5))
      (try simp only [Act.put, la_, lz_, ls_])
      go_cut [29] (fun v29 wc => ∃ (kq : Nat) (x29_8 : Bool), v29 = .bool x29_8 ∧ Aside0 (spec_l9Of.j1 kq l0 a1 a2 x7_1 x8_1 x29_8 ((rd_T82 l0 x8_1).f3.f0) ((rd_T82 l0 x8_1).f3.f1) ((rd_T82 l0 x8_1).f3.f2) ((rd_T82 l0 x8_1).f3.f3) ((rd_T82 l0 x8_1).f3.f4) ((rd_T82 l0 x8_1).f3.f5) = some r) ∧ Aside0 (kq ≤ k1) ∧ Aside0 (Kd.R k82 82 wc w.heap.size (fun _ => True) u7 x7_1) ∧ Aside0 (wc.heap[gb157]? = some (.cells #[.int .i64 ((rd_T82 l0 x8_1).f3.f0), .int .i64 ((rd_T82 l0 x8_1).f3.f1), .string ((rd_T82 l0 x8_1).f3.f2), .string ((rd_T82 l0 x8_1).f3.f3), .int .i64 ((rd_T82 l0 x8_1).f3.f4), .int .i64 ((rd_T82 l0 x8_1).f3.f5)] 47 (0, 0))) ∧ Aside0 (Below w.heap.size w wc))
      case first =>
       have H := HC9.out
       clear HC9
       by_cases c12 : ((rd_T82 l0 x8_1).f3.f1) = a2
       ·rw [if_pos c12] at H
        have c12b0 : (((rd_T82 l0 x8_1).f3.f1) == a2) = true := beq_iff_eq.mpr c12
        have c12b1 : (((rd_T82 l0 x8_1).f3.f1) != a2) = false := bne_eq_false_iff_eq.mpr c12
        clear c12
        (first | rw [c12b0] | (simp only [i64_w, i32_w]; rw [c12b0]) | skip)
        have H' := Aside0.mk H
        clear H
        have hcz13_0 : w10.cell? ⟨gb157, 0, none⟩ = some (.int .i64 0) := (blk_cell BK157.out 0).trans rfl
        have hcz13_1 : w10.cell? ⟨gb157, 1, none⟩ = some (.int .i64 0) := (blk_cell BK157.out 1).trans rfl
        have hcz13_2 : w10.cell? ⟨gb157, 2, none⟩ = some (.string (⟨#[]⟩ : ByteArray)) := (blk_cell BK157.out 2).trans rfl
        have hcz13_3 : w10.cell? ⟨gb157, 3, none⟩ = some (.string (⟨#[]⟩ : ByteArray)) := (blk_cell BK157.out 3).trans rfl
        have hcz13_4 : w10.cell? ⟨gb157, 4, none⟩ = some (.int .i64 0) := (blk_cell BK157.out 4).trans rfl
        have hcz13_5 : w10.cell? ⟨gb157, 5, none⟩ = some (.int .i64 0) := (blk_cell BK157.out 5).trans rfl
        have hfz13_0 := blk_frozen BK157.out 0
        have hfz13_1 := blk_frozen BK157.out 1
        have hfz13_2 := blk_frozen BK157.out 2
        have hfz13_3 := blk_frozen BK157.out 3
        have hfz13_4 := blk_frozen BK157.out 4
        have hfz13_5 := blk_frozen BK157.out 5
        go_wp2
        go_meet
        case rel => exact ⟨_, ((((rd_T82 l0 x8_1).f3.f0) == 3)), rs_, H', ⟨by have := HK1.out; first | exact Nat.le_refl _ | exact Nat.le_of_succ_le this | omega⟩, ⟨by (with_reducible repeat (first | apply Kd.R_alloc | apply Kd.R_drewN | apply Kd.R_drew)); exact Kd.R_mono (Kd.R_far (p := ⟨gb157, 5, none⟩) (Kd.R_far (p := ⟨gb157, 4, none⟩) (Kd.R_far (p := ⟨gb157, 3, none⟩) (Kd.R_far (p := ⟨gb157, 2, none⟩) (Kd.R_far (p := ⟨gb157, 1, none⟩) (Kd.R_far (p := ⟨gb157, 0, none⟩) (Kd.R_types HO_7.out BK157.out (by decide)) (fun _ hk => hk.2) (.int .i64 ((rd_T82 l0 x8_1).f3.f0))) (fun _ hk => hk.2) (.int .i64 ((rd_T82 l0 x8_1).f3.f1))) (fun _ hk => hk.2) (.string ((rd_T82 l0 x8_1).f3.f2))) (fun _ hk => hk.2) (.string ((rd_T82 l0 x8_1).f3.f3))) (fun _ hk => hk.2) (.int .i64 ((rd_T82 l0 x8_1).f3.f4))) (fun _ hk => hk.2) (.int .i64 ((rd_T82 l0 x8_1).f3.f5))) (fun _ hk => trivial)⟩, ⟨by (with_reducible repeat (first | refine blk_drewN ?_ _ | refine blk_drew ?_ | refine blk_alloc ?_ _)); refine blk_put (cs := #[.int .i64 ((rd_T82 l0 x8_1).f3.f0), .int .i64 ((rd_T82 l0 x8_1).f3.f1), .string ((rd_T82 l0 x8_1).f3.f2), .string ((rd_T82 l0 x8_1).f3.f3), .int .i64 ((rd_T82 l0 x8_1).f3.f4), .int .i64 0]) ?_ 5 _ rfl; (with_reducible repeat (first | refine blk_drewN ?_ _ | refine blk_drew ?_ | refine blk_alloc ?_ _)); refine blk_put (cs := #[.int .i64 ((rd_T82 l0 x8_1).f3.f0), .int .i64 ((rd_T82 l0 x8_1).f3.f1), .string ((rd_T82 l0 x8_1).f3.f2), .string ((rd_T82 l0 x8_1).f3.f3), .int .i64 0, .int .i64 0]) ?_ 4 _ rfl; (with_reducible repeat (first | refine blk_drewN ?_ _ | refine blk_drew ?_ | refine blk_alloc ?_ _)); refine blk_put (cs := #[.int .i64 ((rd_T82 l0 x8_1).f3.f0), .int .i64 ((rd_T82 l0 x8_1).f3.f1), .string ((rd_T82 l0 x8_1).f3.f2), .string (⟨#[]⟩ : ByteArray), .int .i64 0, .int .i64 0]) ?_ 3 _ rfl; (with_reducible repeat (first | refine blk_drewN ?_ _ | refine blk_drew ?_ | refine blk_alloc ?_ _)); refine blk_put (cs := #[.int .i64 ((rd_T82 l0 x8_1).f3.f0), .int .i64 ((rd_T82 l0 x8_1).f3.f1), .string (⟨#[]⟩ : ByteArray), .string (⟨#[]⟩ : ByteArray), .int .i64 0, .int .i64 0]) ?_ 2 _ rfl; (with_reducible repeat (first | refine blk_drewN ?_ _ | refine blk_drew ?_ | refine blk_alloc ?_ _)); refine blk_put (cs := #[.int .i64 ((rd_T82 l0 x8_1).f3.f0), .int .i64 0, .string (⟨#[]⟩ : ByteArray), .string (⟨#[]⟩ : ByteArray), .int .i64 0, .int .i64 0]) ?_ 1 _ rfl; (with_reducible repeat (first | refine blk_drewN ?_ _ | refine blk_drew ?_ | refine blk_alloc ?_ _)); refine blk_put (cs := #[.int .i64 0, .int .i64 0, .string (⟨#[]⟩ : ByteArray), .string (⟨#[]⟩ : ByteArray), .int .i64 0, .int .i64 0]) ?_ 0 _ rfl; (with_reducible repeat (first | refine blk_drewN ?_ _ | refine blk_drew ?_ | refine blk_alloc ?_ _)); exact BK157.out⟩, ⟨hs_ HB GE157⟩⟩
       ·rw [if_neg c12] at H
        have c12b0 : (((rd_T82 l0 x8_1).f3.f1) == a2) = false := beq_eq_false_iff_ne.mpr c12
        have c12b1 : (((rd_T82 l0 x8_1).f3.f1) != a2) = true := bne_iff_ne.mpr c12
        (first | rw [c12b0] | (simp only [i64_w, i32_w]; rw [c12b0]) | skip)
        have H' := Aside0.mk H
        clear H
        have hcz14_0 : w10.cell? ⟨gb157, 0, none⟩ = some (.int .i64 0) := (blk_cell BK157.out 0).trans rfl
        have hcz14_1 : w10.cell? ⟨gb157, 1, none⟩ = some (.int .i64 0) := (blk_cell BK157.out 1).trans rfl
        have hcz14_2 : w10.cell? ⟨gb157, 2, none⟩ = some (.string (⟨#[]⟩ : ByteArray)) := (blk_cell BK157.out 2).trans rfl
        have hcz14_3 : w10.cell? ⟨gb157, 3, none⟩ = some (.string (⟨#[]⟩ : ByteArray)) := (blk_cell BK157.out 3).trans rfl
        have hcz14_4 : w10.cell? ⟨gb157, 4, none⟩ = some (.int .i64 0) := (blk_cell BK157.out 4).trans rfl
        have hcz14_5 : w10.cell? ⟨gb157, 5, none⟩ = some (.int .i64 0) := (blk_cell BK157.out 5).trans rfl
        have hfz14_0 := blk_frozen BK157.out 0
        have hfz14_1 := blk_frozen BK157.out 1
        have hfz14_2 := blk_frozen BK157.out 2
        have hfz14_3 := blk_frozen BK157.out 3
        have hfz14_4 := blk_frozen BK157.out 4
        have hfz14_5 := blk_frozen BK157.out 5
        go_wp2
        go_meet
        case rel => exact ⟨_, (false), rs_, H', ⟨by have := HK1.out; first | exact Nat.le_refl _ | exact Nat.le_of_succ_le this | omega⟩, ⟨by (with_reducible repeat (first | apply Kd.R_alloc | apply Kd.R_drewN | apply Kd.R_drew)); exact Kd.R_mono (Kd.R_far (p := ⟨gb157, 5, none⟩) (Kd.R_far (p := ⟨gb157, 4, none⟩) (Kd.R_far (p := ⟨gb157, 3, none⟩) (Kd.R_far (p := ⟨gb157, 2, none⟩) (Kd.R_far (p := ⟨gb157, 1, none⟩) (Kd.R_far (p := ⟨gb157, 0, none⟩) (Kd.R_types HO_7.out BK157.out (by decide)) (fun _ hk => hk.2) (.int .i64 ((rd_T82 l0 x8_1).f3.f0))) (fun _ hk => hk.2) (.int .i64 ((rd_T82 l0 x8_1).f3.f1))) (fun _ hk => hk.2) (.string ((rd_T82 l0 x8_1).f3.f2))) (fun _ hk => hk.2) (.string ((rd_T82 l0 x8_1).f3.f3))) (fun _ hk => hk.2) (.int .i64 ((rd_T82 l0 x8_1).f3.f4))) (fun _ hk => hk.2) (.int .i64 ((rd_T82 l0 x8_1).f3.f5))) (fun _ hk => trivial)⟩, ⟨by (with_reducible repeat (first | refine blk_drewN ?_ _ | refine blk_drew ?_ | refine blk_alloc ?_ _)); refine blk_put (cs := #[.int .i64 ((rd_T82 l0 x8_1).f3.f0), .int .i64 ((rd_T82 l0 x8_1).f3.f1), .string ((rd_T82 l0 x8_1).f3.f2), .string ((rd_T82 l0 x8_1).f3.f3), .int .i64 ((rd_T82 l0 x8_1).f3.f4), .int .i64 0]) ?_ 5 _ rfl; (with_reducible repeat (first | refine blk_drewN ?_ _ | refine blk_drew ?_ | refine blk_alloc ?_ _)); refine blk_put (cs := #[.int .i64 ((rd_T82 l0 x8_1).f3.f0), .int .i64 ((rd_T82 l0 x8_1).f3.f1), .string ((rd_T82 l0 x8_1).f3.f2), .string ((rd_T82 l0 x8_1).f3.f3), .int .i64 0, .int .i64 0]) ?_ 4 _ rfl; (with_reducible repeat (first | refine blk_drewN ?_ _ | refine blk_drew ?_ | refine blk_alloc ?_ _)); refine blk_put (cs := #[.int .i64 ((rd_T82 l0 x8_1).f3.f0), .int .i64 ((rd_T82 l0 x8_1).f3.f1), .string ((rd_T82 l0 x8_1).f3.f2), .string (⟨#[]⟩ : ByteArray), .int .i64 0, .int .i64 0]) ?_ 3 _ rfl; (with_reducible repeat (first | refine blk_drewN ?_ _ | refine blk_drew ?_ | refine blk_alloc ?_ _)); refine blk_put (cs := #[.int .i64 ((rd_T82 l0 x8_1).f3.f0), .int .i64 ((rd_T82 l0 x8_1).f3.f1), .string (⟨#[]⟩ : ByteArray), .string (⟨#[]⟩ : ByteArray), .int .i64 0, .int .i64 0]) ?_ 2 _ rfl; (with_reducible repeat (first | refine blk_drewN ?_ _ | refine blk_drew ?_ | refine blk_alloc ?_ _)); refine blk_put (cs := #[.int .i64 ((rd_T82 l0 x8_1).f3.f0), .int .i64 0, .string (⟨#[]⟩ : ByteArray), .string (⟨#[]⟩ : ByteArray), .int .i64 0, .int .i64 0]) ?_ 1 _ rfl; (with_reducible repeat (first | refine blk_drewN ?_ _ | refine blk_drew ?_ | refine blk_alloc ?_ _)); refine blk_put (cs := #[.int .i64 0, .int .i64 0, .string (⟨#[]⟩ : ByteArray), .string (⟨#[]⟩ : ByteArray), .int .i64 0, .int .i64 0]) ?_ 0 _ rfl; (with_reducible repeat (first | refine blk_drewN ?_ _ | refine blk_drew ?_ | refine blk_alloc ?_ _)); exact BK157.out⟩, ⟨hs_ HB GE157⟩⟩
      case rest =>
       clear HC9
       try clear c1
       try clear p1
       try clear q1
       try clear hx1
       try clear p2
       try clear c4
       try clear c6
       try clear c6b0
       try clear c7
       try clear c7b0
       try clear c8
       try clear c8b0
       try clear c12
       try clear c12b0
       try clear c12b1
       try clear hcz11_0
       try clear hcz11_1
       try clear hcz11_2
       try clear hcz11_3
       try clear hcz11_4
       try clear hcz11_5
       try clear hcz13_0
       try clear hcz13_1
       try clear hcz13_2
       try clear hcz13_3
       try clear hcz13_4
       try clear hcz13_5
       try clear hcz14_0
       try clear hcz14_1
       try clear hcz14_2
       try clear hcz14_3
       try clear hcz14_4
       try clear hcz14_5
       try clear hfz11_0
       try clear hfz11_1
       try clear hfz11_2
       try clear hfz11_3
       try clear hfz11_4
       try clear hfz11_5
       try clear hfz13_0
       try clear hfz13_1
       try clear hfz13_2
       try clear hfz13_3
       try clear hfz13_4
       try clear hfz13_5
       try clear hfz14_0
       try clear hfz14_1
       try clear hfz14_2
       try clear hfz14_3
       try clear hfz14_4
       try clear hfz14_5
       try clear hx156_0
       try clear hx156_1
       try clear hx156_2
       try clear hx156_3
       try clear hx156_4
       try clear hx156_5
       try clear hx156_6
       try clear hx156_7
       try clear hx156_8
       try clear p156
       try clear p2
       try clear q156
       obtain ⟨kq, x29_8, rfl, HA, HJ8, HO_7, BK157, HB⟩ := hcut
       cases kq with
       | zero => exact absurd HA.out (by simp [spec_l9Of.j1])
       | succ kj8 =>
        have H := HA.out
        clear HA
        simp only [spec_l9Of.j1] at H
        by_cases c15 : x29_8 = true
        ·subst c15
         have H1 : ((some (([] : List (S82)) : List (S82))).bind fun y158 => (if ((rd_T82 l0 x8_1).f3.f1) = a2 then (if ((rd_T82 l0 x8_1).f3.f0) = 1 then (if 0 ≤ x8_1 then (if x8_1 < (l0.length : Int) then (if y158.length < 1599289640401 then (spec_l9Of.l0 kj8 l0 a1 a2 (y158 ++ [(⟨(rd_T82 l0 x8_1).f0, (rd_T82 l0 x8_1).f1, (rd_T82 l0 x8_1).f2, (⟨(rd_T82 l0 x8_1).f3.f0, (rd_T82 l0 x8_1).f3.f1, (rd_T82 l0 x8_1).f3.f2, (rd_T82 l0 x8_1).f3.f3, (rd_T82 l0 x8_1).f3.f4, (rd_T82 l0 x8_1).f3.f5⟩ : S47)⟩ : S82)]) (wrap64 (x8_1 + 1))) else (none)) else (none)) else (none)) else (if ((rd_T82 l0 x8_1).f3.f0) = 2 then (if 0 ≤ x8_1 then (if x8_1 < (l0.length : Int) then (if y158.length < 1599289640401 then (spec_l9Of.l0 kj8 l0 a1 a2 (y158 ++ [(⟨(rd_T82 l0 x8_1).f0, (rd_T82 l0 x8_1).f1, (rd_T82 l0 x8_1).f2, (⟨(rd_T82 l0 x8_1).f3.f0, (rd_T82 l0 x8_1).f3.f1, (rd_T82 l0 x8_1).f3.f2, (rd_T82 l0 x8_1).f3.f3, (rd_T82 l0 x8_1).f3.f4, (rd_T82 l0 x8_1).f3.f5⟩ : S47)⟩ : S82)]) (wrap64 (x8_1 + 1))) else (none)) else (none)) else (none)) else (spec_l9Of.l0 kj8 l0 a1 a2 y158 (wrap64 (x8_1 + 1))))) else (spec_l9Of.l0 kj8 l0 a1 a2 y158 (wrap64 (x8_1 + 1))))) = some r := by rw [if_pos rfl] at H; exact H
         clear H
         have H := H1
         clear H1
         obtain ⟨y158, hy158⟩ : ∃ y_ : List (S82), y_ = (([] : List (S82))) := ⟨_, rfl⟩
         replace H : (if ((rd_T82 l0 x8_1).f3.f1) = a2 then (if ((rd_T82 l0 x8_1).f3.f0) = 1 then (if 0 ≤ x8_1 then (if x8_1 < (l0.length : Int) then (if y158.length < 1599289640401 then (spec_l9Of.l0 kj8 l0 a1 a2 (y158 ++ [(⟨(rd_T82 l0 x8_1).f0, (rd_T82 l0 x8_1).f1, (rd_T82 l0 x8_1).f2, (⟨(rd_T82 l0 x8_1).f3.f0, (rd_T82 l0 x8_1).f3.f1, (rd_T82 l0 x8_1).f3.f2, (rd_T82 l0 x8_1).f3.f3, (rd_T82 l0 x8_1).f3.f4, (rd_T82 l0 x8_1).f3.f5⟩ : S47)⟩ : S82)]) (wrap64 (x8_1 + 1))) else (none)) else (none)) else (none)) else (if ((rd_T82 l0 x8_1).f3.f0) = 2 then (if 0 ≤ x8_1 then (if x8_1 < (l0.length : Int) then (if y158.length < 1599289640401 then (spec_l9Of.l0 kj8 l0 a1 a2 (y158 ++ [(⟨(rd_T82 l0 x8_1).f0, (rd_T82 l0 x8_1).f1, (rd_T82 l0 x8_1).f2, (⟨(rd_T82 l0 x8_1).f3.f0, (rd_T82 l0 x8_1).f3.f1, (rd_T82 l0 x8_1).f3.f2, (rd_T82 l0 x8_1).f3.f3, (rd_T82 l0 x8_1).f3.f4, (rd_T82 l0 x8_1).f3.f5⟩ : S47)⟩ : S82)]) (wrap64 (x8_1 + 1))) else (none)) else (none)) else (none)) else (spec_l9Of.l0 kj8 l0 a1 a2 y158 (wrap64 (x8_1 + 1))))) else (spec_l9Of.l0 kj8 l0 a1 a2 y158 (wrap64 (x8_1 + 1)))) = some r := by first | (rw [hy158]; with_reducible exact H) | (have H2_ := (Option.bind_some _ _).symm.trans H; rw [hy158]; with_reducible exact H2_) | (have H2_ := (Option.bind_some _ _).symm.trans H; with_reducible exact H2_) | with_reducible exact H | (rw [hy158]; exact H) | exact H
         have Ny158 := Aside0.mk hy158
         clear hy158
         by_cases c16 : ((rd_T82 l0 x8_1).f3.f1) = a2
         ·rw [if_pos c16] at H
          have c16b0 : (((rd_T82 l0 x8_1).f3.f1) == a2) = true := beq_iff_eq.mpr c16
          have c16b1 : (((rd_T82 l0 x8_1).f3.f1) != a2) = false := bne_eq_false_iff_eq.mpr c16
          clear c16
          by_cases c17 : ((rd_T82 l0 x8_1).f3.f0) = 1
          ·rw [if_pos c17] at H
           have c17b0 : (((rd_T82 l0 x8_1).f3.f0) == 1) = true := beq_iff_eq.mpr c17
           have c17b1 : (((rd_T82 l0 x8_1).f3.f0) != 1) = false := bne_eq_false_iff_eq.mpr c17
           clear c17
           by_cases c18 : 0 ≤ x8_1
           ·rw [if_pos c18] at H
            have c18b0 : decide (0 ≤ x8_1) = true := decide_eq_true c18
            clear c18
            by_cases c19 : x8_1 < (l0.length : Int)
            ·rw [if_pos c19] at H
             have c19b0 : decide (x8_1 < (l0.length : Int)) = true := decide_eq_true c19
             clear c19
             by_cases c20 : y158.length < 1599289640401
             ·rw [if_pos c20] at H
              have LMc20 := Aside0.mk c20
              clear c20
              obtain ⟨y162, hy162⟩ : ∃ y_ : List (S82), y_ = (y158 ++ [(⟨(rd_T82 l0 x8_1).f0, (rd_T82 l0 x8_1).f1, (rd_T82 l0 x8_1).f2, (⟨(rd_T82 l0 x8_1).f3.f0, (rd_T82 l0 x8_1).f3.f1, (rd_T82 l0 x8_1).f3.f2, (rd_T82 l0 x8_1).f3.f3, (rd_T82 l0 x8_1).f3.f4, (rd_T82 l0 x8_1).f3.f5⟩ : S47)⟩ : S82)]) := ⟨_, rfl⟩
              replace H : (spec_l9Of.l0 kj8 l0 a1 a2 y162 (wrap64 (x8_1 + 1))) = some r := by first | (rw [hy162]; with_reducible exact H) | (have H2_ := (Option.bind_some _ _).symm.trans H; rw [hy162]; with_reducible exact H2_) | (have H2_ := (Option.bind_some _ _).symm.trans H; with_reducible exact H2_) | with_reducible exact H | (rw [hy162]; exact H) | exact H
              have Ny162 := Aside0.mk hy162
              clear hy162
              have H' := Aside0.mk H
              clear H
              go_wp2_with (first | ((with_reducible refine gate_dst (N := 30) rfl ?_); refine Kd.R_lit k82 _ 82 ?hg (N := 30) ?hd (xs := ([] : List (S82))) (inner := []) (ok := fun _ => True) (okp := fun _ => True) ?hr ?hp (fun _ hk => hk) trivial (Below.refl _ _) (Nat.le_refl _) (by simp) ?_; (case hd => rfl); (case hg => rfl); (case hr => first | (go_simp; done) | (go_simp; rfl)); (case hp => exact (Reps.none _ _)); intro v159 w21 ho22 hb hg_ hnew_; clear hg_ hnew_; (first | rw [← Ny158.out] at ho22 | (simp only [Int.reduceToNat] at ho22; rw [← Ny158.out] at ho22)); have n0_ := Aside0.mk (Kd.R_elder' (rr_ HO_7) (Kd.R_base ho22) hb); have n1_ := Aside0.mk (Kd.R_lower (Kd.R_new' ho22 (Kd.R_lt (rr_ HO_7))) (below_size (hs_ HB GE157))); have n2_ := Aside0.mk (blk_below (g := gb157) (o := .cells #[.int .i64 ((rd_T82 l0 x8_1).f3.f0), .int .i64 ((rd_T82 l0 x8_1).f3.f1), .string ((rd_T82 l0 x8_1).f3.f2), .string ((rd_T82 l0 x8_1).f3.f3), .int .i64 ((rd_T82 l0 x8_1).f3.f4), .int .i64 ((rd_T82 l0 x8_1).f3.f5)] 47 (0, 0)) (bk_ BK157) hb); have n3_ := Aside0.mk (below_step (hs_ HB GE157) hb); clear HO_7; clear BK157; clear HB; have HO_7 := n0_; have HO160 := n1_; have BK157 := n2_; have HB := n3_; clear n0_ n1_ n2_ n3_; clear hb ho22; have hcz23_0 : w21.cell? ⟨gb157, 0, none⟩ = some (.int .i64 ((rd_T82 l0 x8_1).f3.f0)) := (blk_cell BK157.out 0).trans rfl; have hcz23_1 : w21.cell? ⟨gb157, 1, none⟩ = some (.int .i64 ((rd_T82 l0 x8_1).f3.f1)) := (blk_cell BK157.out 1).trans rfl; have hcz23_2 : w21.cell? ⟨gb157, 2, none⟩ = some (.string ((rd_T82 l0 x8_1).f3.f2)) := (blk_cell BK157.out 2).trans rfl; have hcz23_3 : w21.cell? ⟨gb157, 3, none⟩ = some (.string ((rd_T82 l0 x8_1).f3.f3)) := (blk_cell BK157.out 3).trans rfl; have hcz23_4 : w21.cell? ⟨gb157, 4, none⟩ = some (.int .i64 ((rd_T82 l0 x8_1).f3.f4)) := (blk_cell BK157.out 4).trans rfl; have hcz23_5 : w21.cell? ⟨gb157, 5, none⟩ = some (.int .i64 ((rd_T82 l0 x8_1).f3.f5)) := (blk_cell BK157.out 5).trans rfl; have hfz23_0 := blk_frozen BK157.out 0; have hfz23_1 := blk_frozen BK157.out 1; have hfz23_2 := blk_frozen BK157.out 2; have hfz23_3 := blk_frozen BK157.out 3; have hfz23_4 := blk_frozen BK157.out 4; have hfz23_5 := blk_frozen BK157.out 5; have p161 : 0 ≤ (x8_1 : Int) := of_decide_eq_true as_; have q161 : x8_1 < (l0.length : Int) := of_decide_eq_true as_; obtain ⟨ad161, e161, hx161_0, hx161_1, hx161_2, hx161_3, hx161_4, hx161_5, hx161_6, hx161_7, hx161_8⟩ := at_T82 HR0.out x8_1 p161 q161; obtain rfl : ad156 = ad161 := (by injection e161); replace hx161_0 := (HB.out.cell (World.block_lt_of_cell? w _ hx161_0)).trans hx161_0; replace hx161_1 := (HB.out.cell (World.block_lt_of_cell? w _ hx161_1)).trans hx161_1; replace hx161_2 := (HB.out.cell (World.block_lt_of_cell? w _ hx161_2)).trans hx161_2; replace hx161_3 := (HB.out.cell (World.block_lt_of_cell? w _ hx161_3)).trans hx161_3; replace hx161_4 := (HB.out.cell (World.block_lt_of_cell? w _ hx161_4)).trans hx161_4; replace hx161_5 := (HB.out.cell (World.block_lt_of_cell? w _ hx161_5)).trans hx161_5; replace hx161_6 := (HB.out.cell (World.block_lt_of_cell? w _ hx161_6)).trans hx161_6; replace hx161_7 := (HB.out.cell (World.block_lt_of_cell? w _ hx161_7)).trans hx161_7; replace hx161_8 := (HB.out.cell (World.block_lt_of_cell? w _ hx161_8)).trans hx161_8; replace p161 := eq_true p161; replace q161 := eq_true q161) | ((with_reducible refine gate_builtin (b := .append) (xs := #[.tmp 45, .tmp 50]) rfl ?_); at_builtin; refine Kd.R_append k82 (w0 := w) w.heap.size rfl (.tmp 45) (.tmp 50) 26 82 (.agg #[(.int .i64 0), (.int .i64 0), (.int .i64 0), (.int .i64 0), (.int .i64 0), (.string ⟨#[]⟩), (.string ⟨#[]⟩), (.int .i64 0), (.int .i64 0)]) 88 rfl Try.underlying26 info82 rfl (by decide) (by omega) v159 y158 (⟨(rd_T82 l0 x8_1).f0, (rd_T82 l0 x8_1).f1, (rd_T82 l0 x8_1).f2, (⟨(rd_T82 l0 x8_1).f3.f0, (rd_T82 l0 x8_1).f3.f1, (rd_T82 l0 x8_1).f3.f2, (rd_T82 l0 x8_1).f3.f3, (rd_T82 l0 x8_1).f3.f4, (rd_T82 l0 x8_1).f3.f5⟩ : S47)⟩ : S82) [.int .i64 ((rd_T82 l0 x8_1).f0), .int .i64 ((rd_T82 l0 x8_1).f1), .int .i64 ((rd_T82 l0 x8_1).f2), .int .i64 ((rd_T82 l0 x8_1).f3.f0), .int .i64 ((rd_T82 l0 x8_1).f3.f1), .string ((rd_T82 l0 x8_1).f3.f2), .string ((rd_T82 l0 x8_1).f3.f3), .int .i64 ((rd_T82 l0 x8_1).f3.f4), .int .i64 ((rd_T82 l0 x8_1).f3.f5)] (fun k_ => some k_ ≠ (u7 : Value).ownBlock) (fun _ => False) rfl rfl ?aP (fun _ hk => hk.elim) ?aF ?aO ?aB ?aS ?aL ?_; (case aP => exact k82_mkM _ _ _ (⟨(rd_T82 l0 x8_1).f0, (rd_T82 l0 x8_1).f1, (rd_T82 l0 x8_1).f2, (⟨(rd_T82 l0 x8_1).f3.f0, (rd_T82 l0 x8_1).f3.f1, (rd_T82 l0 x8_1).f3.f2, (rd_T82 l0 x8_1).f3.f3, (rd_T82 l0 x8_1).f3.f4, (rd_T82 l0 x8_1).f3.f5⟩ : S47)⟩ : S82)); (case aB => exact (hs_ HB GE157)); (case aF => exact (fun k_ hk => Kd.fresh' (Kd.R_lt (rr_ HO_7)) k_ hk)); (case aO => exact (by (with_reducible repeat (first | apply Kd.R_alloc | apply Kd.R_drewN | apply Kd.R_drew)); exact Kd.R_mono HO160.out (fun _ hk => hk.2))); (case aS => exact (below_size (hs_ HB GE157))); (case aL => have := LMc20.out; omega); intro v163 w24 ho hb hg hat; rw [← Ny162.out] at ho; have n0_ := Aside0.mk (Kd.R_after (ok := (fun _ => True)) (rr_ HO_7) hg hat); have n1_ := Aside0.mk (blk_grown (g := gb157) (o := .cells #[.int .i64 ((rd_T82 l0 x8_1).f3.f0), .int .i64 ((rd_T82 l0 x8_1).f3.f1), .string ((rd_T82 l0 x8_1).f3.f2), .string ((rd_T82 l0 x8_1).f3.f3), .int .i64 ((rd_T82 l0 x8_1).f3.f4), .int .i64 ((rd_T82 l0 x8_1).f3.f5)] 47 (0, 0)) (bk_ BK157) hg (Kd.R_ne HO160.out BK157.out (by decide))); have n2_ := Aside0.mk (hb); have n3_ := Aside0.mk (ho); clear HO_7; clear BK157; clear HB; clear HO160; have HO_7 := n0_; have BK157 := n1_; have HB := n2_; have HO164 := n3_; clear n0_ n1_ n2_ n3_; clear ho hb hg hat))
              go_roundg kj8
              case measure => have := HK1.out; have := HJ8.out; omega
              case rel => exact ⟨(y162), (wrap64 (x8_1 + 1)), rs_, H', ⟨by have := HK1.out; have := HJ8.out; omega⟩, ⟨by (with_reducible repeat (first | apply Kd.R_alloc | apply Kd.R_drewN | apply Kd.R_drew)); exact Kd.R_mono HO164.out (fun _ hk => trivial)⟩, ⟨hs_ HB GE157⟩⟩
             ·rw [if_neg c20] at H
              exact absurd H (by simp)
            ·rw [if_neg c19] at H
             exact absurd H (by simp)
           ·rw [if_neg c18] at H
            exact absurd H (by simp)
          ·rw [if_neg c17] at H
           have c17b0 : (((rd_T82 l0 x8_1).f3.f0) == 1) = false := beq_eq_false_iff_ne.mpr c17
           have c17b1 : (((rd_T82 l0 x8_1).f3.f0) != 1) = true := bne_iff_ne.mpr c17
           by_cases c25 : ((rd_T82 l0 x8_1).f3.f0) = 2
           ·rw [if_pos c25] at H
            have c25b0 : (((rd_T82 l0 x8_1).f3.f0) == 2) = true := beq_iff_eq.mpr c25
            have c25b1 : (((rd_T82 l0 x8_1).f3.f0) != 2) = false := bne_eq_false_iff_eq.mpr c25
            clear c25
            by_cases c26 : 0 ≤ x8_1
            ·rw [if_pos c26] at H
             have c26b0 : decide (0 ≤ x8_1) = true := decide_eq_true c26
             clear c26
             by_cases c27 : x8_1 < (l0.length : Int)
             ·rw [if_pos c27] at H
              have c27b0 : decide (x8_1 < (l0.length : Int)) = true := decide_eq_true c27
              clear c27
              by_cases c28 : y158.length < 1599289640401
              ·rw [if_pos c28] at H
               have LMc28 := Aside0.mk c28
               clear c28
               obtain ⟨y166, hy166⟩ : ∃ y_ : List (S82), y_ = (y158 ++ [(⟨(rd_T82 l0 x8_1).f0, (rd_T82 l0 x8_1).f1, (rd_T82 l0 x8_1).f2, (⟨(rd_T82 l0 x8_1).f3.f0, (rd_T82 l0 x8_1).f3.f1, (rd_T82 l0 x8_1).f3.f2, (rd_T82 l0 x8_1).f3.f3, (rd_T82 l0 x8_1).f3.f4, (rd_T82 l0 x8_1).f3.f5⟩ : S47)⟩ : S82)]) := ⟨_, rfl⟩
               replace H : (spec_l9Of.l0 kj8 l0 a1 a2 y166 (wrap64 (x8_1 + 1))) = some r := by first | (rw [hy166]; with_reducible exact H) | (have H2_ := (Option.bind_some _ _).symm.trans H; rw [hy166]; with_reducible exact H2_) | (have H2_ := (Option.bind_some _ _).symm.trans H; with_reducible exact H2_) | with_reducible exact H | (rw [hy166]; exact H) | exact H
               have Ny166 := Aside0.mk hy166
               clear hy166
               have H' := Aside0.mk H
               clear H
               go_wp2_with (first | ((with_reducible refine gate_dst (N := 30) rfl ?_); refine Kd.R_lit k82 _ 82 ?hg (N := 30) ?hd (xs := ([] : List (S82))) (inner := []) (ok := fun _ => True) (okp := fun _ => True) ?hr ?hp (fun _ hk => hk) trivial (Below.refl _ _) (Nat.le_refl _) (by simp) ?_; (case hd => rfl); (case hg => rfl); (case hr => first | (go_simp; done) | (go_simp; rfl)); (case hp => exact (Reps.none _ _)); intro v159 w29 ho30 hb hg_ hnew_; clear hg_ hnew_; (first | rw [← Ny158.out] at ho30 | (simp only [Int.reduceToNat] at ho30; rw [← Ny158.out] at ho30)); have n0_ := Aside0.mk (Kd.R_elder' (rr_ HO_7) (Kd.R_base ho30) hb); have n1_ := Aside0.mk (Kd.R_lower (Kd.R_new' ho30 (Kd.R_lt (rr_ HO_7))) (below_size (hs_ HB GE157))); have n2_ := Aside0.mk (blk_below (g := gb157) (o := .cells #[.int .i64 ((rd_T82 l0 x8_1).f3.f0), .int .i64 ((rd_T82 l0 x8_1).f3.f1), .string ((rd_T82 l0 x8_1).f3.f2), .string ((rd_T82 l0 x8_1).f3.f3), .int .i64 ((rd_T82 l0 x8_1).f3.f4), .int .i64 ((rd_T82 l0 x8_1).f3.f5)] 47 (0, 0)) (bk_ BK157) hb); have n3_ := Aside0.mk (below_step (hs_ HB GE157) hb); clear HO_7; clear BK157; clear HB; have HO_7 := n0_; have HO160 := n1_; have BK157 := n2_; have HB := n3_; clear n0_ n1_ n2_ n3_; clear hb ho30; have hcz31_0 : w29.cell? ⟨gb157, 0, none⟩ = some (.int .i64 ((rd_T82 l0 x8_1).f3.f0)) := (blk_cell BK157.out 0).trans rfl; have hcz31_1 : w29.cell? ⟨gb157, 1, none⟩ = some (.int .i64 ((rd_T82 l0 x8_1).f3.f1)) := (blk_cell BK157.out 1).trans rfl; have hcz31_2 : w29.cell? ⟨gb157, 2, none⟩ = some (.string ((rd_T82 l0 x8_1).f3.f2)) := (blk_cell BK157.out 2).trans rfl; have hcz31_3 : w29.cell? ⟨gb157, 3, none⟩ = some (.string ((rd_T82 l0 x8_1).f3.f3)) := (blk_cell BK157.out 3).trans rfl; have hcz31_4 : w29.cell? ⟨gb157, 4, none⟩ = some (.int .i64 ((rd_T82 l0 x8_1).f3.f4)) := (blk_cell BK157.out 4).trans rfl; have hcz31_5 : w29.cell? ⟨gb157, 5, none⟩ = some (.int .i64 ((rd_T82 l0 x8_1).f3.f5)) := (blk_cell BK157.out 5).trans rfl; have hfz31_0 := blk_frozen BK157.out 0; have hfz31_1 := blk_frozen BK157.out 1; have hfz31_2 := blk_frozen BK157.out 2; have hfz31_3 := blk_frozen BK157.out 3; have hfz31_4 := blk_frozen BK157.out 4; have hfz31_5 := blk_frozen BK157.out 5; have p165 : 0 ≤ (x8_1 : Int) := of_decide_eq_true as_; have q165 : x8_1 < (l0.length : Int) := of_decide_eq_true as_; obtain ⟨ad165, e165, hx165_0, hx165_1, hx165_2, hx165_3, hx165_4, hx165_5, hx165_6, hx165_7, hx165_8⟩ := at_T82 HR0.out x8_1 p165 q165; obtain rfl : ad156 = ad165 := (by injection e165); replace hx165_0 := (HB.out.cell (World.block_lt_of_cell? w _ hx165_0)).trans hx165_0; replace hx165_1 := (HB.out.cell (World.block_lt_of_cell? w _ hx165_1)).trans hx165_1; replace hx165_2 := (HB.out.cell (World.block_lt_of_cell? w _ hx165_2)).trans hx165_2; replace hx165_3 := (HB.out.cell (World.block_lt_of_cell? w _ hx165_3)).trans hx165_3; replace hx165_4 := (HB.out.cell (World.block_lt_of_cell? w _ hx165_4)).trans hx165_4; replace hx165_5 := (HB.out.cell (World.block_lt_of_cell? w _ hx165_5)).trans hx165_5; replace hx165_6 := (HB.out.cell (World.block_lt_of_cell? w _ hx165_6)).trans hx165_6; replace hx165_7 := (HB.out.cell (World.block_lt_of_cell? w _ hx165_7)).trans hx165_7; replace hx165_8 := (HB.out.cell (World.block_lt_of_cell? w _ hx165_8)).trans hx165_8; replace p165 := eq_true p165; replace q165 := eq_true q165) | ((with_reducible refine gate_builtin (b := .append) (xs := #[.tmp 45, .tmp 50]) rfl ?_); at_builtin; refine Kd.R_append k82 (w0 := w) w.heap.size rfl (.tmp 45) (.tmp 50) 26 82 (.agg #[(.int .i64 0), (.int .i64 0), (.int .i64 0), (.int .i64 0), (.int .i64 0), (.string ⟨#[]⟩), (.string ⟨#[]⟩), (.int .i64 0), (.int .i64 0)]) 88 rfl Try.underlying26 info82 rfl (by decide) (by omega) v159 y158 (⟨(rd_T82 l0 x8_1).f0, (rd_T82 l0 x8_1).f1, (rd_T82 l0 x8_1).f2, (⟨(rd_T82 l0 x8_1).f3.f0, (rd_T82 l0 x8_1).f3.f1, (rd_T82 l0 x8_1).f3.f2, (rd_T82 l0 x8_1).f3.f3, (rd_T82 l0 x8_1).f3.f4, (rd_T82 l0 x8_1).f3.f5⟩ : S47)⟩ : S82) [.int .i64 ((rd_T82 l0 x8_1).f0), .int .i64 ((rd_T82 l0 x8_1).f1), .int .i64 ((rd_T82 l0 x8_1).f2), .int .i64 ((rd_T82 l0 x8_1).f3.f0), .int .i64 ((rd_T82 l0 x8_1).f3.f1), .string ((rd_T82 l0 x8_1).f3.f2), .string ((rd_T82 l0 x8_1).f3.f3), .int .i64 ((rd_T82 l0 x8_1).f3.f4), .int .i64 ((rd_T82 l0 x8_1).f3.f5)] (fun k_ => some k_ ≠ (u7 : Value).ownBlock) (fun _ => False) rfl rfl ?aP (fun _ hk => hk.elim) ?aF ?aO ?aB ?aS ?aL ?_; (case aP => exact k82_mkM _ _ _ (⟨(rd_T82 l0 x8_1).f0, (rd_T82 l0 x8_1).f1, (rd_T82 l0 x8_1).f2, (⟨(rd_T82 l0 x8_1).f3.f0, (rd_T82 l0 x8_1).f3.f1, (rd_T82 l0 x8_1).f3.f2, (rd_T82 l0 x8_1).f3.f3, (rd_T82 l0 x8_1).f3.f4, (rd_T82 l0 x8_1).f3.f5⟩ : S47)⟩ : S82)); (case aB => exact (hs_ HB GE157)); (case aF => exact (fun k_ hk => Kd.fresh' (Kd.R_lt (rr_ HO_7)) k_ hk)); (case aO => exact (by (with_reducible repeat (first | apply Kd.R_alloc | apply Kd.R_drewN | apply Kd.R_drew)); exact Kd.R_mono HO160.out (fun _ hk => hk.2))); (case aS => exact (below_size (hs_ HB GE157))); (case aL => have := LMc28.out; omega); intro v167 w32 ho hb hg hat; rw [← Ny166.out] at ho; have n0_ := Aside0.mk (Kd.R_after (ok := (fun _ => True)) (rr_ HO_7) hg hat); have n1_ := Aside0.mk (blk_grown (g := gb157) (o := .cells #[.int .i64 ((rd_T82 l0 x8_1).f3.f0), .int .i64 ((rd_T82 l0 x8_1).f3.f1), .string ((rd_T82 l0 x8_1).f3.f2), .string ((rd_T82 l0 x8_1).f3.f3), .int .i64 ((rd_T82 l0 x8_1).f3.f4), .int .i64 ((rd_T82 l0 x8_1).f3.f5)] 47 (0, 0)) (bk_ BK157) hg (Kd.R_ne HO160.out BK157.out (by decide))); have n2_ := Aside0.mk (hb); have n3_ := Aside0.mk (ho); clear HO_7; clear BK157; clear HB; clear HO160; have HO_7 := n0_; have BK157 := n1_; have HB := n2_; have HO168 := n3_; clear n0_ n1_ n2_ n3_; clear ho hb hg hat))
               go_roundg kj8
               case measure => have := HK1.out; have := HJ8.out; omega
               case rel => exact ⟨(y166), (wrap64 (x8_1 + 1)), rs_, H', ⟨by have := HK1.out; have := HJ8.out; omega⟩, ⟨by (with_reducible repeat (first | apply Kd.R_alloc | apply Kd.R_drewN | apply Kd.R_drew)); exact Kd.R_mono HO168.out (fun _ hk => trivial)⟩, ⟨hs_ HB GE157⟩⟩
              ·rw [if_neg c28] at H
               exact absurd H (by simp)
             ·rw [if_neg c27] at H
              exact absurd H (by simp)
            ·rw [if_neg c26] at H
             exact absurd H (by simp)
           ·rw [if_neg c25] at H
            have c25b0 : (((rd_T82 l0 x8_1).f3.f0) == 2) = false := beq_eq_false_iff_ne.mpr c25
            have c25b1 : (((rd_T82 l0 x8_1).f3.f0) != 2) = true := bne_iff_ne.mpr c25
            have H' := Aside0.mk H
            clear H
            go_wp2_with (first | ((with_reducible refine gate_dst (N := 30) rfl ?_); refine Kd.R_lit k82 _ 82 ?hg (N := 30) ?hd (xs := ([] : List (S82))) (inner := []) (ok := fun _ => True) (okp := fun _ => True) ?hr ?hp (fun _ hk => hk) trivial (Below.refl _ _) (Nat.le_refl _) (by simp) ?_; (case hd => rfl); (case hg => rfl); (case hr => first | (go_simp; done) | (go_simp; rfl)); (case hp => exact (Reps.none _ _)); intro v159 w33 ho34 hb hg_ hnew_; clear hg_ hnew_; (first | rw [← Ny158.out] at ho34 | (simp only [Int.reduceToNat] at ho34; rw [← Ny158.out] at ho34)); have n0_ := Aside0.mk (Kd.R_elder' (rr_ HO_7) (Kd.R_base ho34) hb); have n1_ := Aside0.mk (Kd.R_lower (Kd.R_new' ho34 (Kd.R_lt (rr_ HO_7))) (below_size (hs_ HB GE157))); have n2_ := Aside0.mk (blk_below (g := gb157) (o := .cells #[.int .i64 ((rd_T82 l0 x8_1).f3.f0), .int .i64 ((rd_T82 l0 x8_1).f3.f1), .string ((rd_T82 l0 x8_1).f3.f2), .string ((rd_T82 l0 x8_1).f3.f3), .int .i64 ((rd_T82 l0 x8_1).f3.f4), .int .i64 ((rd_T82 l0 x8_1).f3.f5)] 47 (0, 0)) (bk_ BK157) hb); have n3_ := Aside0.mk (below_step (hs_ HB GE157) hb); clear HO_7; clear BK157; clear HB; have HO_7 := n0_; have HO160 := n1_; have BK157 := n2_; have HB := n3_; clear n0_ n1_ n2_ n3_; clear hb ho34; have hcz35_0 : w33.cell? ⟨gb157, 0, none⟩ = some (.int .i64 ((rd_T82 l0 x8_1).f3.f0)) := (blk_cell BK157.out 0).trans rfl; have hcz35_1 : w33.cell? ⟨gb157, 1, none⟩ = some (.int .i64 ((rd_T82 l0 x8_1).f3.f1)) := (blk_cell BK157.out 1).trans rfl; have hcz35_2 : w33.cell? ⟨gb157, 2, none⟩ = some (.string ((rd_T82 l0 x8_1).f3.f2)) := (blk_cell BK157.out 2).trans rfl; have hcz35_3 : w33.cell? ⟨gb157, 3, none⟩ = some (.string ((rd_T82 l0 x8_1).f3.f3)) := (blk_cell BK157.out 3).trans rfl; have hcz35_4 : w33.cell? ⟨gb157, 4, none⟩ = some (.int .i64 ((rd_T82 l0 x8_1).f3.f4)) := (blk_cell BK157.out 4).trans rfl; have hcz35_5 : w33.cell? ⟨gb157, 5, none⟩ = some (.int .i64 ((rd_T82 l0 x8_1).f3.f5)) := (blk_cell BK157.out 5).trans rfl; have hfz35_0 := blk_frozen BK157.out 0; have hfz35_1 := blk_frozen BK157.out 1; have hfz35_2 := blk_frozen BK157.out 2; have hfz35_3 := blk_frozen BK157.out 3; have hfz35_4 := blk_frozen BK157.out 4; have hfz35_5 := blk_frozen BK157.out 5))
            go_roundg kj8
            case measure => have := HK1.out; have := HJ8.out; omega
            case rel => exact ⟨(y158), (wrap64 (x8_1 + 1)), rs_, H', ⟨by have := HK1.out; have := HJ8.out; omega⟩, ⟨by (with_reducible repeat (first | apply Kd.R_alloc | apply Kd.R_drewN | apply Kd.R_drew)); exact Kd.R_mono HO160.out (fun _ hk => trivial)⟩, ⟨hs_ HB GE157⟩⟩
         ·rw [if_neg c16] at H
          have c16b0 : (((rd_T82 l0 x8_1).f3.f1) == a2) = false := beq_eq_false_iff_ne.mpr c16
          have c16b1 : (((rd_T82 l0 x8_1).f3.f1) != a2) = true := bne_iff_ne.mpr c16
          have H' := Aside0.mk H
          clear H
          go_wp2_with (first | ((with_reducible refine gate_dst (N := 30) rfl ?_); refine Kd.R_lit k82 _ 82 ?hg (N := 30) ?hd (xs := ([] : List (S82))) (inner := []) (ok := fun _ => True) (okp := fun _ => True) ?hr ?hp (fun _ hk => hk) trivial (Below.refl _ _) (Nat.le_refl _) (by simp) ?_; (case hd => rfl); (case hg => rfl); (case hr => first | (go_simp; done) | (go_simp; rfl)); (case hp => exact (Reps.none _ _)); intro v159 w36 ho37 hb hg_ hnew_; clear hg_ hnew_; (first | rw [← Ny158.out] at ho37 | (simp only [Int.reduceToNat] at ho37; rw [← Ny158.out] at ho37)); have n0_ := Aside0.mk (Kd.R_elder' (rr_ HO_7) (Kd.R_base ho37) hb); have n1_ := Aside0.mk (Kd.R_lower (Kd.R_new' ho37 (Kd.R_lt (rr_ HO_7))) (below_size (hs_ HB GE157))); have n2_ := Aside0.mk (blk_below (g := gb157) (o := .cells #[.int .i64 ((rd_T82 l0 x8_1).f3.f0), .int .i64 ((rd_T82 l0 x8_1).f3.f1), .string ((rd_T82 l0 x8_1).f3.f2), .string ((rd_T82 l0 x8_1).f3.f3), .int .i64 ((rd_T82 l0 x8_1).f3.f4), .int .i64 ((rd_T82 l0 x8_1).f3.f5)] 47 (0, 0)) (bk_ BK157) hb); have n3_ := Aside0.mk (below_step (hs_ HB GE157) hb); clear HO_7; clear BK157; clear HB; have HO_7 := n0_; have HO160 := n1_; have BK157 := n2_; have HB := n3_; clear n0_ n1_ n2_ n3_; clear hb ho37; have hcz38_0 : w36.cell? ⟨gb157, 0, none⟩ = some (.int .i64 ((rd_T82 l0 x8_1).f3.f0)) := (blk_cell BK157.out 0).trans rfl; have hcz38_1 : w36.cell? ⟨gb157, 1, none⟩ = some (.int .i64 ((rd_T82 l0 x8_1).f3.f1)) := (blk_cell BK157.out 1).trans rfl; have hcz38_2 : w36.cell? ⟨gb157, 2, none⟩ = some (.string ((rd_T82 l0 x8_1).f3.f2)) := (blk_cell BK157.out 2).trans rfl; have hcz38_3 : w36.cell? ⟨gb157, 3, none⟩ = some (.string ((rd_T82 l0 x8_1).f3.f3)) := (blk_cell BK157.out 3).trans rfl; have hcz38_4 : w36.cell? ⟨gb157, 4, none⟩ = some (.int .i64 ((rd_T82 l0 x8_1).f3.f4)) := (blk_cell BK157.out 4).trans rfl; have hcz38_5 : w36.cell? ⟨gb157, 5, none⟩ = some (.int .i64 ((rd_T82 l0 x8_1).f3.f5)) := (blk_cell BK157.out 5).trans rfl; have hfz38_0 := blk_frozen BK157.out 0; have hfz38_1 := blk_frozen BK157.out 1; have hfz38_2 := blk_frozen BK157.out 2; have hfz38_3 := blk_frozen BK157.out 3; have hfz38_4 := blk_frozen BK157.out 4; have hfz38_5 := blk_frozen BK157.out 5))
          go_roundg kj8
          case measure => have := HK1.out; have := HJ8.out; omega
          case rel => exact ⟨(y158), (wrap64 (x8_1 + 1)), rs_, H', ⟨by have := HK1.out; have := HJ8.out; omega⟩, ⟨by (with_reducible repeat (first | apply Kd.R_alloc | apply Kd.R_drewN | apply Kd.R_drew)); exact Kd.R_mono HO160.out (fun _ hk => trivial)⟩, ⟨hs_ HB GE157⟩⟩
        ·replace c15 := Bool.eq_false_iff.mpr c15
         subst c15
         have H1 : (if ((rd_T82 l0 x8_1).f3.f1) = a2 then (if ((rd_T82 l0 x8_1).f3.f0) = 1 then (if 0 ≤ x8_1 then (if x8_1 < (l0.length : Int) then (if x7_1.length < 1599289640401 then (spec_l9Of.l0 kj8 l0 a1 a2 (x7_1 ++ [(⟨(rd_T82 l0 x8_1).f0, (rd_T82 l0 x8_1).f1, (rd_T82 l0 x8_1).f2, (⟨(rd_T82 l0 x8_1).f3.f0, (rd_T82 l0 x8_1).f3.f1, (rd_T82 l0 x8_1).f3.f2, (rd_T82 l0 x8_1).f3.f3, (rd_T82 l0 x8_1).f3.f4, (rd_T82 l0 x8_1).f3.f5⟩ : S47)⟩ : S82)]) (wrap64 (x8_1 + 1))) else (none)) else (none)) else (none)) else (if ((rd_T82 l0 x8_1).f3.f0) = 2 then (if 0 ≤ x8_1 then (if x8_1 < (l0.length : Int) then (if x7_1.length < 1599289640401 then (spec_l9Of.l0 kj8 l0 a1 a2 (x7_1 ++ [(⟨(rd_T82 l0 x8_1).f0, (rd_T82 l0 x8_1).f1, (rd_T82 l0 x8_1).f2, (⟨(rd_T82 l0 x8_1).f3.f0, (rd_T82 l0 x8_1).f3.f1, (rd_T82 l0 x8_1).f3.f2, (rd_T82 l0 x8_1).f3.f3, (rd_T82 l0 x8_1).f3.f4, (rd_T82 l0 x8_1).f3.f5⟩ : S47)⟩ : S82)]) (wrap64 (x8_1 + 1))) else (none)) else (none)) else (none)) else (spec_l9Of.l0 kj8 l0 a1 a2 x7_1 (wrap64 (x8_1 + 1))))) else (spec_l9Of.l0 kj8 l0 a1 a2 x7_1 (wrap64 (x8_1 + 1)))) = some r := by rw [if_neg (show ¬ (false = true) by decide)] at H; exact H
         clear H
         have H := H1
         clear H1
         by_cases c39 : ((rd_T82 l0 x8_1).f3.f1) = a2
         ·rw [if_pos c39] at H
          have c39b0 : (((rd_T82 l0 x8_1).f3.f1) == a2) = true := beq_iff_eq.mpr c39
          have c39b1 : (((rd_T82 l0 x8_1).f3.f1) != a2) = false := bne_eq_false_iff_eq.mpr c39
          clear c39
          by_cases c40 : ((rd_T82 l0 x8_1).f3.f0) = 1
          ·rw [if_pos c40] at H
           have c40b0 : (((rd_T82 l0 x8_1).f3.f0) == 1) = true := beq_iff_eq.mpr c40
           have c40b1 : (((rd_T82 l0 x8_1).f3.f0) != 1) = false := bne_eq_false_iff_eq.mpr c40
           clear c40
           by_cases c41 : 0 ≤ x8_1
           ·rw [if_pos c41] at H
            have c41b0 : decide (0 ≤ x8_1) = true := decide_eq_true c41
            clear c41
            by_cases c42 : x8_1 < (l0.length : Int)
            ·rw [if_pos c42] at H
             have c42b0 : decide (x8_1 < (l0.length : Int)) = true := decide_eq_true c42
             clear c42
             by_cases c43 : x7_1.length < 1599289640401
             ·rw [if_pos c43] at H
              have LMc43 := Aside0.mk c43
              clear c43
              obtain ⟨y170, hy170⟩ : ∃ y_ : List (S82), y_ = (x7_1 ++ [(⟨(rd_T82 l0 x8_1).f0, (rd_T82 l0 x8_1).f1, (rd_T82 l0 x8_1).f2, (⟨(rd_T82 l0 x8_1).f3.f0, (rd_T82 l0 x8_1).f3.f1, (rd_T82 l0 x8_1).f3.f2, (rd_T82 l0 x8_1).f3.f3, (rd_T82 l0 x8_1).f3.f4, (rd_T82 l0 x8_1).f3.f5⟩ : S47)⟩ : S82)]) := ⟨_, rfl⟩
              replace H : (spec_l9Of.l0 kj8 l0 a1 a2 y170 (wrap64 (x8_1 + 1))) = some r := by first | (rw [hy170]; with_reducible exact H) | (have H2_ := (Option.bind_some _ _).symm.trans H; rw [hy170]; with_reducible exact H2_) | (have H2_ := (Option.bind_some _ _).symm.trans H; with_reducible exact H2_) | with_reducible exact H | (rw [hy170]; exact H) | exact H
              have Ny170 := Aside0.mk hy170
              clear hy170
              have H' := Aside0.mk H
              clear H
              have hcz44_0 : wc.cell? ⟨gb157, 0, none⟩ = some (.int .i64 ((rd_T82 l0 x8_1).f3.f0)) := (blk_cell BK157.out 0).trans rfl
              have hcz44_1 : wc.cell? ⟨gb157, 1, none⟩ = some (.int .i64 ((rd_T82 l0 x8_1).f3.f1)) := (blk_cell BK157.out 1).trans rfl
              have hcz44_2 : wc.cell? ⟨gb157, 2, none⟩ = some (.string ((rd_T82 l0 x8_1).f3.f2)) := (blk_cell BK157.out 2).trans rfl
              have hcz44_3 : wc.cell? ⟨gb157, 3, none⟩ = some (.string ((rd_T82 l0 x8_1).f3.f3)) := (blk_cell BK157.out 3).trans rfl
              have hcz44_4 : wc.cell? ⟨gb157, 4, none⟩ = some (.int .i64 ((rd_T82 l0 x8_1).f3.f4)) := (blk_cell BK157.out 4).trans rfl
              have hcz44_5 : wc.cell? ⟨gb157, 5, none⟩ = some (.int .i64 ((rd_T82 l0 x8_1).f3.f5)) := (blk_cell BK157.out 5).trans rfl
              have hfz44_0 := blk_frozen BK157.out 0
              have hfz44_1 := blk_frozen BK157.out 1
              have hfz44_2 := blk_frozen BK157.out 2
              have hfz44_3 := blk_frozen BK157.out 3
              have hfz44_4 := blk_frozen BK157.out 4
              have hfz44_5 := blk_frozen BK157.out 5
              have p169 : 0 ≤ (x8_1 : Int) := of_decide_eq_true as_
              have q169 : x8_1 < (l0.length : Int) := of_decide_eq_true as_
              obtain ⟨ad169, e169, hx169_0, hx169_1, hx169_2, hx169_3, hx169_4, hx169_5, hx169_6, hx169_7, hx169_8⟩ := at_T82 HR0.out x8_1 p169 q169
              obtain rfl : ad156 = ad169 := (by injection e169)
              replace hx169_0 := (HB.out.cell (World.block_lt_of_cell? w _ hx169_0)).trans hx169_0
              replace hx169_1 := (HB.out.cell (World.block_lt_of_cell? w _ hx169_1)).trans hx169_1
              replace hx169_2 := (HB.out.cell (World.block_lt_of_cell? w _ hx169_2)).trans hx169_2
              replace hx169_3 := (HB.out.cell (World.block_lt_of_cell? w _ hx169_3)).trans hx169_3
              replace hx169_4 := (HB.out.cell (World.block_lt_of_cell? w _ hx169_4)).trans hx169_4
              replace hx169_5 := (HB.out.cell (World.block_lt_of_cell? w _ hx169_5)).trans hx169_5
              replace hx169_6 := (HB.out.cell (World.block_lt_of_cell? w _ hx169_6)).trans hx169_6
              replace hx169_7 := (HB.out.cell (World.block_lt_of_cell? w _ hx169_7)).trans hx169_7
              replace hx169_8 := (HB.out.cell (World.block_lt_of_cell? w _ hx169_8)).trans hx169_8
              replace p169 := eq_true p169
              replace q169 := eq_true q169
              go_wp2_with (first | ((with_reducible refine gate_builtin (b := .append) (xs := #[.tmp 45, .tmp 50]) rfl ?_); at_builtin; refine Kd.R_append k82 (w0 := w) w.heap.size rfl (.tmp 45) (.tmp 50) 26 82 (.agg #[(.int .i64 0), (.int .i64 0), (.int .i64 0), (.int .i64 0), (.int .i64 0), (.string ⟨#[]⟩), (.string ⟨#[]⟩), (.int .i64 0), (.int .i64 0)]) 88 rfl Try.underlying26 info82 rfl (by decide) (by omega) u7 x7_1 (⟨(rd_T82 l0 x8_1).f0, (rd_T82 l0 x8_1).f1, (rd_T82 l0 x8_1).f2, (⟨(rd_T82 l0 x8_1).f3.f0, (rd_T82 l0 x8_1).f3.f1, (rd_T82 l0 x8_1).f3.f2, (rd_T82 l0 x8_1).f3.f3, (rd_T82 l0 x8_1).f3.f4, (rd_T82 l0 x8_1).f3.f5⟩ : S47)⟩ : S82) [.int .i64 ((rd_T82 l0 x8_1).f0), .int .i64 ((rd_T82 l0 x8_1).f1), .int .i64 ((rd_T82 l0 x8_1).f2), .int .i64 ((rd_T82 l0 x8_1).f3.f0), .int .i64 ((rd_T82 l0 x8_1).f3.f1), .string ((rd_T82 l0 x8_1).f3.f2), .string ((rd_T82 l0 x8_1).f3.f3), .int .i64 ((rd_T82 l0 x8_1).f3.f4), .int .i64 ((rd_T82 l0 x8_1).f3.f5)] (fun _ => True) (fun _ => False) rfl rfl ?aP (fun _ hk => hk.elim) ?aF ?aO ?aB ?aS ?aL ?_; (case aP => exact k82_mkM _ _ _ (⟨(rd_T82 l0 x8_1).f0, (rd_T82 l0 x8_1).f1, (rd_T82 l0 x8_1).f2, (⟨(rd_T82 l0 x8_1).f3.f0, (rd_T82 l0 x8_1).f3.f1, (rd_T82 l0 x8_1).f3.f2, (rd_T82 l0 x8_1).f3.f3, (rd_T82 l0 x8_1).f3.f4, (rd_T82 l0 x8_1).f3.f5⟩ : S47)⟩ : S82)); (case aB => exact (hs_ HB GE157)); (case aF => exact (fun _ _ => trivial)); (case aO => exact (rr_ HO_7)); (case aS => exact (below_size (hs_ HB GE157))); (case aL => have := LMc43.out; omega); intro v171 w45 ho hb hg hat; rw [← Ny170.out] at ho; have n0_ := Aside0.mk (blk_grown (g := gb157) (o := .cells #[.int .i64 ((rd_T82 l0 x8_1).f3.f0), .int .i64 ((rd_T82 l0 x8_1).f3.f1), .string ((rd_T82 l0 x8_1).f3.f2), .string ((rd_T82 l0 x8_1).f3.f3), .int .i64 ((rd_T82 l0 x8_1).f3.f4), .int .i64 ((rd_T82 l0 x8_1).f3.f5)] 47 (0, 0)) (bk_ BK157) hg (Kd.R_ne HO_7.out BK157.out (by decide))); have n1_ := Aside0.mk (hb); have n2_ := Aside0.mk (ho); clear BK157; clear HB; clear HO_7; have BK157 := n0_; have HB := n1_; have HO172 := n2_; clear n0_ n1_ n2_; clear ho hb hg hat))
              go_roundg kj8
              case measure => have := HK1.out; have := HJ8.out; omega
              case rel => exact ⟨(y170), (wrap64 (x8_1 + 1)), rs_, H', ⟨by have := HK1.out; have := HJ8.out; omega⟩, ⟨rr_ HO172⟩, ⟨hs_ HB GE157⟩⟩
             ·rw [if_neg c43] at H
              exact absurd H (by simp)
            ·rw [if_neg c42] at H
             exact absurd H (by simp)
           ·rw [if_neg c41] at H
            exact absurd H (by simp)
          ·rw [if_neg c40] at H
           have c40b0 : (((rd_T82 l0 x8_1).f3.f0) == 1) = false := beq_eq_false_iff_ne.mpr c40
           have c40b1 : (((rd_T82 l0 x8_1).f3.f0) != 1) = true := bne_iff_ne.mpr c40
           by_cases c46 : ((rd_T82 l0 x8_1).f3.f0) = 2
           ·rw [if_pos c46] at H
            have c46b0 : (((rd_T82 l0 x8_1).f3.f0) == 2) = true := beq_iff_eq.mpr c46
            have c46b1 : (((rd_T82 l0 x8_1).f3.f0) != 2) = false := bne_eq_false_iff_eq.mpr c46
            clear c46
            by_cases c47 : 0 ≤ x8_1
            ·rw [if_pos c47] at H
             have c47b0 : decide (0 ≤ x8_1) = true := decide_eq_true c47
             clear c47
             by_cases c48 : x8_1 < (l0.length : Int)
             ·rw [if_pos c48] at H
              have c48b0 : decide (x8_1 < (l0.length : Int)) = true := decide_eq_true c48
              clear c48
              by_cases c49 : x7_1.length < 1599289640401
              ·rw [if_pos c49] at H
               have LMc49 := Aside0.mk c49
               clear c49
               obtain ⟨y174, hy174⟩ : ∃ y_ : List (S82), y_ = (x7_1 ++ [(⟨(rd_T82 l0 x8_1).f0, (rd_T82 l0 x8_1).f1, (rd_T82 l0 x8_1).f2, (⟨(rd_T82 l0 x8_1).f3.f0, (rd_T82 l0 x8_1).f3.f1, (rd_T82 l0 x8_1).f3.f2, (rd_T82 l0 x8_1).f3.f3, (rd_T82 l0 x8_1).f3.f4, (rd_T82 l0 x8_1).f3.f5⟩ : S47)⟩ : S82)]) := ⟨_, rfl⟩
               replace H : (spec_l9Of.l0 kj8 l0 a1 a2 y174 (wrap64 (x8_1 + 1))) = some r := by first | (rw [hy174]; with_reducible exact H) | (have H2_ := (Option.bind_some _ _).symm.trans H; rw [hy174]; with_reducible exact H2_) | (have H2_ := (Option.bind_some _ _).symm.trans H; with_reducible exact H2_) | with_reducible exact H | (rw [hy174]; exact H) | exact H
               have Ny174 := Aside0.mk hy174
               clear hy174
               have H' := Aside0.mk H
               clear H
               have hcz50_0 : wc.cell? ⟨gb157, 0, none⟩ = some (.int .i64 ((rd_T82 l0 x8_1).f3.f0)) := (blk_cell BK157.out 0).trans rfl
               have hcz50_1 : wc.cell? ⟨gb157, 1, none⟩ = some (.int .i64 ((rd_T82 l0 x8_1).f3.f1)) := (blk_cell BK157.out 1).trans rfl
               have hcz50_2 : wc.cell? ⟨gb157, 2, none⟩ = some (.string ((rd_T82 l0 x8_1).f3.f2)) := (blk_cell BK157.out 2).trans rfl
               have hcz50_3 : wc.cell? ⟨gb157, 3, none⟩ = some (.string ((rd_T82 l0 x8_1).f3.f3)) := (blk_cell BK157.out 3).trans rfl
               have hcz50_4 : wc.cell? ⟨gb157, 4, none⟩ = some (.int .i64 ((rd_T82 l0 x8_1).f3.f4)) := (blk_cell BK157.out 4).trans rfl
               have hcz50_5 : wc.cell? ⟨gb157, 5, none⟩ = some (.int .i64 ((rd_T82 l0 x8_1).f3.f5)) := (blk_cell BK157.out 5).trans rfl
               have hfz50_0 := blk_frozen BK157.out 0
               have hfz50_1 := blk_frozen BK157.out 1
               have hfz50_2 := blk_frozen BK157.out 2
               have hfz50_3 := blk_frozen BK157.out 3
               have hfz50_4 := blk_frozen BK157.out 4
               have hfz50_5 := blk_frozen BK157.out 5
               have p173 : 0 ≤ (x8_1 : Int) := of_decide_eq_true as_
               have q173 : x8_1 < (l0.length : Int) := of_decide_eq_true as_
               obtain ⟨ad173, e173, hx173_0, hx173_1, hx173_2, hx173_3, hx173_4, hx173_5, hx173_6, hx173_7, hx173_8⟩ := at_T82 HR0.out x8_1 p173 q173
               obtain rfl : ad156 = ad173 := (by injection e173)
               replace hx173_0 := (HB.out.cell (World.block_lt_of_cell? w _ hx173_0)).trans hx173_0
               replace hx173_1 := (HB.out.cell (World.block_lt_of_cell? w _ hx173_1)).trans hx173_1
               replace hx173_2 := (HB.out.cell (World.block_lt_of_cell? w _ hx173_2)).trans hx173_2
               replace hx173_3 := (HB.out.cell (World.block_lt_of_cell? w _ hx173_3)).trans hx173_3
               replace hx173_4 := (HB.out.cell (World.block_lt_of_cell? w _ hx173_4)).trans hx173_4
               replace hx173_5 := (HB.out.cell (World.block_lt_of_cell? w _ hx173_5)).trans hx173_5
               replace hx173_6 := (HB.out.cell (World.block_lt_of_cell? w _ hx173_6)).trans hx173_6
               replace hx173_7 := (HB.out.cell (World.block_lt_of_cell? w _ hx173_7)).trans hx173_7
               replace hx173_8 := (HB.out.cell (World.block_lt_of_cell? w _ hx173_8)).trans hx173_8
               replace p173 := eq_true p173
               replace q173 := eq_true q173
               go_wp2_with (first | ((with_reducible refine gate_builtin (b := .append) (xs := #[.tmp 45, .tmp 50]) rfl ?_); at_builtin; refine Kd.R_append k82 (w0 := w) w.heap.size rfl (.tmp 45) (.tmp 50) 26 82 (.agg #[(.int .i64 0), (.int .i64 0), (.int .i64 0), (.int .i64 0), (.int .i64 0), (.string ⟨#[]⟩), (.string ⟨#[]⟩), (.int .i64 0), (.int .i64 0)]) 88 rfl Try.underlying26 info82 rfl (by decide) (by omega) u7 x7_1 (⟨(rd_T82 l0 x8_1).f0, (rd_T82 l0 x8_1).f1, (rd_T82 l0 x8_1).f2, (⟨(rd_T82 l0 x8_1).f3.f0, (rd_T82 l0 x8_1).f3.f1, (rd_T82 l0 x8_1).f3.f2, (rd_T82 l0 x8_1).f3.f3, (rd_T82 l0 x8_1).f3.f4, (rd_T82 l0 x8_1).f3.f5⟩ : S47)⟩ : S82) [.int .i64 ((rd_T82 l0 x8_1).f0), .int .i64 ((rd_T82 l0 x8_1).f1), .int .i64 ((rd_T82 l0 x8_1).f2), .int .i64 ((rd_T82 l0 x8_1).f3.f0), .int .i64 ((rd_T82 l0 x8_1).f3.f1), .string ((rd_T82 l0 x8_1).f3.f2), .string ((rd_T82 l0 x8_1).f3.f3), .int .i64 ((rd_T82 l0 x8_1).f3.f4), .int .i64 ((rd_T82 l0 x8_1).f3.f5)] (fun _ => True) (fun _ => False) rfl rfl ?aP (fun _ hk => hk.elim) ?aF ?aO ?aB ?aS ?aL ?_; (case aP => exact k82_mkM _ _ _ (⟨(rd_T82 l0 x8_1).f0, (rd_T82 l0 x8_1).f1, (rd_T82 l0 x8_1).f2, (⟨(rd_T82 l0 x8_1).f3.f0, (rd_T82 l0 x8_1).f3.f1, (rd_T82 l0 x8_1).f3.f2, (rd_T82 l0 x8_1).f3.f3, (rd_T82 l0 x8_1).f3.f4, (rd_T82 l0 x8_1).f3.f5⟩ : S47)⟩ : S82)); (case aB => exact (hs_ HB GE157)); (case aF => exact (fun _ _ => trivial)); (case aO => exact (rr_ HO_7)); (case aS => exact (below_size (hs_ HB GE157))); (case aL => have := LMc49.out; omega); intro v175 w51 ho hb hg hat; rw [← Ny174.out] at ho; have n0_ := Aside0.mk (blk_grown (g := gb157) (o := .cells #[.int .i64 ((rd_T82 l0 x8_1).f3.f0), .int .i64 ((rd_T82 l0 x8_1).f3.f1), .string ((rd_T82 l0 x8_1).f3.f2), .string ((rd_T82 l0 x8_1).f3.f3), .int .i64 ((rd_T82 l0 x8_1).f3.f4), .int .i64 ((rd_T82 l0 x8_1).f3.f5)] 47 (0, 0)) (bk_ BK157) hg (Kd.R_ne HO_7.out BK157.out (by decide))); have n1_ := Aside0.mk (hb); have n2_ := Aside0.mk (ho); clear BK157; clear HB; clear HO_7; have BK157 := n0_; have HB := n1_; have HO176 := n2_; clear n0_ n1_ n2_; clear ho hb hg hat))
               go_roundg kj8
               case measure => have := HK1.out; have := HJ8.out; omega
               case rel => exact ⟨(y174), (wrap64 (x8_1 + 1)), rs_, H', ⟨by have := HK1.out; have := HJ8.out; omega⟩, ⟨rr_ HO176⟩, ⟨hs_ HB GE157⟩⟩
              ·rw [if_neg c49] at H
               exact absurd H (by simp)
             ·rw [if_neg c48] at H
              exact absurd H (by simp)
            ·rw [if_neg c47] at H
             exact absurd H (by simp)
           ·rw [if_neg c46] at H
            have c46b0 : (((rd_T82 l0 x8_1).f3.f0) == 2) = false := beq_eq_false_iff_ne.mpr c46
            have c46b1 : (((rd_T82 l0 x8_1).f3.f0) != 2) = true := bne_iff_ne.mpr c46
            have H' := Aside0.mk H
            clear H
            have hcz52_0 : wc.cell? ⟨gb157, 0, none⟩ = some (.int .i64 ((rd_T82 l0 x8_1).f3.f0)) := (blk_cell BK157.out 0).trans rfl
            have hcz52_1 : wc.cell? ⟨gb157, 1, none⟩ = some (.int .i64 ((rd_T82 l0 x8_1).f3.f1)) := (blk_cell BK157.out 1).trans rfl
            have hcz52_2 : wc.cell? ⟨gb157, 2, none⟩ = some (.string ((rd_T82 l0 x8_1).f3.f2)) := (blk_cell BK157.out 2).trans rfl
            have hcz52_3 : wc.cell? ⟨gb157, 3, none⟩ = some (.string ((rd_T82 l0 x8_1).f3.f3)) := (blk_cell BK157.out 3).trans rfl
            have hcz52_4 : wc.cell? ⟨gb157, 4, none⟩ = some (.int .i64 ((rd_T82 l0 x8_1).f3.f4)) := (blk_cell BK157.out 4).trans rfl
            have hcz52_5 : wc.cell? ⟨gb157, 5, none⟩ = some (.int .i64 ((rd_T82 l0 x8_1).f3.f5)) := (blk_cell BK157.out 5).trans rfl
            have hfz52_0 := blk_frozen BK157.out 0
            have hfz52_1 := blk_frozen BK157.out 1
            have hfz52_2 := blk_frozen BK157.out 2
            have hfz52_3 := blk_frozen BK157.out 3
            have hfz52_4 := blk_frozen BK157.out 4
            have hfz52_5 := blk_frozen BK157.out 5
            go_wp2
            go_roundg kj8
            case measure => have := HK1.out; have := HJ8.out; omega
            case rel => exact ⟨(x7_1), (wrap64 (x8_1 + 1)), rs_, H', ⟨by have := HK1.out; have := HJ8.out; omega⟩, ⟨rr_ HO_7⟩, ⟨hs_ HB GE157⟩⟩
         ·rw [if_neg c39] at H
          have c39b0 : (((rd_T82 l0 x8_1).f3.f1) == a2) = false := beq_eq_false_iff_ne.mpr c39
          have c39b1 : (((rd_T82 l0 x8_1).f3.f1) != a2) = true := bne_iff_ne.mpr c39
          have H' := Aside0.mk H
          clear H
          have hcz53_0 : wc.cell? ⟨gb157, 0, none⟩ = some (.int .i64 ((rd_T82 l0 x8_1).f3.f0)) := (blk_cell BK157.out 0).trans rfl
          have hcz53_1 : wc.cell? ⟨gb157, 1, none⟩ = some (.int .i64 ((rd_T82 l0 x8_1).f3.f1)) := (blk_cell BK157.out 1).trans rfl
          have hcz53_2 : wc.cell? ⟨gb157, 2, none⟩ = some (.string ((rd_T82 l0 x8_1).f3.f2)) := (blk_cell BK157.out 2).trans rfl
          have hcz53_3 : wc.cell? ⟨gb157, 3, none⟩ = some (.string ((rd_T82 l0 x8_1).f3.f3)) := (blk_cell BK157.out 3).trans rfl
          have hcz53_4 : wc.cell? ⟨gb157, 4, none⟩ = some (.int .i64 ((rd_T82 l0 x8_1).f3.f4)) := (blk_cell BK157.out 4).trans rfl
          have hcz53_5 : wc.cell? ⟨gb157, 5, none⟩ = some (.int .i64 ((rd_T82 l0 x8_1).f3.f5)) := (blk_cell BK157.out 5).trans rfl
          have hfz53_0 := blk_frozen BK157.out 0
          have hfz53_1 := blk_frozen BK157.out 1
          have hfz53_2 := blk_frozen BK157.out 2
          have hfz53_3 := blk_frozen BK157.out 3
          have hfz53_4 := blk_frozen BK157.out 4
          have hfz53_5 := blk_frozen BK157.out 5
          go_wp2
          go_roundg kj8
          case measure => have := HK1.out; have := HJ8.out; omega
          case rel => exact ⟨(x7_1), (wrap64 (x8_1 + 1)), rs_, H', ⟨by have := HK1.out; have := HJ8.out; omega⟩, ⟨rr_ HO_7⟩, ⟨hs_ HB GE157⟩⟩
     ·rw [if_neg c8] at H
      exact absurd H (by simp)
    ·rw [if_neg c7] at H
     exact absurd H (by simp)
   ·rw [if_neg c6] at H
    have c6b0 : decide (x8_1 < a1) = false := decide_eq_false c6
    clear c6
    obtain rfl := Option.some.inj H
    go_wp2
    go_ret
    exact ⟨_, by first | rfl | (simp [errW_none, errW_some] <;> rfl) | (simp [*, errW_none, errW_some] <;> rfl), rr_ HO_7, hb_ HB⟩

end Go.Proofs.Ytebeafcdabkkfab.PFnExactSealed
