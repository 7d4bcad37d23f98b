-- Laid by a program of this session, a copy of the kit's printer with additions (wip/patch_print.py): myhead. Lean checks it.
import Derived.Test.YtebeafcdabkkfaaPFnExactReadHintx0
import Derived.Test.YtebeafcdabkkfaaPFnExactReadHintx4
import Derived.Test.YtebeafcdabkkfaaPFnExactReadHintx5
namespace Go.Proofs.Ytebeafcdabkkfaa.PFnExactReadHint
open Go.RowKit Go.Proofs.YtebeafcdabkkfaaW.PrintWords Go.Proofs.YtebeafcdabkkfaaW.PrintLast Go.Proofs.YtebeafcdabkkfaaW.PrintMore
attribute [local go_sem] max2_int min2_int max_two min_two max_three min_three max_four min_four   -- for this text's walks alone
set_option linter.unusedVariables false
set_option linter.unusedSimpArgs false

/-! ### spec_ReadHint: function 58 -/
mutual
def spec_ReadHint.j0 : Nat → ByteArray → List Int → Int → Bool → Option (Int × Int × (List (S113)) × Bool)
 | 0, _, _, _, _ => none
 | k + 1, x0, x4, x5, x29 => if x29 = true then (some (0, 0, ([] : List (S113)), false)) else (if 0 < (x4.length : Int) then (if 1 < (x4.length : Int) then (spec_ReadHint.l0 k x0 x4 x5 0 (rd x4 0) (rd x4 1) ([] : List (S113))) else (none)) else (none))
def spec_ReadHint.l0 : Nat → ByteArray → List Int → Int → Int → Int → Int → List (S113) → Option (Int × Int × (List (S113)) × Bool)
 | 0, _, _, _, _, _, _, _ => none
 | k + 1, x0, x4, x5, x7, x175000, x175001, x175002 => if 2 < (x4.length : Int) then (if x7 < (rd x4 2) then (if 0 ≤ x5 then (if x5 ≤ (x0.size : Int) then ((spec_l5Text.f k (x0.extract (x5 : Int).toNat x0.size)).bind fun bt176 => ((spec_l10Vars.f k bt176.2.1 0 4).bind fun bt179 => (if bt176.2.2 = true then (if bt179.2 < 0 then (some (0, 0, ([] : List (S113)), false)) else (if 0 < (bt179.1.length : Int) then (if 1 < (bt179.1.length : Int) then (if 2 < (bt179.1.length : Int) then (if 3 < (bt179.1.length : Int) then (if x175002.length < 2932031007402 then (spec_ReadHint.l0 k x0 x4 (wrap64 ((wrap64 ((x0.size : Int) - (bt176.2.1.size : Int))) + bt179.2)) (wrap64 (x7 + 1)) x175000 x175001 (x175002 ++ [(⟨bt176.1, rd bt179.1 0, rd bt179.1 1, rd bt179.1 2, rd bt179.1 3⟩ : S113)])) else (none)) else (none)) else (none)) else (none)) else (none))) else (some (0, 0, ([] : List (S113)), false))))) else (none)) else (none)) else ((spec_ShowHint.f k x175000 x175001 x175002).bind fun t190 => (if t190.toList = x0.toList then (some (x175000, x175001, x175002, true)) else (some (0, 0, ([] : List (S113)), false))))) else (none)
end
def spec_ReadHint.f (k : Nat) (a0 : ByteArray) : Option (Int × Int × (List (S113)) × Bool) := if (a0.size : Int) < 4 then (some (0, 0, ([] : List (S113)), false)) else ((spec_l10Vars.f k a0 4 3).bind fun bt167 => (if bt167.2 < 0 then (spec_ReadHint.j0 k a0 bt167.1 bt167.2 true) else (if 2 < (bt167.1.length : Int) then (spec_ReadHint.j0 k a0 bt167.1 bt167.2 (decide ((rd bt167.1 2) > 20))) else (none))))
theorem spec_ReadHint.mono_l : ∀ k, (∀ y0 y1 y2 y3, LeO (spec_ReadHint.j0 k y0 y1 y2 y3) (spec_ReadHint.j0 (k + 1) y0 y1 y2 y3)) ∧ (∀ y0 y1 y2 y3 y4 y5 y6, LeO (spec_ReadHint.l0 k y0 y1 y2 y3 y4 y5 y6) (spec_ReadHint.l0 (k + 1) y0 y1 y2 y3 y4 y5 y6))
 | 0 => ⟨fun _ _ _ _ r h => by simp [spec_ReadHint.j0] at h, fun _ _ _ _ _ _ _ r h => by simp [spec_ReadHint.l0] at h⟩
 | k + 1 => by
  obtain ⟨ih0, ih1⟩ := spec_ReadHint.mono_l k
  refine ⟨?_, ?_⟩
  ·intro y0 y1 y2 y3
   unfold spec_ReadHint.j0
   repeat' first
   | (with_reducible exact ih0 _ _ _ _)
   | (with_reducible exact ih1 _ _ _ _ _ _ _)
   | (with_reducible exact spec_ShowHint.mono _ _ _ _)
   | (with_reducible exact spec_l10Vars.mono _ _ _ _)
   | (with_reducible exact spec_l5Text.mono _ _)
   | (with_reducible exact LeO.refl _)
   | (with_reducible exact LeO.none _)
   | (with_reducible refine LeO.ite ?_ ?_)
   | (with_reducible refine LeO.bind ?_ (fun _ => ?_))
   | exact ih0 _ _ _ _
   | exact ih1 _ _ _ _ _ _ _
   | exact spec_ShowHint.mono _ _ _ _
   | exact spec_l10Vars.mono _ _ _ _
   | exact spec_l5Text.mono _ _
   | exact LeO.none _
   | refine LeO.ite ?_ ?_
   | refine LeO.bind ?_ (fun _ => ?_)
  ·intro y0 y1 y2 y3 y4 y5 y6
   unfold spec_ReadHint.l0
   repeat' first
   | (with_reducible exact ih0 _ _ _ _)
   | (with_reducible exact ih1 _ _ _ _ _ _ _)
   | (with_reducible exact spec_ShowHint.mono _ _ _ _)
   | (with_reducible exact spec_l10Vars.mono _ _ _ _)
   | (with_reducible exact spec_l5Text.mono _ _)
   | (with_reducible exact LeO.refl _)
   | (with_reducible exact LeO.none _)
   | (with_reducible refine LeO.ite ?_ ?_)
   | (with_reducible refine LeO.bind ?_ (fun _ => ?_))
   | exact ih0 _ _ _ _
   | exact ih1 _ _ _ _ _ _ _
   | exact spec_ShowHint.mono _ _ _ _
   | exact spec_l10Vars.mono _ _ _ _
   | exact spec_l5Text.mono _ _
   | exact LeO.none _
   | refine LeO.ite ?_ ?_
   | refine LeO.bind ?_ (fun _ => ?_)
theorem spec_ReadHint.mono : ∀ a0 k, LeO (spec_ReadHint.f k a0) (spec_ReadHint.f (k + 1) a0) := by
 intro a0 k
 obtain ⟨ih0, ih1⟩ := spec_ReadHint.mono_l k
 unfold spec_ReadHint.f
 repeat' first
   | (with_reducible exact ih0 _ _ _ _)
   | (with_reducible exact ih1 _ _ _ _ _ _ _)
   | (with_reducible exact spec_ShowHint.mono _ _ _ _)
   | (with_reducible exact spec_l10Vars.mono _ _ _ _)
   | (with_reducible exact spec_l5Text.mono _ _)
   | (with_reducible exact LeO.refl _)
   | (with_reducible exact LeO.none _)
   | (with_reducible refine LeO.ite ?_ ?_)
   | (with_reducible refine LeO.bind ?_ (fun _ => ?_))
   | exact ih0 _ _ _ _
   | exact ih1 _ _ _ _ _ _ _
   | exact spec_ShowHint.mono _ _ _ _
   | exact spec_l10Vars.mono _ _ _ _
   | exact spec_l5Text.mono _ _
   | exact LeO.none _
   | refine LeO.ite ?_ ?_
   | refine LeO.bind ?_ (fun _ => ?_)
def spec_ReadHint.T6 : Bool × List (List Nat × List Nat) := (true, [([], []), ([0], [0]), ([1], [1]), ([], []), ([3], [3]), ([4], [4]), ([2, 5], [2, 5]), ([], []), ([7, 6, 0, 1, 2, 3, 4, 5, 6, 7], [6, 7])])
def spec_ReadHint.B6 : List Nat := [0, 1, 3, 0, 8, 24, 63, 0, 255]
theorem spec_ReadHint.tab6 : rtab .any (opsOf Try.f58 6) = spec_ReadHint.T6 := by kernel_rfl
theorem spec_ReadHint.bits6 : waitsOk spec_ReadHint.T6.2 spec_ReadHint.B6 = true := by kernel_rfl
def spec_ReadHint.T14 : Bool × List (List Nat × List Nat) := (true, [([], []), ([0], [0]), ([], []), ([], []), ([3], [3]), ([4], [4]), ([], []), ([6], [6]), ([7], [7]), ([], []), ([9], [9]), ([10], [10]), ([], []), ([12], [12]), ([13], [13]), ([2, 5, 8, 11, 14], [2, 5, 8, 11, 14]), ([15], [15]), ([1, 16], [1, 16]), ([0, 1, 2, 3, 4, 5, 6, 7, 8, 9, 10, 11, 12, 13, 14, 15, 16, 17], []), ([18, 17, 17, 0, 1, 2, 3, 4, 5, 6, 7, 8, 9, 10, 11, 12, 13, 14, 15, 16, 17], [17, 18])])
def spec_ReadHint.B14 : List Nat := [0, 1, 0, 0, 8, 24, 0, 64, 192, 0, 512, 1536, 0, 4096, 12288, 32764, 65532, 131071, 262143, 524287]
theorem spec_ReadHint.tab14 : rtab .any (opsOf Try.f58 14) = spec_ReadHint.T14 := by kernel_rfl
theorem spec_ReadHint.bits14 : waitsOk spec_ReadHint.T14.2 spec_ReadHint.B14 = true := by kernel_rfl
set_option maxHeartbeats 8000000 in
set_option maxRecDepth 100000 in
theorem spec_ReadHint.calls (k : Nat) (a0 : ByteArray) (r1 : Int) (r2 : Int) (r3 : List (S113)) (r4 : Bool) (w : World) (h : spec_ReadHint.f k a0 = some (r1, r2, r3, r4)) :
  Calls Try.prog 58 #[.string a0] w fun e w' => ∃ v2_ : Value, e = .returned (.tuple #[.agg #[.int .i64 r1, .int .i64 r2, v2_], .bool r4]) ∧ Kd.R k113 113 w' w.heap.size (fun _ => True) v2_ r3 ∧ Below w.heap.size w w' := by
 have hu54 := Try.underlying54
 have hu113 := Try.underlying113
 have HB := Aside0.mk (Below.refl w.heap.size w)
 have H : (if (a0.size : Int) < 4 then (some (0, 0, ([] : List (S113)), false)) else ((spec_l10Vars.f k a0 4 3).bind fun bt167 => (if bt167.2 < 0 then (spec_ReadHint.j0 k a0 bt167.1 bt167.2 true) else (if 2 < (bt167.1.length : Int) then (spec_ReadHint.j0 k a0 bt167.1 bt167.2 (decide ((rd bt167.1 2) > 20))) else (none))))) = some (r1, r2, r3, r4) := h
 clear h
 by_cases c2 : (a0.size : Int) < 4
 ·rw [if_pos c2] at H
  have c2b0 : decide ((a0.size : Int) < 4) = true := decide_eq_true c2
  have c2b1 : decide (a0.size < 4) = true := decide_eq_true (by omega)
  clear c2
  simp only [Option.some.injEq, Prod.mk.injEq] at H
  obtain ⟨rfl, rfl, rfl, rfl⟩ := H
  go_enter Try.func58, Try.ntmps58
  go_wp2_with (first | ((with_reducible refine gate_dst (N := 2) rfl ?_); refine box_event ?hg (N := 2) ?hd (cs := #[.int .i64 0, .int .i64 0, .slice none 0 0]) (t := 54) ?hr ?_; (case hd => rfl); (case hg => rfl); (case hr => first | (go_simp; done) | (go_simp; rfl)); intro gb166 hg w3 hbox hb; have n0_ := Aside0.mk (below_step (hb_ HB) hb); have n1_ := Aside0.mk (hbox); have n2_ := Aside0.mk ((by rw [hg]; exact (below_size (hb_ HB)) : w.heap.size ≤ gb166)); have n3_ := Aside0.mk ((by rw [hg]; exact (below_size (hb_ HB)) : w.heap.size ≤ gb166)); clear HB; have HB := n0_; have BK166 := n1_; have GW166 := n2_; have GE166 := n3_; clear n0_ n1_ n2_ n3_; clear hb hbox hg; have hcz4_0 : w3.cell? ⟨gb166, 0, none⟩ = some (.int .i64 0) := (blk_cell BK166.out 0).trans rfl; have hcz4_1 : w3.cell? ⟨gb166, 1, none⟩ = some (.int .i64 0) := (blk_cell BK166.out 1).trans rfl; have hcz4_2 : w3.cell? ⟨gb166, 2, none⟩ = some (.slice none 0 0) := (blk_cell BK166.out 2).trans rfl; have hfz4_0 := blk_frozen BK166.out 0; have hfz4_1 := blk_frozen BK166.out 1; have hfz4_2 := blk_frozen BK166.out 2))
  refine bodyPost_ret (results_ct rfl _ _ gb166 54 #[.int .i64 0, .int .i64 0, .slice none 0 0] (0, 0) _ rfl (by (with_reducible repeat (first | refine blk_drewN ?_ _ | refine blk_drew ?_ | refine blk_alloc ?_ _)); refine blk_put (cs := #[.int .i64 0, .int .i64 0, .slice none 0 0]) ?_ 2 _ rfl; (with_reducible repeat (first | refine blk_drewN ?_ _ | refine blk_drew ?_ | refine blk_alloc ?_ _)); refine blk_put (cs := #[.int .i64 0, .int .i64 0, .slice none 0 0]) ?_ 1 _ rfl; (with_reducible repeat (first | refine blk_drewN ?_ _ | refine blk_drew ?_ | refine blk_alloc ?_ _)); refine blk_put (cs := #[.int .i64 0, .int .i64 0, .slice none 0 0]) ?_ 0 _ rfl; (with_reducible repeat (first | refine blk_drewN ?_ _ | refine blk_drew ?_ | refine blk_alloc ?_ _)); exact BK166.out) Try.underlying54 rfl (by kernel_rfl)) rfl ?_
  exact ⟨_, by first | rfl | (simp [errW_none, errW_some] <;> rfl) | (simp [*, errW_none, errW_some] <;> rfl), by first | exact Kd.R_nil _ _ _ _ _ | exact Kd.N_nil _ _ _ _ _ | exact Kd.V_nil _ _ _ _ _ | exact Kd.Q_nil _ _ _ _ _ | exact Kd.S_nil _ _ _ _ _, hs_ HB GE166⟩
 ·rw [if_neg c2] at H
  have c2b0 : decide ((a0.size : Int) < 4) = false := decide_eq_false c2
  have c2b1 : decide (a0.size < 4) = false := decide_eq_false (by omega)
  clear c2
  replace H := Option.bind_eq_some_iff.mp H
  obtain ⟨⟨t167, t168⟩, A50, H⟩ := H
  replace H : (if t168 < 0 then (spec_ReadHint.j0 k a0 t167 t168 true) else (if 2 < (t167.length : Int) then (spec_ReadHint.j0 k a0 t167 t168 (decide ((rd t167 2) > 20))) else (none))) = some (r1, r2, r3, r4) := H
  have A5 := Aside0.mk A50
  clear A50
  have HC6 := Aside0.mk H
  clear H
  go_enter Try.func58, Try.ntmps58
  go_upto_region 4 with (first | ((with_reducible refine gate_dst (N := 2) rfl ?_); refine box_event ?hg (N := 2) ?hd (cs := #[.int .i64 0, .int .i64 0, .slice none 0 0]) (t := 54) ?hr ?_; (case hd => rfl); (case hg => rfl); (case hr => first | (go_simp; done) | (go_simp; rfl)); intro gb166 hg w7 hbox hb; have n0_ := Aside0.mk (below_step (hb_ HB) hb); have n1_ := Aside0.mk (hbox); have n2_ := Aside0.mk ((by rw [hg]; exact (below_size (hb_ HB)) : w.heap.size ≤ gb166)); have n3_ := Aside0.mk ((by rw [hg]; exact (below_size (hb_ HB)) : w.heap.size ≤ gb166)); clear HB; have HB := n0_; have BK166 := n1_; have GW166 := n2_; have GE166 := n3_; clear n0_ n1_ n2_ n3_; clear hb hbox hg) | ((with_reducible refine gate_callee (f := 113) rfl ?_); refine goesL_ (some 19) rfl rfl Try.func113 (by kernel_rfl) rfl #[.string a0, .int .i64 4, .int .i64 3] rfl ar_ ?_; (with_reducible refine (spec_l10Vars.calls k a0 4 3 t167 t168 _ A5.out).mono ?_); rintro e w8 ⟨v169, rfl, ho0, hb⟩; refine ⟨_, rfl, ?_⟩; have n0_ := Aside0.mk (Kd.R_lower ho0 (below_size (hs_ HB GE166))); have n1_ := Aside0.mk (blk_below (g := gb166) (o := .cells #[.int .i64 0, .int .i64 0, .slice none 0 0] 54 (0, 0)) (bk_ BK166) hb); have n2_ := Aside0.mk (below_step (hs_ HB GE166) hb); clear BK166; clear HB; have HO170 := n0_; have BK166 := n1_; have HB := n2_; clear n0_ n1_ n2_; (try clear hb); (try clear hb2); (try clear hk); (try clear hi); (try clear ho0)))
  (try simp only [Act.put, la_, lz_, ls_])
  go_cut [29] (fun v29 wc => ∃ (kq : Nat) (x29_5 : Bool), v29 = .bool x29_5 ∧ Aside0 (spec_ReadHint.j0 kq a0 t167 t168 x29_5 = some (r1, r2, r3, r4)) ∧ Aside0 (kq ≤ k) ∧ Aside0 (Kd.R (Kd.int .i64) 3 wc w.heap.size (fun _ => True) v169 t167) ∧ Aside0 (wc.heap[gb166]? = some (.cells #[.int .i64 0, .int .i64 0, (.slice none 0 0)] 54 (0, 0))) ∧ Aside0 (Below w.heap.size w wc))
  case first =>
   have H := HC6.out
   clear HC6
   by_cases c9 : t168 < 0
   ·rw [if_pos c9] at H
    have c9b0 : decide (t168 < 0) = true := decide_eq_true c9
    clear c9
    (first | rw [c9b0] | (simp only [i64_w, i32_w]; rw [c9b0]) | skip)
    have H' := Aside0.mk H
    clear H
    go_wp2
    go_meet
    case rel => exact ⟨_, (true), rs_, H', ⟨by first | exact Nat.le_refl _ | exact Nat.le_of_succ_le this | omega⟩, ⟨rr_ HO170⟩, ⟨bk_ BK166⟩, ⟨hs_ HB GE166⟩⟩
   ·rw [if_neg c9] at H
    have c9b0 : decide (t168 < 0) = false := decide_eq_false c9
    clear c9
    (first | rw [c9b0] | (simp only [i64_w, i32_w]; rw [c9b0]) | skip)
    by_cases c10 : 2 < (t167.length : Int)
    ·rw [if_pos c10] at H
     have c10b0 : decide (2 < (t167.length : Int)) = true := decide_eq_true c10
     have c10b1 : decide (2 < t167.length) = true := decide_eq_true (by omega)
     clear c10
     have H' := Aside0.mk H
     clear H
     obtain ⟨Ao11, co11, eo11⟩ := Kd.R_slice HO170.out
     subst eo11
     have p171 : 0 ≤ (2 : Int) := (by omega)
     have q171 : 2 < (t167.length : Int) := of_decide_eq_true as_
     obtain ⟨ad171, e171, hx171_0⟩ := Kd.at_int (Kd.R_reads' HO170.out).2.2 2 p171 q171
     cases e171
     (try simp only [show (2 : Int).toNat = 2 from rfl, Nat.reduceMul, Nat.reduceEqDiff, Go.Addr.add, ↓reduceIte] at hx171_0)
     have qi171 : (2 < t167.length) = True := eq_true (by omega)
     (try rw [show ((2 : Int)).toNat = 2 from rfl] at hx171_0)
     replace p171 := eq_true p171
     replace q171 := eq_true q171
     go_wp2
     go_meet
     case rel => exact ⟨_, (decide ((rd t167 2) > 20)), rs_, H', ⟨by first | exact Nat.le_refl _ | exact Nat.le_of_succ_le this | omega⟩, ⟨rr_ HO170⟩, ⟨bk_ BK166⟩, ⟨hs_ HB GE166⟩⟩
    ·rw [if_neg c10] at H
     exact absurd H (by simp)
  case rest =>
   clear HC6
   try clear c1
   try clear p1
   try clear q1
   try clear hx1
   try clear qi1
   try clear c2
   try clear c2b0
   try clear c2b1
   try clear p2
   try clear c5
   try clear c9
   try clear c9b0
   try clear c10
   try clear c10b0
   try clear c10b1
   try clear c11
   try clear hcz4_0
   try clear hcz4_1
   try clear hcz4_2
   try clear hfz4_0
   try clear hfz4_1
   try clear hfz4_2
   try clear hx171_0
   try clear p171
   try clear q171
   obtain ⟨kq, x29_5, rfl, HA, HJ5, HO_4, BK166, HB⟩ := hcut
   cases kq with
   | zero => exact absurd HA.out (by simp [spec_ReadHint.j0])
   | succ kj5 =>
    have H := HA.out
    clear HA
    simp only [spec_ReadHint.j0] at H
    by_cases c12 : x29_5 = true
    ·subst c12
     have H1 : (some (0, 0, ([] : List (S113)), false)) = some (r1, r2, r3, r4) := by rw [if_pos rfl] at H; exact H
     clear H
     have H := H1
     clear H1
     simp only [Option.some.injEq, Prod.mk.injEq] at H
     obtain ⟨rfl, rfl, rfl, rfl⟩ := H
     have hcz13_0 : wc.cell? ⟨gb166, 0, none⟩ = some (.int .i64 0) := (blk_cell BK166.out 0).trans rfl
     have hcz13_1 : wc.cell? ⟨gb166, 1, none⟩ = some (.int .i64 0) := (blk_cell BK166.out 1).trans rfl
     have hcz13_2 : wc.cell? ⟨gb166, 2, none⟩ = some (.slice none 0 0) := (blk_cell BK166.out 2).trans rfl
     have hfz13_0 := blk_frozen BK166.out 0
     have hfz13_1 := blk_frozen BK166.out 1
     have hfz13_2 := blk_frozen BK166.out 2
     go_wp2
     refine bodyPost_ret (results_ct rfl _ _ gb166 54 #[.int .i64 0, .int .i64 0, .slice none 0 0] (0, 0) _ rfl (by (with_reducible repeat (first | refine blk_drewN ?_ _ | refine blk_drew ?_ | refine blk_alloc ?_ _)); refine blk_put (cs := #[.int .i64 0, .int .i64 0, .slice none 0 0]) ?_ 2 _ rfl; (with_reducible repeat (first | refine blk_drewN ?_ _ | refine blk_drew ?_ | refine blk_alloc ?_ _)); refine blk_put (cs := #[.int .i64 0, .int .i64 0, .slice none 0 0]) ?_ 1 _ rfl; (with_reducible repeat (first | refine blk_drewN ?_ _ | refine blk_drew ?_ | refine blk_alloc ?_ _)); refine blk_put (cs := #[.int .i64 0, .int .i64 0, .slice none 0 0]) ?_ 0 _ rfl; (with_reducible repeat (first | refine blk_drewN ?_ _ | refine blk_drew ?_ | refine blk_alloc ?_ _)); exact BK166.out) Try.underlying54 rfl (by kernel_rfl)) rfl ?_
     exact ⟨_, by first | rfl | (simp [errW_none, errW_some] <;> rfl) | (simp [*, errW_none, errW_some] <;> rfl), by first | exact Kd.R_nil _ _ _ _ _ | exact Kd.N_nil _ _ _ _ _ | exact Kd.V_nil _ _ _ _ _ | exact Kd.Q_nil _ _ _ _ _ | exact Kd.S_nil _ _ _ _ _, hs_ HB GE166⟩
    ·replace c12 := Bool.eq_false_iff.mpr c12
     subst c12
     have H1 : (if 0 < (t167.length : Int) then (if 1 < (t167.length : Int) then (spec_ReadHint.l0 kj5 a0 t167 t168 0 (rd t167 0) (rd t167 1) ([] : List (S113))) else (none)) else (none)) = some (r1, r2, r3, r4) := by rw [if_neg (show ¬ (false = true) by decide)] at H; exact H
     clear H
     have H := H1
     clear H1
     by_cases c14 : 0 < (t167.length : Int)
     ·rw [if_pos c14] at H
      have c14b0 : decide (0 < (t167.length : Int)) = true := decide_eq_true c14
      have c14b1 : decide (0 < t167.length) = true := decide_eq_true (by omega)
      clear c14
      by_cases c15 : 1 < (t167.length : Int)
      ·rw [if_pos c15] at H
       have c15b0 : decide (1 < (t167.length : Int)) = true := decide_eq_true c15
       have c15b1 : decide (1 < t167.length) = true := decide_eq_true (by omega)
       clear c15
       have H' := Aside0.mk H
       clear H
       try go_wp2
       have n0_ := Aside0.mk (Kd.R_drew HO_4.out)
       have n1_ := Aside0.mk (blk_drew BK166.out)
       have n2_ := Aside0.mk (below_drew1 HB.out)
       clear HO_4
       clear BK166
       clear HB
       have HO_4 := n0_
       have BK166 := n1_
       have HB := n2_
       clear n0_ n1_ n2_
       obtain ⟨Ao17, co17, eo17⟩ := Kd.R_slice HO_4.out
       (first | subst eo17 | (injection eo17 with f1_ f2_ f3_; have f4_ := f1_.symm; have f5_ := f3_.symm; clear f1_ f2_ f3_; subst f4_; subst f5_))
       have p172 : 0 ≤ (0 : Int) := (by omega)
       have q172 : 0 < (t167.length : Int) := of_decide_eq_true as_
       obtain ⟨ad172, e172, hx172_0⟩ := Kd.at_int (Kd.R_reads' HO_4.out).2.2 0 p172 q172
       cases e172
       have qi172 : (0 < t167.length) = True := eq_true (by omega)
       (try rw [show ((0 : Int)).toNat = 0 from rfl] at hx172_0)
       (try rw [Addr.add_zero'] at hx172_0)
       replace p172 := eq_true p172
       replace q172 := eq_true q172
       have p173 : 0 ≤ (1 : Int) := (by omega)
       have q173 : 1 < (t167.length : Int) := of_decide_eq_true as_
       obtain ⟨ad173, e173, hx173_0⟩ := Kd.at_int (Kd.R_reads' HO_4.out).2.2 1 p173 q173
       obtain rfl : ad172 = ad173 := (by injection e173)
       (try simp only [show (1 : Int).toNat = 1 from rfl, Nat.reduceMul, Nat.reduceEqDiff, Go.Addr.add, ↓reduceIte] at hx173_0)
       have qi173 : (1 < t167.length) = True := eq_true (by omega)
       (try rw [show ((1 : Int)).toNat = 1 from rfl] at hx173_0)
       replace p173 := eq_true p173
       replace q173 := eq_true q173
       refine start_ (n := 9) (S := fun w' => w'.cell? ad172 = some (.int .i64 (rd t167 0)) ∧ w'.cell? ⟨ad172.block, ad172.off + 1, none⟩ = some (.int .i64 (rd t167 1))) (ds := []) (on_ 0 9) (by kernel_rfl) rfl rfl ⟨hx172_0, hx173_0⟩ (fun hHeld => ?_); refine with_tabW spec_ReadHint.tab6 spec_ReadHint.bits6 (fun HT_ HW_ => ?_)
       generalize wc.drew = w16 at HO_4 BK166 HB hx172_0 hx173_0 hHeld ⊢
       refine pv_ (i := 0) (N := some 31) (on_ 1 8) rfl rfl HT_ ?_
       refine pv_ (i := 1) (N := some 32) (on_ 2 7) rfl rfl HT_ ?_
       refine pv_ (i := 3) (N := some 34) #[i',i',o',i',o',o',o',o',o'] rfl rfl HT_ ?_
       refine pv_ (i := 4) (N := some 35) #[i',i',o',i',i',o',o',o',o'] rfl rfl HT_ ?_
       refine take_ (i := 2) (N := some 33) (v := ?_) (a' := ?_) (on_ 5 4) rfl rfl (take_ofW HT_.out HW_.out (by kernel_rfl)) (fun _ _ _ h => h) (Or.inl ⟨by rfl, ?_⟩) hHeld ?_ ?_
       rotate_left
       ·rintro w' ⟨s0, s1⟩
        go_simp
        with_reducible rfl
       rotate_left
       ·simp only [Act.put, la_, lz_, ls_, i64_w, i32_w]
        rfl
       refine take_ (i := 5) (N := some 36) (v := ?_) (a' := ?_) (on_ 6 3) rfl rfl (take_ofW HT_.out HW_.out (by kernel_rfl)) (fun _ _ _ h => h) (Or.inl ⟨by rfl, ?_⟩) hHeld ?_ ?_
       rotate_left
       ·rintro w' ⟨s0, s1⟩
        go_simp
        with_reducible rfl
       rotate_left
       ·simp only [Act.put, la_, lz_, ls_, i64_w, i32_w]
        rfl
       refine pv_ (i := 6) (N := some 37) (on_ 7 2) rfl rfl HT_ ?_
       refine one_ (i := 7) (N := some 6) (on_ 8 1) rfl rfl (one_of HT_.out (by kernel_rfl)) (by decide) (fun K hK => ?_)
       refine box_step ?hg (N := 6) ?hd (cs := #[.int .i64 0, .int .i64 0, .slice none 0 0]) (t := 54) ?hr ?_; (case hd => rfl); (case hg => rfl); (case hr => first | (go_simp; done) | (go_simp; rfl))
       intro gb174 hg w18 hbox hb
       have HS0_ := (hb.cell (World.block_lt_of_cell? _ _ (hHeld.1))).trans (hHeld.1)
       have HS1_ := (hb.cell (World.block_lt_of_cell? _ _ (hHeld.2))).trans (hHeld.2)
       have n0_ := Aside0.mk (Kd.R_below (rr_ HO_4) hb)
       have n1_ := Aside0.mk (blk_below (g := gb166) (o := .cells #[.int .i64 0, .int .i64 0, .slice none 0 0] 54 (0, 0)) (bk_ BK166) hb)
       have n2_ := Aside0.mk (below_step (hs_ HB GE166) hb)
       have n3_ := Aside0.mk (hbox)
       have n4_ := Aside0.mk ((by rw [hg]; exact (below_size (hs_ HB GE166)) : w.heap.size ≤ gb174))
       have n5_ := Aside0.mk ((by rw [hg]; exact (below_size (hs_ HB GE166)) : w.heap.size ≤ gb174))
       have n6_ := Aside0.mk ((by rw [hg]; exact Nat.ne_of_lt (blk_lt (g := gb166) (o := .cells #[.int .i64 0, .int .i64 0, .slice none 0 0] 54 (0, 0)) (bk_ BK166)) : gb166 ≠ gb174))
       have n7_ := Aside0.mk ((by rw [hg]; exact Nat.ne_of_gt (blk_lt (g := gb166) (o := .cells #[.int .i64 0, .int .i64 0, .slice none 0 0] 54 (0, 0)) (bk_ BK166)) : gb174 ≠ gb166))
       clear HO_4
       clear BK166
       clear HB
       have HO_4 := n0_
       have BK166 := n1_
       have HB := n2_
       have BK174 := n3_
       have GW174 := n4_
       have GE174 := n5_
       have NB166_174 := n6_
       have NB174_166 := n7_
       clear n0_ n1_ n2_ n3_ n4_ n5_ n6_ n7_
       clear hb hbox hg
       refine hK.out _ _ ⟨HS0_, HS1_⟩ (fun hHeld => ?_)
       clear hK K
       refine norm_ (a' := ?_) ?_ ?_
       rotate_left
       ·show Act.put _ (some 6) _ = _
        simp only [Act.put, la_, lz_, ls_, i64_w, i32_w]
        rfl
       refine one_ (i := 8) (N := none) (on_ 9 0) rfl rfl (one_of HT_.out (by kernel_rfl)) (by decide) (fun K hK => ?_)
       have hs19 : w18.cell? ⟨gb174, 0, none⟩ = some (.int .i64 0) := (blk_cell BK174.out 0).trans rfl
       have hfs19 := blk_frozen BK174.out 0
       have hns19_0 := NB166_174.out
       have hms19_0 := NB174_166.out
       have hs20 : w18.cell? ⟨gb174, 1, none⟩ = some (.int .i64 0) := (blk_cell BK174.out 1).trans rfl
       have hfs20 := blk_frozen BK174.out 1
       have hns20_0 := NB166_174.out
       have hms20_0 := NB174_166.out
       have hs21 : w18.cell? ⟨gb174, 2, none⟩ = some (.slice none 0 0) := (blk_cell BK174.out 2).trans rfl
       have hfs21 := blk_frozen BK174.out 2
       have hns21_0 := NB166_174.out
       have hms21_0 := NB174_166.out
       refine skip_ (w1 := ?_) (by rfl) rfl ?_ ?_
       rotate_left
       ·go_simp
        rfl
       refine hK.out _ _ ⟨((cell_far (p := ⟨gb174, _, none⟩) (by first | exact Kd.own_blk (Kd.R_ne HO_4.out BK174.out (by decide)) | (rw [add_block]; exact Kd.own_blk (Kd.R_ne HO_4.out BK174.out (by decide))) | (show (Addr.add _ _).block ≠ _; rw [add_block]; exact Kd.own_blk (Kd.R_ne HO_4.out BK174.out (by decide))) | (dsimp only; exact Kd.own_blk (Kd.R_ne HO_4.out BK174.out (by decide)))) _).trans (((cell_far (p := ⟨gb174, _, none⟩) (by first | exact Kd.own_blk (Kd.R_ne HO_4.out BK174.out (by decide)) | (rw [add_block]; exact Kd.own_blk (Kd.R_ne HO_4.out BK174.out (by decide))) | (show (Addr.add _ _).block ≠ _; rw [add_block]; exact Kd.own_blk (Kd.R_ne HO_4.out BK174.out (by decide))) | (dsimp only; exact Kd.own_blk (Kd.R_ne HO_4.out BK174.out (by decide)))) _).trans (((cell_far (p := ⟨gb174, _, none⟩) (by first | exact Kd.own_blk (Kd.R_ne HO_4.out BK174.out (by decide)) | (rw [add_block]; exact Kd.own_blk (Kd.R_ne HO_4.out BK174.out (by decide))) | (show (Addr.add _ _).block ≠ _; rw [add_block]; exact Kd.own_blk (Kd.R_ne HO_4.out BK174.out (by decide))) | (dsimp only; exact Kd.own_blk (Kd.R_ne HO_4.out BK174.out (by decide)))) _).trans (hHeld.1)))))), ((cell_far (p := ⟨gb174, _, none⟩) (by first | exact Kd.own_blk (Kd.R_ne HO_4.out BK174.out (by decide)) | (rw [add_block]; exact Kd.own_blk (Kd.R_ne HO_4.out BK174.out (by decide))) | (show (Addr.add _ _).block ≠ _; rw [add_block]; exact Kd.own_blk (Kd.R_ne HO_4.out BK174.out (by decide))) | (dsimp only; exact Kd.own_blk (Kd.R_ne HO_4.out BK174.out (by decide)))) _).trans (((cell_far (p := ⟨gb174, _, none⟩) (by first | exact Kd.own_blk (Kd.R_ne HO_4.out BK174.out (by decide)) | (rw [add_block]; exact Kd.own_blk (Kd.R_ne HO_4.out BK174.out (by decide))) | (show (Addr.add _ _).block ≠ _; rw [add_block]; exact Kd.own_blk (Kd.R_ne HO_4.out BK174.out (by decide))) | (dsimp only; exact Kd.own_blk (Kd.R_ne HO_4.out BK174.out (by decide)))) _).trans (((cell_far (p := ⟨gb174, _, none⟩) (by first | exact Kd.own_blk (Kd.R_ne HO_4.out BK174.out (by decide)) | (rw [add_block]; exact Kd.own_blk (Kd.R_ne HO_4.out BK174.out (by decide))) | (show (Addr.add _ _).block ≠ _; rw [add_block]; exact Kd.own_blk (Kd.R_ne HO_4.out BK174.out (by decide))) | (dsimp only; exact Kd.own_blk (Kd.R_ne HO_4.out BK174.out (by decide)))) _).trans (hHeld.2))))))⟩ (fun hHeld => ?_)
       clear hK K
       refine done_ (done_of HT_.out (by kernel_rfl)) ?_
       try go_wp2
       go_loopg [5, 7] kj5 (fun kq v5 v7 w' => ∃ (x5_2 : Int) (x7_2 : Int) (x167000_2 : Int) (x167001_2 : Int) (x175002_2 : List (S113)) (u175002 : Value), v5 = .int .i64 x5_2 ∧ v7 = .int .i64 x7_2 ∧ Aside0 (spec_ReadHint.l0 kq a0 t167 x5_2 x7_2 (rd t167 0) (rd t167 1) x175002_2 = some (r1, r2, r3, r4)) ∧ Aside0 (kq ≤ kj5) ∧ Aside0 (Kd.R (Kd.int .i64) 3 w' w.heap.size (fun _ => True) (.slice (some ad172) t167.length co17) t167) ∧ Aside0 (Kd.R k113 113 w' w.heap.size (fun _ => True) u175002 x175002_2) ∧ Aside0 (w'.heap[gb166]? = some (.cells #[.int .i64 x167000_2, .int .i64 x167001_2, (.slice none 0 0)] 54 (0, 0))) ∧ Aside0 (w'.heap[gb174]? = some (.cells #[.int .i64 (rd t167 0), .int .i64 (rd t167 1), u175002] 54 (0, 0))) ∧ Aside0 (Below w.heap.size w w'))
       case atStart => exact ⟨(t168), (0), (0), (0), (([] : List (S113))), (.slice none 0 0), rs_, rs_, H', ⟨Nat.le_refl _⟩, ⟨by (with_reducible repeat (first | apply Kd.R_alloc | apply Kd.R_drewN | apply Kd.R_drew)); exact Kd.R_mono (Kd.R_far (p := ⟨gb174, 2, none⟩) (Kd.R_far (p := ⟨gb174, 1, none⟩) (Kd.R_far (p := ⟨gb174, 0, none⟩) (Kd.R_types HO_4.out BK174.out (by decide)) (fun _ hk => hk.2) (.int .i64 (rd t167 0))) (fun _ hk => hk.2) (.int .i64 (rd t167 1))) (fun _ hk => hk.2) (.slice none 0 0)) (fun _ hk => trivial)⟩, ⟨by first | exact Kd.R_nil _ _ _ _ _ | exact Kd.N_nil _ _ _ _ _ | exact Kd.V_nil _ _ _ _ _ | exact Kd.Q_nil _ _ _ _ _ | exact Kd.S_nil _ _ _ _ _⟩, ⟨by (with_reducible repeat (first | refine blk_drewN ?_ _ | refine blk_drew ?_ | refine blk_alloc ?_ _)); refine blk_far ?_ NB166_174.out _; (with_reducible repeat (first | refine blk_drewN ?_ _ | refine blk_drew ?_ | refine blk_alloc ?_ _)); refine blk_far ?_ NB166_174.out _; (with_reducible repeat (first | refine blk_drewN ?_ _ | refine blk_drew ?_ | refine blk_alloc ?_ _)); refine blk_far ?_ NB166_174.out _; (with_reducible repeat (first | refine blk_drewN ?_ _ | refine blk_drew ?_ | refine blk_alloc ?_ _)); exact BK166.out⟩, ⟨by (with_reducible repeat (first | refine blk_drewN ?_ _ | refine blk_drew ?_ | refine blk_alloc ?_ _)); refine blk_put (cs := #[.int .i64 (rd t167 0), .int .i64 (rd t167 1), .slice none 0 0]) ?_ 2 _ rfl; (with_reducible repeat (first | refine blk_drewN ?_ _ | refine blk_drew ?_ | refine blk_alloc ?_ _)); refine blk_put (cs := #[.int .i64 (rd t167 0), .int .i64 0, .slice none 0 0]) ?_ 1 _ rfl; (with_reducible repeat (first | refine blk_drewN ?_ _ | refine blk_drew ?_ | refine blk_alloc ?_ _)); refine blk_put (cs := #[.int .i64 0, .int .i64 0, .slice none 0 0]) ?_ 0 _ rfl; (with_reducible repeat (first | refine blk_drewN ?_ _ | refine blk_drew ?_ | refine blk_alloc ?_ _)); exact BK174.out⟩, ⟨by repeat (first | (with_reducible first | exact HB.out | apply below_alloc | apply pw_below_drewN | apply below_drew1 | refine below_set ?_ GE166.out | refine below_set ?_ GE174.out) | exact HB.out)⟩⟩
       case round =>
        clear H'
        try clear c1
        try clear p1
        try clear q1
        try clear hx1
        try clear qi1
        try clear c2
        try clear c2b0
        try clear c2b1
        try clear p2
        try clear c5
        try clear c9
        try clear c9b0
        try clear c10
        try clear c10b0
        try clear c10b1
        try clear c11
        try clear c12
        try clear c14
        try clear c14b0
        try clear c14b1
        try clear c15
        try clear c15b0
        try clear c15b1
        try clear p17
        try clear q17
        try clear hx17
        try clear qi17
        try clear hcz13_0
        try clear hcz13_1
        try clear hcz13_2
        try clear hcz4_0
        try clear hcz4_1
        try clear hcz4_2
        try clear hfz13_0
        try clear hfz13_1
        try clear hfz13_2
        try clear hfz4_0
        try clear hfz4_1
        try clear hfz4_2
        try clear hx171_0
        try clear hx172_0
        try clear hx173_0
        try clear p1
        try clear p171
        try clear p172
        try clear p173
        try clear p2
        try clear q1
        try clear q171
        try clear q172
        try clear q173
        obtain ⟨x5_2, x7_2, x167000_2, x167001_2, x175002_2, u175002, rfl, rfl, HA, HK2, HO_4, HO_175002, BK166, BK174, HB⟩ := hrel
        cases gk with
        | zero => exact absurd HA.out (by simp [spec_ReadHint.l0])
        | succ k2 =>
         have H := HA.out
         clear HA
         simp only [spec_ReadHint.l0] at H
         by_cases c22 : 2 < (t167.length : Int)
         ·rw [if_pos c22] at H
          have c22b0 : decide (2 < (t167.length : Int)) = true := decide_eq_true c22
          have c22b1 : decide (2 < t167.length) = true := decide_eq_true (by omega)
          clear c22
          by_cases c23 : x7_2 < (rd t167 2)
          ·rw [if_pos c23] at H
           have c23b0 : decide (x7_2 < (rd t167 2)) = true := decide_eq_true c23
           clear c23
           by_cases c24 : 0 ≤ x5_2
           ·rw [if_pos c24] at H
            have c24b0 := eq_true c24
            have c24b1 : decide (0 ≤ x5_2) = true := decide_eq_true c24
            clear c24
            by_cases c25 : x5_2 ≤ (a0.size : Int)
            ·rw [if_pos c25] at H
             have c25b0 := eq_true c25
             have c25b1 : decide (x5_2 ≤ (a0.size : Int)) = true := decide_eq_true c25
             clear c25
             replace H := Option.bind_eq_some_iff.mp H
             obtain ⟨⟨t176, t177, t178⟩, A260, H⟩ := H
             replace H : ((spec_l10Vars.f k2 t177 0 4).bind fun bt179 => (if t178 = true then (if bt179.2 < 0 then (some (0, 0, ([] : List (S113)), false)) else (if 0 < (bt179.1.length : Int) then (if 1 < (bt179.1.length : Int) then (if 2 < (bt179.1.length : Int) then (if 3 < (bt179.1.length : Int) then (if x175002_2.length < 2932031007402 then (spec_ReadHint.l0 k2 a0 t167 (wrap64 ((wrap64 ((a0.size : Int) - (t177.size : Int))) + bt179.2)) (wrap64 (x7_2 + 1)) (rd t167 0) (rd t167 1) (x175002_2 ++ [(⟨t176, rd bt179.1 0, rd bt179.1 1, rd bt179.1 2, rd bt179.1 3⟩ : S113)])) else (none)) else (none)) else (none)) else (none)) else (none))) else (some (0, 0, ([] : List (S113)), false)))) = some (r1, r2, r3, r4) := H
             have A26 := Aside0.mk A260
             clear A260
             replace H := Option.bind_eq_some_iff.mp H
             obtain ⟨⟨t179, t180⟩, A270, H⟩ := H
             replace H : (if t178 = true then (if t180 < 0 then (some (0, 0, ([] : List (S113)), false)) else (if 0 < (t179.length : Int) then (if 1 < (t179.length : Int) then (if 2 < (t179.length : Int) then (if 3 < (t179.length : Int) then (if x175002_2.length < 2932031007402 then (spec_ReadHint.l0 k2 a0 t167 (wrap64 ((wrap64 ((a0.size : Int) - (t177.size : Int))) + t180)) (wrap64 (x7_2 + 1)) (rd t167 0) (rd t167 1) (x175002_2 ++ [(⟨t176, rd t179 0, rd t179 1, rd t179 2, rd t179 3⟩ : S113)])) else (none)) else (none)) else (none)) else (none)) else (none))) else (some (0, 0, ([] : List (S113)), false))) = some (r1, r2, r3, r4) := H
             have A27 := Aside0.mk A270
             clear A270
             by_cases c28 : t178 = true
             ·subst c28
              have H1 : (if t180 < 0 then (some (0, 0, ([] : List (S113)), false)) else (if 0 < (t179.length : Int) then (if 1 < (t179.length : Int) then (if 2 < (t179.length : Int) then (if 3 < (t179.length : Int) then (if x175002_2.length < 2932031007402 then (spec_ReadHint.l0 k2 a0 t167 (wrap64 ((wrap64 ((a0.size : Int) - (t177.size : Int))) + t180)) (wrap64 (x7_2 + 1)) (rd t167 0) (rd t167 1) (x175002_2 ++ [(⟨t176, rd t179 0, rd t179 1, rd t179 2, rd t179 3⟩ : S113)])) else (none)) else (none)) else (none)) else (none)) else (none))) = some (r1, r2, r3, r4) := by rw [if_pos rfl] at H; exact H
              clear H
              have H := H1
              clear H1
              by_cases c29 : t180 < 0
              ·rw [if_pos c29] at H
               have c29b0 : decide (t180 < 0) = true := decide_eq_true c29
               clear c29
               simp only [Option.some.injEq, Prod.mk.injEq] at H
               obtain ⟨rfl, rfl, rfl, rfl⟩ := H
               have p175 : 0 ≤ (2 : Int) := (by omega)
               have q175 : 2 < (t167.length : Int) := of_decide_eq_true as_
               obtain ⟨ad175, e175, hx175_0⟩ := Kd.at_int (Kd.R_reads' HO_4.out).2.2 2 p175 q175
               obtain rfl : ad172 = ad175 := (by injection e175)
               (try simp only [show (2 : Int).toNat = 2 from rfl, Nat.reduceMul, Nat.reduceEqDiff, Go.Addr.add, ↓reduceIte] at hx175_0)
               have qi175 : (2 < t167.length) = True := eq_true (by omega)
               (try rw [show ((2 : Int)).toNat = 2 from rfl] at hx175_0)
               replace p175 := eq_true p175
               replace q175 := eq_true q175
               go_wp2_with (first | ((with_reducible refine gate_callee (f := 73) rfl ?_); refine goesL_ (some 49) rfl rfl Try.func73 (by kernel_rfl) rfl #[.string (a0.extract (x5_2 : Int).toNat a0.size)] rfl ar_ ?_; (with_reducible refine (spec_l5Text.calls k2 (a0.extract (x5_2 : Int).toNat a0.size) t176 t177 true _ A26.out).mono ?_); rintro e w30 ⟨rfl, hb⟩; refine ⟨_, rfl, ?_⟩; have n0_ := Aside0.mk (Kd.R_below (rr_ HO_4) hb); have n1_ := Aside0.mk (Kd.R_below (rr_ HO_175002) hb); have n2_ := Aside0.mk (blk_below (g := gb166) (o := .cells #[.int .i64 x167000_2, .int .i64 x167001_2, .slice none 0 0] 54 (0, 0)) (bk_ BK166) hb); have n3_ := Aside0.mk (blk_below (g := gb174) (o := .cells #[.int .i64 (rd t167 0), .int .i64 (rd t167 1), u175002] 54 (0, 0)) (bk_ BK174) hb); have n4_ := Aside0.mk (below_step (by repeat (first | (with_reducible first | exact HB.out | apply below_alloc | apply pw_below_drewN | apply below_drew1 | refine below_set ?_ GE166.out | refine below_set ?_ GE174.out) | exact HB.out)) hb); clear HO_4; clear HO_175002; clear BK166; clear BK174; clear HB; have HO_4 := n0_; have HO_175002 := n1_; have BK166 := n2_; have BK174 := n3_; have HB := n4_; clear n0_ n1_ n2_ n3_ n4_; (try clear hb); (try clear hb2); (try clear hk); (try clear hi)) | ((with_reducible refine gate_callee (f := 113) rfl ?_); refine goesL_ (some 55) rfl rfl Try.func113 (by kernel_rfl) rfl #[.string t177, .int .i64 0, .int .i64 4] rfl ar_ ?_; (with_reducible refine (spec_l10Vars.calls k2 t177 0 4 t179 t180 _ A27.out).mono ?_); rintro e w31 ⟨v181, rfl, ho0, hb⟩; refine ⟨_, rfl, ?_⟩; have n0_ := Aside0.mk (Kd.R_elder' (rr_ HO_4) (Kd.R_base ho0) hb); have n1_ := Aside0.mk (Kd.R_below (rr_ HO_175002) hb); have n2_ := Aside0.mk (Kd.R_lower (Kd.R_new' ho0 (Kd.R_lt (rr_ HO_4))) (below_size (by repeat (first | (with_reducible first | exact HB.out | apply below_alloc | apply pw_below_drewN | apply below_drew1 | refine below_set ?_ GE166.out | refine below_set ?_ GE174.out) | exact HB.out)))); have n3_ := Aside0.mk (blk_below (g := gb166) (o := .cells #[.int .i64 x167000_2, .int .i64 x167001_2, .slice none 0 0] 54 (0, 0)) (bk_ BK166) hb); have n4_ := Aside0.mk (blk_below (g := gb174) (o := .cells #[.int .i64 (rd t167 0), .int .i64 (rd t167 1), u175002] 54 (0, 0)) (bk_ BK174) hb); have n5_ := Aside0.mk (below_step (by repeat (first | (with_reducible first | exact HB.out | apply below_alloc | apply pw_below_drewN | apply below_drew1 | refine below_set ?_ GE166.out | refine below_set ?_ GE174.out) | exact HB.out)) hb); clear HO_4; clear HO_175002; clear BK166; clear BK174; clear HB; have HO_4 := n0_; have HO_175002 := n1_; have HO182 := n2_; have BK166 := n3_; have BK174 := n4_; have HB := n5_; clear n0_ n1_ n2_ n3_ n4_ n5_; (try clear hb); (try clear hb2); (try clear hk); (try clear hi); (try clear ho0); have hnb32 := NB166_174.out; have hnc32 := NB174_166.out; have hcz33_0 : w31.cell? ⟨gb166, 0, none⟩ = some (.int .i64 x167000_2) := (blk_cell BK166.out 0).trans rfl; have hcz33_1 : w31.cell? ⟨gb166, 1, none⟩ = some (.int .i64 x167001_2) := (blk_cell BK166.out 1).trans rfl; have hcz33_2 : w31.cell? ⟨gb166, 2, none⟩ = some (.slice none 0 0) := (blk_cell BK166.out 2).trans rfl; have hfz33_0 := blk_frozen BK166.out 0; have hfz33_1 := blk_frozen BK166.out 1; have hfz33_2 := blk_frozen BK166.out 2))
               refine bodyPost_ret (results_ct rfl _ _ gb166 54 #[.int .i64 0, .int .i64 0, .slice none 0 0] (0, 0) _ rfl (by (with_reducible repeat (first | refine blk_drewN ?_ _ | refine blk_drew ?_ | refine blk_alloc ?_ _)); refine blk_put (cs := #[.int .i64 0, .int .i64 0, .slice none 0 0]) ?_ 2 _ rfl; (with_reducible repeat (first | refine blk_drewN ?_ _ | refine blk_drew ?_ | refine blk_alloc ?_ _)); refine blk_put (cs := #[.int .i64 0, .int .i64 x167001_2, .slice none 0 0]) ?_ 1 _ rfl; (with_reducible repeat (first | refine blk_drewN ?_ _ | refine blk_drew ?_ | refine blk_alloc ?_ _)); refine blk_put (cs := #[.int .i64 x167000_2, .int .i64 x167001_2, .slice none 0 0]) ?_ 0 _ rfl; (with_reducible repeat (first | refine blk_drewN ?_ _ | refine blk_drew ?_ | refine blk_alloc ?_ _)); exact BK166.out) Try.underlying54 rfl (by kernel_rfl)) rfl ?_
               exact ⟨_, by first | rfl | (simp [errW_none, errW_some] <;> rfl) | (simp [*, errW_none, errW_some] <;> rfl), by first | exact Kd.R_nil _ _ _ _ _ | exact Kd.N_nil _ _ _ _ _ | exact Kd.V_nil _ _ _ _ _ | exact Kd.Q_nil _ _ _ _ _ | exact Kd.S_nil _ _ _ _ _, by repeat (first | (with_reducible first | exact HB.out | apply below_alloc | apply pw_below_drewN | apply below_drew1 | refine below_set ?_ GE166.out | refine below_set ?_ GE174.out) | exact HB.out)⟩
              ·rw [if_neg c29] at H
               have c29b0 : decide (t180 < 0) = false := decide_eq_false c29
               clear c29
               by_cases c34 : 0 < (t179.length : Int)
               ·rw [if_pos c34] at H
                have c34b0 : decide (0 < (t179.length : Int)) = true := decide_eq_true c34
                have c34b1 : decide (0 < t179.length) = true := decide_eq_true (by omega)
                clear c34
                by_cases c35 : 1 < (t179.length : Int)
                ·rw [if_pos c35] at H
                 have c35b0 : decide (1 < (t179.length : Int)) = true := decide_eq_true c35
                 have c35b1 : decide (1 < t179.length) = true := decide_eq_true (by omega)
                 clear c35
                 by_cases c36 : 2 < (t179.length : Int)
                 ·rw [if_pos c36] at H
                  have c36b0 : decide (2 < (t179.length : Int)) = true := decide_eq_true c36
                  have c36b1 : decide (2 < t179.length) = true := decide_eq_true (by omega)
                  clear c36
                  by_cases c37 : 3 < (t179.length : Int)
                  ·rw [if_pos c37] at H
                   have c37b0 : decide (3 < (t179.length : Int)) = true := decide_eq_true c37
                   have c37b1 : decide (3 < t179.length) = true := decide_eq_true (by omega)
                   clear c37
                   by_cases c38 : x175002_2.length < 2932031007402
                   ·rw [if_pos c38] at H
                    have LMc38 := Aside0.mk c38
                    clear c38
                    obtain ⟨y187, hy187⟩ : ∃ y_ : List (S113), y_ = (x175002_2 ++ [(⟨t176, rd t179 0, rd t179 1, rd t179 2, rd t179 3⟩ : S113)]) := ⟨_, rfl⟩
                    replace H : (spec_ReadHint.l0 k2 a0 t167 (wrap64 ((wrap64 ((a0.size : Int) - (t177.size : Int))) + t180)) (wrap64 (x7_2 + 1)) (rd t167 0) (rd t167 1) y187) = some (r1, r2, r3, r4) := by first | (rw [hy187]; with_reducible exact H) | (have H2_ := (Option.bind_some _ _).symm.trans H; rw [hy187]; with_reducible exact H2_) | (have H2_ := (Option.bind_some _ _).symm.trans H; with_reducible exact H2_) | with_reducible exact H | (rw [hy187]; exact H) | exact H
                    have Ny187 := Aside0.mk hy187
                    clear hy187
                    have H' := Aside0.mk H
                    clear H
                    have p175 : 0 ≤ (2 : Int) := (by omega)
                    have q175 : 2 < (t167.length : Int) := of_decide_eq_true as_
                    obtain ⟨ad175, e175, hx175_0⟩ := Kd.at_int (Kd.R_reads' HO_4.out).2.2 2 p175 q175
                    obtain rfl : ad172 = ad175 := (by injection e175)
                    (try simp only [show (2 : Int).toNat = 2 from rfl, Nat.reduceMul, Nat.reduceEqDiff, Go.Addr.add, ↓reduceIte] at hx175_0)
                    have qi175 : (2 < t167.length) = True := eq_true (by omega)
                    (try rw [show ((2 : Int)).toNat = 2 from rfl] at hx175_0)
                    replace p175 := eq_true p175
                    replace q175 := eq_true q175
                    try go_wp2_with (first | ((with_reducible refine gate_callee (f := 73) rfl ?_); refine goesL_ (some 49) rfl rfl Try.func73 (by kernel_rfl) rfl #[.string (a0.extract (x5_2 : Int).toNat a0.size)] rfl ar_ ?_; (with_reducible refine (spec_l5Text.calls k2 (a0.extract (x5_2 : Int).toNat a0.size) t176 t177 true _ A26.out).mono ?_); rintro e w39 ⟨rfl, hb⟩; refine ⟨_, rfl, ?_⟩; have n0_ := Aside0.mk (Kd.R_below (rr_ HO_4) hb); have n1_ := Aside0.mk (Kd.R_below (rr_ HO_175002) hb); have n2_ := Aside0.mk (blk_below (g := gb166) (o := .cells #[.int .i64 x167000_2, .int .i64 x167001_2, .slice none 0 0] 54 (0, 0)) (bk_ BK166) hb); have n3_ := Aside0.mk (blk_below (g := gb174) (o := .cells #[.int .i64 (rd t167 0), .int .i64 (rd t167 1), u175002] 54 (0, 0)) (bk_ BK174) hb); have n4_ := Aside0.mk (below_step (by repeat (first | (with_reducible first | exact HB.out | apply below_alloc | apply pw_below_drewN | apply below_drew1 | refine below_set ?_ GE166.out | refine below_set ?_ GE174.out) | exact HB.out)) hb); clear HO_4; clear HO_175002; clear BK166; clear BK174; clear HB; have HO_4 := n0_; have HO_175002 := n1_; have BK166 := n2_; have BK174 := n3_; have HB := n4_; clear n0_ n1_ n2_ n3_ n4_; (try clear hb); (try clear hb2); (try clear hk); (try clear hi)) | ((with_reducible refine gate_callee (f := 113) rfl ?_); refine goesL_ (some 55) rfl rfl Try.func113 (by kernel_rfl) rfl #[.string t177, .int .i64 0, .int .i64 4] rfl ar_ ?_; (with_reducible refine (spec_l10Vars.calls k2 t177 0 4 t179 t180 _ A27.out).mono ?_); rintro e w40 ⟨v181, rfl, ho0, hb⟩; refine ⟨_, rfl, ?_⟩; have n0_ := Aside0.mk (Kd.R_elder' (rr_ HO_4) (Kd.R_base ho0) hb); have n1_ := Aside0.mk (Kd.R_below (rr_ HO_175002) hb); have n2_ := Aside0.mk (Kd.R_lower (Kd.R_new' ho0 (Kd.R_lt (rr_ HO_4))) (below_size (by repeat (first | (with_reducible first | exact HB.out | apply below_alloc | apply pw_below_drewN | apply below_drew1 | refine below_set ?_ GE166.out | refine below_set ?_ GE174.out) | exact HB.out)))); have n3_ := Aside0.mk (blk_below (g := gb166) (o := .cells #[.int .i64 x167000_2, .int .i64 x167001_2, .slice none 0 0] 54 (0, 0)) (bk_ BK166) hb); have n4_ := Aside0.mk (blk_below (g := gb174) (o := .cells #[.int .i64 (rd t167 0), .int .i64 (rd t167 1), u175002] 54 (0, 0)) (bk_ BK174) hb); have n5_ := Aside0.mk (below_step (by repeat (first | (with_reducible first | exact HB.out | apply below_alloc | apply pw_below_drewN | apply below_drew1 | refine below_set ?_ GE166.out | refine below_set ?_ GE174.out) | exact HB.out)) hb); clear HO_4; clear HO_175002; clear BK166; clear BK174; clear HB; have HO_4 := n0_; have HO_175002 := n1_; have HO182 := n2_; have BK166 := n3_; have BK174 := n4_; have HB := n5_; clear n0_ n1_ n2_ n3_ n4_ n5_; (try clear hb); (try clear hb2); (try clear hk); (try clear hi); (try clear ho0)))
                    have n0_ := Aside0.mk (Kd.R_drew HO_4.out)
                    have n1_ := Aside0.mk (Kd.R_drew HO_175002.out)
                    have n2_ := Aside0.mk (Kd.R_drew HO182.out)
                    have n3_ := Aside0.mk (blk_drew BK166.out)
                    have n4_ := Aside0.mk (blk_drew BK174.out)
                    have n5_ := Aside0.mk (below_drew1 HB.out)
                    clear HO_4
                    clear HO_175002
                    clear HO182
                    clear BK166
                    clear BK174
                    clear HB
                    have HO_4 := n0_
                    have HO_175002 := n1_
                    have HO182 := n2_
                    have BK166 := n3_
                    have BK174 := n4_
                    have HB := n5_
                    clear n0_ n1_ n2_ n3_ n4_ n5_
                    obtain ⟨Ao42, co42, eo42⟩ := Kd.R_slice HO182.out
                    (first | subst eo42 | (injection eo42 with f1_ f2_ f3_; have f4_ := f1_.symm; have f5_ := f3_.symm; clear f1_ f2_ f3_; subst f4_; subst f5_))
                    have p183 : 0 ≤ (0 : Int) := (by omega)
                    have q183 : 0 < (t179.length : Int) := of_decide_eq_true as_
                    obtain ⟨ad183, e183, hx183_0⟩ := Kd.at_int (Kd.R_reads' HO182.out).2.2 0 p183 q183
                    cases e183
                    have qi183 : (0 < t179.length) = True := eq_true (by omega)
                    (try rw [show ((0 : Int)).toNat = 0 from rfl] at hx183_0)
                    (try rw [Addr.add_zero'] at hx183_0)
                    replace p183 := eq_true p183
                    replace q183 := eq_true q183
                    have p184 : 0 ≤ (1 : Int) := (by omega)
                    have q184 : 1 < (t179.length : Int) := of_decide_eq_true as_
                    obtain ⟨ad184, e184, hx184_0⟩ := Kd.at_int (Kd.R_reads' HO182.out).2.2 1 p184 q184
                    obtain rfl : ad183 = ad184 := (by injection e184)
                    (try simp only [show (1 : Int).toNat = 1 from rfl, Nat.reduceMul, Nat.reduceEqDiff, Go.Addr.add, ↓reduceIte] at hx184_0)
                    have qi184 : (1 < t179.length) = True := eq_true (by omega)
                    (try rw [show ((1 : Int)).toNat = 1 from rfl] at hx184_0)
                    replace p184 := eq_true p184
                    replace q184 := eq_true q184
                    have p185 : 0 ≤ (2 : Int) := (by omega)
                    have q185 : 2 < (t179.length : Int) := of_decide_eq_true as_
                    obtain ⟨ad185, e185, hx185_0⟩ := Kd.at_int (Kd.R_reads' HO182.out).2.2 2 p185 q185
                    obtain rfl : ad183 = ad185 := (by injection e185)
                    (try simp only [show (2 : Int).toNat = 2 from rfl, Nat.reduceMul, Nat.reduceEqDiff, Go.Addr.add, ↓reduceIte] at hx185_0)
                    have qi185 : (2 < t179.length) = True := eq_true (by omega)
                    (try rw [show ((2 : Int)).toNat = 2 from rfl] at hx185_0)
                    replace p185 := eq_true p185
                    replace q185 := eq_true q185
                    have p186 : 0 ≤ (3 : Int) := (by omega)
                    have q186 : 3 < (t179.length : Int) := of_decide_eq_true as_
                    obtain ⟨ad186, e186, hx186_0⟩ := Kd.at_int (Kd.R_reads' HO182.out).2.2 3 p186 q186
                    obtain rfl : ad183 = ad186 := (by injection e186)
                    (try simp only [show (3 : Int).toNat = 3 from rfl, Nat.reduceMul, Nat.reduceEqDiff, Go.Addr.add, ↓reduceIte] at hx186_0)
                    have qi186 : (3 < t179.length) = True := eq_true (by omega)
                    (try rw [show ((3 : Int)).toNat = 3 from rfl] at hx186_0)
                    replace p186 := eq_true p186
                    replace q186 := eq_true q186
                    refine start_ (n := 20) (S := fun w' => w'.cell? ⟨gb174, 0, none⟩ = some (.int .i64 (rd t167 0)) ∧ w'.cell? ⟨gb174, 1, none⟩ = some (.int .i64 (rd t167 1)) ∧ w'.cell? ⟨gb174, 2, none⟩ = some (u175002) ∧ w'.cell? ad183 = some (.int .i64 (rd t179 0)) ∧ w'.cell? ⟨ad183.block, ad183.off + 1, none⟩ = some (.int .i64 (rd t179 1)) ∧ w'.cell? ⟨ad183.block, ad183.off + 2, none⟩ = some (.int .i64 (rd t179 2)) ∧ w'.cell? ⟨ad183.block, ad183.off + 3, none⟩ = some (.int .i64 (rd t179 3))) (ds := [17, 19]) (on_ 0 20) (by kernel_rfl) rfl rfl ⟨(blk_cell BK174.out 0).trans rfl, (blk_cell BK174.out 1).trans rfl, (blk_cell BK174.out 2).trans rfl, hx183_0, hx184_0, hx185_0, hx186_0⟩ (fun hHeld => ?_); refine with_tabW spec_ReadHint.tab14 spec_ReadHint.bits14 (fun HT_ HW_ => ?_)
                    generalize w40.drew = w41 at HO_4 HO_175002 HO182 BK166 BK174 HB hx183_0 hx184_0 hx185_0 hx186_0 hHeld ⊢
                    refine pv_ (i := 0) (N := some 65) (on_ 1 19) rfl rfl HT_ ?_
                    refine pv_ (i := 2) (N := some 67) #[i',o',i',o',o',o',o',o',o',o',o',o',o',o',o',o',o',o',o',o'] rfl rfl HT_ ?_
                    refine pv_ (i := 3) (N := some 68) #[i',o',i',i',o',o',o',o',o',o',o',o',o',o',o',o',o',o',o',o'] rfl rfl HT_ ?_
                    refine pv_ (i := 4) (N := some 69) #[i',o',i',i',i',o',o',o',o',o',o',o',o',o',o',o',o',o',o',o'] rfl rfl HT_ ?_
                    refine pv_ (i := 6) (N := some 71) #[i',o',i',i',i',o',i',o',o',o',o',o',o',o',o',o',o',o',o',o'] rfl rfl HT_ ?_
                    refine pv_ (i := 7) (N := some 72) #[i',o',i',i',i',o',i',i',o',o',o',o',o',o',o',o',o',o',o',o'] rfl rfl HT_ ?_
                    refine pv_ (i := 9) (N := some 74) #[i',o',i',i',i',o',i',i',o',i',o',o',o',o',o',o',o',o',o',o'] rfl rfl HT_ ?_
                    refine pv_ (i := 10) (N := some 75) #[i',o',i',i',i',o',i',i',o',i',i',o',o',o',o',o',o',o',o',o'] rfl rfl HT_ ?_
                    refine pv_ (i := 12) (N := some 77) #[i',o',i',i',i',o',i',i',o',i',i',o',i',o',o',o',o',o',o',o'] rfl rfl HT_ ?_
                    refine pv_ (i := 13) (N := some 78) #[i',o',i',i',i',o',i',i',o',i',i',o',i',i',o',o',o',o',o',o'] rfl rfl HT_ ?_
                    refine take_ (i := 1) (N := some 66) (v := ?_) (a' := ?_) #[i',i',i',i',i',o',i',i',o',i',i',o',i',i',o',o',o',o',o',o'] rfl rfl (take_ofW HT_.out HW_.out (by kernel_rfl)) (fun _ _ _ h => h) (Or.inl ⟨by rfl, ?_⟩) hHeld ?_ ?_
                    rotate_left
                    ·rintro w' ⟨s0, s1, s2, s3, s4, s5, s6⟩
                     go_simp
                     with_reducible rfl
                    rotate_left
                    ·simp only [Act.put, la_, lz_, ls_, i64_w, i32_w]
                     rfl
                    refine take_ (i := 5) (N := some 70) (v := ?_) (a' := ?_) #[i',i',i',i',i',i',i',i',o',i',i',o',i',i',o',o',o',o',o',o'] rfl rfl (take_ofW HT_.out HW_.out (by kernel_rfl)) (fun _ _ _ h => h) (Or.inl ⟨by rfl, ?_⟩) hHeld ?_ ?_
                    rotate_left
                    ·rintro w' ⟨s0, s1, s2, s3, s4, s5, s6⟩
                     go_simp
                     with_reducible rfl
                    rotate_left
                    ·simp only [Act.put, la_, lz_, ls_, i64_w, i32_w]
                     rfl
                    refine take_ (i := 8) (N := some 73) (v := ?_) (a' := ?_) #[i',i',i',i',i',i',i',i',i',i',i',o',i',i',o',o',o',o',o',o'] rfl rfl (take_ofW HT_.out HW_.out (by kernel_rfl)) (fun _ _ _ h => h) (Or.inl ⟨by rfl, ?_⟩) hHeld ?_ ?_
                    rotate_left
                    ·rintro w' ⟨s0, s1, s2, s3, s4, s5, s6⟩
                     go_simp
                     with_reducible rfl
                    rotate_left
                    ·simp only [Act.put, la_, lz_, ls_, i64_w, i32_w]
                     rfl
                    refine take_ (i := 11) (N := some 76) (v := ?_) (a' := ?_) (on_ 14 6) rfl rfl (take_ofW HT_.out HW_.out (by kernel_rfl)) (fun _ _ _ h => h) (Or.inl ⟨by rfl, ?_⟩) hHeld ?_ ?_
                    rotate_left
                    ·rintro w' ⟨s0, s1, s2, s3, s4, s5, s6⟩
                     go_simp
                     with_reducible rfl
                    rotate_left
                    ·simp only [Act.put, la_, lz_, ls_, i64_w, i32_w]
                     rfl
                    refine take_ (i := 14) (N := some 79) (v := ?_) (a' := ?_) (on_ 15 5) rfl rfl (take_ofW HT_.out HW_.out (by kernel_rfl)) (fun _ _ _ h => h) (Or.inl ⟨by rfl, ?_⟩) hHeld ?_ ?_
                    rotate_left
                    ·rintro w' ⟨s0, s1, s2, s3, s4, s5, s6⟩
                     go_simp
                     with_reducible rfl
                    rotate_left
                    ·simp only [Act.put, la_, lz_, ls_, i64_w, i32_w]
                     rfl
                    refine pv_ (i := 15) (N := some 80) (on_ 16 4) rfl rfl HT_ ?_
                    refine one_ (i := 16) (N := some 81) (on_ 17 3) rfl rfl (one_of HT_.out (by kernel_rfl)) (by decide) (fun K hK => ?_)
                    refine value_ (w1 := ?_) (v := ?_) (by rfl) rfl ?_ ?_
                    rotate_left 2
                    ·go_simp
                     constructor
                     ·rfl
                     ·rfl
                    refine hK.out _ _ ⟨(blk_cell (blk_alloc BK174.out _) 0).trans rfl, (blk_cell (blk_alloc BK174.out _) 1).trans rfl, (blk_cell (blk_alloc BK174.out _) 2).trans rfl, (World.cell?_alloc_lt _ _ _ (World.block_lt_of_cell? _ _ (hHeld.2.2.2.1))).trans (hHeld.2.2.2.1), (World.cell?_alloc_lt _ _ _ (World.block_lt_of_cell? _ _ (hHeld.2.2.2.2.1))).trans (hHeld.2.2.2.2.1), (World.cell?_alloc_lt _ _ _ (World.block_lt_of_cell? _ _ (hHeld.2.2.2.2.2.1))).trans (hHeld.2.2.2.2.2.1), (World.cell?_alloc_lt _ _ _ (World.block_lt_of_cell? _ _ (hHeld.2.2.2.2.2.2))).trans (hHeld.2.2.2.2.2.2)⟩ (fun hHeld => ?_)
                    clear hK K
                    refine norm_ (a' := ?_) ?_ ?_
                    rotate_left
                    ·show Act.put _ (some 81) _ = _
                     simp only [Act.put, la_, lz_, ls_, i64_w, i32_w]
                     rfl
                    refine last_ (i := 17) (N := some 82) (on_ 18 2) rfl rfl (one_of HT_.out (by kernel_rfl)) (by decide) (fun K hK => ?_)
                    refine Kd.R_append_step k113 (w0 := w) w.heap.size (by rfl) (.tmp 66) (.tmp 81) 52 113 (.agg #[(.string ⟨#[]⟩), (.int .i64 0), (.int .i64 0), (.int .i64 0), (.int .i64 0)]) 48 rfl Try.underlying52 info113 rfl (by decide) (by omega) u175002 x175002_2 (⟨t176, rd t179 0, rd t179 1, rd t179 2, rd t179 3⟩ : S113) [.string t176, .int .i64 (rd t179 0), .int .i64 (rd t179 1), .int .i64 (rd t179 2), .int .i64 (rd t179 3)] (fun _ => True) (fun _ => False) rfl rfl ?aP (fun _ hk => hk.elim) ?aF ?aO ?aB ?aS ?aL ?_
                    (case aP => exact k113_mkM _ _ _ (⟨t176, rd t179 0, rd t179 1, rd t179 2, rd t179 3⟩ : S113))
                    (case aB => exact (by repeat (first | (with_reducible first | exact HB.out | apply below_alloc | apply pw_below_drewN | apply below_drew1 | refine below_set ?_ GE166.out | refine below_set ?_ GE174.out) | exact HB.out)))
                    (case aF => exact (fun _ _ => trivial))
                    (case aO => exact (rr_ HO_175002))
                    (case aS => exact (below_size (by repeat (first | (with_reducible first | exact HB.out | apply below_alloc | apply pw_below_drewN | apply below_drew1 | refine below_set ?_ GE166.out | refine below_set ?_ GE174.out) | exact HB.out))))
                    (case aL => have := LMc38.out; omega)
                    intro v188 w43 ho hb hg hat
                    rw [← Ny187.out] at ho
                    have n0_ := Aside0.mk (Kd.R_over' (rr_ HO_4) (Kd.R_typed (rr_ HO_175002)) (by decide) hg)
                    have n1_ := Aside0.mk (blk_grown (g := gb166) (o := .cells #[.int .i64 x167000_2, .int .i64 x167001_2, .slice none 0 0] 54 (0, 0)) (bk_ BK166) hg (Kd.R_ne HO_175002.out BK166.out (by decide)))
                    have n2_ := Aside0.mk (blk_grown (g := gb174) (o := .cells #[.int .i64 (rd t167 0), .int .i64 (rd t167 1), u175002] 54 (0, 0)) (bk_ BK174) hg (Kd.R_ne HO_175002.out BK174.out (by decide)))
                    have n3_ := Aside0.mk (Kd.R_over' (rr_ HO182) (Kd.R_typed (rr_ HO_175002)) (by decide) hg)
                    have n4_ := Aside0.mk (hb)
                    have n5_ := Aside0.mk (ho)
                    clear HO_4
                    clear BK166
                    clear BK174
                    clear HO182
                    clear HB
                    clear HO_175002
                    have HO_4 := n0_
                    have BK166 := n1_
                    have BK174 := n2_
                    have HO182 := n3_
                    have HB := n4_
                    have HO189 := n5_
                    clear n0_ n1_ n2_ n3_ n4_ n5_
                    clear ho hb hg hat
                    obtain ⟨Ao44, co44, eo44⟩ := Kd.R_slice HO189.out
                    (first | subst eo44 | (injection eo44 with f1_ f2_ f3_; have f4_ := f1_.symm; have f5_ := f3_.symm; clear f1_ f2_ f3_; subst f4_; subst f5_))
                    refine hK.out _ _ ?_
                    clear hK K
                    refine norm_ (a' := ?_) ?_ ?_
                    rotate_left
                    ·show Act.put _ (some 82) _ = _
                     simp only [Act.put, la_, lz_, ls_, i64_w, i32_w]
                     rfl
                    refine pv_ (i := 18) (N := some 83) (on_ 19 1) rfl rfl HT_ ?_
                    refine last_ (i := 19) (N := none) (on_ 20 0) rfl rfl (one_of HT_.out (by kernel_rfl)) (by decide) (fun K hK => ?_)
                    have hs45 : w43.cell? ⟨gb174, 2, none⟩ = some (u175002) := (blk_cell BK174.out 2).trans rfl
                    have hfs45 := blk_frozen BK174.out 2
                    have hns45_0 := NB166_174.out
                    have hms45_0 := NB174_166.out
                    refine skip_ (w1 := ?_) (by rfl) rfl ?_ ?_
                    rotate_left
                    ·go_simp
                     rfl
                    refine hK.out _ _ ?_
                    clear hK K
                    refine done_ (done_of HT_.out (by kernel_rfl)) ?_
                    try go_wp2
                    go_roundg k2
                    case measure => have := HJ5.out; have := HK2.out; first | exact this | exact Nat.le_of_succ_le this | exact Nat.le_refl _ | omega
                    case rel => exact ⟨(wrap64 ((wrap64 ((a0.size : Int) - (t177.size : Int))) + t180)), (wrap64 (x7_2 + 1)), (x167000_2), (x167001_2), (y187), (.slice Ao44 y187.length co44), rs_, rs_, H', ⟨by have := HJ5.out; have := HK2.out; first | exact this | exact Nat.le_of_succ_le this | exact Nat.le_refl _ | omega⟩, ⟨by (with_reducible repeat (first | apply Kd.R_alloc | apply Kd.R_drewN | apply Kd.R_drew)); exact Kd.R_mono (Kd.R_far (p := ⟨gb174, 2, none⟩) (Kd.R_types HO_4.out BK174.out (by decide)) (fun _ hk => hk.2) (.slice Ao44 y187.length co44)) (fun _ hk => trivial)⟩, ⟨by (with_reducible repeat (first | apply Kd.R_alloc | apply Kd.R_drewN | apply Kd.R_drew)); exact Kd.R_mono (Kd.R_far (p := ⟨gb174, 2, none⟩) (Kd.R_types HO189.out BK174.out (by decide)) (fun _ hk => hk.2) (.slice Ao44 y187.length co44)) (fun _ hk => trivial)⟩, ⟨by (with_reducible repeat (first | refine blk_drewN ?_ _ | refine blk_drew ?_ | refine blk_alloc ?_ _)); refine blk_far ?_ NB166_174.out _; (with_reducible repeat (first | refine blk_drewN ?_ _ | refine blk_drew ?_ | refine blk_alloc ?_ _)); exact BK166.out⟩, ⟨by (with_reducible repeat (first | refine blk_drewN ?_ _ | refine blk_drew ?_ | refine blk_alloc ?_ _)); refine blk_put (cs := #[.int .i64 (rd t167 0), .int .i64 (rd t167 1), u175002]) ?_ 2 _ rfl; (with_reducible repeat (first | refine blk_drewN ?_ _ | refine blk_drew ?_ | refine blk_alloc ?_ _)); exact BK174.out⟩, ⟨by repeat (first | (with_reducible first | exact HB.out | apply below_alloc | apply pw_below_drewN | apply below_drew1 | refine below_set ?_ GE166.out | refine below_set ?_ GE174.out) | exact HB.out)⟩⟩
                   ·rw [if_neg c38] at H
                    exact absurd H (by simp)
                  ·rw [if_neg c37] at H
                   exact absurd H (by simp)
                 ·rw [if_neg c36] at H
                  exact absurd H (by simp)
                ·rw [if_neg c35] at H
                 exact absurd H (by simp)
               ·rw [if_neg c34] at H
                exact absurd H (by simp)
             ·replace c28 := Bool.eq_false_iff.mpr c28
              subst c28
              have H1 : (some (0, 0, ([] : List (S113)), false)) = some (r1, r2, r3, r4) := by rw [if_neg (show ¬ (false = true) by decide)] at H; exact H
              clear H
              have H := H1
              clear H1
              simp only [Option.some.injEq, Prod.mk.injEq] at H
              obtain ⟨rfl, rfl, rfl, rfl⟩ := H
              have p175 : 0 ≤ (2 : Int) := (by omega)
              have q175 : 2 < (t167.length : Int) := of_decide_eq_true as_
              obtain ⟨ad175, e175, hx175_0⟩ := Kd.at_int (Kd.R_reads' HO_4.out).2.2 2 p175 q175
              obtain rfl : ad172 = ad175 := (by injection e175)
              (try simp only [show (2 : Int).toNat = 2 from rfl, Nat.reduceMul, Nat.reduceEqDiff, Go.Addr.add, ↓reduceIte] at hx175_0)
              have qi175 : (2 < t167.length) = True := eq_true (by omega)
              (try rw [show ((2 : Int)).toNat = 2 from rfl] at hx175_0)
              replace p175 := eq_true p175
              replace q175 := eq_true q175
              go_wp2_with (first | ((with_reducible refine gate_callee (f := 73) rfl ?_); refine goesL_ (some 49) rfl rfl Try.func73 (by kernel_rfl) rfl #[.string (a0.extract (x5_2 : Int).toNat a0.size)] rfl ar_ ?_; (with_reducible refine (spec_l5Text.calls k2 (a0.extract (x5_2 : Int).toNat a0.size) t176 t177 false _ A26.out).mono ?_); rintro e w46 ⟨rfl, hb⟩; refine ⟨_, rfl, ?_⟩; have n0_ := Aside0.mk (Kd.R_below (rr_ HO_4) hb); have n1_ := Aside0.mk (Kd.R_below (rr_ HO_175002) hb); have n2_ := Aside0.mk (blk_below (g := gb166) (o := .cells #[.int .i64 x167000_2, .int .i64 x167001_2, .slice none 0 0] 54 (0, 0)) (bk_ BK166) hb); have n3_ := Aside0.mk (blk_below (g := gb174) (o := .cells #[.int .i64 (rd t167 0), .int .i64 (rd t167 1), u175002] 54 (0, 0)) (bk_ BK174) hb); have n4_ := Aside0.mk (below_step (by repeat (first | (with_reducible first | exact HB.out | apply below_alloc | apply pw_below_drewN | apply below_drew1 | refine below_set ?_ GE166.out | refine below_set ?_ GE174.out) | exact HB.out)) hb); clear HO_4; clear HO_175002; clear BK166; clear BK174; clear HB; have HO_4 := n0_; have HO_175002 := n1_; have BK166 := n2_; have BK174 := n3_; have HB := n4_; clear n0_ n1_ n2_ n3_ n4_; (try clear hb); (try clear hb2); (try clear hk); (try clear hi)) | ((with_reducible refine gate_callee (f := 113) rfl ?_); refine goesL_ (some 55) rfl rfl Try.func113 (by kernel_rfl) rfl #[.string t177, .int .i64 0, .int .i64 4] rfl ar_ ?_; (with_reducible refine (spec_l10Vars.calls k2 t177 0 4 t179 t180 _ A27.out).mono ?_); rintro e w47 ⟨v181, rfl, ho0, hb⟩; refine ⟨_, rfl, ?_⟩; have n0_ := Aside0.mk (Kd.R_elder' (rr_ HO_4) (Kd.R_base ho0) hb); have n1_ := Aside0.mk (Kd.R_below (rr_ HO_175002) hb); have n2_ := Aside0.mk (Kd.R_lower (Kd.R_new' ho0 (Kd.R_lt (rr_ HO_4))) (below_size (by repeat (first | (with_reducible first | exact HB.out | apply below_alloc | apply pw_below_drewN | apply below_drew1 | refine below_set ?_ GE166.out | refine below_set ?_ GE174.out) | exact HB.out)))); have n3_ := Aside0.mk (blk_below (g := gb166) (o := .cells #[.int .i64 x167000_2, .int .i64 x167001_2, .slice none 0 0] 54 (0, 0)) (bk_ BK166) hb); have n4_ := Aside0.mk (blk_below (g := gb174) (o := .cells #[.int .i64 (rd t167 0), .int .i64 (rd t167 1), u175002] 54 (0, 0)) (bk_ BK174) hb); have n5_ := Aside0.mk (below_step (by repeat (first | (with_reducible first | exact HB.out | apply below_alloc | apply pw_below_drewN | apply below_drew1 | refine below_set ?_ GE166.out | refine below_set ?_ GE174.out) | exact HB.out)) hb); clear HO_4; clear HO_175002; clear BK166; clear BK174; clear HB; have HO_4 := n0_; have HO_175002 := n1_; have HO182 := n2_; have BK166 := n3_; have BK174 := n4_; have HB := n5_; clear n0_ n1_ n2_ n3_ n4_ n5_; (try clear hb); (try clear hb2); (try clear hk); (try clear hi); (try clear ho0); have hnb48 := NB166_174.out; have hnc48 := NB174_166.out; have hcz49_0 : w47.cell? ⟨gb166, 0, none⟩ = some (.int .i64 x167000_2) := (blk_cell BK166.out 0).trans rfl; have hcz49_1 : w47.cell? ⟨gb166, 1, none⟩ = some (.int .i64 x167001_2) := (blk_cell BK166.out 1).trans rfl; have hcz49_2 : w47.cell? ⟨gb166, 2, none⟩ = some (.slice none 0 0) := (blk_cell BK166.out 2).trans rfl; have hfz49_0 := blk_frozen BK166.out 0; have hfz49_1 := blk_frozen BK166.out 1; have hfz49_2 := blk_frozen BK166.out 2))
              refine bodyPost_ret (results_ct rfl _ _ gb166 54 #[.int .i64 0, .int .i64 0, .slice none 0 0] (0, 0) _ rfl (by (with_reducible repeat (first | refine blk_drewN ?_ _ | refine blk_drew ?_ | refine blk_alloc ?_ _)); refine blk_put (cs := #[.int .i64 0, .int .i64 0, .slice none 0 0]) ?_ 2 _ rfl; (with_reducible repeat (first | refine blk_drewN ?_ _ | refine blk_drew ?_ | refine blk_alloc ?_ _)); refine blk_put (cs := #[.int .i64 0, .int .i64 x167001_2, .slice none 0 0]) ?_ 1 _ rfl; (with_reducible repeat (first | refine blk_drewN ?_ _ | refine blk_drew ?_ | refine blk_alloc ?_ _)); refine blk_put (cs := #[.int .i64 x167000_2, .int .i64 x167001_2, .slice none 0 0]) ?_ 0 _ rfl; (with_reducible repeat (first | refine blk_drewN ?_ _ | refine blk_drew ?_ | refine blk_alloc ?_ _)); exact BK166.out) Try.underlying54 rfl (by kernel_rfl)) rfl ?_
              exact ⟨_, by first | rfl | (simp [errW_none, errW_some] <;> rfl) | (simp [*, errW_none, errW_some] <;> rfl), by first | exact Kd.R_nil _ _ _ _ _ | exact Kd.N_nil _ _ _ _ _ | exact Kd.V_nil _ _ _ _ _ | exact Kd.Q_nil _ _ _ _ _ | exact Kd.S_nil _ _ _ _ _, by repeat (first | (with_reducible first | exact HB.out | apply below_alloc | apply pw_below_drewN | apply below_drew1 | refine below_set ?_ GE166.out | refine below_set ?_ GE174.out) | exact HB.out)⟩
            ·rw [if_neg c25] at H
             exact absurd H (by simp)
           ·rw [if_neg c24] at H
            exact absurd H (by simp)
          ·rw [if_neg c23] at H
           have c23b0 : decide (x7_2 < (rd t167 2)) = false := decide_eq_false c23
           clear c23
           replace H := Option.bind_eq_some_iff.mp H
           obtain ⟨t190, A500, H⟩ := H
           replace H : (if t190.toList = a0.toList then (some ((rd t167 0), (rd t167 1), x175002_2, true)) else (some (0, 0, ([] : List (S113)), false))) = some (r1, r2, r3, r4) := H
           have A50 := Aside0.mk A500
           clear A500
           by_cases c51 : t190.toList = a0.toList
           ·rw [if_pos c51] at H
            have c51b0 : (t190.toList == a0.toList) = true := beq_iff_eq.mpr c51
            have c51b1 : (t190.toList != a0.toList) = false := bne_eq_false_iff_eq.mpr c51
            clear c51
            simp only [Option.some.injEq, Prod.mk.injEq] at H
            obtain ⟨rfl, rfl, rfl, rfl⟩ := H
            have p175 : 0 ≤ (2 : Int) := (by omega)
            have q175 : 2 < (t167.length : Int) := of_decide_eq_true as_
            obtain ⟨ad175, e175, hx175_0⟩ := Kd.at_int (Kd.R_reads' HO_4.out).2.2 2 p175 q175
            obtain rfl : ad172 = ad175 := (by injection e175)
            (try simp only [show (2 : Int).toNat = 2 from rfl, Nat.reduceMul, Nat.reduceEqDiff, Go.Addr.add, ↓reduceIte] at hx175_0)
            have qi175 : (2 < t167.length) = True := eq_true (by omega)
            (try rw [show ((2 : Int)).toNat = 2 from rfl] at hx175_0)
            replace p175 := eq_true p175
            replace q175 := eq_true q175
            have hnb52 := NB174_166.out
            have hnc52 := NB166_174.out
            have hcz53_0 : wr.cell? ⟨gb174, 0, none⟩ = some (.int .i64 (rd t167 0)) := (blk_cell BK174.out 0).trans rfl
            have hcz53_1 : wr.cell? ⟨gb174, 1, none⟩ = some (.int .i64 (rd t167 1)) := (blk_cell BK174.out 1).trans rfl
            have hcz53_2 : wr.cell? ⟨gb174, 2, none⟩ = some (u175002) := (blk_cell BK174.out 2).trans rfl
            have hfz53_0 := blk_frozen BK174.out 0
            have hfz53_1 := blk_frozen BK174.out 1
            have hfz53_2 := blk_frozen BK174.out 2
            obtain ⟨Ao54, co54, eo54⟩ := Kd.R_slice HO_175002.out
            subst eo54
            go_wp2_with (first | ((with_reducible refine gate_callee (f := 29) rfl ?_); refine goesL_ (some 92) rfl rfl Try.func29 (by kernel_rfl) rfl #[.agg #[.int .i64 (rd t167 0), .int .i64 (rd t167 1), .slice Ao54 x175002_2.length co54]] rfl ar_ ?_; (with_reducible refine (spec_ShowHint.calls k2 (rd t167 0) (rd t167 1) _ _ x175002_2 t190 _ ?side1 ?side2 A50.out).mono ?_); (case side1 => repeat (first | exact (Kd.R_reads' HO_175002.out).2.2 | (with_reducible refine Kd.C_alloc ?_ _) | (with_reducible refine Kd.C_drewN ?_ _) | (with_reducible refine Kd.C_drew ?_))); (case side2 => exact (Kd.R_reads' HO_175002.out).2.1); rintro e w55 ⟨rfl, hb⟩; refine ⟨_, rfl, ?_⟩; have n0_ := Aside0.mk (Kd.R_below (rr_ HO_4) hb); have n1_ := Aside0.mk (Kd.R_below (rr_ HO_175002) hb); have n2_ := Aside0.mk (blk_below (g := gb166) (o := .cells #[.int .i64 x167000_2, .int .i64 x167001_2, .slice none 0 0] 54 (0, 0)) (bk_ BK166) hb); have n3_ := Aside0.mk (blk_below (g := gb174) (o := .cells #[.int .i64 (rd t167 0), .int .i64 (rd t167 1), .slice Ao54 x175002_2.length co54] 54 (0, 0)) (bk_ BK174) hb); have n4_ := Aside0.mk (below_step (by repeat (first | (with_reducible first | exact HB.out | apply below_alloc | apply pw_below_drewN | apply below_drew1 | refine below_set ?_ GE166.out | refine below_set ?_ GE174.out) | exact HB.out)) hb); clear HO_4; clear HO_175002; clear BK166; clear BK174; clear HB; have HO_4 := n0_; have HO_175002 := n1_; have BK166 := n2_; have BK174 := n3_; have HB := n4_; clear n0_ n1_ n2_ n3_ n4_; (try clear hb); (try clear hb2); (try clear hk); (try clear hi); have hcz56_0 : w55.cell? ⟨gb174, 0, none⟩ = some (.int .i64 (rd t167 0)) := (blk_cell BK174.out 0).trans rfl; have hcz56_1 : w55.cell? ⟨gb174, 1, none⟩ = some (.int .i64 (rd t167 1)) := (blk_cell BK174.out 1).trans rfl; have hcz56_2 : w55.cell? ⟨gb174, 2, none⟩ = some (.slice Ao54 x175002_2.length co54) := (blk_cell BK174.out 2).trans rfl; have hfz56_0 := blk_frozen BK174.out 0; have hfz56_1 := blk_frozen BK174.out 1; have hfz56_2 := blk_frozen BK174.out 2; have hcz57_0 : w55.cell? ⟨gb166, 0, none⟩ = some (.int .i64 x167000_2) := (blk_cell BK166.out 0).trans rfl; have hcz57_1 : w55.cell? ⟨gb166, 1, none⟩ = some (.int .i64 x167001_2) := (blk_cell BK166.out 1).trans rfl; have hcz57_2 : w55.cell? ⟨gb166, 2, none⟩ = some (.slice none 0 0) := (blk_cell BK166.out 2).trans rfl; have hfz57_0 := blk_frozen BK166.out 0; have hfz57_1 := blk_frozen BK166.out 1; have hfz57_2 := blk_frozen BK166.out 2))
            refine bodyPost_ret (results_ct rfl _ _ gb166 54 #[.int .i64 (rd t167 0), .int .i64 (rd t167 1), .slice Ao54 x175002_2.length co54] (0, 0) _ rfl (by (with_reducible repeat (first | refine blk_drewN ?_ _ | refine blk_drew ?_ | refine blk_alloc ?_ _)); refine blk_put (cs := #[.int .i64 (rd t167 0), .int .i64 (rd t167 1), .slice none 0 0]) ?_ 2 _ rfl; (with_reducible repeat (first | refine blk_drewN ?_ _ | refine blk_drew ?_ | refine blk_alloc ?_ _)); refine blk_put (cs := #[.int .i64 (rd t167 0), .int .i64 x167001_2, .slice none 0 0]) ?_ 1 _ rfl; (with_reducible repeat (first | refine blk_drewN ?_ _ | refine blk_drew ?_ | refine blk_alloc ?_ _)); refine blk_put (cs := #[.int .i64 x167000_2, .int .i64 x167001_2, .slice none 0 0]) ?_ 0 _ rfl; (with_reducible repeat (first | refine blk_drewN ?_ _ | refine blk_drew ?_ | refine blk_alloc ?_ _)); exact BK166.out) Try.underlying54 rfl (by kernel_rfl)) rfl ?_
            exact ⟨_, by first | rfl | (simp [errW_none, errW_some] <;> rfl) | (simp [*, errW_none, errW_some] <;> rfl), by (with_reducible repeat (first | apply Kd.R_alloc | apply Kd.R_drewN | apply Kd.R_drew)); exact Kd.R_mono (Kd.R_far (p := ⟨gb166, 2, none⟩) (Kd.R_far (p := ⟨gb166, 1, none⟩) (Kd.R_far (p := ⟨gb166, 0, none⟩) (Kd.R_types HO_175002.out BK166.out (by decide)) (fun _ hk => hk.2) (.int .i64 (rd t167 0))) (fun _ hk => hk.2) (.int .i64 (rd t167 1))) (fun _ hk => hk.2) (.slice Ao54 x175002_2.length co54)) (fun _ hk => trivial), by repeat (first | (with_reducible first | exact HB.out | apply below_alloc | apply pw_below_drewN | apply below_drew1 | refine below_set ?_ GE166.out | refine below_set ?_ GE174.out) | exact HB.out)⟩
           ·rw [if_neg c51] at H
            have c51b0 : (t190.toList == a0.toList) = false := beq_eq_false_iff_ne.mpr c51
            have c51b1 : (t190.toList != a0.toList) = true := bne_iff_ne.mpr c51
            simp only [Option.some.injEq, Prod.mk.injEq] at H
            obtain ⟨rfl, rfl, rfl, rfl⟩ := H
            have p175 : 0 ≤ (2 : Int) := (by omega)
            have q175 : 2 < (t167.length : Int) := of_decide_eq_true as_
            obtain ⟨ad175, e175, hx175_0⟩ := Kd.at_int (Kd.R_reads' HO_4.out).2.2 2 p175 q175
            obtain rfl : ad172 = ad175 := (by injection e175)
            (try simp only [show (2 : Int).toNat = 2 from rfl, Nat.reduceMul, Nat.reduceEqDiff, Go.Addr.add, ↓reduceIte] at hx175_0)
            have qi175 : (2 < t167.length) = True := eq_true (by omega)
            (try rw [show ((2 : Int)).toNat = 2 from rfl] at hx175_0)
            replace p175 := eq_true p175
            replace q175 := eq_true q175
            have hnb58 := NB174_166.out
            have hnc58 := NB166_174.out
            have hcz59_0 : wr.cell? ⟨gb174, 0, none⟩ = some (.int .i64 (rd t167 0)) := (blk_cell BK174.out 0).trans rfl
            have hcz59_1 : wr.cell? ⟨gb174, 1, none⟩ = some (.int .i64 (rd t167 1)) := (blk_cell BK174.out 1).trans rfl
            have hcz59_2 : wr.cell? ⟨gb174, 2, none⟩ = some (u175002) := (blk_cell BK174.out 2).trans rfl
            have hfz59_0 := blk_frozen BK174.out 0
            have hfz59_1 := blk_frozen BK174.out 1
            have hfz59_2 := blk_frozen BK174.out 2
            obtain ⟨Ao60, co60, eo60⟩ := Kd.R_slice HO_175002.out
            subst eo60
            go_wp2_with (first | ((with_reducible refine gate_callee (f := 29) rfl ?_); refine goesL_ (some 92) rfl rfl Try.func29 (by kernel_rfl) rfl #[.agg #[.int .i64 (rd t167 0), .int .i64 (rd t167 1), .slice Ao60 x175002_2.length co60]] rfl ar_ ?_; (with_reducible refine (spec_ShowHint.calls k2 (rd t167 0) (rd t167 1) _ _ x175002_2 t190 _ ?side1 ?side2 A50.out).mono ?_); (case side1 => repeat (first | exact (Kd.R_reads' HO_175002.out).2.2 | (with_reducible refine Kd.C_alloc ?_ _) | (with_reducible refine Kd.C_drewN ?_ _) | (with_reducible refine Kd.C_drew ?_))); (case side2 => exact (Kd.R_reads' HO_175002.out).2.1); rintro e w61 ⟨rfl, hb⟩; refine ⟨_, rfl, ?_⟩; have n0_ := Aside0.mk (Kd.R_below (rr_ HO_4) hb); have n1_ := Aside0.mk (Kd.R_below (rr_ HO_175002) hb); have n2_ := Aside0.mk (blk_below (g := gb166) (o := .cells #[.int .i64 x167000_2, .int .i64 x167001_2, .slice none 0 0] 54 (0, 0)) (bk_ BK166) hb); have n3_ := Aside0.mk (blk_below (g := gb174) (o := .cells #[.int .i64 (rd t167 0), .int .i64 (rd t167 1), .slice Ao60 x175002_2.length co60] 54 (0, 0)) (bk_ BK174) hb); have n4_ := Aside0.mk (below_step (by repeat (first | (with_reducible first | exact HB.out | apply below_alloc | apply pw_below_drewN | apply below_drew1 | refine below_set ?_ GE166.out | refine below_set ?_ GE174.out) | exact HB.out)) hb); clear HO_4; clear HO_175002; clear BK166; clear BK174; clear HB; have HO_4 := n0_; have HO_175002 := n1_; have BK166 := n2_; have BK174 := n3_; have HB := n4_; clear n0_ n1_ n2_ n3_ n4_; (try clear hb); (try clear hb2); (try clear hk); (try clear hi); have hcz62_0 : w61.cell? ⟨gb166, 0, none⟩ = some (.int .i64 x167000_2) := (blk_cell BK166.out 0).trans rfl; have hcz62_1 : w61.cell? ⟨gb166, 1, none⟩ = some (.int .i64 x167001_2) := (blk_cell BK166.out 1).trans rfl; have hcz62_2 : w61.cell? ⟨gb166, 2, none⟩ = some (.slice none 0 0) := (blk_cell BK166.out 2).trans rfl; have hfz62_0 := blk_frozen BK166.out 0; have hfz62_1 := blk_frozen BK166.out 1; have hfz62_2 := blk_frozen BK166.out 2))
            refine bodyPost_ret (results_ct rfl _ _ gb166 54 #[.int .i64 0, .int .i64 0, .slice none 0 0] (0, 0) _ rfl (by (with_reducible repeat (first | refine blk_drewN ?_ _ | refine blk_drew ?_ | refine blk_alloc ?_ _)); refine blk_put (cs := #[.int .i64 0, .int .i64 0, .slice none 0 0]) ?_ 2 _ rfl; (with_reducible repeat (first | refine blk_drewN ?_ _ | refine blk_drew ?_ | refine blk_alloc ?_ _)); refine blk_put (cs := #[.int .i64 0, .int .i64 x167001_2, .slice none 0 0]) ?_ 1 _ rfl; (with_reducible repeat (first | refine blk_drewN ?_ _ | refine blk_drew ?_ | refine blk_alloc ?_ _)); refine blk_put (cs := #[.int .i64 x167000_2, .int .i64 x167001_2, .slice none 0 0]) ?_ 0 _ rfl; (with_reducible repeat (first | refine blk_drewN ?_ _ | refine blk_drew ?_ | refine blk_alloc ?_ _)); exact BK166.out) Try.underlying54 rfl (by kernel_rfl)) rfl ?_
            exact ⟨_, by first | rfl | (simp [errW_none, errW_some] <;> rfl) | (simp [*, errW_none, errW_some] <;> rfl), by first | exact Kd.R_nil _ _ _ _ _ | exact Kd.N_nil _ _ _ _ _ | exact Kd.V_nil _ _ _ _ _ | exact Kd.Q_nil _ _ _ _ _ | exact Kd.S_nil _ _ _ _ _, by repeat (first | (with_reducible first | exact HB.out | apply below_alloc | apply pw_below_drewN | apply below_drew1 | refine below_set ?_ GE166.out | refine below_set ?_ GE174.out) | exact HB.out)⟩
         ·rw [if_neg c22] at H
          exact absurd H (by simp)
      ·rw [if_neg c15] at H
       exact absurd H (by simp)
     ·rw [if_neg c14] at H
      exact absurd H (by simp)

end Go.Proofs.Ytebeafcdabkkfaa.PFnExactReadHint
