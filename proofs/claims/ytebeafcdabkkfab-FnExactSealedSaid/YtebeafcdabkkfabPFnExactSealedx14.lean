-- Laid by a program of this session, a copy of the kit's printer with additions (wip/patch_print.py): myhead. Lean checks it.
import Derived.Test.YtebeafcdabkkfabPFnExactSealedx0
namespace Go.Proofs.Ytebeafcdabkkfab.PFnExactSealed
open Go.RowKit Go.Proofs.YtebeafcdabkkfabW.PrintWords Go.Proofs.YtebeafcdabkkfabW.PrintLast Go.Proofs.YtebeafcdabkkfabW.PrintMore
attribute [local go_sem] max2_int min2_int max_two min_two max_three min_three max_four min_four   -- for this text's walks alone
set_option linter.unusedVariables false
set_option linter.unusedSimpArgs false

/-! ### laws_eqIntS: function 13 -/
def laws_eqIntS.l0 : Nat → List Int → List Int → Int → Option (Bool)
 | 0, _, _, _ => none
 | k + 1, x0, x1, x5 => if x5 < (x0.length : Int) then (if 0 ≤ x5 then (if x5 < (x1.length : Int) then (if (rd x0 x5) = (rd x1 x5) then (laws_eqIntS.l0 k x0 x1 (wrap64 (x5 + 1))) else (some false)) else (none)) else (none)) else (some true)
def laws_eqIntS.f (k : Nat) (l0 : List Int) (l1 : List Int) : Option (Bool) := if (l0.length : Int) = (l1.length : Int) then (laws_eqIntS.l0 k l0 l1 0) else (some false)
theorem laws_eqIntS.mono_l : ∀ k, (∀ y0 y1 y2, LeO (laws_eqIntS.l0 k y0 y1 y2) (laws_eqIntS.l0 (k + 1) y0 y1 y2))
 | 0 => fun _ _ _ r h => by simp [laws_eqIntS.l0] at h
 | k + 1 => by
  have ih0 := laws_eqIntS.mono_l k
  ·intro y0 y1 y2
   unfold laws_eqIntS.l0
   repeat' first
   | (with_reducible exact ih0 _ _ _)
   | (with_reducible exact LeO.refl _)
   | (with_reducible exact LeO.none _)
   | (with_reducible refine LeO.ite ?_ ?_)
   | (with_reducible refine LeO.bind ?_ (fun _ => ?_))
   | exact ih0 _ _ _
   | exact LeO.none _
   | refine LeO.ite ?_ ?_
   | refine LeO.bind ?_ (fun _ => ?_)
theorem laws_eqIntS.mono : ∀ a0 a1 k, LeO (laws_eqIntS.f k a0 a1) (laws_eqIntS.f (k + 1) a0 a1) := by
 intro a0 a1 k
 have ih0 := laws_eqIntS.mono_l k
 unfold laws_eqIntS.f
 repeat' first
   | (with_reducible exact ih0 _ _ _)
   | (with_reducible exact LeO.refl _)
   | (with_reducible exact LeO.none _)
   | (with_reducible refine LeO.ite ?_ ?_)
   | (with_reducible refine LeO.bind ?_ (fun _ => ?_))
   | exact ih0 _ _ _
   | exact LeO.none _
   | refine LeO.ite ?_ ?_
   | refine LeO.bind ?_ (fun _ => ?_)
set_option maxHeartbeats 8000000 in
set_option maxRecDepth 100000 in
theorem laws_eqIntS.calls (k : Nat) (A0 : Option Addr) (c0 : Nat) (l0 : List Int) (A1 : Option Addr) (c1 : Nat) (l1 : List Int) (r : Bool) (w : World) (hr0 : Kd.C (Kd.int .i64) w A0 l0.length l0) (hc0 : l0.length ≤ c0) (hr1 : Kd.C (Kd.int .i64) w A1 l1.length l1) (hc1 : l1.length ≤ c1) (h : laws_eqIntS.f k l0 l1 = some r) :
  Calls Try.prog 13 #[.slice A0 l0.length c0, .slice A1 l1.length c1] w fun e w' => e = .returned (.bool r) ∧ Drawn0 w w' := by
 have HR0 := Aside0.mk hr0
 have HC0 := Aside0.mk hc0
 clear hr0 hc0
 have HR1 := Aside0.mk hr1
 have HC1 := Aside0.mk hc1
 clear hr1 hc1
 have H : (if (l0.length : Int) = (l1.length : Int) then (laws_eqIntS.l0 k l0 l1 0) else (some false)) = some r := h
 clear h
 by_cases c3 : (l0.length : Int) = (l1.length : Int)
 ·rw [if_pos c3] at H
  have c3b0 : ((l0.length : Int) == (l1.length : Int)) = true := beq_iff_eq.mpr c3
  have c3b1 : ((l0.length : Int) != (l1.length : Int)) = false := bne_eq_false_iff_eq.mpr c3
  have c3b2 : (l0.length == l1.length) = true := by first | simpa using c3 | (simp at c3 ⊢; omega)
  clear c3
  have H' := Aside0.mk H
  clear H
  go_enter Try.func13, Try.ntmps13
  go_wp2
  repeat (go_quiet (fail); try go_wp2)
  go_loopg [5] k (fun kq v5 w' => ∃ (x5_1 : Int), v5 = .int .i64 x5_1 ∧ Aside0 (laws_eqIntS.l0 kq l0 l1 x5_1 = some r) ∧ Aside0 (kq ≤ k) ∧ Drawn0 w w')
  case atStart => exact ⟨(0), rs_, H', ⟨Nat.le_refl _⟩, by repeat (first | exact Drawn0.refl _ | apply Drawn0.step)⟩
  case round =>
   clear H'
   try clear c1
   try clear p2
   try clear c3
   try clear c3b0
   try clear c3b1
   try clear c3b2
   obtain ⟨x5_1, rfl, HA, HK1, ⟨m1, rfl⟩⟩ := hrel
   cases gk with
   | zero => exact absurd HA.out (by simp [laws_eqIntS.l0])
   | succ k1 =>
    have H := HA.out
    clear HA
    simp only [laws_eqIntS.l0] at H
    by_cases c4 : x5_1 < (l0.length : Int)
    ·rw [if_pos c4] at H
     have c4b0 : decide (x5_1 < (l0.length : Int)) = true := decide_eq_true c4
     clear c4
     by_cases c5 : 0 ≤ x5_1
     ·rw [if_pos c5] at H
      have c5b0 : decide (0 ≤ x5_1) = true := decide_eq_true c5
      clear c5
      by_cases c6 : x5_1 < (l1.length : Int)
      ·rw [if_pos c6] at H
       have c6b0 : decide (x5_1 < (l1.length : Int)) = true := decide_eq_true c6
       clear c6
       by_cases c7 : (rd l0 x5_1) = (rd l1 x5_1)
       ·rw [if_pos c7] at H
        have c7b0 : ((rd l0 x5_1) == (rd l1 x5_1)) = true := beq_iff_eq.mpr c7
        have c7b1 : ((rd l0 x5_1) != (rd l1 x5_1)) = false := bne_eq_false_iff_eq.mpr c7
        clear c7
        have H' := Aside0.mk H
        clear H
        have p291 : 0 ≤ (x5_1 : Int) := of_decide_eq_true as_
        have q291 : x5_1 < (l0.length : Int) := of_decide_eq_true as_
        obtain ⟨ad291, e291, hx291_0⟩ := Kd.at_int HR0.out x5_1 p291 q291
        cases e291
        replace p291 := eq_true p291
        replace q291 := eq_true q291
        have p292 : 0 ≤ (x5_1 : Int) := of_decide_eq_true as_
        have q292 : x5_1 < (l1.length : Int) := of_decide_eq_true as_
        obtain ⟨ad292, e292, hx292_0⟩ := Kd.at_int HR1.out x5_1 p292 q292
        cases e292
        replace p292 := eq_true p292
        replace q292 := eq_true q292
        go_wp2
        repeat (go_quiet (fail); try go_wp2)
        go_roundg k1
        case measure => have := HK1.out; first | exact this | exact Nat.le_of_succ_le this | exact Nat.le_refl _ | omega
        case rel => exact ⟨(wrap64 (x5_1 + 1)), rs_, H', ⟨by have := HK1.out; first | exact this | exact Nat.le_of_succ_le this | exact Nat.le_refl _ | omega⟩, by repeat (first | exact Drawn0.refl _ | apply Drawn0.step)⟩
       ·rw [if_neg c7] at H
        have c7b0 : ((rd l0 x5_1) == (rd l1 x5_1)) = false := beq_eq_false_iff_ne.mpr c7
        have c7b1 : ((rd l0 x5_1) != (rd l1 x5_1)) = true := bne_iff_ne.mpr c7
        obtain rfl := Option.some.inj H
        have p291 : 0 ≤ (x5_1 : Int) := of_decide_eq_true as_
        have q291 : x5_1 < (l0.length : Int) := of_decide_eq_true as_
        obtain ⟨ad291, e291, hx291_0⟩ := Kd.at_int HR0.out x5_1 p291 q291
        cases e291
        replace p291 := eq_true p291
        replace q291 := eq_true q291
        have p292 : 0 ≤ (x5_1 : Int) := of_decide_eq_true as_
        have q292 : x5_1 < (l1.length : Int) := of_decide_eq_true as_
        obtain ⟨ad292, e292, hx292_0⟩ := Kd.at_int HR1.out x5_1 p292 q292
        cases e292
        replace p292 := eq_true p292
        replace q292 := eq_true q292
        go_wp2
        repeat (go_quiet (fail); try go_wp2)
        go_ret
        exact ⟨by first | rfl | (simp; done) | (simp [*]; done), by repeat (first | exact Drawn0.refl _ | apply Drawn0.step)⟩
      ·rw [if_neg c6] at H
       exact absurd H (by simp)
     ·rw [if_neg c5] at H
      exact absurd H (by simp)
    ·rw [if_neg c4] at H
     have c4b0 : decide (x5_1 < (l0.length : Int)) = false := decide_eq_false c4
     clear c4
     obtain rfl := Option.some.inj H
     go_wp2
     repeat (go_quiet (fail); try go_wp2)
     go_ret
     exact ⟨by first | rfl | (simp; done) | (simp [*]; done), by repeat (first | exact Drawn0.refl _ | apply Drawn0.step)⟩
 ·rw [if_neg c3] at H
  have c3b0 : ((l0.length : Int) == (l1.length : Int)) = false := beq_eq_false_iff_ne.mpr c3
  have c3b1 : ((l0.length : Int) != (l1.length : Int)) = true := bne_iff_ne.mpr c3
  have c3b2 : (l0.length == l1.length) = false := by first | simpa using c3 | (simp at c3 ⊢; omega)
  obtain rfl := Option.some.inj H
  go_enter Try.func13, Try.ntmps13
  go_wp2
  repeat (go_quiet (fail); try go_wp2)
  go_ret
  exact ⟨by first | rfl | (simp; done) | (simp [*]; done), by repeat (first | exact Drawn0.refl _ | apply Drawn0.step)⟩

/-! ### laws_eqRec: function 86 -/
def laws_eqRec.f (a0_0 : Int) (a0_1 : Int) (a0_2 : ByteArray) (a0_3 : ByteArray) (a0_4 : Int) (a0_5 : Int) (a1_0 : Int) (a1_1 : Int) (a1_2 : ByteArray) (a1_3 : ByteArray) (a1_4 : Int) (a1_5 : Int) : Option (Bool) := if a0_0 = a1_0 then (if a0_1 = a1_1 then (if a0_2.toList = a1_2.toList then (if a0_3.toList = a1_3.toList then (if a0_4 = a1_4 then (if a0_5 = a1_5 then (some true) else (some false)) else (some false)) else (some false)) else (some false)) else (some false)) else (some false)
set_option maxHeartbeats 8000000 in
set_option maxRecDepth 100000 in
theorem laws_eqRec.calls (a0_0 : Int) (a0_1 : Int) (a0_2 : ByteArray) (a0_3 : ByteArray) (a0_4 : Int) (a0_5 : Int) (a1_0 : Int) (a1_1 : Int) (a1_2 : ByteArray) (a1_3 : ByteArray) (a1_4 : Int) (a1_5 : Int) (r : Bool) (w : World) (h : laws_eqRec.f a0_0 a0_1 a0_2 a0_3 a0_4 a0_5 a1_0 a1_1 a1_2 a1_3 a1_4 a1_5 = some r) :
  Calls Try.prog 86 #[.agg #[.int .i64 a0_0, .int .i64 a0_1, .string a0_2, .string a0_3, .int .i64 a0_4, .int .i64 a0_5], .agg #[.int .i64 a1_0, .int .i64 a1_1, .string a1_2, .string a1_3, .int .i64 a1_4, .int .i64 a1_5]] w fun e w' => e = .returned (.bool r) ∧ Below w.heap.size w w' := by
 have hu47 := Try.underlying47
 have HB := Aside0.mk (Below.refl w.heap.size w)
 have H : (if a0_0 = a1_0 then (if a0_1 = a1_1 then (if a0_2.toList = a1_2.toList then (if a0_3.toList = a1_3.toList then (if a0_4 = a1_4 then (if a0_5 = a1_5 then (some true) else (some false)) else (some false)) else (some false)) else (some false)) else (some false)) else (some false)) = some r := h
 clear h
 by_cases c3 : a0_0 = a1_0
 ·rw [if_pos c3] at H
  have c3b0 : (a0_0 == a1_0) = true := beq_iff_eq.mpr c3
  have c3b1 : (a0_0 != a1_0) = false := bne_eq_false_iff_eq.mpr c3
  clear c3
  by_cases c4 : a0_1 = a1_1
  ·rw [if_pos c4] at H
   have c4b0 : (a0_1 == a1_1) = true := beq_iff_eq.mpr c4
   have c4b1 : (a0_1 != a1_1) = false := bne_eq_false_iff_eq.mpr c4
   clear c4
   by_cases c5 : a0_2.toList = a1_2.toList
   ·rw [if_pos c5] at H
    have c5b0 : (a0_2.toList == a1_2.toList) = true := beq_iff_eq.mpr c5
    have c5b1 : (a0_2.toList != a1_2.toList) = false := bne_eq_false_iff_eq.mpr c5
    clear c5
    by_cases c6 : a0_3.toList = a1_3.toList
    ·rw [if_pos c6] at H
     have c6b0 : (a0_3.toList == a1_3.toList) = true := beq_iff_eq.mpr c6
     have c6b1 : (a0_3.toList != a1_3.toList) = false := bne_eq_false_iff_eq.mpr c6
     clear c6
     by_cases c7 : a0_4 = a1_4
     ·rw [if_pos c7] at H
      have c7b0 : (a0_4 == a1_4) = true := beq_iff_eq.mpr c7
      have c7b1 : (a0_4 != a1_4) = false := bne_eq_false_iff_eq.mpr c7
      clear c7
      by_cases c8 : a0_5 = a1_5
      ·rw [if_pos c8] at H
       have c8b0 : (a0_5 == a1_5) = true := beq_iff_eq.mpr c8
       have c8b1 : (a0_5 != a1_5) = false := bne_eq_false_iff_eq.mpr c8
       clear c8
       obtain rfl := Option.some.inj H
       go_enter Try.func86, Try.ntmps86
       go_wp2_with (first | ((with_reducible refine gate_dst (N := 2) rfl ?_); refine box_event ?hg (N := 2) ?hd (cs := #[.int .i64 a0_0, .int .i64 a0_1, .string a0_2, .string a0_3, .int .i64 a0_4, .int .i64 a0_5]) (t := 47) ?hr ?_; (case hd => rfl); (case hg => rfl); (case hr => first | (go_simp; done) | (go_simp; rfl)); intro gb293 hg w9 hbox hb; have n0_ := Aside0.mk (below_step (hb_ HB) hb); have n1_ := Aside0.mk (hbox); have n2_ := Aside0.mk ((by rw [hg]; exact (below_size (hb_ HB)) : w.heap.size ≤ gb293)); have n3_ := Aside0.mk ((by rw [hg]; exact (below_size (hb_ HB)) : w.heap.size ≤ gb293)); clear HB; have HB := n0_; have BK293 := n1_; have GW293 := n2_; have GE293 := n3_; clear n0_ n1_ n2_ n3_; clear hb hbox hg) | ((with_reducible refine gate_dst (N := 3) rfl ?_); refine box_event ?hg (N := 3) ?hd (cs := #[.int .i64 a1_0, .int .i64 a1_1, .string a1_2, .string a1_3, .int .i64 a1_4, .int .i64 a1_5]) (t := 47) ?hr ?_; (case hd => rfl); (case hg => rfl); (case hr => first | (go_simp; done) | (go_simp; rfl)); intro gb294 hg w10 hbox hb; have n0_ := Aside0.mk (blk_below (g := gb293) (o := .cells #[.int .i64 a0_0, .int .i64 a0_1, .string a0_2, .string a0_3, .int .i64 a0_4, .int .i64 a0_5] 47 (0, 0)) (bk_ BK293) hb); have n1_ := Aside0.mk (below_step (hs_ HB GE293) hb); have n2_ := Aside0.mk (hbox); have n3_ := Aside0.mk ((by rw [hg]; exact (below_size (hs_ HB GE293)) : w.heap.size ≤ gb294)); have n4_ := Aside0.mk ((by rw [hg]; exact (below_size (hs_ HB GE293)) : w.heap.size ≤ gb294)); have n5_ := Aside0.mk ((by rw [hg]; exact Nat.ne_of_lt (blk_lt (g := gb293) (o := .cells #[.int .i64 a0_0, .int .i64 a0_1, .string a0_2, .string a0_3, .int .i64 a0_4, .int .i64 a0_5] 47 (0, 0)) (bk_ BK293)) : gb293 ≠ gb294)); have n6_ := Aside0.mk ((by rw [hg]; exact Nat.ne_of_gt (blk_lt (g := gb293) (o := .cells #[.int .i64 a0_0, .int .i64 a0_1, .string a0_2, .string a0_3, .int .i64 a0_4, .int .i64 a0_5] 47 (0, 0)) (bk_ BK293)) : gb294 ≠ gb293)); clear BK293; clear HB; have BK293 := n0_; have HB := n1_; have BK294 := n2_; have GW294 := n3_; have GE294 := n4_; have NB293_294 := n5_; have NB294_293 := n6_; clear n0_ n1_ n2_ n3_ n4_ n5_ n6_; clear hb hbox hg; have hnb11 := NB293_294.out; have hnc11 := NB294_293.out; have hcz12_0 : w10.cell? ⟨gb293, 0, none⟩ = some (.int .i64 a0_0) := (blk_cell BK293.out 0).trans rfl; have hcz12_1 : w10.cell? ⟨gb293, 1, none⟩ = some (.int .i64 a0_1) := (blk_cell BK293.out 1).trans rfl; have hcz12_2 : w10.cell? ⟨gb293, 2, none⟩ = some (.string a0_2) := (blk_cell BK293.out 2).trans rfl; have hcz12_3 : w10.cell? ⟨gb293, 3, none⟩ = some (.string a0_3) := (blk_cell BK293.out 3).trans rfl; have hcz12_4 : w10.cell? ⟨gb293, 4, none⟩ = some (.int .i64 a0_4) := (blk_cell BK293.out 4).trans rfl; have hcz12_5 : w10.cell? ⟨gb293, 5, none⟩ = some (.int .i64 a0_5) := (blk_cell BK293.out 5).trans rfl; have hfz12_0 := blk_frozen BK293.out 0; have hfz12_1 := blk_frozen BK293.out 1; have hfz12_2 := blk_frozen BK293.out 2; have hfz12_3 := blk_frozen BK293.out 3; have hfz12_4 := blk_frozen BK293.out 4; have hfz12_5 := blk_frozen BK293.out 5; have hcz13_0 : w10.cell? ⟨gb294, 0, none⟩ = some (.int .i64 a1_0) := (blk_cell BK294.out 0).trans rfl; have hcz13_1 : w10.cell? ⟨gb294, 1, none⟩ = some (.int .i64 a1_1) := (blk_cell BK294.out 1).trans rfl; have hcz13_2 : w10.cell? ⟨gb294, 2, none⟩ = some (.string a1_2) := (blk_cell BK294.out 2).trans rfl; have hcz13_3 : w10.cell? ⟨gb294, 3, none⟩ = some (.string a1_3) := (blk_cell BK294.out 3).trans rfl; have hcz13_4 : w10.cell? ⟨gb294, 4, none⟩ = some (.int .i64 a1_4) := (blk_cell BK294.out 4).trans rfl; have hcz13_5 : w10.cell? ⟨gb294, 5, none⟩ = some (.int .i64 a1_5) := (blk_cell BK294.out 5).trans rfl; have hfz13_0 := blk_frozen BK294.out 0; have hfz13_1 := blk_frozen BK294.out 1; have hfz13_2 := blk_frozen BK294.out 2; have hfz13_3 := blk_frozen BK294.out 3; have hfz13_4 := blk_frozen BK294.out 4; have hfz13_5 := blk_frozen BK294.out 5))
       go_ret
       exact ⟨re_, by repeat (first | (with_reducible first | exact HB.out | apply below_alloc | apply pw_below_drewN | apply below_drew1 | refine below_set ?_ GE293.out | refine below_set ?_ GE294.out) | exact HB.out)⟩
      ·rw [if_neg c8] at H
       have c8b0 : (a0_5 == a1_5) = false := beq_eq_false_iff_ne.mpr c8
       have c8b1 : (a0_5 != a1_5) = true := bne_iff_ne.mpr c8
       obtain rfl := Option.some.inj H
       go_enter Try.func86, Try.ntmps86
       go_wp2_with (first | ((with_reducible refine gate_dst (N := 2) rfl ?_); refine box_event ?hg (N := 2) ?hd (cs := #[.int .i64 a0_0, .int .i64 a0_1, .string a0_2, .string a0_3, .int .i64 a0_4, .int .i64 a0_5]) (t := 47) ?hr ?_; (case hd => rfl); (case hg => rfl); (case hr => first | (go_simp; done) | (go_simp; rfl)); intro gb293 hg w14 hbox hb; have n0_ := Aside0.mk (below_step (hb_ HB) hb); have n1_ := Aside0.mk (hbox); have n2_ := Aside0.mk ((by rw [hg]; exact (below_size (hb_ HB)) : w.heap.size ≤ gb293)); have n3_ := Aside0.mk ((by rw [hg]; exact (below_size (hb_ HB)) : w.heap.size ≤ gb293)); clear HB; have HB := n0_; have BK293 := n1_; have GW293 := n2_; have GE293 := n3_; clear n0_ n1_ n2_ n3_; clear hb hbox hg) | ((with_reducible refine gate_dst (N := 3) rfl ?_); refine box_event ?hg (N := 3) ?hd (cs := #[.int .i64 a1_0, .int .i64 a1_1, .string a1_2, .string a1_3, .int .i64 a1_4, .int .i64 a1_5]) (t := 47) ?hr ?_; (case hd => rfl); (case hg => rfl); (case hr => first | (go_simp; done) | (go_simp; rfl)); intro gb294 hg w15 hbox hb; have n0_ := Aside0.mk (blk_below (g := gb293) (o := .cells #[.int .i64 a0_0, .int .i64 a0_1, .string a0_2, .string a0_3, .int .i64 a0_4, .int .i64 a0_5] 47 (0, 0)) (bk_ BK293) hb); have n1_ := Aside0.mk (below_step (hs_ HB GE293) hb); have n2_ := Aside0.mk (hbox); have n3_ := Aside0.mk ((by rw [hg]; exact (below_size (hs_ HB GE293)) : w.heap.size ≤ gb294)); have n4_ := Aside0.mk ((by rw [hg]; exact (below_size (hs_ HB GE293)) : w.heap.size ≤ gb294)); have n5_ := Aside0.mk ((by rw [hg]; exact Nat.ne_of_lt (blk_lt (g := gb293) (o := .cells #[.int .i64 a0_0, .int .i64 a0_1, .string a0_2, .string a0_3, .int .i64 a0_4, .int .i64 a0_5] 47 (0, 0)) (bk_ BK293)) : gb293 ≠ gb294)); have n6_ := Aside0.mk ((by rw [hg]; exact Nat.ne_of_gt (blk_lt (g := gb293) (o := .cells #[.int .i64 a0_0, .int .i64 a0_1, .string a0_2, .string a0_3, .int .i64 a0_4, .int .i64 a0_5] 47 (0, 0)) (bk_ BK293)) : gb294 ≠ gb293)); clear BK293; clear HB; have BK293 := n0_; have HB := n1_; have BK294 := n2_; have GW294 := n3_; have GE294 := n4_; have NB293_294 := n5_; have NB294_293 := n6_; clear n0_ n1_ n2_ n3_ n4_ n5_ n6_; clear hb hbox hg; have hnb16 := NB293_294.out; have hnc16 := NB294_293.out; have hcz17_0 : w15.cell? ⟨gb293, 0, none⟩ = some (.int .i64 a0_0) := (blk_cell BK293.out 0).trans rfl; have hcz17_1 : w15.cell? ⟨gb293, 1, none⟩ = some (.int .i64 a0_1) := (blk_cell BK293.out 1).trans rfl; have hcz17_2 : w15.cell? ⟨gb293, 2, none⟩ = some (.string a0_2) := (blk_cell BK293.out 2).trans rfl; have hcz17_3 : w15.cell? ⟨gb293, 3, none⟩ = some (.string a0_3) := (blk_cell BK293.out 3).trans rfl; have hcz17_4 : w15.cell? ⟨gb293, 4, none⟩ = some (.int .i64 a0_4) := (blk_cell BK293.out 4).trans rfl; have hcz17_5 : w15.cell? ⟨gb293, 5, none⟩ = some (.int .i64 a0_5) := (blk_cell BK293.out 5).trans rfl; have hfz17_0 := blk_frozen BK293.out 0; have hfz17_1 := blk_frozen BK293.out 1; have hfz17_2 := blk_frozen BK293.out 2; have hfz17_3 := blk_frozen BK293.out 3; have hfz17_4 := blk_frozen BK293.out 4; have hfz17_5 := blk_frozen BK293.out 5; have hcz18_0 : w15.cell? ⟨gb294, 0, none⟩ = some (.int .i64 a1_0) := (blk_cell BK294.out 0).trans rfl; have hcz18_1 : w15.cell? ⟨gb294, 1, none⟩ = some (.int .i64 a1_1) := (blk_cell BK294.out 1).trans rfl; have hcz18_2 : w15.cell? ⟨gb294, 2, none⟩ = some (.string a1_2) := (blk_cell BK294.out 2).trans rfl; have hcz18_3 : w15.cell? ⟨gb294, 3, none⟩ = some (.string a1_3) := (blk_cell BK294.out 3).trans rfl; have hcz18_4 : w15.cell? ⟨gb294, 4, none⟩ = some (.int .i64 a1_4) := (blk_cell BK294.out 4).trans rfl; have hcz18_5 : w15.cell? ⟨gb294, 5, none⟩ = some (.int .i64 a1_5) := (blk_cell BK294.out 5).trans rfl; have hfz18_0 := blk_frozen BK294.out 0; have hfz18_1 := blk_frozen BK294.out 1; have hfz18_2 := blk_frozen BK294.out 2; have hfz18_3 := blk_frozen BK294.out 3; have hfz18_4 := blk_frozen BK294.out 4; have hfz18_5 := blk_frozen BK294.out 5))
       go_ret
       exact ⟨re_, by repeat (first | (with_reducible first | exact HB.out | apply below_alloc | apply pw_below_drewN | apply below_drew1 | refine below_set ?_ GE293.out | refine below_set ?_ GE294.out) | exact HB.out)⟩
     ·rw [if_neg c7] at H
      have c7b0 : (a0_4 == a1_4) = false := beq_eq_false_iff_ne.mpr c7
      have c7b1 : (a0_4 != a1_4) = true := bne_iff_ne.mpr c7
      obtain rfl := Option.some.inj H
      go_enter Try.func86, Try.ntmps86
      go_wp2_with (first | ((with_reducible refine gate_dst (N := 2) rfl ?_); refine box_event ?hg (N := 2) ?hd (cs := #[.int .i64 a0_0, .int .i64 a0_1, .string a0_2, .string a0_3, .int .i64 a0_4, .int .i64 a0_5]) (t := 47) ?hr ?_; (case hd => rfl); (case hg => rfl); (case hr => first | (go_simp; done) | (go_simp; rfl)); intro gb293 hg w19 hbox hb; have n0_ := Aside0.mk (below_step (hb_ HB) hb); have n1_ := Aside0.mk (hbox); have n2_ := Aside0.mk ((by rw [hg]; exact (below_size (hb_ HB)) : w.heap.size ≤ gb293)); have n3_ := Aside0.mk ((by rw [hg]; exact (below_size (hb_ HB)) : w.heap.size ≤ gb293)); clear HB; have HB := n0_; have BK293 := n1_; have GW293 := n2_; have GE293 := n3_; clear n0_ n1_ n2_ n3_; clear hb hbox hg) | ((with_reducible refine gate_dst (N := 3) rfl ?_); refine box_event ?hg (N := 3) ?hd (cs := #[.int .i64 a1_0, .int .i64 a1_1, .string a1_2, .string a1_3, .int .i64 a1_4, .int .i64 a1_5]) (t := 47) ?hr ?_; (case hd => rfl); (case hg => rfl); (case hr => first | (go_simp; done) | (go_simp; rfl)); intro gb294 hg w20 hbox hb; have n0_ := Aside0.mk (blk_below (g := gb293) (o := .cells #[.int .i64 a0_0, .int .i64 a0_1, .string a0_2, .string a0_3, .int .i64 a0_4, .int .i64 a0_5] 47 (0, 0)) (bk_ BK293) hb); have n1_ := Aside0.mk (below_step (hs_ HB GE293) hb); have n2_ := Aside0.mk (hbox); have n3_ := Aside0.mk ((by rw [hg]; exact (below_size (hs_ HB GE293)) : w.heap.size ≤ gb294)); have n4_ := Aside0.mk ((by rw [hg]; exact (below_size (hs_ HB GE293)) : w.heap.size ≤ gb294)); have n5_ := Aside0.mk ((by rw [hg]; exact Nat.ne_of_lt (blk_lt (g := gb293) (o := .cells #[.int .i64 a0_0, .int .i64 a0_1, .string a0_2, .string a0_3, .int .i64 a0_4, .int .i64 a0_5] 47 (0, 0)) (bk_ BK293)) : gb293 ≠ gb294)); have n6_ := Aside0.mk ((by rw [hg]; exact Nat.ne_of_gt (blk_lt (g := gb293) (o := .cells #[.int .i64 a0_0, .int .i64 a0_1, .string a0_2, .string a0_3, .int .i64 a0_4, .int .i64 a0_5] 47 (0, 0)) (bk_ BK293)) : gb294 ≠ gb293)); clear BK293; clear HB; have BK293 := n0_; have HB := n1_; have BK294 := n2_; have GW294 := n3_; have GE294 := n4_; have NB293_294 := n5_; have NB294_293 := n6_; clear n0_ n1_ n2_ n3_ n4_ n5_ n6_; clear hb hbox hg; have hnb21 := NB293_294.out; have hnc21 := NB294_293.out; have hcz22_0 : w20.cell? ⟨gb293, 0, none⟩ = some (.int .i64 a0_0) := (blk_cell BK293.out 0).trans rfl; have hcz22_1 : w20.cell? ⟨gb293, 1, none⟩ = some (.int .i64 a0_1) := (blk_cell BK293.out 1).trans rfl; have hcz22_2 : w20.cell? ⟨gb293, 2, none⟩ = some (.string a0_2) := (blk_cell BK293.out 2).trans rfl; have hcz22_3 : w20.cell? ⟨gb293, 3, none⟩ = some (.string a0_3) := (blk_cell BK293.out 3).trans rfl; have hcz22_4 : w20.cell? ⟨gb293, 4, none⟩ = some (.int .i64 a0_4) := (blk_cell BK293.out 4).trans rfl; have hcz22_5 : w20.cell? ⟨gb293, 5, none⟩ = some (.int .i64 a0_5) := (blk_cell BK293.out 5).trans rfl; have hfz22_0 := blk_frozen BK293.out 0; have hfz22_1 := blk_frozen BK293.out 1; have hfz22_2 := blk_frozen BK293.out 2; have hfz22_3 := blk_frozen BK293.out 3; have hfz22_4 := blk_frozen BK293.out 4; have hfz22_5 := blk_frozen BK293.out 5; have hcz23_0 : w20.cell? ⟨gb294, 0, none⟩ = some (.int .i64 a1_0) := (blk_cell BK294.out 0).trans rfl; have hcz23_1 : w20.cell? ⟨gb294, 1, none⟩ = some (.int .i64 a1_1) := (blk_cell BK294.out 1).trans rfl; have hcz23_2 : w20.cell? ⟨gb294, 2, none⟩ = some (.string a1_2) := (blk_cell BK294.out 2).trans rfl; have hcz23_3 : w20.cell? ⟨gb294, 3, none⟩ = some (.string a1_3) := (blk_cell BK294.out 3).trans rfl; have hcz23_4 : w20.cell? ⟨gb294, 4, none⟩ = some (.int .i64 a1_4) := (blk_cell BK294.out 4).trans rfl; have hcz23_5 : w20.cell? ⟨gb294, 5, none⟩ = some (.int .i64 a1_5) := (blk_cell BK294.out 5).trans rfl; have hfz23_0 := blk_frozen BK294.out 0; have hfz23_1 := blk_frozen BK294.out 1; have hfz23_2 := blk_frozen BK294.out 2; have hfz23_3 := blk_frozen BK294.out 3; have hfz23_4 := blk_frozen BK294.out 4; have hfz23_5 := blk_frozen BK294.out 5))
      go_ret
      exact ⟨re_, by repeat (first | (with_reducible first | exact HB.out | apply below_alloc | apply pw_below_drewN | apply below_drew1 | refine below_set ?_ GE293.out | refine below_set ?_ GE294.out) | exact HB.out)⟩
    ·rw [if_neg c6] at H
     have c6b0 : (a0_3.toList == a1_3.toList) = false := beq_eq_false_iff_ne.mpr c6
     have c6b1 : (a0_3.toList != a1_3.toList) = true := bne_iff_ne.mpr c6
     obtain rfl := Option.some.inj H
     go_enter Try.func86, Try.ntmps86
     go_wp2_with (first | ((with_reducible refine gate_dst (N := 2) rfl ?_); refine box_event ?hg (N := 2) ?hd (cs := #[.int .i64 a0_0, .int .i64 a0_1, .string a0_2, .string a0_3, .int .i64 a0_4, .int .i64 a0_5]) (t := 47) ?hr ?_; (case hd => rfl); (case hg => rfl); (case hr => first | (go_simp; done) | (go_simp; rfl)); intro gb293 hg w24 hbox hb; have n0_ := Aside0.mk (below_step (hb_ HB) hb); have n1_ := Aside0.mk (hbox); have n2_ := Aside0.mk ((by rw [hg]; exact (below_size (hb_ HB)) : w.heap.size ≤ gb293)); have n3_ := Aside0.mk ((by rw [hg]; exact (below_size (hb_ HB)) : w.heap.size ≤ gb293)); clear HB; have HB := n0_; have BK293 := n1_; have GW293 := n2_; have GE293 := n3_; clear n0_ n1_ n2_ n3_; clear hb hbox hg) | ((with_reducible refine gate_dst (N := 3) rfl ?_); refine box_event ?hg (N := 3) ?hd (cs := #[.int .i64 a1_0, .int .i64 a1_1, .string a1_2, .string a1_3, .int .i64 a1_4, .int .i64 a1_5]) (t := 47) ?hr ?_; (case hd => rfl); (case hg => rfl); (case hr => first | (go_simp; done) | (go_simp; rfl)); intro gb294 hg w25 hbox hb; have n0_ := Aside0.mk (blk_below (g := gb293) (o := .cells #[.int .i64 a0_0, .int .i64 a0_1, .string a0_2, .string a0_3, .int .i64 a0_4, .int .i64 a0_5] 47 (0, 0)) (bk_ BK293) hb); have n1_ := Aside0.mk (below_step (hs_ HB GE293) hb); have n2_ := Aside0.mk (hbox); have n3_ := Aside0.mk ((by rw [hg]; exact (below_size (hs_ HB GE293)) : w.heap.size ≤ gb294)); have n4_ := Aside0.mk ((by rw [hg]; exact (below_size (hs_ HB GE293)) : w.heap.size ≤ gb294)); have n5_ := Aside0.mk ((by rw [hg]; exact Nat.ne_of_lt (blk_lt (g := gb293) (o := .cells #[.int .i64 a0_0, .int .i64 a0_1, .string a0_2, .string a0_3, .int .i64 a0_4, .int .i64 a0_5] 47 (0, 0)) (bk_ BK293)) : gb293 ≠ gb294)); have n6_ := Aside0.mk ((by rw [hg]; exact Nat.ne_of_gt (blk_lt (g := gb293) (o := .cells #[.int .i64 a0_0, .int .i64 a0_1, .string a0_2, .string a0_3, .int .i64 a0_4, .int .i64 a0_5] 47 (0, 0)) (bk_ BK293)) : gb294 ≠ gb293)); clear BK293; clear HB; have BK293 := n0_; have HB := n1_; have BK294 := n2_; have GW294 := n3_; have GE294 := n4_; have NB293_294 := n5_; have NB294_293 := n6_; clear n0_ n1_ n2_ n3_ n4_ n5_ n6_; clear hb hbox hg; have hnb26 := NB293_294.out; have hnc26 := NB294_293.out; have hcz27_0 : w25.cell? ⟨gb293, 0, none⟩ = some (.int .i64 a0_0) := (blk_cell BK293.out 0).trans rfl; have hcz27_1 : w25.cell? ⟨gb293, 1, none⟩ = some (.int .i64 a0_1) := (blk_cell BK293.out 1).trans rfl; have hcz27_2 : w25.cell? ⟨gb293, 2, none⟩ = some (.string a0_2) := (blk_cell BK293.out 2).trans rfl; have hcz27_3 : w25.cell? ⟨gb293, 3, none⟩ = some (.string a0_3) := (blk_cell BK293.out 3).trans rfl; have hcz27_4 : w25.cell? ⟨gb293, 4, none⟩ = some (.int .i64 a0_4) := (blk_cell BK293.out 4).trans rfl; have hcz27_5 : w25.cell? ⟨gb293, 5, none⟩ = some (.int .i64 a0_5) := (blk_cell BK293.out 5).trans rfl; have hfz27_0 := blk_frozen BK293.out 0; have hfz27_1 := blk_frozen BK293.out 1; have hfz27_2 := blk_frozen BK293.out 2; have hfz27_3 := blk_frozen BK293.out 3; have hfz27_4 := blk_frozen BK293.out 4; have hfz27_5 := blk_frozen BK293.out 5; have hcz28_0 : w25.cell? ⟨gb294, 0, none⟩ = some (.int .i64 a1_0) := (blk_cell BK294.out 0).trans rfl; have hcz28_1 : w25.cell? ⟨gb294, 1, none⟩ = some (.int .i64 a1_1) := (blk_cell BK294.out 1).trans rfl; have hcz28_2 : w25.cell? ⟨gb294, 2, none⟩ = some (.string a1_2) := (blk_cell BK294.out 2).trans rfl; have hcz28_3 : w25.cell? ⟨gb294, 3, none⟩ = some (.string a1_3) := (blk_cell BK294.out 3).trans rfl; have hcz28_4 : w25.cell? ⟨gb294, 4, none⟩ = some (.int .i64 a1_4) := (blk_cell BK294.out 4).trans rfl; have hcz28_5 : w25.cell? ⟨gb294, 5, none⟩ = some (.int .i64 a1_5) := (blk_cell BK294.out 5).trans rfl; have hfz28_0 := blk_frozen BK294.out 0; have hfz28_1 := blk_frozen BK294.out 1; have hfz28_2 := blk_frozen BK294.out 2; have hfz28_3 := blk_frozen BK294.out 3; have hfz28_4 := blk_frozen BK294.out 4; have hfz28_5 := blk_frozen BK294.out 5))
     go_ret
     exact ⟨re_, by repeat (first | (with_reducible first | exact HB.out | apply below_alloc | apply pw_below_drewN | apply below_drew1 | refine below_set ?_ GE293.out | refine below_set ?_ GE294.out) | exact HB.out)⟩
   ·rw [if_neg c5] at H
    have c5b0 : (a0_2.toList == a1_2.toList) = false := beq_eq_false_iff_ne.mpr c5
    have c5b1 : (a0_2.toList != a1_2.toList) = true := bne_iff_ne.mpr c5
    obtain rfl := Option.some.inj H
    go_enter Try.func86, Try.ntmps86
    go_wp2_with (first | ((with_reducible refine gate_dst (N := 2) rfl ?_); refine box_event ?hg (N := 2) ?hd (cs := #[.int .i64 a0_0, .int .i64 a0_1, .string a0_2, .string a0_3, .int .i64 a0_4, .int .i64 a0_5]) (t := 47) ?hr ?_; (case hd => rfl); (case hg => rfl); (case hr => first | (go_simp; done) | (go_simp; rfl)); intro gb293 hg w29 hbox hb; have n0_ := Aside0.mk (below_step (hb_ HB) hb); have n1_ := Aside0.mk (hbox); have n2_ := Aside0.mk ((by rw [hg]; exact (below_size (hb_ HB)) : w.heap.size ≤ gb293)); have n3_ := Aside0.mk ((by rw [hg]; exact (below_size (hb_ HB)) : w.heap.size ≤ gb293)); clear HB; have HB := n0_; have BK293 := n1_; have GW293 := n2_; have GE293 := n3_; clear n0_ n1_ n2_ n3_; clear hb hbox hg) | ((with_reducible refine gate_dst (N := 3) rfl ?_); refine box_event ?hg (N := 3) ?hd (cs := #[.int .i64 a1_0, .int .i64 a1_1, .string a1_2, .string a1_3, .int .i64 a1_4, .int .i64 a1_5]) (t := 47) ?hr ?_; (case hd => rfl); (case hg => rfl); (case hr => first | (go_simp; done) | (go_simp; rfl)); intro gb294 hg w30 hbox hb; have n0_ := Aside0.mk (blk_below (g := gb293) (o := .cells #[.int .i64 a0_0, .int .i64 a0_1, .string a0_2, .string a0_3, .int .i64 a0_4, .int .i64 a0_5] 47 (0, 0)) (bk_ BK293) hb); have n1_ := Aside0.mk (below_step (hs_ HB GE293) hb); have n2_ := Aside0.mk (hbox); have n3_ := Aside0.mk ((by rw [hg]; exact (below_size (hs_ HB GE293)) : w.heap.size ≤ gb294)); have n4_ := Aside0.mk ((by rw [hg]; exact (below_size (hs_ HB GE293)) : w.heap.size ≤ gb294)); have n5_ := Aside0.mk ((by rw [hg]; exact Nat.ne_of_lt (blk_lt (g := gb293) (o := .cells #[.int .i64 a0_0, .int .i64 a0_1, .string a0_2, .string a0_3, .int .i64 a0_4, .int .i64 a0_5] 47 (0, 0)) (bk_ BK293)) : gb293 ≠ gb294)); have n6_ := Aside0.mk ((by rw [hg]; exact Nat.ne_of_gt (blk_lt (g := gb293) (o := .cells #[.int .i64 a0_0, .int .i64 a0_1, .string a0_2, .string a0_3, .int .i64 a0_4, .int .i64 a0_5] 47 (0, 0)) (bk_ BK293)) : gb294 ≠ gb293)); clear BK293; clear HB; have BK293 := n0_; have HB := n1_; have BK294 := n2_; have GW294 := n3_; have GE294 := n4_; have NB293_294 := n5_; have NB294_293 := n6_; clear n0_ n1_ n2_ n3_ n4_ n5_ n6_; clear hb hbox hg; have hnb31 := NB293_294.out; have hnc31 := NB294_293.out; have hcz32_0 : w30.cell? ⟨gb293, 0, none⟩ = some (.int .i64 a0_0) := (blk_cell BK293.out 0).trans rfl; have hcz32_1 : w30.cell? ⟨gb293, 1, none⟩ = some (.int .i64 a0_1) := (blk_cell BK293.out 1).trans rfl; have hcz32_2 : w30.cell? ⟨gb293, 2, none⟩ = some (.string a0_2) := (blk_cell BK293.out 2).trans rfl; have hcz32_3 : w30.cell? ⟨gb293, 3, none⟩ = some (.string a0_3) := (blk_cell BK293.out 3).trans rfl; have hcz32_4 : w30.cell? ⟨gb293, 4, none⟩ = some (.int .i64 a0_4) := (blk_cell BK293.out 4).trans rfl; have hcz32_5 : w30.cell? ⟨gb293, 5, none⟩ = some (.int .i64 a0_5) := (blk_cell BK293.out 5).trans rfl; have hfz32_0 := blk_frozen BK293.out 0; have hfz32_1 := blk_frozen BK293.out 1; have hfz32_2 := blk_frozen BK293.out 2; have hfz32_3 := blk_frozen BK293.out 3; have hfz32_4 := blk_frozen BK293.out 4; have hfz32_5 := blk_frozen BK293.out 5; have hcz33_0 : w30.cell? ⟨gb294, 0, none⟩ = some (.int .i64 a1_0) := (blk_cell BK294.out 0).trans rfl; have hcz33_1 : w30.cell? ⟨gb294, 1, none⟩ = some (.int .i64 a1_1) := (blk_cell BK294.out 1).trans rfl; have hcz33_2 : w30.cell? ⟨gb294, 2, none⟩ = some (.string a1_2) := (blk_cell BK294.out 2).trans rfl; have hcz33_3 : w30.cell? ⟨gb294, 3, none⟩ = some (.string a1_3) := (blk_cell BK294.out 3).trans rfl; have hcz33_4 : w30.cell? ⟨gb294, 4, none⟩ = some (.int .i64 a1_4) := (blk_cell BK294.out 4).trans rfl; have hcz33_5 : w30.cell? ⟨gb294, 5, none⟩ = some (.int .i64 a1_5) := (blk_cell BK294.out 5).trans rfl; have hfz33_0 := blk_frozen BK294.out 0; have hfz33_1 := blk_frozen BK294.out 1; have hfz33_2 := blk_frozen BK294.out 2; have hfz33_3 := blk_frozen BK294.out 3; have hfz33_4 := blk_frozen BK294.out 4; have hfz33_5 := blk_frozen BK294.out 5))
    go_ret
    exact ⟨re_, by repeat (first | (with_reducible first | exact HB.out | apply below_alloc | apply pw_below_drewN | apply below_drew1 | refine below_set ?_ GE293.out | refine below_set ?_ GE294.out) | exact HB.out)⟩
  ·rw [if_neg c4] at H
   have c4b0 : (a0_1 == a1_1) = false := beq_eq_false_iff_ne.mpr c4
   have c4b1 : (a0_1 != a1_1) = true := bne_iff_ne.mpr c4
   obtain rfl := Option.some.inj H
   go_enter Try.func86, Try.ntmps86
   go_wp2_with (first | ((with_reducible refine gate_dst (N := 2) rfl ?_); refine box_event ?hg (N := 2) ?hd (cs := #[.int .i64 a0_0, .int .i64 a0_1, .string a0_2, .string a0_3, .int .i64 a0_4, .int .i64 a0_5]) (t := 47) ?hr ?_; (case hd => rfl); (case hg => rfl); (case hr => first | (go_simp; done) | (go_simp; rfl)); intro gb293 hg w34 hbox hb; have n0_ := Aside0.mk (below_step (hb_ HB) hb); have n1_ := Aside0.mk (hbox); have n2_ := Aside0.mk ((by rw [hg]; exact (below_size (hb_ HB)) : w.heap.size ≤ gb293)); have n3_ := Aside0.mk ((by rw [hg]; exact (below_size (hb_ HB)) : w.heap.size ≤ gb293)); clear HB; have HB := n0_; have BK293 := n1_; have GW293 := n2_; have GE293 := n3_; clear n0_ n1_ n2_ n3_; clear hb hbox hg) | ((with_reducible refine gate_dst (N := 3) rfl ?_); refine box_event ?hg (N := 3) ?hd (cs := #[.int .i64 a1_0, .int .i64 a1_1, .string a1_2, .string a1_3, .int .i64 a1_4, .int .i64 a1_5]) (t := 47) ?hr ?_; (case hd => rfl); (case hg => rfl); (case hr => first | (go_simp; done) | (go_simp; rfl)); intro gb294 hg w35 hbox hb; have n0_ := Aside0.mk (blk_below (g := gb293) (o := .cells #[.int .i64 a0_0, .int .i64 a0_1, .string a0_2, .string a0_3, .int .i64 a0_4, .int .i64 a0_5] 47 (0, 0)) (bk_ BK293) hb); have n1_ := Aside0.mk (below_step (hs_ HB GE293) hb); have n2_ := Aside0.mk (hbox); have n3_ := Aside0.mk ((by rw [hg]; exact (below_size (hs_ HB GE293)) : w.heap.size ≤ gb294)); have n4_ := Aside0.mk ((by rw [hg]; exact (below_size (hs_ HB GE293)) : w.heap.size ≤ gb294)); have n5_ := Aside0.mk ((by rw [hg]; exact Nat.ne_of_lt (blk_lt (g := gb293) (o := .cells #[.int .i64 a0_0, .int .i64 a0_1, .string a0_2, .string a0_3, .int .i64 a0_4, .int .i64 a0_5] 47 (0, 0)) (bk_ BK293)) : gb293 ≠ gb294)); have n6_ := Aside0.mk ((by rw [hg]; exact Nat.ne_of_gt (blk_lt (g := gb293) (o := .cells #[.int .i64 a0_0, .int .i64 a0_1, .string a0_2, .string a0_3, .int .i64 a0_4, .int .i64 a0_5] 47 (0, 0)) (bk_ BK293)) : gb294 ≠ gb293)); clear BK293; clear HB; have BK293 := n0_; have HB := n1_; have BK294 := n2_; have GW294 := n3_; have GE294 := n4_; have NB293_294 := n5_; have NB294_293 := n6_; clear n0_ n1_ n2_ n3_ n4_ n5_ n6_; clear hb hbox hg; have hnb36 := NB293_294.out; have hnc36 := NB294_293.out; have hcz37_0 : w35.cell? ⟨gb293, 0, none⟩ = some (.int .i64 a0_0) := (blk_cell BK293.out 0).trans rfl; have hcz37_1 : w35.cell? ⟨gb293, 1, none⟩ = some (.int .i64 a0_1) := (blk_cell BK293.out 1).trans rfl; have hcz37_2 : w35.cell? ⟨gb293, 2, none⟩ = some (.string a0_2) := (blk_cell BK293.out 2).trans rfl; have hcz37_3 : w35.cell? ⟨gb293, 3, none⟩ = some (.string a0_3) := (blk_cell BK293.out 3).trans rfl; have hcz37_4 : w35.cell? ⟨gb293, 4, none⟩ = some (.int .i64 a0_4) := (blk_cell BK293.out 4).trans rfl; have hcz37_5 : w35.cell? ⟨gb293, 5, none⟩ = some (.int .i64 a0_5) := (blk_cell BK293.out 5).trans rfl; have hfz37_0 := blk_frozen BK293.out 0; have hfz37_1 := blk_frozen BK293.out 1; have hfz37_2 := blk_frozen BK293.out 2; have hfz37_3 := blk_frozen BK293.out 3; have hfz37_4 := blk_frozen BK293.out 4; have hfz37_5 := blk_frozen BK293.out 5; have hcz38_0 : w35.cell? ⟨gb294, 0, none⟩ = some (.int .i64 a1_0) := (blk_cell BK294.out 0).trans rfl; have hcz38_1 : w35.cell? ⟨gb294, 1, none⟩ = some (.int .i64 a1_1) := (blk_cell BK294.out 1).trans rfl; have hcz38_2 : w35.cell? ⟨gb294, 2, none⟩ = some (.string a1_2) := (blk_cell BK294.out 2).trans rfl; have hcz38_3 : w35.cell? ⟨gb294, 3, none⟩ = some (.string a1_3) := (blk_cell BK294.out 3).trans rfl; have hcz38_4 : w35.cell? ⟨gb294, 4, none⟩ = some (.int .i64 a1_4) := (blk_cell BK294.out 4).trans rfl; have hcz38_5 : w35.cell? ⟨gb294, 5, none⟩ = some (.int .i64 a1_5) := (blk_cell BK294.out 5).trans rfl; have hfz38_0 := blk_frozen BK294.out 0; have hfz38_1 := blk_frozen BK294.out 1; have hfz38_2 := blk_frozen BK294.out 2; have hfz38_3 := blk_frozen BK294.out 3; have hfz38_4 := blk_frozen BK294.out 4; have hfz38_5 := blk_frozen BK294.out 5))
   go_ret
   exact ⟨re_, by repeat (first | (with_reducible first | exact HB.out | apply below_alloc | apply pw_below_drewN | apply below_drew1 | refine below_set ?_ GE293.out | refine below_set ?_ GE294.out) | exact HB.out)⟩
 ·rw [if_neg c3] at H
  have c3b0 : (a0_0 == a1_0) = false := beq_eq_false_iff_ne.mpr c3
  have c3b1 : (a0_0 != a1_0) = true := bne_iff_ne.mpr c3
  obtain rfl := Option.some.inj H
  go_enter Try.func86, Try.ntmps86
  go_wp2_with (first | ((with_reducible refine gate_dst (N := 2) rfl ?_); refine box_event ?hg (N := 2) ?hd (cs := #[.int .i64 a0_0, .int .i64 a0_1, .string a0_2, .string a0_3, .int .i64 a0_4, .int .i64 a0_5]) (t := 47) ?hr ?_; (case hd => rfl); (case hg => rfl); (case hr => first | (go_simp; done) | (go_simp; rfl)); intro gb293 hg w39 hbox hb; have n0_ := Aside0.mk (below_step (hb_ HB) hb); have n1_ := Aside0.mk (hbox); have n2_ := Aside0.mk ((by rw [hg]; exact (below_size (hb_ HB)) : w.heap.size ≤ gb293)); have n3_ := Aside0.mk ((by rw [hg]; exact (below_size (hb_ HB)) : w.heap.size ≤ gb293)); clear HB; have HB := n0_; have BK293 := n1_; have GW293 := n2_; have GE293 := n3_; clear n0_ n1_ n2_ n3_; clear hb hbox hg) | ((with_reducible refine gate_dst (N := 3) rfl ?_); refine box_event ?hg (N := 3) ?hd (cs := #[.int .i64 a1_0, .int .i64 a1_1, .string a1_2, .string a1_3, .int .i64 a1_4, .int .i64 a1_5]) (t := 47) ?hr ?_; (case hd => rfl); (case hg => rfl); (case hr => first | (go_simp; done) | (go_simp; rfl)); intro gb294 hg w40 hbox hb; have n0_ := Aside0.mk (blk_below (g := gb293) (o := .cells #[.int .i64 a0_0, .int .i64 a0_1, .string a0_2, .string a0_3, .int .i64 a0_4, .int .i64 a0_5] 47 (0, 0)) (bk_ BK293) hb); have n1_ := Aside0.mk (below_step (hs_ HB GE293) hb); have n2_ := Aside0.mk (hbox); have n3_ := Aside0.mk ((by rw [hg]; exact (below_size (hs_ HB GE293)) : w.heap.size ≤ gb294)); have n4_ := Aside0.mk ((by rw [hg]; exact (below_size (hs_ HB GE293)) : w.heap.size ≤ gb294)); have n5_ := Aside0.mk ((by rw [hg]; exact Nat.ne_of_lt (blk_lt (g := gb293) (o := .cells #[.int .i64 a0_0, .int .i64 a0_1, .string a0_2, .string a0_3, .int .i64 a0_4, .int .i64 a0_5] 47 (0, 0)) (bk_ BK293)) : gb293 ≠ gb294)); have n6_ := Aside0.mk ((by rw [hg]; exact Nat.ne_of_gt (blk_lt (g := gb293) (o := .cells #[.int .i64 a0_0, .int .i64 a0_1, .string a0_2, .string a0_3, .int .i64 a0_4, .int .i64 a0_5] 47 (0, 0)) (bk_ BK293)) : gb294 ≠ gb293)); clear BK293; clear HB; have BK293 := n0_; have HB := n1_; have BK294 := n2_; have GW294 := n3_; have GE294 := n4_; have NB293_294 := n5_; have NB294_293 := n6_; clear n0_ n1_ n2_ n3_ n4_ n5_ n6_; clear hb hbox hg; have hnb41 := NB293_294.out; have hnc41 := NB294_293.out; have hcz42_0 : w40.cell? ⟨gb293, 0, none⟩ = some (.int .i64 a0_0) := (blk_cell BK293.out 0).trans rfl; have hcz42_1 : w40.cell? ⟨gb293, 1, none⟩ = some (.int .i64 a0_1) := (blk_cell BK293.out 1).trans rfl; have hcz42_2 : w40.cell? ⟨gb293, 2, none⟩ = some (.string a0_2) := (blk_cell BK293.out 2).trans rfl; have hcz42_3 : w40.cell? ⟨gb293, 3, none⟩ = some (.string a0_3) := (blk_cell BK293.out 3).trans rfl; have hcz42_4 : w40.cell? ⟨gb293, 4, none⟩ = some (.int .i64 a0_4) := (blk_cell BK293.out 4).trans rfl; have hcz42_5 : w40.cell? ⟨gb293, 5, none⟩ = some (.int .i64 a0_5) := (blk_cell BK293.out 5).trans rfl; have hfz42_0 := blk_frozen BK293.out 0; have hfz42_1 := blk_frozen BK293.out 1; have hfz42_2 := blk_frozen BK293.out 2; have hfz42_3 := blk_frozen BK293.out 3; have hfz42_4 := blk_frozen BK293.out 4; have hfz42_5 := blk_frozen BK293.out 5; have hcz43_0 : w40.cell? ⟨gb294, 0, none⟩ = some (.int .i64 a1_0) := (blk_cell BK294.out 0).trans rfl; have hcz43_1 : w40.cell? ⟨gb294, 1, none⟩ = some (.int .i64 a1_1) := (blk_cell BK294.out 1).trans rfl; have hcz43_2 : w40.cell? ⟨gb294, 2, none⟩ = some (.string a1_2) := (blk_cell BK294.out 2).trans rfl; have hcz43_3 : w40.cell? ⟨gb294, 3, none⟩ = some (.string a1_3) := (blk_cell BK294.out 3).trans rfl; have hcz43_4 : w40.cell? ⟨gb294, 4, none⟩ = some (.int .i64 a1_4) := (blk_cell BK294.out 4).trans rfl; have hcz43_5 : w40.cell? ⟨gb294, 5, none⟩ = some (.int .i64 a1_5) := (blk_cell BK294.out 5).trans rfl; have hfz43_0 := blk_frozen BK294.out 0; have hfz43_1 := blk_frozen BK294.out 1; have hfz43_2 := blk_frozen BK294.out 2; have hfz43_3 := blk_frozen BK294.out 3; have hfz43_4 := blk_frozen BK294.out 4; have hfz43_5 := blk_frozen BK294.out 5))
  go_ret
  exact ⟨re_, by repeat (first | (with_reducible first | exact HB.out | apply below_alloc | apply pw_below_drewN | apply below_drew1 | refine below_set ?_ GE293.out | refine below_set ?_ GE294.out) | exact HB.out)⟩

/-! ### laws_eqPlace: function 52 -/
def laws_eqPlace.f (a0_0 : Int) (a0_1 : Int) (a0_2 : Int) (a0_3 : Int) (a0_4 : Int) (a0_5 : ByteArray) (a0_6 : ByteArray) (a0_7 : Int) (a0_8 : Int) (a1_0 : Int) (a1_1 : Int) (a1_2 : Int) (a1_3 : Int) (a1_4 : Int) (a1_5 : ByteArray) (a1_6 : ByteArray) (a1_7 : Int) (a1_8 : Int) : Option (Bool) := if a0_0 = a1_0 then (if a0_1 = a1_1 then (if a0_2 = a1_2 then ((laws_eqRec.f a0_3 a0_4 a0_5 a0_6 a0_7 a0_8 a1_3 a1_4 a1_5 a1_6 a1_7 a1_8).bind fun t297 => (if t297 = true then (some true) else (some false))) else (some false)) else (some false)) else (some false)
set_option maxHeartbeats 8000000 in
set_option maxRecDepth 100000 in
theorem laws_eqPlace.calls (a0_0 : Int) (a0_1 : Int) (a0_2 : Int) (a0_3 : Int) (a0_4 : Int) (a0_5 : ByteArray) (a0_6 : ByteArray) (a0_7 : Int) (a0_8 : Int) (a1_0 : Int) (a1_1 : Int) (a1_2 : Int) (a1_3 : Int) (a1_4 : Int) (a1_5 : ByteArray) (a1_6 : ByteArray) (a1_7 : Int) (a1_8 : Int) (r : Bool) (w : World) (h : laws_eqPlace.f a0_0 a0_1 a0_2 a0_3 a0_4 a0_5 a0_6 a0_7 a0_8 a1_0 a1_1 a1_2 a1_3 a1_4 a1_5 a1_6 a1_7 a1_8 = some r) :
  Calls Try.prog 52 #[.agg #[.int .i64 a0_0, .int .i64 a0_1, .int .i64 a0_2, .int .i64 a0_3, .int .i64 a0_4, .string a0_5, .string a0_6, .int .i64 a0_7, .int .i64 a0_8], .agg #[.int .i64 a1_0, .int .i64 a1_1, .int .i64 a1_2, .int .i64 a1_3, .int .i64 a1_4, .string a1_5, .string a1_6, .int .i64 a1_7, .int .i64 a1_8]] w fun e w' => e = .returned (.bool r) ∧ Below w.heap.size w w' := by
 have hu82 := Try.underlying82
 have hu47 := Try.underlying47
 have HB := Aside0.mk (Below.refl w.heap.size w)
 have H : (if a0_0 = a1_0 then (if a0_1 = a1_1 then (if a0_2 = a1_2 then ((laws_eqRec.f a0_3 a0_4 a0_5 a0_6 a0_7 a0_8 a1_3 a1_4 a1_5 a1_6 a1_7 a1_8).bind fun t297 => (if t297 = true then (some true) else (some false))) else (some false)) else (some false)) else (some false)) = some r := h
 clear h
 by_cases c3 : a0_0 = a1_0
 ·rw [if_pos c3] at H
  have c3b0 : (a0_0 == a1_0) = true := beq_iff_eq.mpr c3
  have c3b1 : (a0_0 != a1_0) = false := bne_eq_false_iff_eq.mpr c3
  clear c3
  by_cases c4 : a0_1 = a1_1
  ·rw [if_pos c4] at H
   have c4b0 : (a0_1 == a1_1) = true := beq_iff_eq.mpr c4
   have c4b1 : (a0_1 != a1_1) = false := bne_eq_false_iff_eq.mpr c4
   clear c4
   by_cases c5 : a0_2 = a1_2
   ·rw [if_pos c5] at H
    have c5b0 : (a0_2 == a1_2) = true := beq_iff_eq.mpr c5
    have c5b1 : (a0_2 != a1_2) = false := bne_eq_false_iff_eq.mpr c5
    clear c5
    replace H := Option.bind_eq_some_iff.mp H
    obtain ⟨t297, A60, H⟩ := H
    replace H : (if t297 = true then (some true) else (some false)) = some r := H
    have A6 := Aside0.mk A60
    clear A60
    by_cases c7 : t297 = true
    ·subst c7
     have H1 : (some true) = some r := by rw [if_pos rfl] at H; exact H
     clear H
     have H := H1
     clear H1
     obtain rfl := Option.some.inj H
     go_enter Try.func52, Try.ntmps52
     go_wp2_with (first | ((with_reducible refine gate_dst (N := 2) rfl ?_); refine box_event ?hg (N := 2) ?hd (cs := #[.int .i64 a0_0, .int .i64 a0_1, .int .i64 a0_2, .int .i64 a0_3, .int .i64 a0_4, .string a0_5, .string a0_6, .int .i64 a0_7, .int .i64 a0_8]) (t := 82) ?hr ?_; (case hd => rfl); (case hg => rfl); (case hr => first | (go_simp; done) | (go_simp; rfl)); intro gb295 hg w8 hbox hb; have n0_ := Aside0.mk (below_step (hb_ HB) hb); have n1_ := Aside0.mk (hbox); have n2_ := Aside0.mk ((by rw [hg]; exact (below_size (hb_ HB)) : w.heap.size ≤ gb295)); have n3_ := Aside0.mk ((by rw [hg]; exact (below_size (hb_ HB)) : w.heap.size ≤ gb295)); clear HB; have HB := n0_; have BK295 := n1_; have GW295 := n2_; have GE295 := n3_; clear n0_ n1_ n2_ n3_; clear hb hbox hg) | ((with_reducible refine gate_dst (N := 3) rfl ?_); refine box_event ?hg (N := 3) ?hd (cs := #[.int .i64 a1_0, .int .i64 a1_1, .int .i64 a1_2, .int .i64 a1_3, .int .i64 a1_4, .string a1_5, .string a1_6, .int .i64 a1_7, .int .i64 a1_8]) (t := 82) ?hr ?_; (case hd => rfl); (case hg => rfl); (case hr => first | (go_simp; done) | (go_simp; rfl)); intro gb296 hg w9 hbox hb; have n0_ := Aside0.mk (blk_below (g := gb295) (o := .cells #[.int .i64 a0_0, .int .i64 a0_1, .int .i64 a0_2, .int .i64 a0_3, .int .i64 a0_4, .string a0_5, .string a0_6, .int .i64 a0_7, .int .i64 a0_8] 82 (0, 0)) (bk_ BK295) hb); have n1_ := Aside0.mk (below_step (hs_ HB GE295) hb); have n2_ := Aside0.mk (hbox); have n3_ := Aside0.mk ((by rw [hg]; exact (below_size (hs_ HB GE295)) : w.heap.size ≤ gb296)); have n4_ := Aside0.mk ((by rw [hg]; exact (below_size (hs_ HB GE295)) : w.heap.size ≤ gb296)); have n5_ := Aside0.mk ((by rw [hg]; exact Nat.ne_of_lt (blk_lt (g := gb295) (o := .cells #[.int .i64 a0_0, .int .i64 a0_1, .int .i64 a0_2, .int .i64 a0_3, .int .i64 a0_4, .string a0_5, .string a0_6, .int .i64 a0_7, .int .i64 a0_8] 82 (0, 0)) (bk_ BK295)) : gb295 ≠ gb296)); have n6_ := Aside0.mk ((by rw [hg]; exact Nat.ne_of_gt (blk_lt (g := gb295) (o := .cells #[.int .i64 a0_0, .int .i64 a0_1, .int .i64 a0_2, .int .i64 a0_3, .int .i64 a0_4, .string a0_5, .string a0_6, .int .i64 a0_7, .int .i64 a0_8] 82 (0, 0)) (bk_ BK295)) : gb296 ≠ gb295)); clear BK295; clear HB; have BK295 := n0_; have HB := n1_; have BK296 := n2_; have GW296 := n3_; have GE296 := n4_; have NB295_296 := n5_; have NB296_295 := n6_; clear n0_ n1_ n2_ n3_ n4_ n5_ n6_; clear hb hbox hg; have hnb10 := NB295_296.out; have hnc10 := NB296_295.out; have hcz11_0 : w9.cell? ⟨gb295, 0, none⟩ = some (.int .i64 a0_0) := (blk_cell BK295.out 0).trans rfl; have hcz11_1 : w9.cell? ⟨gb295, 1, none⟩ = some (.int .i64 a0_1) := (blk_cell BK295.out 1).trans rfl; have hcz11_2 : w9.cell? ⟨gb295, 2, none⟩ = some (.int .i64 a0_2) := (blk_cell BK295.out 2).trans rfl; have hcz11_3 : w9.cell? ⟨gb295, 3, none⟩ = some (.int .i64 a0_3) := (blk_cell BK295.out 3).trans rfl; have hcz11_4 : w9.cell? ⟨gb295, 4, none⟩ = some (.int .i64 a0_4) := (blk_cell BK295.out 4).trans rfl; have hcz11_5 : w9.cell? ⟨gb295, 5, none⟩ = some (.string a0_5) := (blk_cell BK295.out 5).trans rfl; have hcz11_6 : w9.cell? ⟨gb295, 6, none⟩ = some (.string a0_6) := (blk_cell BK295.out 6).trans rfl; have hcz11_7 : w9.cell? ⟨gb295, 7, none⟩ = some (.int .i64 a0_7) := (blk_cell BK295.out 7).trans rfl; have hcz11_8 : w9.cell? ⟨gb295, 8, none⟩ = some (.int .i64 a0_8) := (blk_cell BK295.out 8).trans rfl; have hfz11_0 := blk_frozen BK295.out 0; have hfz11_1 := blk_frozen BK295.out 1; have hfz11_2 := blk_frozen BK295.out 2; have hfz11_3 := blk_frozen BK295.out 3; have hfz11_4 := blk_frozen BK295.out 4; have hfz11_5 := blk_frozen BK295.out 5; have hfz11_6 := blk_frozen BK295.out 6; have hfz11_7 := blk_frozen BK295.out 7; have hfz11_8 := blk_frozen BK295.out 8; have hcz12_0 : w9.cell? ⟨gb296, 0, none⟩ = some (.int .i64 a1_0) := (blk_cell BK296.out 0).trans rfl; have hcz12_1 : w9.cell? ⟨gb296, 1, none⟩ = some (.int .i64 a1_1) := (blk_cell BK296.out 1).trans rfl; have hcz12_2 : w9.cell? ⟨gb296, 2, none⟩ = some (.int .i64 a1_2) := (blk_cell BK296.out 2).trans rfl; have hcz12_3 : w9.cell? ⟨gb296, 3, none⟩ = some (.int .i64 a1_3) := (blk_cell BK296.out 3).trans rfl; have hcz12_4 : w9.cell? ⟨gb296, 4, none⟩ = some (.int .i64 a1_4) := (blk_cell BK296.out 4).trans rfl; have hcz12_5 : w9.cell? ⟨gb296, 5, none⟩ = some (.string a1_5) := (blk_cell BK296.out 5).trans rfl; have hcz12_6 : w9.cell? ⟨gb296, 6, none⟩ = some (.string a1_6) := (blk_cell BK296.out 6).trans rfl; have hcz12_7 : w9.cell? ⟨gb296, 7, none⟩ = some (.int .i64 a1_7) := (blk_cell BK296.out 7).trans rfl; have hcz12_8 : w9.cell? ⟨gb296, 8, none⟩ = some (.int .i64 a1_8) := (blk_cell BK296.out 8).trans rfl; have hfz12_0 := blk_frozen BK296.out 0; have hfz12_1 := blk_frozen BK296.out 1; have hfz12_2 := blk_frozen BK296.out 2; have hfz12_3 := blk_frozen BK296.out 3; have hfz12_4 := blk_frozen BK296.out 4; have hfz12_5 := blk_frozen BK296.out 5; have hfz12_6 := blk_frozen BK296.out 6; have hfz12_7 := blk_frozen BK296.out 7; have hfz12_8 := blk_frozen BK296.out 8) | ((with_reducible refine gate_callee (f := 86) rfl ?_); refine goesL_ (some 24) rfl rfl Try.func86 (by kernel_rfl) rfl #[.agg #[.int .i64 a0_3, .int .i64 a0_4, .string a0_5, .string a0_6, .int .i64 a0_7, .int .i64 a0_8], .agg #[.int .i64 a1_3, .int .i64 a1_4, .string a1_5, .string a1_6, .int .i64 a1_7, .int .i64 a1_8]] rfl ar_ ?_; (with_reducible refine (laws_eqRec.calls a0_3 a0_4 a0_5 a0_6 a0_7 a0_8 a1_3 a1_4 a1_5 a1_6 a1_7 a1_8 true _ A6.out).mono ?_); rintro e w13 ⟨rfl, hb⟩; refine ⟨_, rfl, ?_⟩; have n0_ := Aside0.mk (blk_below (g := gb295) (o := .cells #[.int .i64 a0_0, .int .i64 a0_1, .int .i64 a0_2, .int .i64 a0_3, .int .i64 a0_4, .string a0_5, .string a0_6, .int .i64 a0_7, .int .i64 a0_8] 82 (0, 0)) (bk_ BK295) hb); have n1_ := Aside0.mk (blk_below (g := gb296) (o := .cells #[.int .i64 a1_0, .int .i64 a1_1, .int .i64 a1_2, .int .i64 a1_3, .int .i64 a1_4, .string a1_5, .string a1_6, .int .i64 a1_7, .int .i64 a1_8] 82 (0, 0)) (bk_ BK296) hb); have n2_ := Aside0.mk (below_step (by repeat (first | (with_reducible first | exact HB.out | apply below_alloc | apply pw_below_drewN | apply below_drew1 | refine below_set ?_ GE295.out | refine below_set ?_ GE296.out) | exact HB.out)) hb); clear BK295; clear BK296; clear HB; have BK295 := n0_; have BK296 := n1_; have HB := n2_; clear n0_ n1_ n2_; (try clear hb); (try clear hb2); (try clear hk); (try clear hi)))
     go_ret
     exact ⟨re_, by repeat (first | (with_reducible first | exact HB.out | apply below_alloc | apply pw_below_drewN | apply below_drew1 | refine below_set ?_ GE295.out | refine below_set ?_ GE296.out) | exact HB.out)⟩
    ·replace c7 := Bool.eq_false_iff.mpr c7
     subst c7
     have H1 : (some false) = some r := by rw [if_neg (show ¬ (false = true) by decide)] at H; exact H
     clear H
     have H := H1
     clear H1
     obtain rfl := Option.some.inj H
     go_enter Try.func52, Try.ntmps52
     go_wp2_with (first | ((with_reducible refine gate_dst (N := 2) rfl ?_); refine box_event ?hg (N := 2) ?hd (cs := #[.int .i64 a0_0, .int .i64 a0_1, .int .i64 a0_2, .int .i64 a0_3, .int .i64 a0_4, .string a0_5, .string a0_6, .int .i64 a0_7, .int .i64 a0_8]) (t := 82) ?hr ?_; (case hd => rfl); (case hg => rfl); (case hr => first | (go_simp; done) | (go_simp; rfl)); intro gb295 hg w14 hbox hb; have n0_ := Aside0.mk (below_step (hb_ HB) hb); have n1_ := Aside0.mk (hbox); have n2_ := Aside0.mk ((by rw [hg]; exact (below_size (hb_ HB)) : w.heap.size ≤ gb295)); have n3_ := Aside0.mk ((by rw [hg]; exact (below_size (hb_ HB)) : w.heap.size ≤ gb295)); clear HB; have HB := n0_; have BK295 := n1_; have GW295 := n2_; have GE295 := n3_; clear n0_ n1_ n2_ n3_; clear hb hbox hg) | ((with_reducible refine gate_dst (N := 3) rfl ?_); refine box_event ?hg (N := 3) ?hd (cs := #[.int .i64 a1_0, .int .i64 a1_1, .int .i64 a1_2, .int .i64 a1_3, .int .i64 a1_4, .string a1_5, .string a1_6, .int .i64 a1_7, .int .i64 a1_8]) (t := 82) ?hr ?_; (case hd => rfl); (case hg => rfl); (case hr => first | (go_simp; done) | (go_simp; rfl)); intro gb296 hg w15 hbox hb; have n0_ := Aside0.mk (blk_below (g := gb295) (o := .cells #[.int .i64 a0_0, .int .i64 a0_1, .int .i64 a0_2, .int .i64 a0_3, .int .i64 a0_4, .string a0_5, .string a0_6, .int .i64 a0_7, .int .i64 a0_8] 82 (0, 0)) (bk_ BK295) hb); have n1_ := Aside0.mk (below_step (hs_ HB GE295) hb); have n2_ := Aside0.mk (hbox); have n3_ := Aside0.mk ((by rw [hg]; exact (below_size (hs_ HB GE295)) : w.heap.size ≤ gb296)); have n4_ := Aside0.mk ((by rw [hg]; exact (below_size (hs_ HB GE295)) : w.heap.size ≤ gb296)); have n5_ := Aside0.mk ((by rw [hg]; exact Nat.ne_of_lt (blk_lt (g := gb295) (o := .cells #[.int .i64 a0_0, .int .i64 a0_1, .int .i64 a0_2, .int .i64 a0_3, .int .i64 a0_4, .string a0_5, .string a0_6, .int .i64 a0_7, .int .i64 a0_8] 82 (0, 0)) (bk_ BK295)) : gb295 ≠ gb296)); have n6_ := Aside0.mk ((by rw [hg]; exact Nat.ne_of_gt (blk_lt (g := gb295) (o := .cells #[.int .i64 a0_0, .int .i64 a0_1, .int .i64 a0_2, .int .i64 a0_3, .int .i64 a0_4, .string a0_5, .string a0_6, .int .i64 a0_7, .int .i64 a0_8] 82 (0, 0)) (bk_ BK295)) : gb296 ≠ gb295)); clear BK295; clear HB; have BK295 := n0_; have HB := n1_; have BK296 := n2_; have GW296 := n3_; have GE296 := n4_; have NB295_296 := n5_; have NB296_295 := n6_; clear n0_ n1_ n2_ n3_ n4_ n5_ n6_; clear hb hbox hg; have hnb16 := NB295_296.out; have hnc16 := NB296_295.out; have hcz17_0 : w15.cell? ⟨gb295, 0, none⟩ = some (.int .i64 a0_0) := (blk_cell BK295.out 0).trans rfl; have hcz17_1 : w15.cell? ⟨gb295, 1, none⟩ = some (.int .i64 a0_1) := (blk_cell BK295.out 1).trans rfl; have hcz17_2 : w15.cell? ⟨gb295, 2, none⟩ = some (.int .i64 a0_2) := (blk_cell BK295.out 2).trans rfl; have hcz17_3 : w15.cell? ⟨gb295, 3, none⟩ = some (.int .i64 a0_3) := (blk_cell BK295.out 3).trans rfl; have hcz17_4 : w15.cell? ⟨gb295, 4, none⟩ = some (.int .i64 a0_4) := (blk_cell BK295.out 4).trans rfl; have hcz17_5 : w15.cell? ⟨gb295, 5, none⟩ = some (.string a0_5) := (blk_cell BK295.out 5).trans rfl; have hcz17_6 : w15.cell? ⟨gb295, 6, none⟩ = some (.string a0_6) := (blk_cell BK295.out 6).trans rfl; have hcz17_7 : w15.cell? ⟨gb295, 7, none⟩ = some (.int .i64 a0_7) := (blk_cell BK295.out 7).trans rfl; have hcz17_8 : w15.cell? ⟨gb295, 8, none⟩ = some (.int .i64 a0_8) := (blk_cell BK295.out 8).trans rfl; have hfz17_0 := blk_frozen BK295.out 0; have hfz17_1 := blk_frozen BK295.out 1; have hfz17_2 := blk_frozen BK295.out 2; have hfz17_3 := blk_frozen BK295.out 3; have hfz17_4 := blk_frozen BK295.out 4; have hfz17_5 := blk_frozen BK295.out 5; have hfz17_6 := blk_frozen BK295.out 6; have hfz17_7 := blk_frozen BK295.out 7; have hfz17_8 := blk_frozen BK295.out 8; have hcz18_0 : w15.cell? ⟨gb296, 0, none⟩ = some (.int .i64 a1_0) := (blk_cell BK296.out 0).trans rfl; have hcz18_1 : w15.cell? ⟨gb296, 1, none⟩ = some (.int .i64 a1_1) := (blk_cell BK296.out 1).trans rfl; have hcz18_2 : w15.cell? ⟨gb296, 2, none⟩ = some (.int .i64 a1_2) := (blk_cell BK296.out 2).trans rfl; have hcz18_3 : w15.cell? ⟨gb296, 3, none⟩ = some (.int .i64 a1_3) := (blk_cell BK296.out 3).trans rfl; have hcz18_4 : w15.cell? ⟨gb296, 4, none⟩ = some (.int .i64 a1_4) := (blk_cell BK296.out 4).trans rfl; have hcz18_5 : w15.cell? ⟨gb296, 5, none⟩ = some (.string a1_5) := (blk_cell BK296.out 5).trans rfl; have hcz18_6 : w15.cell? ⟨gb296, 6, none⟩ = some (.string a1_6) := (blk_cell BK296.out 6).trans rfl; have hcz18_7 : w15.cell? ⟨gb296, 7, none⟩ = some (.int .i64 a1_7) := (blk_cell BK296.out 7).trans rfl; have hcz18_8 : w15.cell? ⟨gb296, 8, none⟩ = some (.int .i64 a1_8) := (blk_cell BK296.out 8).trans rfl; have hfz18_0 := blk_frozen BK296.out 0; have hfz18_1 := blk_frozen BK296.out 1; have hfz18_2 := blk_frozen BK296.out 2; have hfz18_3 := blk_frozen BK296.out 3; have hfz18_4 := blk_frozen BK296.out 4; have hfz18_5 := blk_frozen BK296.out 5; have hfz18_6 := blk_frozen BK296.out 6; have hfz18_7 := blk_frozen BK296.out 7; have hfz18_8 := blk_frozen BK296.out 8) | ((with_reducible refine gate_callee (f := 86) rfl ?_); refine goesL_ (some 24) rfl rfl Try.func86 (by kernel_rfl) rfl #[.agg #[.int .i64 a0_3, .int .i64 a0_4, .string a0_5, .string a0_6, .int .i64 a0_7, .int .i64 a0_8], .agg #[.int .i64 a1_3, .int .i64 a1_4, .string a1_5, .string a1_6, .int .i64 a1_7, .int .i64 a1_8]] rfl ar_ ?_; (with_reducible refine (laws_eqRec.calls a0_3 a0_4 a0_5 a0_6 a0_7 a0_8 a1_3 a1_4 a1_5 a1_6 a1_7 a1_8 false _ A6.out).mono ?_); rintro e w19 ⟨rfl, hb⟩; refine ⟨_, rfl, ?_⟩; have n0_ := Aside0.mk (blk_below (g := gb295) (o := .cells #[.int .i64 a0_0, .int .i64 a0_1, .int .i64 a0_2, .int .i64 a0_3, .int .i64 a0_4, .string a0_5, .string a0_6, .int .i64 a0_7, .int .i64 a0_8] 82 (0, 0)) (bk_ BK295) hb); have n1_ := Aside0.mk (blk_below (g := gb296) (o := .cells #[.int .i64 a1_0, .int .i64 a1_1, .int .i64 a1_2, .int .i64 a1_3, .int .i64 a1_4, .string a1_5, .string a1_6, .int .i64 a1_7, .int .i64 a1_8] 82 (0, 0)) (bk_ BK296) hb); have n2_ := Aside0.mk (below_step (by repeat (first | (with_reducible first | exact HB.out | apply below_alloc | apply pw_below_drewN | apply below_drew1 | refine below_set ?_ GE295.out | refine below_set ?_ GE296.out) | exact HB.out)) hb); clear BK295; clear BK296; clear HB; have BK295 := n0_; have BK296 := n1_; have HB := n2_; clear n0_ n1_ n2_; (try clear hb); (try clear hb2); (try clear hk); (try clear hi)))
     go_ret
     exact ⟨re_, by repeat (first | (with_reducible first | exact HB.out | apply below_alloc | apply pw_below_drewN | apply below_drew1 | refine below_set ?_ GE295.out | refine below_set ?_ GE296.out) | exact HB.out)⟩
   ·rw [if_neg c5] at H
    have c5b0 : (a0_2 == a1_2) = false := beq_eq_false_iff_ne.mpr c5
    have c5b1 : (a0_2 != a1_2) = true := bne_iff_ne.mpr c5
    obtain rfl := Option.some.inj H
    go_enter Try.func52, Try.ntmps52
    go_wp2_with (first | ((with_reducible refine gate_dst (N := 2) rfl ?_); refine box_event ?hg (N := 2) ?hd (cs := #[.int .i64 a0_0, .int .i64 a0_1, .int .i64 a0_2, .int .i64 a0_3, .int .i64 a0_4, .string a0_5, .string a0_6, .int .i64 a0_7, .int .i64 a0_8]) (t := 82) ?hr ?_; (case hd => rfl); (case hg => rfl); (case hr => first | (go_simp; done) | (go_simp; rfl)); intro gb295 hg w20 hbox hb; have n0_ := Aside0.mk (below_step (hb_ HB) hb); have n1_ := Aside0.mk (hbox); have n2_ := Aside0.mk ((by rw [hg]; exact (below_size (hb_ HB)) : w.heap.size ≤ gb295)); have n3_ := Aside0.mk ((by rw [hg]; exact (below_size (hb_ HB)) : w.heap.size ≤ gb295)); clear HB; have HB := n0_; have BK295 := n1_; have GW295 := n2_; have GE295 := n3_; clear n0_ n1_ n2_ n3_; clear hb hbox hg) | ((with_reducible refine gate_dst (N := 3) rfl ?_); refine box_event ?hg (N := 3) ?hd (cs := #[.int .i64 a1_0, .int .i64 a1_1, .int .i64 a1_2, .int .i64 a1_3, .int .i64 a1_4, .string a1_5, .string a1_6, .int .i64 a1_7, .int .i64 a1_8]) (t := 82) ?hr ?_; (case hd => rfl); (case hg => rfl); (case hr => first | (go_simp; done) | (go_simp; rfl)); intro gb296 hg w21 hbox hb; have n0_ := Aside0.mk (blk_below (g := gb295) (o := .cells #[.int .i64 a0_0, .int .i64 a0_1, .int .i64 a0_2, .int .i64 a0_3, .int .i64 a0_4, .string a0_5, .string a0_6, .int .i64 a0_7, .int .i64 a0_8] 82 (0, 0)) (bk_ BK295) hb); have n1_ := Aside0.mk (below_step (hs_ HB GE295) hb); have n2_ := Aside0.mk (hbox); have n3_ := Aside0.mk ((by rw [hg]; exact (below_size (hs_ HB GE295)) : w.heap.size ≤ gb296)); have n4_ := Aside0.mk ((by rw [hg]; exact (below_size (hs_ HB GE295)) : w.heap.size ≤ gb296)); have n5_ := Aside0.mk ((by rw [hg]; exact Nat.ne_of_lt (blk_lt (g := gb295) (o := .cells #[.int .i64 a0_0, .int .i64 a0_1, .int .i64 a0_2, .int .i64 a0_3, .int .i64 a0_4, .string a0_5, .string a0_6, .int .i64 a0_7, .int .i64 a0_8] 82 (0, 0)) (bk_ BK295)) : gb295 ≠ gb296)); have n6_ := Aside0.mk ((by rw [hg]; exact Nat.ne_of_gt (blk_lt (g := gb295) (o := .cells #[.int .i64 a0_0, .int .i64 a0_1, .int .i64 a0_2, .int .i64 a0_3, .int .i64 a0_4, .string a0_5, .string a0_6, .int .i64 a0_7, .int .i64 a0_8] 82 (0, 0)) (bk_ BK295)) : gb296 ≠ gb295)); clear BK295; clear HB; have BK295 := n0_; have HB := n1_; have BK296 := n2_; have GW296 := n3_; have GE296 := n4_; have NB295_296 := n5_; have NB296_295 := n6_; clear n0_ n1_ n2_ n3_ n4_ n5_ n6_; clear hb hbox hg; have hnb22 := NB295_296.out; have hnc22 := NB296_295.out; have hcz23_0 : w21.cell? ⟨gb295, 0, none⟩ = some (.int .i64 a0_0) := (blk_cell BK295.out 0).trans rfl; have hcz23_1 : w21.cell? ⟨gb295, 1, none⟩ = some (.int .i64 a0_1) := (blk_cell BK295.out 1).trans rfl; have hcz23_2 : w21.cell? ⟨gb295, 2, none⟩ = some (.int .i64 a0_2) := (blk_cell BK295.out 2).trans rfl; have hcz23_3 : w21.cell? ⟨gb295, 3, none⟩ = some (.int .i64 a0_3) := (blk_cell BK295.out 3).trans rfl; have hcz23_4 : w21.cell? ⟨gb295, 4, none⟩ = some (.int .i64 a0_4) := (blk_cell BK295.out 4).trans rfl; have hcz23_5 : w21.cell? ⟨gb295, 5, none⟩ = some (.string a0_5) := (blk_cell BK295.out 5).trans rfl; have hcz23_6 : w21.cell? ⟨gb295, 6, none⟩ = some (.string a0_6) := (blk_cell BK295.out 6).trans rfl; have hcz23_7 : w21.cell? ⟨gb295, 7, none⟩ = some (.int .i64 a0_7) := (blk_cell BK295.out 7).trans rfl; have hcz23_8 : w21.cell? ⟨gb295, 8, none⟩ = some (.int .i64 a0_8) := (blk_cell BK295.out 8).trans rfl; have hfz23_0 := blk_frozen BK295.out 0; have hfz23_1 := blk_frozen BK295.out 1; have hfz23_2 := blk_frozen BK295.out 2; have hfz23_3 := blk_frozen BK295.out 3; have hfz23_4 := blk_frozen BK295.out 4; have hfz23_5 := blk_frozen BK295.out 5; have hfz23_6 := blk_frozen BK295.out 6; have hfz23_7 := blk_frozen BK295.out 7; have hfz23_8 := blk_frozen BK295.out 8; have hcz24_0 : w21.cell? ⟨gb296, 0, none⟩ = some (.int .i64 a1_0) := (blk_cell BK296.out 0).trans rfl; have hcz24_1 : w21.cell? ⟨gb296, 1, none⟩ = some (.int .i64 a1_1) := (blk_cell BK296.out 1).trans rfl; have hcz24_2 : w21.cell? ⟨gb296, 2, none⟩ = some (.int .i64 a1_2) := (blk_cell BK296.out 2).trans rfl; have hcz24_3 : w21.cell? ⟨gb296, 3, none⟩ = some (.int .i64 a1_3) := (blk_cell BK296.out 3).trans rfl; have hcz24_4 : w21.cell? ⟨gb296, 4, none⟩ = some (.int .i64 a1_4) := (blk_cell BK296.out 4).trans rfl; have hcz24_5 : w21.cell? ⟨gb296, 5, none⟩ = some (.string a1_5) := (blk_cell BK296.out 5).trans rfl; have hcz24_6 : w21.cell? ⟨gb296, 6, none⟩ = some (.string a1_6) := (blk_cell BK296.out 6).trans rfl; have hcz24_7 : w21.cell? ⟨gb296, 7, none⟩ = some (.int .i64 a1_7) := (blk_cell BK296.out 7).trans rfl; have hcz24_8 : w21.cell? ⟨gb296, 8, none⟩ = some (.int .i64 a1_8) := (blk_cell BK296.out 8).trans rfl; have hfz24_0 := blk_frozen BK296.out 0; have hfz24_1 := blk_frozen BK296.out 1; have hfz24_2 := blk_frozen BK296.out 2; have hfz24_3 := blk_frozen BK296.out 3; have hfz24_4 := blk_frozen BK296.out 4; have hfz24_5 := blk_frozen BK296.out 5; have hfz24_6 := blk_frozen BK296.out 6; have hfz24_7 := blk_frozen BK296.out 7; have hfz24_8 := blk_frozen BK296.out 8))
    go_ret
    exact ⟨re_, by repeat (first | (with_reducible first | exact HB.out | apply below_alloc | apply pw_below_drewN | apply below_drew1 | refine below_set ?_ GE295.out | refine below_set ?_ GE296.out) | exact HB.out)⟩
  ·rw [if_neg c4] at H
   have c4b0 : (a0_1 == a1_1) = false := beq_eq_false_iff_ne.mpr c4
   have c4b1 : (a0_1 != a1_1) = true := bne_iff_ne.mpr c4
   obtain rfl := Option.some.inj H
   go_enter Try.func52, Try.ntmps52
   go_wp2_with (first | ((with_reducible refine gate_dst (N := 2) rfl ?_); refine box_event ?hg (N := 2) ?hd (cs := #[.int .i64 a0_0, .int .i64 a0_1, .int .i64 a0_2, .int .i64 a0_3, .int .i64 a0_4, .string a0_5, .string a0_6, .int .i64 a0_7, .int .i64 a0_8]) (t := 82) ?hr ?_; (case hd => rfl); (case hg => rfl); (case hr => first | (go_simp; done) | (go_simp; rfl)); intro gb295 hg w25 hbox hb; have n0_ := Aside0.mk (below_step (hb_ HB) hb); have n1_ := Aside0.mk (hbox); have n2_ := Aside0.mk ((by rw [hg]; exact (below_size (hb_ HB)) : w.heap.size ≤ gb295)); have n3_ := Aside0.mk ((by rw [hg]; exact (below_size (hb_ HB)) : w.heap.size ≤ gb295)); clear HB; have HB := n0_; have BK295 := n1_; have GW295 := n2_; have GE295 := n3_; clear n0_ n1_ n2_ n3_; clear hb hbox hg) | ((with_reducible refine gate_dst (N := 3) rfl ?_); refine box_event ?hg (N := 3) ?hd (cs := #[.int .i64 a1_0, .int .i64 a1_1, .int .i64 a1_2, .int .i64 a1_3, .int .i64 a1_4, .string a1_5, .string a1_6, .int .i64 a1_7, .int .i64 a1_8]) (t := 82) ?hr ?_; (case hd => rfl); (case hg => rfl); (case hr => first | (go_simp; done) | (go_simp; rfl)); intro gb296 hg w26 hbox hb; have n0_ := Aside0.mk (blk_below (g := gb295) (o := .cells #[.int .i64 a0_0, .int .i64 a0_1, .int .i64 a0_2, .int .i64 a0_3, .int .i64 a0_4, .string a0_5, .string a0_6, .int .i64 a0_7, .int .i64 a0_8] 82 (0, 0)) (bk_ BK295) hb); have n1_ := Aside0.mk (below_step (hs_ HB GE295) hb); have n2_ := Aside0.mk (hbox); have n3_ := Aside0.mk ((by rw [hg]; exact (below_size (hs_ HB GE295)) : w.heap.size ≤ gb296)); have n4_ := Aside0.mk ((by rw [hg]; exact (below_size (hs_ HB GE295)) : w.heap.size ≤ gb296)); have n5_ := Aside0.mk ((by rw [hg]; exact Nat.ne_of_lt (blk_lt (g := gb295) (o := .cells #[.int .i64 a0_0, .int .i64 a0_1, .int .i64 a0_2, .int .i64 a0_3, .int .i64 a0_4, .string a0_5, .string a0_6, .int .i64 a0_7, .int .i64 a0_8] 82 (0, 0)) (bk_ BK295)) : gb295 ≠ gb296)); have n6_ := Aside0.mk ((by rw [hg]; exact Nat.ne_of_gt (blk_lt (g := gb295) (o := .cells #[.int .i64 a0_0, .int .i64 a0_1, .int .i64 a0_2, .int .i64 a0_3, .int .i64 a0_4, .string a0_5, .string a0_6, .int .i64 a0_7, .int .i64 a0_8] 82 (0, 0)) (bk_ BK295)) : gb296 ≠ gb295)); clear BK295; clear HB; have BK295 := n0_; have HB := n1_; have BK296 := n2_; have GW296 := n3_; have GE296 := n4_; have NB295_296 := n5_; have NB296_295 := n6_; clear n0_ n1_ n2_ n3_ n4_ n5_ n6_; clear hb hbox hg; have hnb27 := NB295_296.out; have hnc27 := NB296_295.out; have hcz28_0 : w26.cell? ⟨gb295, 0, none⟩ = some (.int .i64 a0_0) := (blk_cell BK295.out 0).trans rfl; have hcz28_1 : w26.cell? ⟨gb295, 1, none⟩ = some (.int .i64 a0_1) := (blk_cell BK295.out 1).trans rfl; have hcz28_2 : w26.cell? ⟨gb295, 2, none⟩ = some (.int .i64 a0_2) := (blk_cell BK295.out 2).trans rfl; have hcz28_3 : w26.cell? ⟨gb295, 3, none⟩ = some (.int .i64 a0_3) := (blk_cell BK295.out 3).trans rfl; have hcz28_4 : w26.cell? ⟨gb295, 4, none⟩ = some (.int .i64 a0_4) := (blk_cell BK295.out 4).trans rfl; have hcz28_5 : w26.cell? ⟨gb295, 5, none⟩ = some (.string a0_5) := (blk_cell BK295.out 5).trans rfl; have hcz28_6 : w26.cell? ⟨gb295, 6, none⟩ = some (.string a0_6) := (blk_cell BK295.out 6).trans rfl; have hcz28_7 : w26.cell? ⟨gb295, 7, none⟩ = some (.int .i64 a0_7) := (blk_cell BK295.out 7).trans rfl; have hcz28_8 : w26.cell? ⟨gb295, 8, none⟩ = some (.int .i64 a0_8) := (blk_cell BK295.out 8).trans rfl; have hfz28_0 := blk_frozen BK295.out 0; have hfz28_1 := blk_frozen BK295.out 1; have hfz28_2 := blk_frozen BK295.out 2; have hfz28_3 := blk_frozen BK295.out 3; have hfz28_4 := blk_frozen BK295.out 4; have hfz28_5 := blk_frozen BK295.out 5; have hfz28_6 := blk_frozen BK295.out 6; have hfz28_7 := blk_frozen BK295.out 7; have hfz28_8 := blk_frozen BK295.out 8; have hcz29_0 : w26.cell? ⟨gb296, 0, none⟩ = some (.int .i64 a1_0) := (blk_cell BK296.out 0).trans rfl; have hcz29_1 : w26.cell? ⟨gb296, 1, none⟩ = some (.int .i64 a1_1) := (blk_cell BK296.out 1).trans rfl; have hcz29_2 : w26.cell? ⟨gb296, 2, none⟩ = some (.int .i64 a1_2) := (blk_cell BK296.out 2).trans rfl; have hcz29_3 : w26.cell? ⟨gb296, 3, none⟩ = some (.int .i64 a1_3) := (blk_cell BK296.out 3).trans rfl; have hcz29_4 : w26.cell? ⟨gb296, 4, none⟩ = some (.int .i64 a1_4) := (blk_cell BK296.out 4).trans rfl; have hcz29_5 : w26.cell? ⟨gb296, 5, none⟩ = some (.string a1_5) := (blk_cell BK296.out 5).trans rfl; have hcz29_6 : w26.cell? ⟨gb296, 6, none⟩ = some (.string a1_6) := (blk_cell BK296.out 6).trans rfl; have hcz29_7 : w26.cell? ⟨gb296, 7, none⟩ = some (.int .i64 a1_7) := (blk_cell BK296.out 7).trans rfl; have hcz29_8 : w26.cell? ⟨gb296, 8, none⟩ = some (.int .i64 a1_8) := (blk_cell BK296.out 8).trans rfl; have hfz29_0 := blk_frozen BK296.out 0; have hfz29_1 := blk_frozen BK296.out 1; have hfz29_2 := blk_frozen BK296.out 2; have hfz29_3 := blk_frozen BK296.out 3; have hfz29_4 := blk_frozen BK296.out 4; have hfz29_5 := blk_frozen BK296.out 5; have hfz29_6 := blk_frozen BK296.out 6; have hfz29_7 := blk_frozen BK296.out 7; have hfz29_8 := blk_frozen BK296.out 8))
   go_ret
   exact ⟨re_, by repeat (first | (with_reducible first | exact HB.out | apply below_alloc | apply pw_below_drewN | apply below_drew1 | refine below_set ?_ GE295.out | refine below_set ?_ GE296.out) | exact HB.out)⟩
 ·rw [if_neg c3] at H
  have c3b0 : (a0_0 == a1_0) = false := beq_eq_false_iff_ne.mpr c3
  have c3b1 : (a0_0 != a1_0) = true := bne_iff_ne.mpr c3
  obtain rfl := Option.some.inj H
  go_enter Try.func52, Try.ntmps52
  go_wp2_with (first | ((with_reducible refine gate_dst (N := 2) rfl ?_); refine box_event ?hg (N := 2) ?hd (cs := #[.int .i64 a0_0, .int .i64 a0_1, .int .i64 a0_2, .int .i64 a0_3, .int .i64 a0_4, .string a0_5, .string a0_6, .int .i64 a0_7, .int .i64 a0_8]) (t := 82) ?hr ?_; (case hd => rfl); (case hg => rfl); (case hr => first | (go_simp; done) | (go_simp; rfl)); intro gb295 hg w30 hbox hb; have n0_ := Aside0.mk (below_step (hb_ HB) hb); have n1_ := Aside0.mk (hbox); have n2_ := Aside0.mk ((by rw [hg]; exact (below_size (hb_ HB)) : w.heap.size ≤ gb295)); have n3_ := Aside0.mk ((by rw [hg]; exact (below_size (hb_ HB)) : w.heap.size ≤ gb295)); clear HB; have HB := n0_; have BK295 := n1_; have GW295 := n2_; have GE295 := n3_; clear n0_ n1_ n2_ n3_; clear hb hbox hg) | ((with_reducible refine gate_dst (N := 3) rfl ?_); refine box_event ?hg (N := 3) ?hd (cs := #[.int .i64 a1_0, .int .i64 a1_1, .int .i64 a1_2, .int .i64 a1_3, .int .i64 a1_4, .string a1_5, .string a1_6, .int .i64 a1_7, .int .i64 a1_8]) (t := 82) ?hr ?_; (case hd => rfl); (case hg => rfl); (case hr => first | (go_simp; done) | (go_simp; rfl)); intro gb296 hg w31 hbox hb; have n0_ := Aside0.mk (blk_below (g := gb295) (o := .cells #[.int .i64 a0_0, .int .i64 a0_1, .int .i64 a0_2, .int .i64 a0_3, .int .i64 a0_4, .string a0_5, .string a0_6, .int .i64 a0_7, .int .i64 a0_8] 82 (0, 0)) (bk_ BK295) hb); have n1_ := Aside0.mk (below_step (hs_ HB GE295) hb); have n2_ := Aside0.mk (hbox); have n3_ := Aside0.mk ((by rw [hg]; exact (below_size (hs_ HB GE295)) : w.heap.size ≤ gb296)); have n4_ := Aside0.mk ((by rw [hg]; exact (below_size (hs_ HB GE295)) : w.heap.size ≤ gb296)); have n5_ := Aside0.mk ((by rw [hg]; exact Nat.ne_of_lt (blk_lt (g := gb295) (o := .cells #[.int .i64 a0_0, .int .i64 a0_1, .int .i64 a0_2, .int .i64 a0_3, .int .i64 a0_4, .string a0_5, .string a0_6, .int .i64 a0_7, .int .i64 a0_8] 82 (0, 0)) (bk_ BK295)) : gb295 ≠ gb296)); have n6_ := Aside0.mk ((by rw [hg]; exact Nat.ne_of_gt (blk_lt (g := gb295) (o := .cells #[.int .i64 a0_0, .int .i64 a0_1, .int .i64 a0_2, .int .i64 a0_3, .int .i64 a0_4, .string a0_5, .string a0_6, .int .i64 a0_7, .int .i64 a0_8] 82 (0, 0)) (bk_ BK295)) : gb296 ≠ gb295)); clear BK295; clear HB; have BK295 := n0_; have HB := n1_; have BK296 := n2_; have GW296 := n3_; have GE296 := n4_; have NB295_296 := n5_; have NB296_295 := n6_; clear n0_ n1_ n2_ n3_ n4_ n5_ n6_; clear hb hbox hg; have hnb32 := NB295_296.out; have hnc32 := NB296_295.out; have hcz33_0 : w31.cell? ⟨gb295, 0, none⟩ = some (.int .i64 a0_0) := (blk_cell BK295.out 0).trans rfl; have hcz33_1 : w31.cell? ⟨gb295, 1, none⟩ = some (.int .i64 a0_1) := (blk_cell BK295.out 1).trans rfl; have hcz33_2 : w31.cell? ⟨gb295, 2, none⟩ = some (.int .i64 a0_2) := (blk_cell BK295.out 2).trans rfl; have hcz33_3 : w31.cell? ⟨gb295, 3, none⟩ = some (.int .i64 a0_3) := (blk_cell BK295.out 3).trans rfl; have hcz33_4 : w31.cell? ⟨gb295, 4, none⟩ = some (.int .i64 a0_4) := (blk_cell BK295.out 4).trans rfl; have hcz33_5 : w31.cell? ⟨gb295, 5, none⟩ = some (.string a0_5) := (blk_cell BK295.out 5).trans rfl; have hcz33_6 : w31.cell? ⟨gb295, 6, none⟩ = some (.string a0_6) := (blk_cell BK295.out 6).trans rfl; have hcz33_7 : w31.cell? ⟨gb295, 7, none⟩ = some (.int .i64 a0_7) := (blk_cell BK295.out 7).trans rfl; have hcz33_8 : w31.cell? ⟨gb295, 8, none⟩ = some (.int .i64 a0_8) := (blk_cell BK295.out 8).trans rfl; have hfz33_0 := blk_frozen BK295.out 0; have hfz33_1 := blk_frozen BK295.out 1; have hfz33_2 := blk_frozen BK295.out 2; have hfz33_3 := blk_frozen BK295.out 3; have hfz33_4 := blk_frozen BK295.out 4; have hfz33_5 := blk_frozen BK295.out 5; have hfz33_6 := blk_frozen BK295.out 6; have hfz33_7 := blk_frozen BK295.out 7; have hfz33_8 := blk_frozen BK295.out 8; have hcz34_0 : w31.cell? ⟨gb296, 0, none⟩ = some (.int .i64 a1_0) := (blk_cell BK296.out 0).trans rfl; have hcz34_1 : w31.cell? ⟨gb296, 1, none⟩ = some (.int .i64 a1_1) := (blk_cell BK296.out 1).trans rfl; have hcz34_2 : w31.cell? ⟨gb296, 2, none⟩ = some (.int .i64 a1_2) := (blk_cell BK296.out 2).trans rfl; have hcz34_3 : w31.cell? ⟨gb296, 3, none⟩ = some (.int .i64 a1_3) := (blk_cell BK296.out 3).trans rfl; have hcz34_4 : w31.cell? ⟨gb296, 4, none⟩ = some (.int .i64 a1_4) := (blk_cell BK296.out 4).trans rfl; have hcz34_5 : w31.cell? ⟨gb296, 5, none⟩ = some (.string a1_5) := (blk_cell BK296.out 5).trans rfl; have hcz34_6 : w31.cell? ⟨gb296, 6, none⟩ = some (.string a1_6) := (blk_cell BK296.out 6).trans rfl; have hcz34_7 : w31.cell? ⟨gb296, 7, none⟩ = some (.int .i64 a1_7) := (blk_cell BK296.out 7).trans rfl; have hcz34_8 : w31.cell? ⟨gb296, 8, none⟩ = some (.int .i64 a1_8) := (blk_cell BK296.out 8).trans rfl; have hfz34_0 := blk_frozen BK296.out 0; have hfz34_1 := blk_frozen BK296.out 1; have hfz34_2 := blk_frozen BK296.out 2; have hfz34_3 := blk_frozen BK296.out 3; have hfz34_4 := blk_frozen BK296.out 4; have hfz34_5 := blk_frozen BK296.out 5; have hfz34_6 := blk_frozen BK296.out 6; have hfz34_7 := blk_frozen BK296.out 7; have hfz34_8 := blk_frozen BK296.out 8))
  go_ret
  exact ⟨re_, by repeat (first | (with_reducible first | exact HB.out | apply below_alloc | apply pw_below_drewN | apply below_drew1 | refine below_set ?_ GE295.out | refine below_set ?_ GE296.out) | exact HB.out)⟩

/-! ### laws_eqPlaceS: function 14 -/
def laws_eqPlaceS.l0 : Nat → List (S82) → List (S82) → Int → Option (Bool)
 | 0, _, _, _ => none
 | k + 1, x0, x1, x5 => if x5 < (x0.length : Int) then (if 0 ≤ x5 then (if x5 < (x1.length : Int) then ((laws_eqPlace.f ((rd_T82 x0 x5).f0) ((rd_T82 x0 x5).f1) ((rd_T82 x0 x5).f2) ((rd_T82 x0 x5).f3.f0) ((rd_T82 x0 x5).f3.f1) ((rd_T82 x0 x5).f3.f2) ((rd_T82 x0 x5).f3.f3) ((rd_T82 x0 x5).f3.f4) ((rd_T82 x0 x5).f3.f5) ((rd_T82 x1 x5).f0) ((rd_T82 x1 x5).f1) ((rd_T82 x1 x5).f2) ((rd_T82 x1 x5).f3.f0) ((rd_T82 x1 x5).f3.f1) ((rd_T82 x1 x5).f3.f2) ((rd_T82 x1 x5).f3.f3) ((rd_T82 x1 x5).f3.f4) ((rd_T82 x1 x5).f3.f5)).bind fun t300 => (if t300 = true then (laws_eqPlaceS.l0 k x0 x1 (wrap64 (x5 + 1))) else (some false))) else (none)) else (none)) else (some true)
def laws_eqPlaceS.f (k : Nat) (l0 : List (S82)) (l1 : List (S82)) : Option (Bool) := if (l0.length : Int) = (l1.length : Int) then (laws_eqPlaceS.l0 k l0 l1 0) else (some false)
theorem laws_eqPlaceS.mono_l : ∀ k, (∀ y0 y1 y2, LeO (laws_eqPlaceS.l0 k y0 y1 y2) (laws_eqPlaceS.l0 (k + 1) y0 y1 y2))
 | 0 => fun _ _ _ r h => by simp [laws_eqPlaceS.l0] at h
 | k + 1 => by
  have ih0 := laws_eqPlaceS.mono_l k
  ·intro y0 y1 y2
   unfold laws_eqPlaceS.l0
   repeat' first
   | (with_reducible exact ih0 _ _ _)
   | (with_reducible exact LeO.refl _)
   | (with_reducible exact LeO.none _)
   | (with_reducible refine LeO.ite ?_ ?_)
   | (with_reducible refine LeO.bind ?_ (fun _ => ?_))
   | exact ih0 _ _ _
   | exact LeO.none _
   | refine LeO.ite ?_ ?_
   | refine LeO.bind ?_ (fun _ => ?_)
theorem laws_eqPlaceS.mono : ∀ a0 a1 k, LeO (laws_eqPlaceS.f k a0 a1) (laws_eqPlaceS.f (k + 1) a0 a1) := by
 intro a0 a1 k
 have ih0 := laws_eqPlaceS.mono_l k
 unfold laws_eqPlaceS.f
 repeat' first
   | (with_reducible exact ih0 _ _ _)
   | (with_reducible exact LeO.refl _)
   | (with_reducible exact LeO.none _)
   | (with_reducible refine LeO.ite ?_ ?_)
   | (with_reducible refine LeO.bind ?_ (fun _ => ?_))
   | exact ih0 _ _ _
   | exact LeO.none _
   | refine LeO.ite ?_ ?_
   | refine LeO.bind ?_ (fun _ => ?_)
def laws_eqPlaceS.T6 : Bool × List (List Nat × List Nat) := (true, [([], []), ([], []), ([0, 1], [0, 1]), ([2], [2]), ([], []), ([], []), ([4, 5], [4, 5]), ([6], [6]), ([3, 7], [3, 7]), ([8], [8])])
def laws_eqPlaceS.B6 : List Nat := [0, 0, 3, 7, 0, 0, 48, 112, 255, 511]
theorem laws_eqPlaceS.tab6 : rtab .any (opsOf Try.f14 6) = laws_eqPlaceS.T6 := by kernel_rfl
theorem laws_eqPlaceS.bits6 : waitsOk laws_eqPlaceS.T6.2 laws_eqPlaceS.B6 = true := by kernel_rfl
set_option maxHeartbeats 8000000 in
set_option maxRecDepth 100000 in
theorem laws_eqPlaceS.calls (k : Nat) (A0 : Option Addr) (c0 : Nat) (l0 : List (S82)) (A1 : Option Addr) (c1 : Nat) (l1 : List (S82)) (r : Bool) (w : World) (hr0 : Kd.C k82 w A0 l0.length l0) (hc0 : l0.length ≤ c0) (hr1 : Kd.C k82 w A1 l1.length l1) (hc1 : l1.length ≤ c1) (h : laws_eqPlaceS.f k l0 l1 = some r) :
  Calls Try.prog 14 #[.slice A0 l0.length c0, .slice A1 l1.length c1] w fun e w' => e = .returned (.bool r) ∧ Below w.heap.size w w' := by
 have hu82 := Try.underlying82
 have HR0 := Aside0.mk hr0
 have HC0 := Aside0.mk hc0
 clear hr0 hc0
 have HR1 := Aside0.mk hr1
 have HC1 := Aside0.mk hc1
 clear hr1 hc1
 have HB := Aside0.mk (Below.refl w.heap.size w)
 have H : (if (l0.length : Int) = (l1.length : Int) then (laws_eqPlaceS.l0 k l0 l1 0) else (some false)) = some r := h
 clear h
 by_cases c3 : (l0.length : Int) = (l1.length : Int)
 ·rw [if_pos c3] at H
  have c3b0 : ((l0.length : Int) == (l1.length : Int)) = true := beq_iff_eq.mpr c3
  have c3b1 : ((l0.length : Int) != (l1.length : Int)) = false := bne_eq_false_iff_eq.mpr c3
  have c3b2 : (l0.length == l1.length) = true := by first | simpa using c3 | (simp at c3 ⊢; omega)
  clear c3
  have H' := Aside0.mk H
  clear H
  go_enter Try.func14, Try.ntmps14
  go_wp2
  go_loopg [5] k (fun kq v5 w' => ∃ (x5_1 : Int), v5 = .int .i64 x5_1 ∧ Aside0 (laws_eqPlaceS.l0 kq l0 l1 x5_1 = some r) ∧ Aside0 (kq ≤ k) ∧ Aside0 (Below w.heap.size w w'))
  case atStart => exact ⟨(0), rs_, H', ⟨Nat.le_refl _⟩, ⟨hb_ HB⟩⟩
  case round =>
   clear H'
   try clear c1
   try clear p2
   try clear c3
   try clear c3b0
   try clear c3b1
   try clear c3b2
   obtain ⟨x5_1, rfl, HA, HK1, HB⟩ := hrel
   cases gk with
   | zero => exact absurd HA.out (by simp [laws_eqPlaceS.l0])
   | succ k1 =>
    have H := HA.out
    clear HA
    simp only [laws_eqPlaceS.l0] at H
    by_cases c4 : x5_1 < (l0.length : Int)
    ·rw [if_pos c4] at H
     have c4b0 : decide (x5_1 < (l0.length : Int)) = true := decide_eq_true c4
     clear c4
     by_cases c5 : 0 ≤ x5_1
     ·rw [if_pos c5] at H
      have c5b0 : decide (0 ≤ x5_1) = true := decide_eq_true c5
      clear c5
      by_cases c6 : x5_1 < (l1.length : Int)
      ·rw [if_pos c6] at H
       have c6b0 : decide (x5_1 < (l1.length : Int)) = true := decide_eq_true c6
       clear c6
       replace H := Option.bind_eq_some_iff.mp H
       obtain ⟨t300, A70, H⟩ := H
       replace H : (if t300 = true then (laws_eqPlaceS.l0 k1 l0 l1 (wrap64 (x5_1 + 1))) else (some false)) = some r := H
       have A7 := Aside0.mk A70
       clear A70
       by_cases c8 : t300 = true
       ·subst c8
        have H1 : (laws_eqPlaceS.l0 k1 l0 l1 (wrap64 (x5_1 + 1))) = some r := by rw [if_pos rfl] at H; exact H
        clear H
        have H := H1
        clear H1
        have H' := Aside0.mk H
        clear H
        try go_wp2
        have n0_ := Aside0.mk (below_drew1 HB.out)
        clear HB
        have HB := n0_
        clear n0_
        have p298 : 0 ≤ (x5_1 : Int) := of_decide_eq_true as_
        have q298 : x5_1 < (l0.length : Int) := of_decide_eq_true as_
        obtain ⟨ad298, e298, hx298_0, hx298_1, hx298_2, hx298_3, hx298_4, hx298_5, hx298_6, hx298_7, hx298_8⟩ := at_T82 HR0.out x5_1 p298 q298
        have hw298_8 := hx298_8
        have hw298_7 := hx298_7
        have hw298_6 := hx298_6
        have hw298_5 := hx298_5
        have hw298_4 := hx298_4
        have hw298_3 := hx298_3
        have hw298_2 := hx298_2
        have hw298_1 := hx298_1
        have hw298_0 := hx298_0
        cases e298
        replace hx298_0 := (HB.out.cell (World.block_lt_of_cell? w _ hx298_0)).trans hx298_0
        replace hx298_1 := (HB.out.cell (World.block_lt_of_cell? w _ hx298_1)).trans hx298_1
        replace hx298_2 := (HB.out.cell (World.block_lt_of_cell? w _ hx298_2)).trans hx298_2
        replace hx298_3 := (HB.out.cell (World.block_lt_of_cell? w _ hx298_3)).trans hx298_3
        replace hx298_4 := (HB.out.cell (World.block_lt_of_cell? w _ hx298_4)).trans hx298_4
        replace hx298_5 := (HB.out.cell (World.block_lt_of_cell? w _ hx298_5)).trans hx298_5
        replace hx298_6 := (HB.out.cell (World.block_lt_of_cell? w _ hx298_6)).trans hx298_6
        replace hx298_7 := (HB.out.cell (World.block_lt_of_cell? w _ hx298_7)).trans hx298_7
        replace hx298_8 := (HB.out.cell (World.block_lt_of_cell? w _ hx298_8)).trans hx298_8
        replace p298 := eq_true p298
        replace q298 := eq_true q298
        have p299 : 0 ≤ (x5_1 : Int) := of_decide_eq_true as_
        have q299 : x5_1 < (l1.length : Int) := of_decide_eq_true as_
        obtain ⟨ad299, e299, hx299_0, hx299_1, hx299_2, hx299_3, hx299_4, hx299_5, hx299_6, hx299_7, hx299_8⟩ := at_T82 HR1.out x5_1 p299 q299
        have hw299_8 := hx299_8
        have hw299_7 := hx299_7
        have hw299_6 := hx299_6
        have hw299_5 := hx299_5
        have hw299_4 := hx299_4
        have hw299_3 := hx299_3
        have hw299_2 := hx299_2
        have hw299_1 := hx299_1
        have hw299_0 := hx299_0
        cases e299
        replace hx299_0 := (HB.out.cell (World.block_lt_of_cell? w _ hx299_0)).trans hx299_0
        replace hx299_1 := (HB.out.cell (World.block_lt_of_cell? w _ hx299_1)).trans hx299_1
        replace hx299_2 := (HB.out.cell (World.block_lt_of_cell? w _ hx299_2)).trans hx299_2
        replace hx299_3 := (HB.out.cell (World.block_lt_of_cell? w _ hx299_3)).trans hx299_3
        replace hx299_4 := (HB.out.cell (World.block_lt_of_cell? w _ hx299_4)).trans hx299_4
        replace hx299_5 := (HB.out.cell (World.block_lt_of_cell? w _ hx299_5)).trans hx299_5
        replace hx299_6 := (HB.out.cell (World.block_lt_of_cell? w _ hx299_6)).trans hx299_6
        replace hx299_7 := (HB.out.cell (World.block_lt_of_cell? w _ hx299_7)).trans hx299_7
        replace hx299_8 := (HB.out.cell (World.block_lt_of_cell? w _ hx299_8)).trans hx299_8
        replace p299 := eq_true p299
        replace q299 := eq_true q299
        refine start_ (n := 10) (S := fun w' => w'.cell? (ad298.add ((x5_1).toNat * 9)) = some (.int .i64 ((rd_T82 l0 x5_1).f0)) ∧ w'.cell? ⟨(ad298.add ((x5_1).toNat * 9)).block, (ad298.add ((x5_1).toNat * 9)).off + 1, none⟩ = some (.int .i64 ((rd_T82 l0 x5_1).f1)) ∧ w'.cell? ⟨(ad298.add ((x5_1).toNat * 9)).block, (ad298.add ((x5_1).toNat * 9)).off + 2, none⟩ = some (.int .i64 ((rd_T82 l0 x5_1).f2)) ∧ w'.cell? ⟨(ad298.add ((x5_1).toNat * 9)).block, (ad298.add ((x5_1).toNat * 9)).off + 3, none⟩ = some (.int .i64 ((rd_T82 l0 x5_1).f3.f0)) ∧ w'.cell? ⟨(ad298.add ((x5_1).toNat * 9)).block, (ad298.add ((x5_1).toNat * 9)).off + 4, none⟩ = some (.int .i64 ((rd_T82 l0 x5_1).f3.f1)) ∧ w'.cell? ⟨(ad298.add ((x5_1).toNat * 9)).block, (ad298.add ((x5_1).toNat * 9)).off + 5, none⟩ = some (.string ((rd_T82 l0 x5_1).f3.f2)) ∧ w'.cell? ⟨(ad298.add ((x5_1).toNat * 9)).block, (ad298.add ((x5_1).toNat * 9)).off + 6, none⟩ = some (.string ((rd_T82 l0 x5_1).f3.f3)) ∧ w'.cell? ⟨(ad298.add ((x5_1).toNat * 9)).block, (ad298.add ((x5_1).toNat * 9)).off + 7, none⟩ = some (.int .i64 ((rd_T82 l0 x5_1).f3.f4)) ∧ w'.cell? ⟨(ad298.add ((x5_1).toNat * 9)).block, (ad298.add ((x5_1).toNat * 9)).off + 8, none⟩ = some (.int .i64 ((rd_T82 l0 x5_1).f3.f5)) ∧ w'.cell? (ad299.add ((x5_1).toNat * 9)) = some (.int .i64 ((rd_T82 l1 x5_1).f0)) ∧ w'.cell? ⟨(ad299.add ((x5_1).toNat * 9)).block, (ad299.add ((x5_1).toNat * 9)).off + 1, none⟩ = some (.int .i64 ((rd_T82 l1 x5_1).f1)) ∧ w'.cell? ⟨(ad299.add ((x5_1).toNat * 9)).block, (ad299.add ((x5_1).toNat * 9)).off + 2, none⟩ = some (.int .i64 ((rd_T82 l1 x5_1).f2)) ∧ w'.cell? ⟨(ad299.add ((x5_1).toNat * 9)).block, (ad299.add ((x5_1).toNat * 9)).off + 3, none⟩ = some (.int .i64 ((rd_T82 l1 x5_1).f3.f0)) ∧ w'.cell? ⟨(ad299.add ((x5_1).toNat * 9)).block, (ad299.add ((x5_1).toNat * 9)).off + 4, none⟩ = some (.int .i64 ((rd_T82 l1 x5_1).f3.f1)) ∧ w'.cell? ⟨(ad299.add ((x5_1).toNat * 9)).block, (ad299.add ((x5_1).toNat * 9)).off + 5, none⟩ = some (.string ((rd_T82 l1 x5_1).f3.f2)) ∧ w'.cell? ⟨(ad299.add ((x5_1).toNat * 9)).block, (ad299.add ((x5_1).toNat * 9)).off + 6, none⟩ = some (.string ((rd_T82 l1 x5_1).f3.f3)) ∧ w'.cell? ⟨(ad299.add ((x5_1).toNat * 9)).block, (ad299.add ((x5_1).toNat * 9)).off + 7, none⟩ = some (.int .i64 ((rd_T82 l1 x5_1).f3.f4)) ∧ w'.cell? ⟨(ad299.add ((x5_1).toNat * 9)).block, (ad299.add ((x5_1).toNat * 9)).off + 8, none⟩ = some (.int .i64 ((rd_T82 l1 x5_1).f3.f5))) (ds := []) #[o',o',o',o',o',o',o',o',o',o'] (by kernel_rfl) rfl rfl ⟨((HB.out.cell (World.block_lt_of_cell? w _ hw298_0)).trans hw298_0), ((HB.out.cell (World.block_lt_of_cell? w _ hw298_1)).trans hw298_1), ((HB.out.cell (World.block_lt_of_cell? w _ hw298_2)).trans hw298_2), ((HB.out.cell (World.block_lt_of_cell? w _ hw298_3)).trans hw298_3), ((HB.out.cell (World.block_lt_of_cell? w _ hw298_4)).trans hw298_4), ((HB.out.cell (World.block_lt_of_cell? w _ hw298_5)).trans hw298_5), ((HB.out.cell (World.block_lt_of_cell? w _ hw298_6)).trans hw298_6), ((HB.out.cell (World.block_lt_of_cell? w _ hw298_7)).trans hw298_7), ((HB.out.cell (World.block_lt_of_cell? w _ hw298_8)).trans hw298_8), ((HB.out.cell (World.block_lt_of_cell? w _ hw299_0)).trans hw299_0), ((HB.out.cell (World.block_lt_of_cell? w _ hw299_1)).trans hw299_1), ((HB.out.cell (World.block_lt_of_cell? w _ hw299_2)).trans hw299_2), ((HB.out.cell (World.block_lt_of_cell? w _ hw299_3)).trans hw299_3), ((HB.out.cell (World.block_lt_of_cell? w _ hw299_4)).trans hw299_4), ((HB.out.cell (World.block_lt_of_cell? w _ hw299_5)).trans hw299_5), ((HB.out.cell (World.block_lt_of_cell? w _ hw299_6)).trans hw299_6), ((HB.out.cell (World.block_lt_of_cell? w _ hw299_7)).trans hw299_7), ((HB.out.cell (World.block_lt_of_cell? w _ hw299_8)).trans hw299_8)⟩ (fun hHeld => ?_); refine with_tabW laws_eqPlaceS.tab6 laws_eqPlaceS.bits6 (fun HT_ HW_ => ?_)
        generalize wr.drew = w9 at HB hx298_0 hx298_1 hx298_2 hx298_3 hx298_4 hx298_5 hx298_6 hx298_7 hx298_8 hx299_0 hx299_1 hx299_2 hx299_3 hx299_4 hx299_5 hx299_6 hx299_7 hx299_8 hHeld ⊢
        refine pure_ (i := 0) (N := some 17) (v := ?_) (a' := ?_) #[i',o',o',o',o',o',o',o',o',o'] rfl rfl (any_of HT_.out (by kernel_rfl)) (fun _ _ _ h => h) (Or.inl ⟨by rfl, ?_⟩) ?_ ?_
        rotate_left;·intro w';go_simp;with_reducible rfl
        rotate_left;·simp only [Act.put, la_, lz_, ls_, i64_w, i32_w];rfl
        refine pure_ (i := 1) (N := some 18) (v := ?_) (a' := ?_) #[i',i',o',o',o',o',o',o',o',o'] rfl rfl (any_of HT_.out (by kernel_rfl)) (fun _ _ _ h => h) (Or.inl ⟨by rfl, ?_⟩) ?_ ?_
        rotate_left;·intro w';go_simp;with_reducible rfl
        rotate_left;·simp only [Act.put, la_, lz_, ls_, i64_w, i32_w];rfl
        refine pure_ (i := 2) (N := some 19) (v := ?_) (a' := ?_) #[i',i',i',o',o',o',o',o',o',o'] rfl rfl (any_of HT_.out (by kernel_rfl)) (fun _ _ _ h => h) (Or.inl ⟨by rfl, ?_⟩) ?_ ?_
        rotate_left;·intro w';go_simp;with_reducible rfl
        rotate_left;·simp only [Act.put, la_, lz_, ls_, i64_w, i32_w];rfl
        refine pure_ (i := 4) (N := some 21) (v := ?_) (a' := ?_) #[i',i',i',o',i',o',o',o',o',o'] rfl rfl (any_of HT_.out (by kernel_rfl)) (fun _ _ _ h => h) (Or.inl ⟨by rfl, ?_⟩) ?_ ?_
        rotate_left;·intro w';go_simp;with_reducible rfl
        rotate_left;·simp only [Act.put, la_, lz_, ls_, i64_w, i32_w];rfl
        refine pure_ (i := 5) (N := some 22) (v := ?_) (a' := ?_) #[i',i',i',o',i',i',o',o',o',o'] rfl rfl (any_of HT_.out (by kernel_rfl)) (fun _ _ _ h => h) (Or.inl ⟨by rfl, ?_⟩) ?_ ?_
        rotate_left;·intro w';go_simp;with_reducible rfl
        rotate_left;·simp only [Act.put, la_, lz_, ls_, i64_w, i32_w];rfl
        refine pure_ (i := 6) (N := some 23) (v := ?_) (a' := ?_) #[i',i',i',o',i',i',i',o',o',o'] rfl rfl (any_of HT_.out (by kernel_rfl)) (fun _ _ _ h => h) (Or.inl ⟨by rfl, ?_⟩) ?_ ?_
        rotate_left;·intro w';go_simp;with_reducible rfl
        rotate_left;·simp only [Act.put, la_, lz_, ls_, i64_w, i32_w];rfl
        refine take_ (i := 3) (N := some 20) (v := ?_) (a' := ?_) #[i',i',i',i',i',i',i',o',o',o'] rfl rfl (take_ofW HT_.out HW_.out (by kernel_rfl)) (fun _ _ _ h => h) (Or.inl ⟨by rfl, ?_⟩) hHeld ?_ ?_
        rotate_left
        ·rintro w' ⟨s0, s1, s2, s3, s4, s5, s6, s7, s8, s9, s10, s11, s12, s13, s14, s15, s16, s17⟩
         go_simp
         with_reducible rfl
        rotate_left
        ·simp only [Act.put, la_, lz_, ls_, i64_w, i32_w]
         rfl
        refine take_ (i := 7) (N := some 24) (v := ?_) (a' := ?_) #[i',i',i',i',i',i',i',i',o',o'] rfl rfl (take_ofW HT_.out HW_.out (by kernel_rfl)) (fun _ _ _ h => h) (Or.inl ⟨by rfl, ?_⟩) hHeld ?_ ?_
        rotate_left
        ·rintro w' ⟨s0, s1, s2, s3, s4, s5, s6, s7, s8, s9, s10, s11, s12, s13, s14, s15, s16, s17⟩
         go_simp
         with_reducible rfl
        rotate_left
        ·simp only [Act.put, la_, lz_, ls_, i64_w, i32_w]
         rfl
        refine one_ (i := 8) (N := some 25) #[i',i',i',i',i',i',i',i',i',o'] rfl rfl (one_of HT_.out (by kernel_rfl)) (by decide) (fun K hK => ?_)
        refine goes_ Try.func52 (by kernel_rfl) rfl #[.agg #[.int .i64 ((rd_T82 l0 x5_1).f0), .int .i64 ((rd_T82 l0 x5_1).f1), .int .i64 ((rd_T82 l0 x5_1).f2), .int .i64 ((rd_T82 l0 x5_1).f3.f0), .int .i64 ((rd_T82 l0 x5_1).f3.f1), .string ((rd_T82 l0 x5_1).f3.f2), .string ((rd_T82 l0 x5_1).f3.f3), .int .i64 ((rd_T82 l0 x5_1).f3.f4), .int .i64 ((rd_T82 l0 x5_1).f3.f5)], .agg #[.int .i64 ((rd_T82 l1 x5_1).f0), .int .i64 ((rd_T82 l1 x5_1).f1), .int .i64 ((rd_T82 l1 x5_1).f2), .int .i64 ((rd_T82 l1 x5_1).f3.f0), .int .i64 ((rd_T82 l1 x5_1).f3.f1), .string ((rd_T82 l1 x5_1).f3.f2), .string ((rd_T82 l1 x5_1).f3.f3), .int .i64 ((rd_T82 l1 x5_1).f3.f4), .int .i64 ((rd_T82 l1 x5_1).f3.f5)]] (by rfl) rfl rfl ar_ ?_
        with_reducible refine (laws_eqPlace.calls ((rd_T82 l0 x5_1).f0) ((rd_T82 l0 x5_1).f1) ((rd_T82 l0 x5_1).f2) ((rd_T82 l0 x5_1).f3.f0) ((rd_T82 l0 x5_1).f3.f1) ((rd_T82 l0 x5_1).f3.f2) ((rd_T82 l0 x5_1).f3.f3) ((rd_T82 l0 x5_1).f3.f4) ((rd_T82 l0 x5_1).f3.f5) ((rd_T82 l1 x5_1).f0) ((rd_T82 l1 x5_1).f1) ((rd_T82 l1 x5_1).f2) ((rd_T82 l1 x5_1).f3.f0) ((rd_T82 l1 x5_1).f3.f1) ((rd_T82 l1 x5_1).f3.f2) ((rd_T82 l1 x5_1).f3.f3) ((rd_T82 l1 x5_1).f3.f4) ((rd_T82 l1 x5_1).f3.f5) true _ A7.out).mono ?_
        rintro e w10 ⟨rfl, hb⟩
        refine ⟨_, rfl, ?_⟩
        have n0_ := Aside0.mk (below_step (hb_ HB) hb)
        clear HB
        have HB := n0_
        clear n0_
        (try clear hb)
        (try clear hb2)
        (try clear hk)
        (try clear hi)
        refine hK.out _ _ ⟨((HB.out.cell (World.block_lt_of_cell? w _ hw298_0)).trans hw298_0), ((HB.out.cell (World.block_lt_of_cell? w _ hw298_1)).trans hw298_1), ((HB.out.cell (World.block_lt_of_cell? w _ hw298_2)).trans hw298_2), ((HB.out.cell (World.block_lt_of_cell? w _ hw298_3)).trans hw298_3), ((HB.out.cell (World.block_lt_of_cell? w _ hw298_4)).trans hw298_4), ((HB.out.cell (World.block_lt_of_cell? w _ hw298_5)).trans hw298_5), ((HB.out.cell (World.block_lt_of_cell? w _ hw298_6)).trans hw298_6), ((HB.out.cell (World.block_lt_of_cell? w _ hw298_7)).trans hw298_7), ((HB.out.cell (World.block_lt_of_cell? w _ hw298_8)).trans hw298_8), ((HB.out.cell (World.block_lt_of_cell? w _ hw299_0)).trans hw299_0), ((HB.out.cell (World.block_lt_of_cell? w _ hw299_1)).trans hw299_1), ((HB.out.cell (World.block_lt_of_cell? w _ hw299_2)).trans hw299_2), ((HB.out.cell (World.block_lt_of_cell? w _ hw299_3)).trans hw299_3), ((HB.out.cell (World.block_lt_of_cell? w _ hw299_4)).trans hw299_4), ((HB.out.cell (World.block_lt_of_cell? w _ hw299_5)).trans hw299_5), ((HB.out.cell (World.block_lt_of_cell? w _ hw299_6)).trans hw299_6), ((HB.out.cell (World.block_lt_of_cell? w _ hw299_7)).trans hw299_7), ((HB.out.cell (World.block_lt_of_cell? w _ hw299_8)).trans hw299_8)⟩ (fun hHeld => ?_)
        clear hK K
        refine norm_ (a' := ?_) ?_ ?_
        rotate_left
        ·show Act.put _ (some 25) _ = _
         simp only [Act.put, la_, lz_, ls_, i64_w, i32_w]
         rfl
        refine pure_ (i := 9) (N := some 26) (v := ?_) (a' := ?_) #[i',i',i',i',i',i',i',i',i',i'] rfl rfl (any_of HT_.out (by kernel_rfl)) (fun _ _ _ h => h) (Or.inl ⟨by rfl, ?_⟩) ?_ ?_
        rotate_left;·intro w';go_simp;with_reducible rfl
        rotate_left;·simp only [Act.put, la_, lz_, ls_, i64_w, i32_w];rfl
        refine done_ (done_of HT_.out (by kernel_rfl)) ?_
        try go_wp2
        go_roundg k1
        case measure => have := HK1.out; first | exact this | exact Nat.le_of_succ_le this | exact Nat.le_refl _ | omega
        case rel => exact ⟨(wrap64 (x5_1 + 1)), rs_, H', ⟨by have := HK1.out; first | exact this | exact Nat.le_of_succ_le this | exact Nat.le_refl _ | omega⟩, ⟨hb_ HB⟩⟩
       ·replace c8 := Bool.eq_false_iff.mpr c8
        subst c8
        have H1 : (some false) = some r := by rw [if_neg (show ¬ (false = true) by decide)] at H; exact H
        clear H
        have H := H1
        clear H1
        obtain rfl := Option.some.inj H
        try go_wp2
        have n0_ := Aside0.mk (below_drew1 HB.out)
        clear HB
        have HB := n0_
        clear n0_
        have p298 : 0 ≤ (x5_1 : Int) := of_decide_eq_true as_
        have q298 : x5_1 < (l0.length : Int) := of_decide_eq_true as_
        obtain ⟨ad298, e298, hx298_0, hx298_1, hx298_2, hx298_3, hx298_4, hx298_5, hx298_6, hx298_7, hx298_8⟩ := at_T82 HR0.out x5_1 p298 q298
        have hw298_8 := hx298_8
        have hw298_7 := hx298_7
        have hw298_6 := hx298_6
        have hw298_5 := hx298_5
        have hw298_4 := hx298_4
        have hw298_3 := hx298_3
        have hw298_2 := hx298_2
        have hw298_1 := hx298_1
        have hw298_0 := hx298_0
        cases e298
        replace hx298_0 := (HB.out.cell (World.block_lt_of_cell? w _ hx298_0)).trans hx298_0
        replace hx298_1 := (HB.out.cell (World.block_lt_of_cell? w _ hx298_1)).trans hx298_1
        replace hx298_2 := (HB.out.cell (World.block_lt_of_cell? w _ hx298_2)).trans hx298_2
        replace hx298_3 := (HB.out.cell (World.block_lt_of_cell? w _ hx298_3)).trans hx298_3
        replace hx298_4 := (HB.out.cell (World.block_lt_of_cell? w _ hx298_4)).trans hx298_4
        replace hx298_5 := (HB.out.cell (World.block_lt_of_cell? w _ hx298_5)).trans hx298_5
        replace hx298_6 := (HB.out.cell (World.block_lt_of_cell? w _ hx298_6)).trans hx298_6
        replace hx298_7 := (HB.out.cell (World.block_lt_of_cell? w _ hx298_7)).trans hx298_7
        replace hx298_8 := (HB.out.cell (World.block_lt_of_cell? w _ hx298_8)).trans hx298_8
        replace p298 := eq_true p298
        replace q298 := eq_true q298
        have p299 : 0 ≤ (x5_1 : Int) := of_decide_eq_true as_
        have q299 : x5_1 < (l1.length : Int) := of_decide_eq_true as_
        obtain ⟨ad299, e299, hx299_0, hx299_1, hx299_2, hx299_3, hx299_4, hx299_5, hx299_6, hx299_7, hx299_8⟩ := at_T82 HR1.out x5_1 p299 q299
        have hw299_8 := hx299_8
        have hw299_7 := hx299_7
        have hw299_6 := hx299_6
        have hw299_5 := hx299_5
        have hw299_4 := hx299_4
        have hw299_3 := hx299_3
        have hw299_2 := hx299_2
        have hw299_1 := hx299_1
        have hw299_0 := hx299_0
        cases e299
        replace hx299_0 := (HB.out.cell (World.block_lt_of_cell? w _ hx299_0)).trans hx299_0
        replace hx299_1 := (HB.out.cell (World.block_lt_of_cell? w _ hx299_1)).trans hx299_1
        replace hx299_2 := (HB.out.cell (World.block_lt_of_cell? w _ hx299_2)).trans hx299_2
        replace hx299_3 := (HB.out.cell (World.block_lt_of_cell? w _ hx299_3)).trans hx299_3
        replace hx299_4 := (HB.out.cell (World.block_lt_of_cell? w _ hx299_4)).trans hx299_4
        replace hx299_5 := (HB.out.cell (World.block_lt_of_cell? w _ hx299_5)).trans hx299_5
        replace hx299_6 := (HB.out.cell (World.block_lt_of_cell? w _ hx299_6)).trans hx299_6
        replace hx299_7 := (HB.out.cell (World.block_lt_of_cell? w _ hx299_7)).trans hx299_7
        replace hx299_8 := (HB.out.cell (World.block_lt_of_cell? w _ hx299_8)).trans hx299_8
        replace p299 := eq_true p299
        replace q299 := eq_true q299
        refine start_ (n := 10) (S := fun w' => w'.cell? (ad298.add ((x5_1).toNat * 9)) = some (.int .i64 ((rd_T82 l0 x5_1).f0)) ∧ w'.cell? ⟨(ad298.add ((x5_1).toNat * 9)).block, (ad298.add ((x5_1).toNat * 9)).off + 1, none⟩ = some (.int .i64 ((rd_T82 l0 x5_1).f1)) ∧ w'.cell? ⟨(ad298.add ((x5_1).toNat * 9)).block, (ad298.add ((x5_1).toNat * 9)).off + 2, none⟩ = some (.int .i64 ((rd_T82 l0 x5_1).f2)) ∧ w'.cell? ⟨(ad298.add ((x5_1).toNat * 9)).block, (ad298.add ((x5_1).toNat * 9)).off + 3, none⟩ = some (.int .i64 ((rd_T82 l0 x5_1).f3.f0)) ∧ w'.cell? ⟨(ad298.add ((x5_1).toNat * 9)).block, (ad298.add ((x5_1).toNat * 9)).off + 4, none⟩ = some (.int .i64 ((rd_T82 l0 x5_1).f3.f1)) ∧ w'.cell? ⟨(ad298.add ((x5_1).toNat * 9)).block, (ad298.add ((x5_1).toNat * 9)).off + 5, none⟩ = some (.string ((rd_T82 l0 x5_1).f3.f2)) ∧ w'.cell? ⟨(ad298.add ((x5_1).toNat * 9)).block, (ad298.add ((x5_1).toNat * 9)).off + 6, none⟩ = some (.string ((rd_T82 l0 x5_1).f3.f3)) ∧ w'.cell? ⟨(ad298.add ((x5_1).toNat * 9)).block, (ad298.add ((x5_1).toNat * 9)).off + 7, none⟩ = some (.int .i64 ((rd_T82 l0 x5_1).f3.f4)) ∧ w'.cell? ⟨(ad298.add ((x5_1).toNat * 9)).block, (ad298.add ((x5_1).toNat * 9)).off + 8, none⟩ = some (.int .i64 ((rd_T82 l0 x5_1).f3.f5)) ∧ w'.cell? (ad299.add ((x5_1).toNat * 9)) = some (.int .i64 ((rd_T82 l1 x5_1).f0)) ∧ w'.cell? ⟨(ad299.add ((x5_1).toNat * 9)).block, (ad299.add ((x5_1).toNat * 9)).off + 1, none⟩ = some (.int .i64 ((rd_T82 l1 x5_1).f1)) ∧ w'.cell? ⟨(ad299.add ((x5_1).toNat * 9)).block, (ad299.add ((x5_1).toNat * 9)).off + 2, none⟩ = some (.int .i64 ((rd_T82 l1 x5_1).f2)) ∧ w'.cell? ⟨(ad299.add ((x5_1).toNat * 9)).block, (ad299.add ((x5_1).toNat * 9)).off + 3, none⟩ = some (.int .i64 ((rd_T82 l1 x5_1).f3.f0)) ∧ w'.cell? ⟨(ad299.add ((x5_1).toNat * 9)).block, (ad299.add ((x5_1).toNat * 9)).off + 4, none⟩ = some (.int .i64 ((rd_T82 l1 x5_1).f3.f1)) ∧ w'.cell? ⟨(ad299.add ((x5_1).toNat * 9)).block, (ad299.add ((x5_1).toNat * 9)).off + 5, none⟩ = some (.string ((rd_T82 l1 x5_1).f3.f2)) ∧ w'.cell? ⟨(ad299.add ((x5_1).toNat * 9)).block, (ad299.add ((x5_1).toNat * 9)).off + 6, none⟩ = some (.string ((rd_T82 l1 x5_1).f3.f3)) ∧ w'.cell? ⟨(ad299.add ((x5_1).toNat * 9)).block, (ad299.add ((x5_1).toNat * 9)).off + 7, none⟩ = some (.int .i64 ((rd_T82 l1 x5_1).f3.f4)) ∧ w'.cell? ⟨(ad299.add ((x5_1).toNat * 9)).block, (ad299.add ((x5_1).toNat * 9)).off + 8, none⟩ = some (.int .i64 ((rd_T82 l1 x5_1).f3.f5))) (ds := []) #[o',o',o',o',o',o',o',o',o',o'] (by kernel_rfl) rfl rfl ⟨((HB.out.cell (World.block_lt_of_cell? w _ hw298_0)).trans hw298_0), ((HB.out.cell (World.block_lt_of_cell? w _ hw298_1)).trans hw298_1), ((HB.out.cell (World.block_lt_of_cell? w _ hw298_2)).trans hw298_2), ((HB.out.cell (World.block_lt_of_cell? w _ hw298_3)).trans hw298_3), ((HB.out.cell (World.block_lt_of_cell? w _ hw298_4)).trans hw298_4), ((HB.out.cell (World.block_lt_of_cell? w _ hw298_5)).trans hw298_5), ((HB.out.cell (World.block_lt_of_cell? w _ hw298_6)).trans hw298_6), ((HB.out.cell (World.block_lt_of_cell? w _ hw298_7)).trans hw298_7), ((HB.out.cell (World.block_lt_of_cell? w _ hw298_8)).trans hw298_8), ((HB.out.cell (World.block_lt_of_cell? w _ hw299_0)).trans hw299_0), ((HB.out.cell (World.block_lt_of_cell? w _ hw299_1)).trans hw299_1), ((HB.out.cell (World.block_lt_of_cell? w _ hw299_2)).trans hw299_2), ((HB.out.cell (World.block_lt_of_cell? w _ hw299_3)).trans hw299_3), ((HB.out.cell (World.block_lt_of_cell? w _ hw299_4)).trans hw299_4), ((HB.out.cell (World.block_lt_of_cell? w _ hw299_5)).trans hw299_5), ((HB.out.cell (World.block_lt_of_cell? w _ hw299_6)).trans hw299_6), ((HB.out.cell (World.block_lt_of_cell? w _ hw299_7)).trans hw299_7), ((HB.out.cell (World.block_lt_of_cell? w _ hw299_8)).trans hw299_8)⟩ (fun hHeld => ?_); refine with_tabW laws_eqPlaceS.tab6 laws_eqPlaceS.bits6 (fun HT_ HW_ => ?_)
        generalize wr.drew = w11 at HB hx298_0 hx298_1 hx298_2 hx298_3 hx298_4 hx298_5 hx298_6 hx298_7 hx298_8 hx299_0 hx299_1 hx299_2 hx299_3 hx299_4 hx299_5 hx299_6 hx299_7 hx299_8 hHeld ⊢
        refine pure_ (i := 0) (N := some 17) (v := ?_) (a' := ?_) #[i',o',o',o',o',o',o',o',o',o'] rfl rfl (any_of HT_.out (by kernel_rfl)) (fun _ _ _ h => h) (Or.inl ⟨by rfl, ?_⟩) ?_ ?_
        rotate_left;·intro w';go_simp;with_reducible rfl
        rotate_left;·simp only [Act.put, la_, lz_, ls_, i64_w, i32_w];rfl
        refine pure_ (i := 1) (N := some 18) (v := ?_) (a' := ?_) #[i',i',o',o',o',o',o',o',o',o'] rfl rfl (any_of HT_.out (by kernel_rfl)) (fun _ _ _ h => h) (Or.inl ⟨by rfl, ?_⟩) ?_ ?_
        rotate_left;·intro w';go_simp;with_reducible rfl
        rotate_left;·simp only [Act.put, la_, lz_, ls_, i64_w, i32_w];rfl
        refine pure_ (i := 2) (N := some 19) (v := ?_) (a' := ?_) #[i',i',i',o',o',o',o',o',o',o'] rfl rfl (any_of HT_.out (by kernel_rfl)) (fun _ _ _ h => h) (Or.inl ⟨by rfl, ?_⟩) ?_ ?_
        rotate_left;·intro w';go_simp;with_reducible rfl
        rotate_left;·simp only [Act.put, la_, lz_, ls_, i64_w, i32_w];rfl
        refine pure_ (i := 4) (N := some 21) (v := ?_) (a' := ?_) #[i',i',i',o',i',o',o',o',o',o'] rfl rfl (any_of HT_.out (by kernel_rfl)) (fun _ _ _ h => h) (Or.inl ⟨by rfl, ?_⟩) ?_ ?_
        rotate_left;·intro w';go_simp;with_reducible rfl
        rotate_left;·simp only [Act.put, la_, lz_, ls_, i64_w, i32_w];rfl
        refine pure_ (i := 5) (N := some 22) (v := ?_) (a' := ?_) #[i',i',i',o',i',i',o',o',o',o'] rfl rfl (any_of HT_.out (by kernel_rfl)) (fun _ _ _ h => h) (Or.inl ⟨by rfl, ?_⟩) ?_ ?_
        rotate_left;·intro w';go_simp;with_reducible rfl
        rotate_left;·simp only [Act.put, la_, lz_, ls_, i64_w, i32_w];rfl
        refine pure_ (i := 6) (N := some 23) (v := ?_) (a' := ?_) #[i',i',i',o',i',i',i',o',o',o'] rfl rfl (any_of HT_.out (by kernel_rfl)) (fun _ _ _ h => h) (Or.inl ⟨by rfl, ?_⟩) ?_ ?_
        rotate_left;·intro w';go_simp;with_reducible rfl
        rotate_left;·simp only [Act.put, la_, lz_, ls_, i64_w, i32_w];rfl
        refine take_ (i := 3) (N := some 20) (v := ?_) (a' := ?_) #[i',i',i',i',i',i',i',o',o',o'] rfl rfl (take_ofW HT_.out HW_.out (by kernel_rfl)) (fun _ _ _ h => h) (Or.inl ⟨by rfl, ?_⟩) hHeld ?_ ?_
        rotate_left
        ·rintro w' ⟨s0, s1, s2, s3, s4, s5, s6, s7, s8, s9, s10, s11, s12, s13, s14, s15, s16, s17⟩
         go_simp
         with_reducible rfl
        rotate_left
        ·simp only [Act.put, la_, lz_, ls_, i64_w, i32_w]
         rfl
        refine take_ (i := 7) (N := some 24) (v := ?_) (a' := ?_) #[i',i',i',i',i',i',i',i',o',o'] rfl rfl (take_ofW HT_.out HW_.out (by kernel_rfl)) (fun _ _ _ h => h) (Or.inl ⟨by rfl, ?_⟩) hHeld ?_ ?_
        rotate_left
        ·rintro w' ⟨s0, s1, s2, s3, s4, s5, s6, s7, s8, s9, s10, s11, s12, s13, s14, s15, s16, s17⟩
         go_simp
         with_reducible rfl
        rotate_left
        ·simp only [Act.put, la_, lz_, ls_, i64_w, i32_w]
         rfl
        refine one_ (i := 8) (N := some 25) #[i',i',i',i',i',i',i',i',i',o'] rfl rfl (one_of HT_.out (by kernel_rfl)) (by decide) (fun K hK => ?_)
        refine goes_ Try.func52 (by kernel_rfl) rfl #[.agg #[.int .i64 ((rd_T82 l0 x5_1).f0), .int .i64 ((rd_T82 l0 x5_1).f1), .int .i64 ((rd_T82 l0 x5_1).f2), .int .i64 ((rd_T82 l0 x5_1).f3.f0), .int .i64 ((rd_T82 l0 x5_1).f3.f1), .string ((rd_T82 l0 x5_1).f3.f2), .string ((rd_T82 l0 x5_1).f3.f3), .int .i64 ((rd_T82 l0 x5_1).f3.f4), .int .i64 ((rd_T82 l0 x5_1).f3.f5)], .agg #[.int .i64 ((rd_T82 l1 x5_1).f0), .int .i64 ((rd_T82 l1 x5_1).f1), .int .i64 ((rd_T82 l1 x5_1).f2), .int .i64 ((rd_T82 l1 x5_1).f3.f0), .int .i64 ((rd_T82 l1 x5_1).f3.f1), .string ((rd_T82 l1 x5_1).f3.f2), .string ((rd_T82 l1 x5_1).f3.f3), .int .i64 ((rd_T82 l1 x5_1).f3.f4), .int .i64 ((rd_T82 l1 x5_1).f3.f5)]] (by rfl) rfl rfl ar_ ?_
        with_reducible refine (laws_eqPlace.calls ((rd_T82 l0 x5_1).f0) ((rd_T82 l0 x5_1).f1) ((rd_T82 l0 x5_1).f2) ((rd_T82 l0 x5_1).f3.f0) ((rd_T82 l0 x5_1).f3.f1) ((rd_T82 l0 x5_1).f3.f2) ((rd_T82 l0 x5_1).f3.f3) ((rd_T82 l0 x5_1).f3.f4) ((rd_T82 l0 x5_1).f3.f5) ((rd_T82 l1 x5_1).f0) ((rd_T82 l1 x5_1).f1) ((rd_T82 l1 x5_1).f2) ((rd_T82 l1 x5_1).f3.f0) ((rd_T82 l1 x5_1).f3.f1) ((rd_T82 l1 x5_1).f3.f2) ((rd_T82 l1 x5_1).f3.f3) ((rd_T82 l1 x5_1).f3.f4) ((rd_T82 l1 x5_1).f3.f5) false _ A7.out).mono ?_
        rintro e w12 ⟨rfl, hb⟩
        refine ⟨_, rfl, ?_⟩
        have n0_ := Aside0.mk (below_step (hb_ HB) hb)
        clear HB
        have HB := n0_
        clear n0_
        (try clear hb)
        (try clear hb2)
        (try clear hk)
        (try clear hi)
        refine hK.out _ _ ⟨((HB.out.cell (World.block_lt_of_cell? w _ hw298_0)).trans hw298_0), ((HB.out.cell (World.block_lt_of_cell? w _ hw298_1)).trans hw298_1), ((HB.out.cell (World.block_lt_of_cell? w _ hw298_2)).trans hw298_2), ((HB.out.cell (World.block_lt_of_cell? w _ hw298_3)).trans hw298_3), ((HB.out.cell (World.block_lt_of_cell? w _ hw298_4)).trans hw298_4), ((HB.out.cell (World.block_lt_of_cell? w _ hw298_5)).trans hw298_5), ((HB.out.cell (World.block_lt_of_cell? w _ hw298_6)).trans hw298_6), ((HB.out.cell (World.block_lt_of_cell? w _ hw298_7)).trans hw298_7), ((HB.out.cell (World.block_lt_of_cell? w _ hw298_8)).trans hw298_8), ((HB.out.cell (World.block_lt_of_cell? w _ hw299_0)).trans hw299_0), ((HB.out.cell (World.block_lt_of_cell? w _ hw299_1)).trans hw299_1), ((HB.out.cell (World.block_lt_of_cell? w _ hw299_2)).trans hw299_2), ((HB.out.cell (World.block_lt_of_cell? w _ hw299_3)).trans hw299_3), ((HB.out.cell (World.block_lt_of_cell? w _ hw299_4)).trans hw299_4), ((HB.out.cell (World.block_lt_of_cell? w _ hw299_5)).trans hw299_5), ((HB.out.cell (World.block_lt_of_cell? w _ hw299_6)).trans hw299_6), ((HB.out.cell (World.block_lt_of_cell? w _ hw299_7)).trans hw299_7), ((HB.out.cell (World.block_lt_of_cell? w _ hw299_8)).trans hw299_8)⟩ (fun hHeld => ?_)
        clear hK K
        refine norm_ (a' := ?_) ?_ ?_
        rotate_left
        ·show Act.put _ (some 25) _ = _
         simp only [Act.put, la_, lz_, ls_, i64_w, i32_w]
         rfl
        refine pure_ (i := 9) (N := some 26) (v := ?_) (a' := ?_) #[i',i',i',i',i',i',i',i',i',i'] rfl rfl (any_of HT_.out (by kernel_rfl)) (fun _ _ _ h => h) (Or.inl ⟨by rfl, ?_⟩) ?_ ?_
        rotate_left;·intro w';go_simp;with_reducible rfl
        rotate_left;·simp only [Act.put, la_, lz_, ls_, i64_w, i32_w];rfl
        refine done_ (done_of HT_.out (by kernel_rfl)) ?_
        try go_wp2
        go_ret
        exact ⟨re_, hb_ HB⟩
      ·rw [if_neg c6] at H
       exact absurd H (by simp)
     ·rw [if_neg c5] at H
      exact absurd H (by simp)
    ·rw [if_neg c4] at H
     have c4b0 : decide (x5_1 < (l0.length : Int)) = false := decide_eq_false c4
     clear c4
     obtain rfl := Option.some.inj H
     go_wp2
     go_ret
     exact ⟨re_, hb_ HB⟩
 ·rw [if_neg c3] at H
  have c3b0 : ((l0.length : Int) == (l1.length : Int)) = false := beq_eq_false_iff_ne.mpr c3
  have c3b1 : ((l0.length : Int) != (l1.length : Int)) = true := bne_iff_ne.mpr c3
  have c3b2 : (l0.length == l1.length) = false := by first | simpa using c3 | (simp at c3 ⊢; omega)
  obtain rfl := Option.some.inj H
  go_enter Try.func14, Try.ntmps14
  go_wp2
  go_ret
  exact ⟨re_, hb_ HB⟩

/-! ### laws_markText: function 53 -/
def laws_markText.l0 : Nat → Int → ByteArray → Option (ByteArray)
 | 0, _, _ => none
 | k + 1, x0, x3 => if x0 > 0 then ((some (([(wrap64 (48 + (Int.tmod x0 10))) % 256] : List Int) : List Int)).bind fun y301 => (if (strOfNums y301).size + x3.size ≤ 9223372036854775807 then (laws_markText.l0 k (wrap64 (Int.tdiv x0 10)) ((strOfNums y301) ++ x3)) else (none))) else (if 1 + x3.size ≤ 9223372036854775807 then (some ((⟨#[109]⟩ : ByteArray) ++ x3)) else (none))
def laws_markText.f (k : Nat) (a0 : Int) : Option (ByteArray) := if a0 ≤ 0 then (some (⟨#[109, 48]⟩ : ByteArray)) else (laws_markText.l0 k a0 (⟨#[]⟩ : ByteArray))
theorem laws_markText.mono_l : ∀ k, (∀ y0 y1, LeO (laws_markText.l0 k y0 y1) (laws_markText.l0 (k + 1) y0 y1))
 | 0 => fun _ _ r h => by simp [laws_markText.l0] at h
 | k + 1 => by
  have ih0 := laws_markText.mono_l k
  ·intro y0 y1
   unfold laws_markText.l0
   repeat' first
   | (with_reducible exact ih0 _ _)
   | (with_reducible exact LeO.refl _)
   | (with_reducible exact LeO.none _)
   | (with_reducible refine LeO.ite ?_ ?_)
   | (with_reducible refine LeO.bind ?_ (fun _ => ?_))
   | exact ih0 _ _
   | exact LeO.none _
   | refine LeO.ite ?_ ?_
   | refine LeO.bind ?_ (fun _ => ?_)
theorem laws_markText.mono : ∀ a0 k, LeO (laws_markText.f k a0) (laws_markText.f (k + 1) a0) := by
 intro a0 k
 have ih0 := laws_markText.mono_l k
 unfold laws_markText.f
 repeat' first
   | (with_reducible exact ih0 _ _)
   | (with_reducible exact LeO.refl _)
   | (with_reducible exact LeO.none _)
   | (with_reducible refine LeO.ite ?_ ?_)
   | (with_reducible refine LeO.bind ?_ (fun _ => ?_))
   | exact ih0 _ _
   | exact LeO.none _
   | refine LeO.ite ?_ ?_
   | refine LeO.bind ?_ (fun _ => ?_)
set_option maxHeartbeats 8000000 in
set_option maxRecDepth 100000 in
theorem laws_markText.calls (k : Nat) (a0 : Int) (r : ByteArray) (w : World) (h : laws_markText.f k a0 = some r) :
  Calls Try.prog 53 #[.int .i64 a0] w fun e w' => e = .returned (.string r) ∧ Below w.heap.size w w' := by
 have HB := Aside0.mk (Below.refl w.heap.size w)
 have H : (if a0 ≤ 0 then (some (⟨#[109, 48]⟩ : ByteArray)) else (laws_markText.l0 k a0 (⟨#[]⟩ : ByteArray))) = some r := h
 clear h
 by_cases c2 : a0 ≤ 0
 ·rw [if_pos c2] at H
  have c2b0 : decide (a0 ≤ 0) = true := decide_eq_true c2
  clear c2
  obtain rfl := Option.some.inj H
  go_enter Try.func53, Try.ntmps53
  go_wp2
  go_ret
  exact ⟨re_, hb_ HB⟩
 ·rw [if_neg c2] at H
  have c2b0 : decide (a0 ≤ 0) = false := decide_eq_false c2
  clear c2
  have H' := Aside0.mk H
  clear H
  go_enter Try.func53, Try.ntmps53
  go_wp2
  go_loopg [0, 3] k (fun kq v0 v3 w' => ∃ (x0_1 : Int) (x3_1 : ByteArray), v0 = .int .i64 x0_1 ∧ v3 = .string x3_1 ∧ Aside0 (laws_markText.l0 kq x0_1 x3_1 = some r) ∧ Aside0 (kq ≤ k) ∧ Aside0 (Below w.heap.size w w'))
  case atStart => exact ⟨(a0), ((⟨#[]⟩ : ByteArray)), rs_, rs_, H', ⟨Nat.le_refl _⟩, ⟨hb_ HB⟩⟩
  case round =>
   clear H'
   try clear c2
   try clear c2b0
   try clear p2
   obtain ⟨x0_1, x3_1, rfl, rfl, HA, HK1, HB⟩ := hrel
   cases gk with
   | zero => exact absurd HA.out (by simp [laws_markText.l0])
   | succ k1 =>
    have H := HA.out
    clear HA
    simp only [laws_markText.l0] at H
    by_cases c3 : x0_1 > 0
    ·rw [if_pos c3] at H
     have c3b0 : decide (0 < x0_1) = true := decide_eq_true c3
     clear c3
     obtain ⟨y301, hy301⟩ : ∃ y_ : List Int, y_ = (([(wrap64 (48 + (Int.tmod x0_1 10))) % 256] : List Int)) := ⟨_, rfl⟩
     replace H : (if (strOfNums y301).size + x3_1.size ≤ 9223372036854775807 then (laws_markText.l0 k1 (wrap64 (Int.tdiv x0_1 10)) ((strOfNums y301) ++ x3_1)) else (none)) = some r := by first | (rw [hy301]; with_reducible exact H) | (have H2_ := (Option.bind_some _ _).symm.trans H; rw [hy301]; with_reducible exact H2_) | (have H2_ := (Option.bind_some _ _).symm.trans H; with_reducible exact H2_) | with_reducible exact H | (rw [hy301]; exact H) | exact H
     have Ny301 := Aside0.mk hy301
     clear hy301
     by_cases c4 : (strOfNums y301).size + x3_1.size ≤ 9223372036854775807
     ·rw [if_pos c4] at H
      have c4b0 := eq_true c4
      have c4b1 : decide ((strOfNums y301).size + x3_1.size ≤ 9223372036854775807) = true := decide_eq_true c4
      try have c4b2 : (9223372036854775807 < (strOfNums y301).size + x3_1.size) = False := eq_false (Nat.not_lt.2 c4)
      (try (have c4b3 := c4b2; simp only [ByteArray.size_append] at c4b3))
      have H' := Aside0.mk H
      clear H
      go_wp2_with (first | ((with_reducible refine gate_dst (N := 12) rfl ?_); refine Kd.R_lit (Kd.int .u8) _ 5 ?hg (N := 12) ?hd (xs := ([(wrap64 (48 + (Int.tmod x0_1 10))) % 256] : List Int)) (inner := [.int .u8 ((wrap64 (48 + (Int.tmod x0_1 10))) % 256)]) (ok := fun _ => True) (okp := fun _ => True) ?hr ?hp (fun _ hk => hk) trivial (Below.refl _ _) (Nat.le_refl _) (by simp) ?_; (case hd => rfl); (case hg => rfl); (case hr => first | (go_simp; done) | (go_simp; rfl)); (case hp => exact (Reps.one (show Kd.M (Kd.int .u8) _ _ _ ((wrap64 (48 + (Int.tmod x0_1 10))) % 256) [.int .u8 ((wrap64 (48 + (Int.tmod x0_1 10))) % 256)] from rfl) (Reps.none _ _))); intro v302 w5 ho6 hb hg_ hnew_; clear hg_ hnew_; (first | rw [← Ny301.out] at ho6 | (simp only [Int.reduceToNat] at ho6; rw [← Ny301.out] at ho6)); have n0_ := Aside0.mk (Kd.R_lower ho6 (below_size (hb_ HB))); have n1_ := Aside0.mk (below_step (hb_ HB) hb); clear HB; have HO303 := n0_; have HB := n1_; clear n0_ n1_; clear hb ho6; have hcv7 := own_string (P := Try.prog) Try.underlying39 Try.underlying5 Try.underlying9 (Kd.own_of_R HO303.out)))
      go_roundg k1
      case measure => have := HK1.out; first | exact this | exact Nat.le_of_succ_le this | exact Nat.le_refl _ | omega
      case rel => exact ⟨(wrap64 (Int.tdiv x0_1 10)), ((strOfNums y301) ++ x3_1), rs_, rs_, H', ⟨by have := HK1.out; first | exact this | exact Nat.le_of_succ_le this | exact Nat.le_refl _ | omega⟩, ⟨hb_ HB⟩⟩
     ·rw [if_neg c4] at H
      exact absurd H (by simp)
    ·rw [if_neg c3] at H
     have c3b0 : decide (0 < x0_1) = false := decide_eq_false c3
     clear c3
     by_cases c8 : 1 + x3_1.size ≤ 9223372036854775807
     ·rw [if_pos c8] at H
      have c8b0 := eq_true c8
      have c8b1 : decide (1 + x3_1.size ≤ 9223372036854775807) = true := decide_eq_true c8
      try have c8b2 : (9223372036854775807 < 1 + x3_1.size) = False := eq_false (Nat.not_lt.2 c8)
      (try (have c8b3 := c8b2; simp only [ByteArray.size_append] at c8b3))
      obtain rfl := Option.some.inj H
      go_wp2
      go_ret
      exact ⟨re_, hb_ HB⟩
     ·rw [if_neg c8] at H
      exact absurd H (by simp)

end Go.Proofs.Ytebeafcdabkkfab.PFnExactSealed
