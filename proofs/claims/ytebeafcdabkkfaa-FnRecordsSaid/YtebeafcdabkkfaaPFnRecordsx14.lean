-- Laid by a program of this session, a copy of the kit's printer with additions (wip/patch_print.py): myhead. Lean checks it.
import Derived.Test.YtebeafcdabkkfaaPFnRecordsx0
import Derived.Test.YtebeafcdabkkfaaPFnRecordsx5
import Derived.Test.YtebeafcdabkkfaaPFnRecordsx6
import Derived.Test.YtebeafcdabkkfaaPFnRecordsx12
import Derived.Test.YtebeafcdabkkfaaPFnRecordsx13
namespace Go.Proofs.Ytebeafcdabkkfaa.PFnRecords
open Go.RowKit Go.Proofs.YtebeafcdabkkfaaW.PrintWords Go.Proofs.YtebeafcdabkkfaaW.PrintLast Go.Proofs.YtebeafcdabkkfaaW.PrintMore
attribute [local go_sem] max2_int min2_int max_two min_two max_three min_three max_four min_four   -- for this text's walks alone
set_option linter.unusedVariables false
set_option linter.unusedSimpArgs false

/-! ### spec_DrawReadRec: function 46 -/
def spec_DrawReadRec.f (k : Nat) (l0 : List Int) : Option (ByteArray) := (spec_l1New.f k l0).bind fun bt369 => ((spec_l5Rec.f k bt369.1 bt369.2.1 bt369.2.2).bind fun bt373 => ((spec_ShowRec.f k bt373.1 bt373.2.1 bt373.2.2.1 bt373.2.2.2.1 bt373.2.2.2.2.1 bt373.2.2.2.2.2.1).bind fun t381 => ((spec_l1Below.f bt369.1 bt373.2.2.2.2.2.2.1 bt373.2.2.2.2.2.2.2 5).bind fun bt382 => (if bt382.1 = 0 then ((spec_l1Spoil.f k bt369.1 bt382.2.1 bt382.2.2 t381).bind fun bt385 => (some bt385.1)) else (if bt382.1 = 1 then ((spec_l1Below.f bt369.1 bt382.2.1 bt382.2.2 (wrap64 ((t381.size : Int) + 1))).bind fun bt388 => (if 0 ≤ bt388.1 then (if bt388.1 ≤ (t381.size : Int) then (some (t381.extract 0 (bt388.1 : Int).toNat)) else (none)) else (none))) else (if bt382.1 = 2 then ((spec_l1Text.f k bt369.1 bt382.2.1 bt382.2.2 3).bind fun bt391 => (if t381.size + bt391.1.size ≤ 9223372036854775807 then (some (t381 ++ bt391.1)) else (none))) else (some t381)))))))
theorem spec_DrawReadRec.mono : ∀ a0 k, LeO (spec_DrawReadRec.f k a0) (spec_DrawReadRec.f (k + 1) a0) := by
 intro a0 k
 unfold spec_DrawReadRec.f
 repeat' first
   | (with_reducible exact spec_ShowRec.mono _ _ _ _ _ _ _)
   | (with_reducible exact spec_l1New.mono _ _)
   | (with_reducible exact spec_l1Spoil.mono _ _ _ _ _)
   | (with_reducible exact spec_l1Text.mono _ _ _ _ _)
   | (with_reducible exact spec_l5Rec.mono _ _ _ _)
   | (with_reducible exact LeO.refl _)
   | (with_reducible exact LeO.none _)
   | (with_reducible refine LeO.ite ?_ ?_)
   | (with_reducible refine LeO.bind ?_ (fun _ => ?_))
   | exact spec_ShowRec.mono _ _ _ _ _ _ _
   | exact spec_l1New.mono _ _
   | exact spec_l1Spoil.mono _ _ _ _ _
   | exact spec_l1Text.mono _ _ _ _ _
   | exact spec_l5Rec.mono _ _ _ _
   | exact LeO.none _
   | refine LeO.ite ?_ ?_
   | refine LeO.bind ?_ (fun _ => ?_)
set_option maxHeartbeats 8000000 in
set_option maxRecDepth 100000 in
theorem spec_DrawReadRec.calls (k : Nat) (A0 : Option Addr) (c0 : Nat) (l0 : List Int) (r : ByteArray) (w : World) (hr0 : Kd.C (Kd.int .u8) w A0 l0.length l0) (hc0 : l0.length ≤ c0) (h : spec_DrawReadRec.f k l0 = some r) :
  Calls Try.prog 46 #[.slice A0 l0.length c0] w fun e w' => e = .returned (.string r) ∧ Below w.heap.size w w' := by
 have HR0 := Aside0.mk hr0
 have HC0 := Aside0.mk hc0
 clear hr0 hc0
 have HB := Aside0.mk (Below.refl w.heap.size w)
 have H : ((spec_l1New.f k l0).bind fun bt369 => ((spec_l5Rec.f k bt369.1 bt369.2.1 bt369.2.2).bind fun bt373 => ((spec_ShowRec.f k bt373.1 bt373.2.1 bt373.2.2.1 bt373.2.2.2.1 bt373.2.2.2.2.1 bt373.2.2.2.2.2.1).bind fun t381 => ((spec_l1Below.f bt369.1 bt373.2.2.2.2.2.2.1 bt373.2.2.2.2.2.2.2 5).bind fun bt382 => (if bt382.1 = 0 then ((spec_l1Spoil.f k bt369.1 bt382.2.1 bt382.2.2 t381).bind fun bt385 => (some bt385.1)) else (if bt382.1 = 1 then ((spec_l1Below.f bt369.1 bt382.2.1 bt382.2.2 (wrap64 ((t381.size : Int) + 1))).bind fun bt388 => (if 0 ≤ bt388.1 then (if bt388.1 ≤ (t381.size : Int) then (some (t381.extract 0 (bt388.1 : Int).toNat)) else (none)) else (none))) else (if bt382.1 = 2 then ((spec_l1Text.f k bt369.1 bt382.2.1 bt382.2.2 3).bind fun bt391 => (if t381.size + bt391.1.size ≤ 9223372036854775807 then (some (t381 ++ bt391.1)) else (none))) else (some t381)))))))) = some r := h
 clear h
 replace H := Option.bind_eq_some_iff.mp H
 obtain ⟨⟨t369, t370, t371⟩, A20, H⟩ := H
 replace H : ((spec_l5Rec.f k t369 t370 t371).bind fun bt373 => ((spec_ShowRec.f k bt373.1 bt373.2.1 bt373.2.2.1 bt373.2.2.2.1 bt373.2.2.2.2.1 bt373.2.2.2.2.2.1).bind fun t381 => ((spec_l1Below.f t369 bt373.2.2.2.2.2.2.1 bt373.2.2.2.2.2.2.2 5).bind fun bt382 => (if bt382.1 = 0 then ((spec_l1Spoil.f k t369 bt382.2.1 bt382.2.2 t381).bind fun bt385 => (some bt385.1)) else (if bt382.1 = 1 then ((spec_l1Below.f t369 bt382.2.1 bt382.2.2 (wrap64 ((t381.size : Int) + 1))).bind fun bt388 => (if 0 ≤ bt388.1 then (if bt388.1 ≤ (t381.size : Int) then (some (t381.extract 0 (bt388.1 : Int).toNat)) else (none)) else (none))) else (if bt382.1 = 2 then ((spec_l1Text.f k t369 bt382.2.1 bt382.2.2 3).bind fun bt391 => (if t381.size + bt391.1.size ≤ 9223372036854775807 then (some (t381 ++ bt391.1)) else (none))) else (some t381))))))) = some r := H
 have A2 := Aside0.mk A20
 clear A20
 replace H := Option.bind_eq_some_iff.mp H
 obtain ⟨⟨t373, t374, t375, t376, t377, t378, t379, t380⟩, A30, H⟩ := H
 replace H : ((spec_ShowRec.f k t373 t374 t375 t376 t377 t378).bind fun t381 => ((spec_l1Below.f t369 t379 t380 5).bind fun bt382 => (if bt382.1 = 0 then ((spec_l1Spoil.f k t369 bt382.2.1 bt382.2.2 t381).bind fun bt385 => (some bt385.1)) else (if bt382.1 = 1 then ((spec_l1Below.f t369 bt382.2.1 bt382.2.2 (wrap64 ((t381.size : Int) + 1))).bind fun bt388 => (if 0 ≤ bt388.1 then (if bt388.1 ≤ (t381.size : Int) then (some (t381.extract 0 (bt388.1 : Int).toNat)) else (none)) else (none))) else (if bt382.1 = 2 then ((spec_l1Text.f k t369 bt382.2.1 bt382.2.2 3).bind fun bt391 => (if t381.size + bt391.1.size ≤ 9223372036854775807 then (some (t381 ++ bt391.1)) else (none))) else (some t381)))))) = some r := H
 have A3 := Aside0.mk A30
 clear A30
 replace H := Option.bind_eq_some_iff.mp H
 obtain ⟨t381, A40, H⟩ := H
 replace H : ((spec_l1Below.f t369 t379 t380 5).bind fun bt382 => (if bt382.1 = 0 then ((spec_l1Spoil.f k t369 bt382.2.1 bt382.2.2 t381).bind fun bt385 => (some bt385.1)) else (if bt382.1 = 1 then ((spec_l1Below.f t369 bt382.2.1 bt382.2.2 (wrap64 ((t381.size : Int) + 1))).bind fun bt388 => (if 0 ≤ bt388.1 then (if bt388.1 ≤ (t381.size : Int) then (some (t381.extract 0 (bt388.1 : Int).toNat)) else (none)) else (none))) else (if bt382.1 = 2 then ((spec_l1Text.f k t369 bt382.2.1 bt382.2.2 3).bind fun bt391 => (if t381.size + bt391.1.size ≤ 9223372036854775807 then (some (t381 ++ bt391.1)) else (none))) else (some t381))))) = some r := H
 have A4 := Aside0.mk A40
 clear A40
 replace H := Option.bind_eq_some_iff.mp H
 obtain ⟨⟨t382, t383, t384⟩, A50, H⟩ := H
 replace H : (if t382 = 0 then ((spec_l1Spoil.f k t369 t383 t384 t381).bind fun bt385 => (some bt385.1)) else (if t382 = 1 then ((spec_l1Below.f t369 t383 t384 (wrap64 ((t381.size : Int) + 1))).bind fun bt388 => (if 0 ≤ bt388.1 then (if bt388.1 ≤ (t381.size : Int) then (some (t381.extract 0 (bt388.1 : Int).toNat)) else (none)) else (none))) else (if t382 = 2 then ((spec_l1Text.f k t369 t383 t384 3).bind fun bt391 => (if t381.size + bt391.1.size ≤ 9223372036854775807 then (some (t381 ++ bt391.1)) else (none))) else (some t381)))) = some r := H
 have A5 := Aside0.mk A50
 clear A50
 by_cases c6 : t382 = 0
 ·rw [if_pos c6] at H
  have c6b0 : (t382 == 0) = true := beq_iff_eq.mpr c6
  have c6b1 : (t382 != 0) = false := bne_eq_false_iff_eq.mpr c6
  clear c6
  replace H := Option.bind_eq_some_iff.mp H
  obtain ⟨⟨t385, t386, t387⟩, A70, H⟩ := H
  replace H : (some t385) = some r := H
  have A7 := Aside0.mk A70
  clear A70
  obtain rfl := Option.some.inj H
  go_enter Try.func46, Try.ntmps46
  go_wp2_with (first | ((with_reducible refine gate_callee (f := 99) rfl ?_); refine goesL_ (some 6) rfl rfl Try.func99 (by kernel_rfl) rfl #[.slice A0 l0.length c0] rfl ar_ ?_; (with_reducible refine (spec_l1New.calls k _ _ l0 t369 t370 t371 w _ ?side1 ?side2 ?side3 A2.out).mono ?_); (case side1 => repeat (first | (with_reducible first | exact HB.out | apply below_alloc | apply pw_below_drewN | apply below_drew1) | exact HB.out)); (case side2 => exact HR0.out); (case side3 => exact HC0.out); rintro e w8 ⟨g372, rfl, hi, hb, hb2⟩; refine ⟨_, rfl, ?_⟩; have n0_ := Aside0.mk (hb); have n1_ := Aside0.mk (hi); clear HB; have HB := n0_; have HI372 := n1_; clear n0_ n1_; (try clear hb); (try clear hb2); (try clear hk); (try clear hi)) | ((with_reducible refine gate_callee (f := 102) rfl ?_); refine goesL_ (some 8) rfl rfl Try.func102 (by kernel_rfl) rfl #[.pointer (some ⟨g372, 0, none⟩)] rfl ar_ ?_; (with_reducible refine (spec_l5Rec.calls k g372 t369 t370 t371 t373 t374 t375 t376 t377 t378 t379 t380 w _ ?side1 ?side2 A3.out).mono ?_); (case side1 => repeat (first | (with_reducible first | exact HI372.out | apply IsS147.alloc | apply IsS147.drewN | apply IsS147.drew | apply IsS147.set_1 | apply IsS147.set_2) | exact HI372.out)); (case side2 => repeat (first | (with_reducible first | exact HB.out | apply below_alloc | apply pw_below_drewN | apply below_drew1 | refine below_set ?_ (IsS147.ge HI372.out)) | exact HB.out)); rintro e w9 ⟨rfl, hi, hb, hk⟩; refine ⟨_, rfl, ?_⟩; have n0_ := Aside0.mk (hb); have n1_ := Aside0.mk (hi); clear HB; clear HI372; have HB := n0_; have HI372 := n1_; clear n0_ n1_; (try clear hb); (try clear hb2); (try clear hk); (try clear hi)) | ((with_reducible refine gate_callee (f := 75) rfl ?_); refine goesL_ (some 9) rfl rfl Try.func75 (by kernel_rfl) rfl #[.agg #[.int .i64 t373, .int .i64 t374, .string t375, .string t376, .int .i64 t377, .int .i64 t378]] rfl ar_ ?_; (with_reducible refine (spec_ShowRec.calls k t373 t374 t375 t376 t377 t378 t381 _ A4.out).mono ?_); rintro e w10 ⟨rfl, hb⟩; refine ⟨_, rfl, ?_⟩; have n0_ := Aside0.mk (IsS147.below (by repeat (first | (with_reducible first | exact HI372.out | apply IsS147.alloc | apply IsS147.drewN | apply IsS147.drew | apply IsS147.set_1 | apply IsS147.set_2) | exact HI372.out)) hb); have n1_ := Aside0.mk (below_step (by repeat (first | (with_reducible first | exact HB.out | apply below_alloc | apply pw_below_drewN | apply below_drew1 | refine below_set ?_ (IsS147.ge HI372.out)) | exact HB.out)) hb); clear HI372; clear HB; have HI372 := n0_; have HB := n1_; clear n0_ n1_; (try clear hb); (try clear hb2); (try clear hk); (try clear hi)) | ((with_reducible refine gate_callee (f := 103) rfl ?_); refine goesL_ (some 11) rfl rfl Try.func103 (by kernel_rfl) rfl #[.pointer (some ⟨g372, 0, none⟩), .int .i64 5] rfl ar_ ?_; (with_reducible refine (spec_l1Below.calls g372 t369 t379 t380 5 t382 t383 t384 w _ ?side1 ?side2 A5.out).mono ?_); (case side1 => repeat (first | (with_reducible first | exact HI372.out | apply IsS147.alloc | apply IsS147.drewN | apply IsS147.drew | apply IsS147.set_1 | apply IsS147.set_2) | exact HI372.out)); (case side2 => repeat (first | (with_reducible first | exact HB.out | apply below_alloc | apply pw_below_drewN | apply below_drew1 | refine below_set ?_ (IsS147.ge HI372.out)) | exact HB.out)); rintro e w11 ⟨rfl, hi, hb, hk⟩; refine ⟨_, rfl, ?_⟩; have n0_ := Aside0.mk (hb); have n1_ := Aside0.mk (hi); clear HB; clear HI372; have HB := n0_; have HI372 := n1_; clear n0_ n1_; (try clear hb); (try clear hb2); (try clear hk); (try clear hi)) | ((with_reducible refine gate_callee (f := 104) rfl ?_); refine goesL_ (some 16) rfl rfl Try.func104 (by kernel_rfl) rfl #[.pointer (some ⟨g372, 0, none⟩), .string t381] rfl ar_ ?_; (with_reducible refine (spec_l1Spoil.calls k g372 t369 t383 t384 t381 t385 t386 t387 w _ ?side1 ?side2 A7.out).mono ?_); (case side1 => repeat (first | (with_reducible first | exact HI372.out | apply IsS147.alloc | apply IsS147.drewN | apply IsS147.drew | apply IsS147.set_1 | apply IsS147.set_2) | exact HI372.out)); (case side2 => repeat (first | (with_reducible first | exact HB.out | apply below_alloc | apply pw_below_drewN | apply below_drew1 | refine below_set ?_ (IsS147.ge HI372.out)) | exact HB.out)); rintro e w12 ⟨rfl, hi, hb, hk⟩; refine ⟨_, rfl, ?_⟩; have n0_ := Aside0.mk (hb); have n1_ := Aside0.mk (hi); clear HB; clear HI372; have HB := n0_; have HI372 := n1_; clear n0_ n1_; (try clear hb); (try clear hb2); (try clear hk); (try clear hi)))
  go_ret
  exact ⟨re_, by repeat (first | (with_reducible first | exact HB.out | apply below_alloc | apply pw_below_drewN | apply below_drew1 | refine below_set ?_ (IsS147.ge HI372.out)) | exact HB.out)⟩
 ·rw [if_neg c6] at H
  have c6b0 : (t382 == 0) = false := beq_eq_false_iff_ne.mpr c6
  have c6b1 : (t382 != 0) = true := bne_iff_ne.mpr c6
  by_cases c13 : t382 = 1
  ·rw [if_pos c13] at H
   have c13b0 : (t382 == 1) = true := beq_iff_eq.mpr c13
   have c13b1 : (t382 != 1) = false := bne_eq_false_iff_eq.mpr c13
   clear c13
   replace H := Option.bind_eq_some_iff.mp H
   obtain ⟨⟨t388, t389, t390⟩, A140, H⟩ := H
   replace H : (if 0 ≤ t388 then (if t388 ≤ (t381.size : Int) then (some (t381.extract 0 (t388 : Int).toNat)) else (none)) else (none)) = some r := H
   have A14 := Aside0.mk A140
   clear A140
   by_cases c15 : 0 ≤ t388
   ·rw [if_pos c15] at H
    have c15b0 := eq_true c15
    have c15b1 : decide (0 ≤ t388) = true := decide_eq_true c15
    clear c15
    by_cases c16 : t388 ≤ (t381.size : Int)
    ·rw [if_pos c16] at H
     have c16b0 := eq_true c16
     have c16b1 : decide (t388 ≤ (t381.size : Int)) = true := decide_eq_true c16
     clear c16
     obtain rfl := Option.some.inj H
     go_enter Try.func46, Try.ntmps46
     go_wp2_with (first | ((with_reducible refine gate_callee (f := 99) rfl ?_); refine goesL_ (some 6) rfl rfl Try.func99 (by kernel_rfl) rfl #[.slice A0 l0.length c0] rfl ar_ ?_; (with_reducible refine (spec_l1New.calls k _ _ l0 t369 t370 t371 w _ ?side1 ?side2 ?side3 A2.out).mono ?_); (case side1 => repeat (first | (with_reducible first | exact HB.out | apply below_alloc | apply pw_below_drewN | apply below_drew1) | exact HB.out)); (case side2 => exact HR0.out); (case side3 => exact HC0.out); rintro e w17 ⟨g372, rfl, hi, hb, hb2⟩; refine ⟨_, rfl, ?_⟩; have n0_ := Aside0.mk (hb); have n1_ := Aside0.mk (hi); clear HB; have HB := n0_; have HI372 := n1_; clear n0_ n1_; (try clear hb); (try clear hb2); (try clear hk); (try clear hi)) | ((with_reducible refine gate_callee (f := 102) rfl ?_); refine goesL_ (some 8) rfl rfl Try.func102 (by kernel_rfl) rfl #[.pointer (some ⟨g372, 0, none⟩)] rfl ar_ ?_; (with_reducible refine (spec_l5Rec.calls k g372 t369 t370 t371 t373 t374 t375 t376 t377 t378 t379 t380 w _ ?side1 ?side2 A3.out).mono ?_); (case side1 => repeat (first | (with_reducible first | exact HI372.out | apply IsS147.alloc | apply IsS147.drewN | apply IsS147.drew | apply IsS147.set_1 | apply IsS147.set_2) | exact HI372.out)); (case side2 => repeat (first | (with_reducible first | exact HB.out | apply below_alloc | apply pw_below_drewN | apply below_drew1 | refine below_set ?_ (IsS147.ge HI372.out)) | exact HB.out)); rintro e w18 ⟨rfl, hi, hb, hk⟩; refine ⟨_, rfl, ?_⟩; have n0_ := Aside0.mk (hb); have n1_ := Aside0.mk (hi); clear HB; clear HI372; have HB := n0_; have HI372 := n1_; clear n0_ n1_; (try clear hb); (try clear hb2); (try clear hk); (try clear hi)) | ((with_reducible refine gate_callee (f := 75) rfl ?_); refine goesL_ (some 9) rfl rfl Try.func75 (by kernel_rfl) rfl #[.agg #[.int .i64 t373, .int .i64 t374, .string t375, .string t376, .int .i64 t377, .int .i64 t378]] rfl ar_ ?_; (with_reducible refine (spec_ShowRec.calls k t373 t374 t375 t376 t377 t378 t381 _ A4.out).mono ?_); rintro e w19 ⟨rfl, hb⟩; refine ⟨_, rfl, ?_⟩; have n0_ := Aside0.mk (IsS147.below (by repeat (first | (with_reducible first | exact HI372.out | apply IsS147.alloc | apply IsS147.drewN | apply IsS147.drew | apply IsS147.set_1 | apply IsS147.set_2) | exact HI372.out)) hb); have n1_ := Aside0.mk (below_step (by repeat (first | (with_reducible first | exact HB.out | apply below_alloc | apply pw_below_drewN | apply below_drew1 | refine below_set ?_ (IsS147.ge HI372.out)) | exact HB.out)) hb); clear HI372; clear HB; have HI372 := n0_; have HB := n1_; clear n0_ n1_; (try clear hb); (try clear hb2); (try clear hk); (try clear hi)) | ((with_reducible refine gate_callee (f := 103) rfl ?_); refine goesL_ (some 11) rfl rfl Try.func103 (by kernel_rfl) rfl #[.pointer (some ⟨g372, 0, none⟩), .int .i64 5] rfl ar_ ?_; (with_reducible refine (spec_l1Below.calls g372 t369 t379 t380 5 t382 t383 t384 w _ ?side1 ?side2 A5.out).mono ?_); (case side1 => repeat (first | (with_reducible first | exact HI372.out | apply IsS147.alloc | apply IsS147.drewN | apply IsS147.drew | apply IsS147.set_1 | apply IsS147.set_2) | exact HI372.out)); (case side2 => repeat (first | (with_reducible first | exact HB.out | apply below_alloc | apply pw_below_drewN | apply below_drew1 | refine below_set ?_ (IsS147.ge HI372.out)) | exact HB.out)); rintro e w20 ⟨rfl, hi, hb, hk⟩; refine ⟨_, rfl, ?_⟩; have n0_ := Aside0.mk (hb); have n1_ := Aside0.mk (hi); clear HB; clear HI372; have HB := n0_; have HI372 := n1_; clear n0_ n1_; (try clear hb); (try clear hb2); (try clear hk); (try clear hi)) | ((with_reducible refine gate_callee (f := 103) rfl ?_); refine goesL_ (some 24) rfl rfl Try.func103 (by kernel_rfl) rfl #[.pointer (some ⟨g372, 0, none⟩), .int .i64 (wrap64 ((t381.size : Int) + 1))] rfl ar_ ?_; (with_reducible refine (spec_l1Below.calls g372 t369 t383 t384 (wrap64 ((t381.size : Int) + 1)) t388 t389 t390 w _ ?side1 ?side2 A14.out).mono ?_); (case side1 => repeat (first | (with_reducible first | exact HI372.out | apply IsS147.alloc | apply IsS147.drewN | apply IsS147.drew | apply IsS147.set_1 | apply IsS147.set_2) | exact HI372.out)); (case side2 => repeat (first | (with_reducible first | exact HB.out | apply below_alloc | apply pw_below_drewN | apply below_drew1 | refine below_set ?_ (IsS147.ge HI372.out)) | exact HB.out)); rintro e w21 ⟨rfl, hi, hb, hk⟩; refine ⟨_, rfl, ?_⟩; have n0_ := Aside0.mk (hb); have n1_ := Aside0.mk (hi); clear HB; clear HI372; have HB := n0_; have HI372 := n1_; clear n0_ n1_; (try clear hb); (try clear hb2); (try clear hk); (try clear hi)))
     go_ret
     exact ⟨re_, by repeat (first | (with_reducible first | exact HB.out | apply below_alloc | apply pw_below_drewN | apply below_drew1 | refine below_set ?_ (IsS147.ge HI372.out)) | exact HB.out)⟩
    ·rw [if_neg c16] at H
     exact absurd H (by simp)
   ·rw [if_neg c15] at H
    exact absurd H (by simp)
  ·rw [if_neg c13] at H
   have c13b0 : (t382 == 1) = false := beq_eq_false_iff_ne.mpr c13
   have c13b1 : (t382 != 1) = true := bne_iff_ne.mpr c13
   by_cases c22 : t382 = 2
   ·rw [if_pos c22] at H
    have c22b0 : (t382 == 2) = true := beq_iff_eq.mpr c22
    have c22b1 : (t382 != 2) = false := bne_eq_false_iff_eq.mpr c22
    clear c22
    replace H := Option.bind_eq_some_iff.mp H
    obtain ⟨⟨t391, t392, t393⟩, A230, H⟩ := H
    replace H : (if t381.size + t391.size ≤ 9223372036854775807 then (some (t381 ++ t391)) else (none)) = some r := H
    have A23 := Aside0.mk A230
    clear A230
    by_cases c24 : t381.size + t391.size ≤ 9223372036854775807
    ·rw [if_pos c24] at H
     have c24b0 := eq_true c24
     have c24b1 : decide (t381.size + t391.size ≤ 9223372036854775807) = true := decide_eq_true c24
     try have c24b2 : (9223372036854775807 < t381.size + t391.size) = False := eq_false (Nat.not_lt.2 c24)
     (try (have c24b3 := c24b2; simp only [ByteArray.size_append] at c24b3))
     obtain rfl := Option.some.inj H
     go_enter Try.func46, Try.ntmps46
     go_wp2_with (first | ((with_reducible refine gate_callee (f := 99) rfl ?_); refine goesL_ (some 6) rfl rfl Try.func99 (by kernel_rfl) rfl #[.slice A0 l0.length c0] rfl ar_ ?_; (with_reducible refine (spec_l1New.calls k _ _ l0 t369 t370 t371 w _ ?side1 ?side2 ?side3 A2.out).mono ?_); (case side1 => repeat (first | (with_reducible first | exact HB.out | apply below_alloc | apply pw_below_drewN | apply below_drew1) | exact HB.out)); (case side2 => exact HR0.out); (case side3 => exact HC0.out); rintro e w25 ⟨g372, rfl, hi, hb, hb2⟩; refine ⟨_, rfl, ?_⟩; have n0_ := Aside0.mk (hb); have n1_ := Aside0.mk (hi); clear HB; have HB := n0_; have HI372 := n1_; clear n0_ n1_; (try clear hb); (try clear hb2); (try clear hk); (try clear hi)) | ((with_reducible refine gate_callee (f := 102) rfl ?_); refine goesL_ (some 8) rfl rfl Try.func102 (by kernel_rfl) rfl #[.pointer (some ⟨g372, 0, none⟩)] rfl ar_ ?_; (with_reducible refine (spec_l5Rec.calls k g372 t369 t370 t371 t373 t374 t375 t376 t377 t378 t379 t380 w _ ?side1 ?side2 A3.out).mono ?_); (case side1 => repeat (first | (with_reducible first | exact HI372.out | apply IsS147.alloc | apply IsS147.drewN | apply IsS147.drew | apply IsS147.set_1 | apply IsS147.set_2) | exact HI372.out)); (case side2 => repeat (first | (with_reducible first | exact HB.out | apply below_alloc | apply pw_below_drewN | apply below_drew1 | refine below_set ?_ (IsS147.ge HI372.out)) | exact HB.out)); rintro e w26 ⟨rfl, hi, hb, hk⟩; refine ⟨_, rfl, ?_⟩; have n0_ := Aside0.mk (hb); have n1_ := Aside0.mk (hi); clear HB; clear HI372; have HB := n0_; have HI372 := n1_; clear n0_ n1_; (try clear hb); (try clear hb2); (try clear hk); (try clear hi)) | ((with_reducible refine gate_callee (f := 75) rfl ?_); refine goesL_ (some 9) rfl rfl Try.func75 (by kernel_rfl) rfl #[.agg #[.int .i64 t373, .int .i64 t374, .string t375, .string t376, .int .i64 t377, .int .i64 t378]] rfl ar_ ?_; (with_reducible refine (spec_ShowRec.calls k t373 t374 t375 t376 t377 t378 t381 _ A4.out).mono ?_); rintro e w27 ⟨rfl, hb⟩; refine ⟨_, rfl, ?_⟩; have n0_ := Aside0.mk (IsS147.below (by repeat (first | (with_reducible first | exact HI372.out | apply IsS147.alloc | apply IsS147.drewN | apply IsS147.drew | apply IsS147.set_1 | apply IsS147.set_2) | exact HI372.out)) hb); have n1_ := Aside0.mk (below_step (by repeat (first | (with_reducible first | exact HB.out | apply below_alloc | apply pw_below_drewN | apply below_drew1 | refine below_set ?_ (IsS147.ge HI372.out)) | exact HB.out)) hb); clear HI372; clear HB; have HI372 := n0_; have HB := n1_; clear n0_ n1_; (try clear hb); (try clear hb2); (try clear hk); (try clear hi)) | ((with_reducible refine gate_callee (f := 103) rfl ?_); refine goesL_ (some 11) rfl rfl Try.func103 (by kernel_rfl) rfl #[.pointer (some ⟨g372, 0, none⟩), .int .i64 5] rfl ar_ ?_; (with_reducible refine (spec_l1Below.calls g372 t369 t379 t380 5 t382 t383 t384 w _ ?side1 ?side2 A5.out).mono ?_); (case side1 => repeat (first | (with_reducible first | exact HI372.out | apply IsS147.alloc | apply IsS147.drewN | apply IsS147.drew | apply IsS147.set_1 | apply IsS147.set_2) | exact HI372.out)); (case side2 => repeat (first | (with_reducible first | exact HB.out | apply below_alloc | apply pw_below_drewN | apply below_drew1 | refine below_set ?_ (IsS147.ge HI372.out)) | exact HB.out)); rintro e w28 ⟨rfl, hi, hb, hk⟩; refine ⟨_, rfl, ?_⟩; have n0_ := Aside0.mk (hb); have n1_ := Aside0.mk (hi); clear HB; clear HI372; have HB := n0_; have HI372 := n1_; clear n0_ n1_; (try clear hb); (try clear hb2); (try clear hk); (try clear hi)) | ((with_reducible refine gate_callee (f := 105) rfl ?_); refine goesL_ (some 30) rfl rfl Try.func105 (by kernel_rfl) rfl #[.pointer (some ⟨g372, 0, none⟩), .int .i64 3] rfl ar_ ?_; (with_reducible refine (spec_l1Text.calls k g372 t369 t383 t384 3 t391 t392 t393 w _ ?side1 ?side2 A23.out).mono ?_); (case side1 => repeat (first | (with_reducible first | exact HI372.out | apply IsS147.alloc | apply IsS147.drewN | apply IsS147.drew | apply IsS147.set_1 | apply IsS147.set_2) | exact HI372.out)); (case side2 => repeat (first | (with_reducible first | exact HB.out | apply below_alloc | apply pw_below_drewN | apply below_drew1 | refine below_set ?_ (IsS147.ge HI372.out)) | exact HB.out)); rintro e w29 ⟨rfl, hi, hb, hk⟩; refine ⟨_, rfl, ?_⟩; have n0_ := Aside0.mk (hb); have n1_ := Aside0.mk (hi); clear HB; clear HI372; have HB := n0_; have HI372 := n1_; clear n0_ n1_; (try clear hb); (try clear hb2); (try clear hk); (try clear hi)))
     go_ret
     exact ⟨re_, by repeat (first | (with_reducible first | exact HB.out | apply below_alloc | apply pw_below_drewN | apply below_drew1 | refine below_set ?_ (IsS147.ge HI372.out)) | exact HB.out)⟩
    ·rw [if_neg c24] at H
     exact absurd H (by simp)
   ·rw [if_neg c22] at H
    have c22b0 : (t382 == 2) = false := beq_eq_false_iff_ne.mpr c22
    have c22b1 : (t382 != 2) = true := bne_iff_ne.mpr c22
    obtain rfl := Option.some.inj H
    go_enter Try.func46, Try.ntmps46
    go_wp2_with (first | ((with_reducible refine gate_callee (f := 99) rfl ?_); refine goesL_ (some 6) rfl rfl Try.func99 (by kernel_rfl) rfl #[.slice A0 l0.length c0] rfl ar_ ?_; (with_reducible refine (spec_l1New.calls k _ _ l0 t369 t370 t371 w _ ?side1 ?side2 ?side3 A2.out).mono ?_); (case side1 => repeat (first | (with_reducible first | exact HB.out | apply below_alloc | apply pw_below_drewN | apply below_drew1) | exact HB.out)); (case side2 => exact HR0.out); (case side3 => exact HC0.out); rintro e w30 ⟨g372, rfl, hi, hb, hb2⟩; refine ⟨_, rfl, ?_⟩; have n0_ := Aside0.mk (hb); have n1_ := Aside0.mk (hi); clear HB; have HB := n0_; have HI372 := n1_; clear n0_ n1_; (try clear hb); (try clear hb2); (try clear hk); (try clear hi)) | ((with_reducible refine gate_callee (f := 102) rfl ?_); refine goesL_ (some 8) rfl rfl Try.func102 (by kernel_rfl) rfl #[.pointer (some ⟨g372, 0, none⟩)] rfl ar_ ?_; (with_reducible refine (spec_l5Rec.calls k g372 t369 t370 t371 t373 t374 t375 t376 t377 t378 t379 t380 w _ ?side1 ?side2 A3.out).mono ?_); (case side1 => repeat (first | (with_reducible first | exact HI372.out | apply IsS147.alloc | apply IsS147.drewN | apply IsS147.drew | apply IsS147.set_1 | apply IsS147.set_2) | exact HI372.out)); (case side2 => repeat (first | (with_reducible first | exact HB.out | apply below_alloc | apply pw_below_drewN | apply below_drew1 | refine below_set ?_ (IsS147.ge HI372.out)) | exact HB.out)); rintro e w31 ⟨rfl, hi, hb, hk⟩; refine ⟨_, rfl, ?_⟩; have n0_ := Aside0.mk (hb); have n1_ := Aside0.mk (hi); clear HB; clear HI372; have HB := n0_; have HI372 := n1_; clear n0_ n1_; (try clear hb); (try clear hb2); (try clear hk); (try clear hi)) | ((with_reducible refine gate_callee (f := 75) rfl ?_); refine goesL_ (some 9) rfl rfl Try.func75 (by kernel_rfl) rfl #[.agg #[.int .i64 t373, .int .i64 t374, .string t375, .string t376, .int .i64 t377, .int .i64 t378]] rfl ar_ ?_; (with_reducible refine (spec_ShowRec.calls k t373 t374 t375 t376 t377 t378 t381 _ A4.out).mono ?_); rintro e w32 ⟨rfl, hb⟩; refine ⟨_, rfl, ?_⟩; have n0_ := Aside0.mk (IsS147.below (by repeat (first | (with_reducible first | exact HI372.out | apply IsS147.alloc | apply IsS147.drewN | apply IsS147.drew | apply IsS147.set_1 | apply IsS147.set_2) | exact HI372.out)) hb); have n1_ := Aside0.mk (below_step (by repeat (first | (with_reducible first | exact HB.out | apply below_alloc | apply pw_below_drewN | apply below_drew1 | refine below_set ?_ (IsS147.ge HI372.out)) | exact HB.out)) hb); clear HI372; clear HB; have HI372 := n0_; have HB := n1_; clear n0_ n1_; (try clear hb); (try clear hb2); (try clear hk); (try clear hi)) | ((with_reducible refine gate_callee (f := 103) rfl ?_); refine goesL_ (some 11) rfl rfl Try.func103 (by kernel_rfl) rfl #[.pointer (some ⟨g372, 0, none⟩), .int .i64 5] rfl ar_ ?_; (with_reducible refine (spec_l1Below.calls g372 t369 t379 t380 5 t382 t383 t384 w _ ?side1 ?side2 A5.out).mono ?_); (case side1 => repeat (first | (with_reducible first | exact HI372.out | apply IsS147.alloc | apply IsS147.drewN | apply IsS147.drew | apply IsS147.set_1 | apply IsS147.set_2) | exact HI372.out)); (case side2 => repeat (first | (with_reducible first | exact HB.out | apply below_alloc | apply pw_below_drewN | apply below_drew1 | refine below_set ?_ (IsS147.ge HI372.out)) | exact HB.out)); rintro e w33 ⟨rfl, hi, hb, hk⟩; refine ⟨_, rfl, ?_⟩; have n0_ := Aside0.mk (hb); have n1_ := Aside0.mk (hi); clear HB; clear HI372; have HB := n0_; have HI372 := n1_; clear n0_ n1_; (try clear hb); (try clear hb2); (try clear hk); (try clear hi)))
    go_ret
    exact ⟨re_, by repeat (first | (with_reducible first | exact HB.out | apply below_alloc | apply pw_below_drewN | apply below_drew1 | refine below_set ?_ (IsS147.ge HI372.out)) | exact HB.out)⟩

end Go.Proofs.Ytebeafcdabkkfaa.PFnRecords
