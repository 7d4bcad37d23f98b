-- Laid by a program of this session, a copy of the kit's printer with additions (wip/patch_print.py): myhead. Lean checks it.
import Derived.Test.YtebeafcdabkkfaaPFnRecordsx0
import Derived.Test.YtebeafcdabkkfaaPFnRecordsx1
import Derived.Test.YtebeafcdabkkfaaPFnRecordsx3
import Derived.Test.YtebeafcdabkkfaaPFnRecordsx5
import Derived.Test.YtebeafcdabkkfaaPFnRecordsx7
import Derived.Test.YtebeafcdabkkfaaPFnRecordsx9
import Derived.Test.YtebeafcdabkkfaaPFnRecordsx10
import Derived.Test.YtebeafcdabkkfaaPFnRecordsx14
namespace Go.Proofs.Ytebeafcdabkkfaa.PFnRecords
open Go.RowKit Go.Proofs.YtebeafcdabkkfaaW.PrintWords Go.Proofs.YtebeafcdabkkfaaW.PrintLast Go.Proofs.YtebeafcdabkkfaaW.PrintMore
attribute [local go_sem] max2_int min2_int max_two min_two max_three min_three max_four min_four   -- for this text's walks alone
set_option linter.unusedVariables false
set_option linter.unusedSimpArgs false

attribute [local go_sem high] eqA35
/-! ### laws_FnRecords: function 9 -/
def laws_FnRecords.f (k : Nat) (l0 : List Int) : Option (Bool) := (laws_big.f l0).bind fun t394 => (if t394 = true then (some true) else ((spec_DrawShowRec.f k l0).bind fun bt395 => ((impl_ShowRec.f k bt395.1 bt395.2.1 bt395.2.2.1 bt395.2.2.2.1 bt395.2.2.2.2.1 bt395.2.2.2.2.2).bind fun t402 => ((impl_ReadRec.f k t402).bind fun bt403 => ((spec_DrawReadRec.f k l0).bind fun t411 => ((impl_ReadRec.f k t411).bind fun bt412 => ((spec_RecOk.f k bt395.1 bt395.2.1 bt395.2.2.1 bt395.2.2.2.1 bt395.2.2.2.2.1 bt395.2.2.2.2.2).bind fun t420 => (if ((t402.toList != ([] : List UInt8)) == t420) = true then ((impl_RecOk.f k bt395.1 bt395.2.1 bt395.2.2.1 bt395.2.2.2.1 bt395.2.2.2.2.1 bt395.2.2.2.2.2).bind fun t421 => ((spec_RecOk.f k bt395.1 bt395.2.1 bt395.2.2.1 bt395.2.2.2.1 bt395.2.2.2.2.1 bt395.2.2.2.2.2).bind fun t422 => (if (t421 == t422) = true then (if t402.toList = ([] : List UInt8) then (if bt412.2.2.2.2.2.2 = true then ((impl_ShowRec.f k bt412.1 bt412.2.1 bt412.2.2.1 bt412.2.2.2.1 bt412.2.2.2.2.1 bt412.2.2.2.2.2.1).bind fun t423 => (if t423.toList = t411.toList then ((spec_RecOk.f k bt412.1 bt412.2.1 bt412.2.2.1 bt412.2.2.2.1 bt412.2.2.2.2.1 bt412.2.2.2.2.2.1).bind fun t424 => (some t424)) else (some false))) else (some true)) else (if bt403.2.2.2.2.2.2 = true then (if (bt403.1 == bt395.1 && (bt403.2.1 == bt395.2.1 && (bt403.2.2.1.toList == bt395.2.2.1.toList && (bt403.2.2.2.1.toList == bt395.2.2.2.1.toList && (bt403.2.2.2.2.1 == bt395.2.2.2.2.1 && (bt403.2.2.2.2.2.1 == bt395.2.2.2.2.2)))))) = true then (if bt412.2.2.2.2.2.2 = true then ((impl_ShowRec.f k bt412.1 bt412.2.1 bt412.2.2.1 bt412.2.2.2.1 bt412.2.2.2.2.1 bt412.2.2.2.2.2.1).bind fun t425 => (if t425.toList = t411.toList then ((spec_RecOk.f k bt412.1 bt412.2.1 bt412.2.2.1 bt412.2.2.2.1 bt412.2.2.2.2.1 bt412.2.2.2.2.2.1).bind fun t426 => (some t426)) else (some false))) else (some true)) else (some false)) else (some false))) else (some false)))) else (some false)))))))))
theorem laws_FnRecords.mono : ∀ a0 k, LeO (laws_FnRecords.f k a0) (laws_FnRecords.f (k + 1) a0) := by
 intro a0 k
 unfold laws_FnRecords.f
 repeat' first
   | (with_reducible exact impl_ReadRec.mono _ _)
   | (with_reducible exact impl_RecOk.mono _ _ _ _ _ _ _)
   | (with_reducible exact impl_ShowRec.mono _ _ _ _ _ _ _)
   | (with_reducible exact spec_DrawReadRec.mono _ _)
   | (with_reducible exact spec_DrawShowRec.mono _ _)
   | (with_reducible exact spec_RecOk.mono _ _ _ _ _ _ _)
   | (with_reducible exact LeO.refl _)
   | (with_reducible exact LeO.none _)
   | (with_reducible refine LeO.ite ?_ ?_)
   | (with_reducible refine LeO.bind ?_ (fun _ => ?_))
   | exact impl_ReadRec.mono _ _
   | exact impl_RecOk.mono _ _ _ _ _ _ _
   | exact impl_ShowRec.mono _ _ _ _ _ _ _
   | exact spec_DrawReadRec.mono _ _
   | exact spec_DrawShowRec.mono _ _
   | exact spec_RecOk.mono _ _ _ _ _ _ _
   | exact LeO.none _
   | refine LeO.ite ?_ ?_
   | refine LeO.bind ?_ (fun _ => ?_)
def laws_FnRecords.T8 : Bool × List (List Nat × List Nat) := (true, [([], []), ([0], [0]), ([], []), ([2], [2]), ([1, 3], [1, 3]), ([4, 3], [4]), ([5], [5]), ([6, 5, 5], [5, 6]), ([5], [5]), ([8, 7, 5], [5, 8]), ([7, 9, 5], [5, 7, 9]), ([5, 10], [5, 10]), ([11, 9], [11]), ([12], [12]), ([13, 12], [12, 13]), ([14, 12, 12], [12, 14]), ([15], [15]), ([16, 15, 15], [15, 16]), ([17], [17]), ([17], [17]), ([18, 19, 17], [17, 18, 19]), ([17, 20, 15], [15, 17, 20]), ([15, 21, 12], [12, 15, 21]), ([12, 22], [12, 22]), ([23, 17], [23]), ([24], [24]), ([25, 24], [24, 25]), ([26, 24, 24], [24, 26]), ([27], [27]), ([28, 27, 27], [27, 28]), ([27], [27]), ([29, 30, 27], [27, 29, 30]), ([31, 29, 27], [27, 31]), ([32], [32]), ([33, 32, 32], [32, 33]), ([32, 34, 27], [27, 32, 34]), ([27, 35, 24], [24, 27, 35]), ([24, 36], [24, 36]), ([37, 34, 0, 1, 2, 3, 4, 5, 6, 7, 8, 9, 10, 11, 12, 13, 14, 15, 16, 17, 18, 19, 20, 21, 22, 23, 24, 25, 26, 27, 28, 29, 30, 31, 32, 33, 34, 35, 36, 37], [37])])
def laws_FnRecords.B8 : List Nat := [0, 1, 0, 4, 15, 31, 63, 127, 63, 511, 1023, 2047, 4095, 8191, 16383, 32767, 65535, 131071, 262143, 262143, 1048575, 2097151, 4194303, 8388607, 16777215, 33554431, 67108863, 134217727, 268435455, 536870911, 268435455, 2147483647, 4294967295, 8589934591, 17179869183, 34359738367, 68719476735, 137438953471, 274877906943]
theorem laws_FnRecords.tab8 : rtab .any (opsOf Try.f9 8) = laws_FnRecords.T8 := by kernel_rfl
theorem laws_FnRecords.bits8 : waitsOk laws_FnRecords.T8.2 laws_FnRecords.B8 = true := by kernel_rfl
set_option maxHeartbeats 8000000 in
set_option maxRecDepth 100000 in
theorem laws_FnRecords.calls (k : Nat) (A0 : Option Addr) (c0 : Nat) (l0 : List Int) (r : Bool) (w : World) (hr0 : Kd.C (Kd.int .u8) w A0 l0.length l0) (hc0 : l0.length ≤ c0) (hrt : r = true) (h : laws_FnRecords.f k l0 = some r) :
  Calls Try.prog 9 #[.slice A0 l0.length c0] w fun e w' => e = .returned (.bool r) ∧ Below w.heap.size w w' := by
 have hu35 := Try.underlying35
 have HRT := Aside0.mk hrt
 clear hrt
 have HR0 := Aside0.mk hr0
 have HC0 := Aside0.mk hc0
 clear hr0 hc0
 have HB := Aside0.mk (Below.refl w.heap.size w)
 have H : ((laws_big.f l0).bind fun t394 => (if t394 = true then (some true) else ((spec_DrawShowRec.f k l0).bind fun bt395 => ((impl_ShowRec.f k bt395.1 bt395.2.1 bt395.2.2.1 bt395.2.2.2.1 bt395.2.2.2.2.1 bt395.2.2.2.2.2).bind fun t402 => ((impl_ReadRec.f k t402).bind fun bt403 => ((spec_DrawReadRec.f k l0).bind fun t411 => ((impl_ReadRec.f k t411).bind fun bt412 => ((spec_RecOk.f k bt395.1 bt395.2.1 bt395.2.2.1 bt395.2.2.2.1 bt395.2.2.2.2.1 bt395.2.2.2.2.2).bind fun t420 => (if ((t402.toList != ([] : List UInt8)) == t420) = true then ((impl_RecOk.f k bt395.1 bt395.2.1 bt395.2.2.1 bt395.2.2.2.1 bt395.2.2.2.2.1 bt395.2.2.2.2.2).bind fun t421 => ((spec_RecOk.f k bt395.1 bt395.2.1 bt395.2.2.1 bt395.2.2.2.1 bt395.2.2.2.2.1 bt395.2.2.2.2.2).bind fun t422 => (if (t421 == t422) = true then (if t402.toList = ([] : List UInt8) then (if bt412.2.2.2.2.2.2 = true then ((impl_ShowRec.f k bt412.1 bt412.2.1 bt412.2.2.1 bt412.2.2.2.1 bt412.2.2.2.2.1 bt412.2.2.2.2.2.1).bind fun t423 => (if t423.toList = t411.toList then ((spec_RecOk.f k bt412.1 bt412.2.1 bt412.2.2.1 bt412.2.2.2.1 bt412.2.2.2.2.1 bt412.2.2.2.2.2.1).bind fun t424 => (some t424)) else (some false))) else (some true)) else (if bt403.2.2.2.2.2.2 = true then (if (bt403.1 == bt395.1 && (bt403.2.1 == bt395.2.1 && (bt403.2.2.1.toList == bt395.2.2.1.toList && (bt403.2.2.2.1.toList == bt395.2.2.2.1.toList && (bt403.2.2.2.2.1 == bt395.2.2.2.2.1 && (bt403.2.2.2.2.2.1 == bt395.2.2.2.2.2)))))) = true then (if bt412.2.2.2.2.2.2 = true then ((impl_ShowRec.f k bt412.1 bt412.2.1 bt412.2.2.1 bt412.2.2.2.1 bt412.2.2.2.2.1 bt412.2.2.2.2.2.1).bind fun t425 => (if t425.toList = t411.toList then ((spec_RecOk.f k bt412.1 bt412.2.1 bt412.2.2.1 bt412.2.2.2.1 bt412.2.2.2.2.1 bt412.2.2.2.2.2.1).bind fun t426 => (some t426)) else (some false))) else (some true)) else (some false)) else (some false))) else (some false)))) else (some false)))))))))) = some r := h
 clear h
 replace H := Option.bind_eq_some_iff.mp H
 obtain ⟨t394, A20, H⟩ := H
 replace H : (if t394 = true then (some true) else ((spec_DrawShowRec.f k l0).bind fun bt395 => ((impl_ShowRec.f k bt395.1 bt395.2.1 bt395.2.2.1 bt395.2.2.2.1 bt395.2.2.2.2.1 bt395.2.2.2.2.2).bind fun t402 => ((impl_ReadRec.f k t402).bind fun bt403 => ((spec_DrawReadRec.f k l0).bind fun t411 => ((impl_ReadRec.f k t411).bind fun bt412 => ((spec_RecOk.f k bt395.1 bt395.2.1 bt395.2.2.1 bt395.2.2.2.1 bt395.2.2.2.2.1 bt395.2.2.2.2.2).bind fun t420 => (if ((t402.toList != ([] : List UInt8)) == t420) = true then ((impl_RecOk.f k bt395.1 bt395.2.1 bt395.2.2.1 bt395.2.2.2.1 bt395.2.2.2.2.1 bt395.2.2.2.2.2).bind fun t421 => ((spec_RecOk.f k bt395.1 bt395.2.1 bt395.2.2.1 bt395.2.2.2.1 bt395.2.2.2.2.1 bt395.2.2.2.2.2).bind fun t422 => (if (t421 == t422) = true then (if t402.toList = ([] : List UInt8) then (if bt412.2.2.2.2.2.2 = true then ((impl_ShowRec.f k bt412.1 bt412.2.1 bt412.2.2.1 bt412.2.2.2.1 bt412.2.2.2.2.1 bt412.2.2.2.2.2.1).bind fun t423 => (if t423.toList = t411.toList then ((spec_RecOk.f k bt412.1 bt412.2.1 bt412.2.2.1 bt412.2.2.2.1 bt412.2.2.2.2.1 bt412.2.2.2.2.2.1).bind fun t424 => (some t424)) else (some false))) else (some true)) else (if bt403.2.2.2.2.2.2 = true then (if (bt403.1 == bt395.1 && (bt403.2.1 == bt395.2.1 && (bt403.2.2.1.toList == bt395.2.2.1.toList && (bt403.2.2.2.1.toList == bt395.2.2.2.1.toList && (bt403.2.2.2.2.1 == bt395.2.2.2.2.1 && (bt403.2.2.2.2.2.1 == bt395.2.2.2.2.2)))))) = true then (if bt412.2.2.2.2.2.2 = true then ((impl_ShowRec.f k bt412.1 bt412.2.1 bt412.2.2.1 bt412.2.2.2.1 bt412.2.2.2.2.1 bt412.2.2.2.2.2.1).bind fun t425 => (if t425.toList = t411.toList then ((spec_RecOk.f k bt412.1 bt412.2.1 bt412.2.2.1 bt412.2.2.2.1 bt412.2.2.2.2.1 bt412.2.2.2.2.2.1).bind fun t426 => (some t426)) else (some false))) else (some true)) else (some false)) else (some false))) else (some false)))) else (some false))))))))) = some r := H
 have A2 := Aside0.mk A20
 clear A20
 by_cases c3 : t394 = true
 ·subst c3
  have H1 : (some true) = some r := by rw [if_pos rfl] at H; exact H
  clear H
  have H := H1
  clear H1
  obtain rfl := Option.some.inj H
  go_enter Try.func9, Try.ntmps9
  go_wp2_with (first | ((with_reducible refine gate_callee (f := 43) rfl ?_); refine goesL_ (some 11) rfl rfl Try.func43 (by kernel_rfl) rfl #[.slice A0 l0.length c0] rfl ar_ ?_; (with_reducible refine (laws_big.calls _ _ l0 true _ ?side1 ?side2 A2.out).mono ?_); (case side1 => repeat (first | exact HR0.out | (with_reducible refine Kd.C_alloc ?_ _) | (with_reducible refine Kd.C_drewN ?_ _) | (with_reducible refine Kd.C_drew ?_))); (case side2 => exact HC0.out); rintro e w' ⟨rfl, ⟨nd, rfl⟩⟩; refine ⟨_, rfl, ?_⟩))
  go_ret
  exact ⟨re_, hb_ HB⟩
 ·replace c3 := Bool.eq_false_iff.mpr c3
  subst c3
  have H1 : ((spec_DrawShowRec.f k l0).bind fun bt395 => ((impl_ShowRec.f k bt395.1 bt395.2.1 bt395.2.2.1 bt395.2.2.2.1 bt395.2.2.2.2.1 bt395.2.2.2.2.2).bind fun t402 => ((impl_ReadRec.f k t402).bind fun bt403 => ((spec_DrawReadRec.f k l0).bind fun t411 => ((impl_ReadRec.f k t411).bind fun bt412 => ((spec_RecOk.f k bt395.1 bt395.2.1 bt395.2.2.1 bt395.2.2.2.1 bt395.2.2.2.2.1 bt395.2.2.2.2.2).bind fun t420 => (if ((t402.toList != ([] : List UInt8)) == t420) = true then ((impl_RecOk.f k bt395.1 bt395.2.1 bt395.2.2.1 bt395.2.2.2.1 bt395.2.2.2.2.1 bt395.2.2.2.2.2).bind fun t421 => ((spec_RecOk.f k bt395.1 bt395.2.1 bt395.2.2.1 bt395.2.2.2.1 bt395.2.2.2.2.1 bt395.2.2.2.2.2).bind fun t422 => (if (t421 == t422) = true then (if t402.toList = ([] : List UInt8) then (if bt412.2.2.2.2.2.2 = true then ((impl_ShowRec.f k bt412.1 bt412.2.1 bt412.2.2.1 bt412.2.2.2.1 bt412.2.2.2.2.1 bt412.2.2.2.2.2.1).bind fun t423 => (if t423.toList = t411.toList then ((spec_RecOk.f k bt412.1 bt412.2.1 bt412.2.2.1 bt412.2.2.2.1 bt412.2.2.2.2.1 bt412.2.2.2.2.2.1).bind fun t424 => (some t424)) else (some false))) else (some true)) else (if bt403.2.2.2.2.2.2 = true then (if (bt403.1 == bt395.1 && (bt403.2.1 == bt395.2.1 && (bt403.2.2.1.toList == bt395.2.2.1.toList && (bt403.2.2.2.1.toList == bt395.2.2.2.1.toList && (bt403.2.2.2.2.1 == bt395.2.2.2.2.1 && (bt403.2.2.2.2.2.1 == bt395.2.2.2.2.2)))))) = true then (if bt412.2.2.2.2.2.2 = true then ((impl_ShowRec.f k bt412.1 bt412.2.1 bt412.2.2.1 bt412.2.2.2.1 bt412.2.2.2.2.1 bt412.2.2.2.2.2.1).bind fun t425 => (if t425.toList = t411.toList then ((spec_RecOk.f k bt412.1 bt412.2.1 bt412.2.2.1 bt412.2.2.2.1 bt412.2.2.2.2.1 bt412.2.2.2.2.2.1).bind fun t426 => (some t426)) else (some false))) else (some true)) else (some false)) else (some false))) else (some false)))) else (some false)))))))) = some r := by rw [if_neg (show ¬ (false = true) by decide)] at H; exact H
  clear H
  have H := H1
  clear H1
  replace H := Option.bind_eq_some_iff.mp H
  obtain ⟨⟨t395, t396, t397, t398, t399, t400⟩, A40, H⟩ := H
  replace H : ((impl_ShowRec.f k t395 t396 t397 t398 t399 t400).bind fun t402 => ((impl_ReadRec.f k t402).bind fun bt403 => ((spec_DrawReadRec.f k l0).bind fun t411 => ((impl_ReadRec.f k t411).bind fun bt412 => ((spec_RecOk.f k t395 t396 t397 t398 t399 t400).bind fun t420 => (if ((t402.toList != ([] : List UInt8)) == t420) = true then ((impl_RecOk.f k t395 t396 t397 t398 t399 t400).bind fun t421 => ((spec_RecOk.f k t395 t396 t397 t398 t399 t400).bind fun t422 => (if (t421 == t422) = true then (if t402.toList = ([] : List UInt8) then (if bt412.2.2.2.2.2.2 = true then ((impl_ShowRec.f k bt412.1 bt412.2.1 bt412.2.2.1 bt412.2.2.2.1 bt412.2.2.2.2.1 bt412.2.2.2.2.2.1).bind fun t423 => (if t423.toList = t411.toList then ((spec_RecOk.f k bt412.1 bt412.2.1 bt412.2.2.1 bt412.2.2.2.1 bt412.2.2.2.2.1 bt412.2.2.2.2.2.1).bind fun t424 => (some t424)) else (some false))) else (some true)) else (if bt403.2.2.2.2.2.2 = true then (if (bt403.1 == t395 && (bt403.2.1 == t396 && (bt403.2.2.1.toList == t397.toList && (bt403.2.2.2.1.toList == t398.toList && (bt403.2.2.2.2.1 == t399 && (bt403.2.2.2.2.2.1 == t400)))))) = true then (if bt412.2.2.2.2.2.2 = true then ((impl_ShowRec.f k bt412.1 bt412.2.1 bt412.2.2.1 bt412.2.2.2.1 bt412.2.2.2.2.1 bt412.2.2.2.2.2.1).bind fun t425 => (if t425.toList = t411.toList then ((spec_RecOk.f k bt412.1 bt412.2.1 bt412.2.2.1 bt412.2.2.2.1 bt412.2.2.2.2.1 bt412.2.2.2.2.2.1).bind fun t426 => (some t426)) else (some false))) else (some true)) else (some false)) else (some false))) else (some false)))) else (some false))))))) = some r := H
  have A4 := Aside0.mk A40
  clear A40
  replace H := Option.bind_eq_some_iff.mp H
  obtain ⟨t402, A50, H⟩ := H
  replace H : ((impl_ReadRec.f k t402).bind fun bt403 => ((spec_DrawReadRec.f k l0).bind fun t411 => ((impl_ReadRec.f k t411).bind fun bt412 => ((spec_RecOk.f k t395 t396 t397 t398 t399 t400).bind fun t420 => (if ((t402.toList != ([] : List UInt8)) == t420) = true then ((impl_RecOk.f k t395 t396 t397 t398 t399 t400).bind fun t421 => ((spec_RecOk.f k t395 t396 t397 t398 t399 t400).bind fun t422 => (if (t421 == t422) = true then (if t402.toList = ([] : List UInt8) then (if bt412.2.2.2.2.2.2 = true then ((impl_ShowRec.f k bt412.1 bt412.2.1 bt412.2.2.1 bt412.2.2.2.1 bt412.2.2.2.2.1 bt412.2.2.2.2.2.1).bind fun t423 => (if t423.toList = t411.toList then ((spec_RecOk.f k bt412.1 bt412.2.1 bt412.2.2.1 bt412.2.2.2.1 bt412.2.2.2.2.1 bt412.2.2.2.2.2.1).bind fun t424 => (some t424)) else (some false))) else (some true)) else (if bt403.2.2.2.2.2.2 = true then (if (bt403.1 == t395 && (bt403.2.1 == t396 && (bt403.2.2.1.toList == t397.toList && (bt403.2.2.2.1.toList == t398.toList && (bt403.2.2.2.2.1 == t399 && (bt403.2.2.2.2.2.1 == t400)))))) = true then (if bt412.2.2.2.2.2.2 = true then ((impl_ShowRec.f k bt412.1 bt412.2.1 bt412.2.2.1 bt412.2.2.2.1 bt412.2.2.2.2.1 bt412.2.2.2.2.2.1).bind fun t425 => (if t425.toList = t411.toList then ((spec_RecOk.f k bt412.1 bt412.2.1 bt412.2.2.1 bt412.2.2.2.1 bt412.2.2.2.2.1 bt412.2.2.2.2.2.1).bind fun t426 => (some t426)) else (some false))) else (some true)) else (some false)) else (some false))) else (some false)))) else (some false)))))) = some r := H
  have A5 := Aside0.mk A50
  clear A50
  replace H := Option.bind_eq_some_iff.mp H
  obtain ⟨⟨t403, t404, t405, t406, t407, t408, t409⟩, A60, H⟩ := H
  replace H : ((spec_DrawReadRec.f k l0).bind fun t411 => ((impl_ReadRec.f k t411).bind fun bt412 => ((spec_RecOk.f k t395 t396 t397 t398 t399 t400).bind fun t420 => (if ((t402.toList != ([] : List UInt8)) == t420) = true then ((impl_RecOk.f k t395 t396 t397 t398 t399 t400).bind fun t421 => ((spec_RecOk.f k t395 t396 t397 t398 t399 t400).bind fun t422 => (if (t421 == t422) = true then (if t402.toList = ([] : List UInt8) then (if bt412.2.2.2.2.2.2 = true then ((impl_ShowRec.f k bt412.1 bt412.2.1 bt412.2.2.1 bt412.2.2.2.1 bt412.2.2.2.2.1 bt412.2.2.2.2.2.1).bind fun t423 => (if t423.toList = t411.toList then ((spec_RecOk.f k bt412.1 bt412.2.1 bt412.2.2.1 bt412.2.2.2.1 bt412.2.2.2.2.1 bt412.2.2.2.2.2.1).bind fun t424 => (some t424)) else (some false))) else (some true)) else (if t409 = true then (if (t403 == t395 && (t404 == t396 && (t405.toList == t397.toList && (t406.toList == t398.toList && (t407 == t399 && (t408 == t400)))))) = true then (if bt412.2.2.2.2.2.2 = true then ((impl_ShowRec.f k bt412.1 bt412.2.1 bt412.2.2.1 bt412.2.2.2.1 bt412.2.2.2.2.1 bt412.2.2.2.2.2.1).bind fun t425 => (if t425.toList = t411.toList then ((spec_RecOk.f k bt412.1 bt412.2.1 bt412.2.2.1 bt412.2.2.2.1 bt412.2.2.2.2.1 bt412.2.2.2.2.2.1).bind fun t426 => (some t426)) else (some false))) else (some true)) else (some false)) else (some false))) else (some false)))) else (some false))))) = some r := H
  have A6 := Aside0.mk A60
  clear A60
  replace H := Option.bind_eq_some_iff.mp H
  obtain ⟨t411, A70, H⟩ := H
  replace H : ((impl_ReadRec.f k t411).bind fun bt412 => ((spec_RecOk.f k t395 t396 t397 t398 t399 t400).bind fun t420 => (if ((t402.toList != ([] : List UInt8)) == t420) = true then ((impl_RecOk.f k t395 t396 t397 t398 t399 t400).bind fun t421 => ((spec_RecOk.f k t395 t396 t397 t398 t399 t400).bind fun t422 => (if (t421 == t422) = true then (if t402.toList = ([] : List UInt8) then (if bt412.2.2.2.2.2.2 = true then ((impl_ShowRec.f k bt412.1 bt412.2.1 bt412.2.2.1 bt412.2.2.2.1 bt412.2.2.2.2.1 bt412.2.2.2.2.2.1).bind fun t423 => (if t423.toList = t411.toList then ((spec_RecOk.f k bt412.1 bt412.2.1 bt412.2.2.1 bt412.2.2.2.1 bt412.2.2.2.2.1 bt412.2.2.2.2.2.1).bind fun t424 => (some t424)) else (some false))) else (some true)) else (if t409 = true then (if (t403 == t395 && (t404 == t396 && (t405.toList == t397.toList && (t406.toList == t398.toList && (t407 == t399 && (t408 == t400)))))) = true then (if bt412.2.2.2.2.2.2 = true then ((impl_ShowRec.f k bt412.1 bt412.2.1 bt412.2.2.1 bt412.2.2.2.1 bt412.2.2.2.2.1 bt412.2.2.2.2.2.1).bind fun t425 => (if t425.toList = t411.toList then ((spec_RecOk.f k bt412.1 bt412.2.1 bt412.2.2.1 bt412.2.2.2.1 bt412.2.2.2.2.1 bt412.2.2.2.2.2.1).bind fun t426 => (some t426)) else (some false))) else (some true)) else (some false)) else (some false))) else (some false)))) else (some false)))) = some r := H
  have A7 := Aside0.mk A70
  clear A70
  replace H := Option.bind_eq_some_iff.mp H
  obtain ⟨⟨t412, t413, t414, t415, t416, t417, t418⟩, A80, H⟩ := H
  replace H : ((spec_RecOk.f k t395 t396 t397 t398 t399 t400).bind fun t420 => (if ((t402.toList != ([] : List UInt8)) == t420) = true then ((impl_RecOk.f k t395 t396 t397 t398 t399 t400).bind fun t421 => ((spec_RecOk.f k t395 t396 t397 t398 t399 t400).bind fun t422 => (if (t421 == t422) = true then (if t402.toList = ([] : List UInt8) then (if t418 = true then ((impl_ShowRec.f k t412 t413 t414 t415 t416 t417).bind fun t423 => (if t423.toList = t411.toList then ((spec_RecOk.f k t412 t413 t414 t415 t416 t417).bind fun t424 => (some t424)) else (some false))) else (some true)) else (if t409 = true then (if (t403 == t395 && (t404 == t396 && (t405.toList == t397.toList && (t406.toList == t398.toList && (t407 == t399 && (t408 == t400)))))) = true then (if t418 = true then ((impl_ShowRec.f k t412 t413 t414 t415 t416 t417).bind fun t425 => (if t425.toList = t411.toList then ((spec_RecOk.f k t412 t413 t414 t415 t416 t417).bind fun t426 => (some t426)) else (some false))) else (some true)) else (some false)) else (some false))) else (some false)))) else (some false))) = some r := H
  have A8 := Aside0.mk A80
  clear A80
  replace H := Option.bind_eq_some_iff.mp H
  obtain ⟨t420, A90, H⟩ := H
  replace H : (if ((t402.toList != ([] : List UInt8)) == t420) = true then ((impl_RecOk.f k t395 t396 t397 t398 t399 t400).bind fun t421 => ((spec_RecOk.f k t395 t396 t397 t398 t399 t400).bind fun t422 => (if (t421 == t422) = true then (if t402.toList = ([] : List UInt8) then (if t418 = true then ((impl_ShowRec.f k t412 t413 t414 t415 t416 t417).bind fun t423 => (if t423.toList = t411.toList then ((spec_RecOk.f k t412 t413 t414 t415 t416 t417).bind fun t424 => (some t424)) else (some false))) else (some true)) else (if t409 = true then (if (t403 == t395 && (t404 == t396 && (t405.toList == t397.toList && (t406.toList == t398.toList && (t407 == t399 && (t408 == t400)))))) = true then (if t418 = true then ((impl_ShowRec.f k t412 t413 t414 t415 t416 t417).bind fun t425 => (if t425.toList = t411.toList then ((spec_RecOk.f k t412 t413 t414 t415 t416 t417).bind fun t426 => (some t426)) else (some false))) else (some true)) else (some false)) else (some false))) else (some false)))) else (some false)) = some r := H
  have A9 := Aside0.mk A90
  clear A90
  by_cases c10 : ((t402.toList != ([] : List UInt8)) == t420) = true
  ·rw [if_pos c10] at H
   have c10b0 : ((t402.toList != ([] : List UInt8)) == t420) = true := c10
   (try (have c10b1 : decide ((t402.toList != ([] : List UInt8)) = t420) = true := by simpa using c10))
   (try (have c10b2 : ((t402.toList != ([] : List UInt8)) == t420) = true := by simpa using c10))
   clear c10
   replace H := Option.bind_eq_some_iff.mp H
   obtain ⟨t421, A110, H⟩ := H
   replace H : ((spec_RecOk.f k t395 t396 t397 t398 t399 t400).bind fun t422 => (if (t421 == t422) = true then (if t402.toList = ([] : List UInt8) then (if t418 = true then ((impl_ShowRec.f k t412 t413 t414 t415 t416 t417).bind fun t423 => (if t423.toList = t411.toList then ((spec_RecOk.f k t412 t413 t414 t415 t416 t417).bind fun t424 => (some t424)) else (some false))) else (some true)) else (if t409 = true then (if (t403 == t395 && (t404 == t396 && (t405.toList == t397.toList && (t406.toList == t398.toList && (t407 == t399 && (t408 == t400)))))) = true then (if t418 = true then ((impl_ShowRec.f k t412 t413 t414 t415 t416 t417).bind fun t425 => (if t425.toList = t411.toList then ((spec_RecOk.f k t412 t413 t414 t415 t416 t417).bind fun t426 => (some t426)) else (some false))) else (some true)) else (some false)) else (some false))) else (some false))) = some r := H
   have A11 := Aside0.mk A110
   clear A110
   replace H := Option.bind_eq_some_iff.mp H
   obtain ⟨t422, A120, H⟩ := H
   replace H : (if (t421 == t422) = true then (if t402.toList = ([] : List UInt8) then (if t418 = true then ((impl_ShowRec.f k t412 t413 t414 t415 t416 t417).bind fun t423 => (if t423.toList = t411.toList then ((spec_RecOk.f k t412 t413 t414 t415 t416 t417).bind fun t424 => (some t424)) else (some false))) else (some true)) else (if t409 = true then (if (t403 == t395 && (t404 == t396 && (t405.toList == t397.toList && (t406.toList == t398.toList && (t407 == t399 && (t408 == t400)))))) = true then (if t418 = true then ((impl_ShowRec.f k t412 t413 t414 t415 t416 t417).bind fun t425 => (if t425.toList = t411.toList then ((spec_RecOk.f k t412 t413 t414 t415 t416 t417).bind fun t426 => (some t426)) else (some false))) else (some true)) else (some false)) else (some false))) else (some false)) = some r := H
   have A12 := Aside0.mk A120
   clear A120
   by_cases c13 : (t421 == t422) = true
   ·rw [if_pos c13] at H
    have c13b0 : (t421 == t422) = true := c13
    (try (have c13b1 : decide (t421 = t422) = true := by simpa using c13))
    (try (have c13b2 : (t421 == t422) = true := by simpa using c13))
    clear c13
    by_cases c14 : t402.toList = ([] : List UInt8)
    ·rw [if_pos c14] at H
     have c14b0 : (t402.toList == ([] : List UInt8)) = true := beq_iff_eq.mpr c14
     have c14b1 : (t402.toList != ([] : List UInt8)) = false := bne_eq_false_iff_eq.mpr c14
     (try (have c10y0 := c10b0; simp only [c14b1, Bool.false_beq, Bool.true_beq] at c10y0))
     clear c14
     by_cases c15 : t418 = true
     ·subst c15
      have H1 : ((impl_ShowRec.f k t412 t413 t414 t415 t416 t417).bind fun t423 => (if t423.toList = t411.toList then ((spec_RecOk.f k t412 t413 t414 t415 t416 t417).bind fun t424 => (some t424)) else (some false))) = some r := by rw [if_pos rfl] at H; exact H
      clear H
      have H := H1
      clear H1
      replace H := Option.bind_eq_some_iff.mp H
      obtain ⟨t423, A160, H⟩ := H
      replace H : (if t423.toList = t411.toList then ((spec_RecOk.f k t412 t413 t414 t415 t416 t417).bind fun t424 => (some t424)) else (some false)) = some r := H
      have A16 := Aside0.mk A160
      clear A160
      by_cases c17 : t423.toList = t411.toList
      ·rw [if_pos c17] at H
       have c17b0 : (t423.toList == t411.toList) = true := beq_iff_eq.mpr c17
       have c17b1 : (t423.toList != t411.toList) = false := bne_eq_false_iff_eq.mpr c17
       clear c17
       replace H := Option.bind_eq_some_iff.mp H
       obtain ⟨t424, A180, H⟩ := H
       replace H : (some t424) = some r := H
       have A18 := Aside0.mk A180
       clear A180
       obtain rfl := Option.some.inj H
       go_enter Try.func9, Try.ntmps9
       try go_wp2_with (first | ((with_reducible refine gate_callee (f := 43) rfl ?_); refine goesL_ (some 11) rfl rfl Try.func43 (by kernel_rfl) rfl #[.slice A0 l0.length c0] rfl ar_ ?_; (with_reducible refine (laws_big.calls _ _ l0 false _ ?side1 ?side2 A2.out).mono ?_); (case side1 => repeat (first | exact HR0.out | (with_reducible refine Kd.C_alloc ?_ _) | (with_reducible refine Kd.C_drewN ?_ _) | (with_reducible refine Kd.C_drew ?_))); (case side2 => exact HC0.out); rintro e w' ⟨rfl, ⟨nd, rfl⟩⟩; refine ⟨_, rfl, ?_⟩) | ((with_reducible refine gate_callee (f := 44) rfl ?_); refine goesL_ (some 13) rfl rfl Try.func44 (by kernel_rfl) rfl #[.slice A0 l0.length c0] rfl ar_ ?_; (with_reducible refine (spec_DrawShowRec.calls k _ _ l0 t395 t396 t397 t398 t399 t400 _ ?side1 ?side2 A4.out).mono ?_); (case side1 => repeat (first | exact HR0.out | (with_reducible refine Kd.C_alloc ?_ _) | (with_reducible refine Kd.C_drewN ?_ _) | (with_reducible refine Kd.C_drew ?_))); (case side2 => exact HC0.out); rintro e w19 ⟨rfl, hb⟩; refine ⟨_, rfl, ?_⟩; have n0_ := Aside0.mk (below_step (hb_ HB) hb); clear HB; have HB := n0_; clear n0_; (try clear hb); (try clear hb2); (try clear hk); (try clear hi)) | ((with_reducible refine gate_dst (N := 3) rfl ?_); refine box_event ?hg (N := 3) ?hd (cs := #[.int .i64 0, .int .i64 0, .string (⟨#[]⟩ : ByteArray), .string (⟨#[]⟩ : ByteArray), .int .i64 0, .int .i64 0]) (t := 35) ?hr ?_; (case hd => rfl); (case hg => rfl); (case hr => first | (go_simp; done) | (go_simp; rfl)); intro gb401 hg w20 hbox hb; have n0_ := Aside0.mk (below_step (hb_ HB) hb); have n1_ := Aside0.mk (hbox); have n2_ := Aside0.mk ((by rw [hg]; exact (below_size (hb_ HB)) : w.heap.size ≤ gb401)); have n3_ := Aside0.mk ((by rw [hg]; exact (below_size (hb_ HB)) : w.heap.size ≤ gb401)); clear HB; have HB := n0_; have BK401 := n1_; have GW401 := n2_; have GE401 := n3_; clear n0_ n1_ n2_ n3_; clear hb hbox hg; have hcz21_0 : w20.cell? ⟨gb401, 0, none⟩ = some (.int .i64 0) := (blk_cell BK401.out 0).trans rfl; have hcz21_1 : w20.cell? ⟨gb401, 1, none⟩ = some (.int .i64 0) := (blk_cell BK401.out 1).trans rfl; have hcz21_2 : w20.cell? ⟨gb401, 2, none⟩ = some (.string (⟨#[]⟩ : ByteArray)) := (blk_cell BK401.out 2).trans rfl; have hcz21_3 : w20.cell? ⟨gb401, 3, none⟩ = some (.string (⟨#[]⟩ : ByteArray)) := (blk_cell BK401.out 3).trans rfl; have hcz21_4 : w20.cell? ⟨gb401, 4, none⟩ = some (.int .i64 0) := (blk_cell BK401.out 4).trans rfl; have hcz21_5 : w20.cell? ⟨gb401, 5, none⟩ = some (.int .i64 0) := (blk_cell BK401.out 5).trans rfl; have hfz21_0 := blk_frozen BK401.out 0; have hfz21_1 := blk_frozen BK401.out 1; have hfz21_2 := blk_frozen BK401.out 2; have hfz21_3 := blk_frozen BK401.out 3; have hfz21_4 := blk_frozen BK401.out 4; have hfz21_5 := blk_frozen BK401.out 5) | ((with_reducible refine gate_callee (f := 45) rfl ?_); refine goesL_ (some 15) rfl rfl Try.func45 (by kernel_rfl) rfl #[.agg #[.int .i64 t395, .int .i64 t396, .string t397, .string t398, .int .i64 t399, .int .i64 t400]] rfl ar_ ?_; (with_reducible refine (impl_ShowRec.calls k t395 t396 t397 t398 t399 t400 t402 _ A5.out).mono ?_); rintro e w22 ⟨rfl, hb⟩; refine ⟨_, rfl, ?_⟩; have n0_ := Aside0.mk (blk_below (g := gb401) (o := .cells #[.int .i64 t395, .int .i64 t396, .string t397, .string t398, .int .i64 t399, .int .i64 t400] 35 (0, 0)) (by (with_reducible repeat (first | refine blk_drewN ?_ _ | refine blk_drew ?_ | refine blk_alloc ?_ _)); refine blk_put (cs := #[.int .i64 t395, .int .i64 t396, .string t397, .string t398, .int .i64 t399, .int .i64 0]) ?_ 5 _ rfl; (with_reducible repeat (first | refine blk_drewN ?_ _ | refine blk_drew ?_ | refine blk_alloc ?_ _)); refine blk_put (cs := #[.int .i64 t395, .int .i64 t396, .string t397, .string t398, .int .i64 0, .int .i64 0]) ?_ 4 _ rfl; (with_reducible repeat (first | refine blk_drewN ?_ _ | refine blk_drew ?_ | refine blk_alloc ?_ _)); refine blk_put (cs := #[.int .i64 t395, .int .i64 t396, .string t397, .string (⟨#[]⟩ : ByteArray), .int .i64 0, .int .i64 0]) ?_ 3 _ rfl; (with_reducible repeat (first | refine blk_drewN ?_ _ | refine blk_drew ?_ | refine blk_alloc ?_ _)); refine blk_put (cs := #[.int .i64 t395, .int .i64 t396, .string (⟨#[]⟩ : ByteArray), .string (⟨#[]⟩ : ByteArray), .int .i64 0, .int .i64 0]) ?_ 2 _ rfl; (with_reducible repeat (first | refine blk_drewN ?_ _ | refine blk_drew ?_ | refine blk_alloc ?_ _)); refine blk_put (cs := #[.int .i64 t395, .int .i64 0, .string (⟨#[]⟩ : ByteArray), .string (⟨#[]⟩ : ByteArray), .int .i64 0, .int .i64 0]) ?_ 1 _ rfl; (with_reducible repeat (first | refine blk_drewN ?_ _ | refine blk_drew ?_ | refine blk_alloc ?_ _)); refine blk_put (cs := #[.int .i64 0, .int .i64 0, .string (⟨#[]⟩ : ByteArray), .string (⟨#[]⟩ : ByteArray), .int .i64 0, .int .i64 0]) ?_ 0 _ rfl; (with_reducible repeat (first | refine blk_drewN ?_ _ | refine blk_drew ?_ | refine blk_alloc ?_ _)); exact BK401.out) hb); have n1_ := Aside0.mk (below_step (hs_ HB GE401) hb); clear BK401; clear HB; have BK401 := n0_; have HB := n1_; clear n0_ n1_; (try clear hb); (try clear hb2); (try clear hk); (try clear hi)) | ((with_reducible refine gate_callee (f := 21) rfl ?_); refine goesL_ (some 18) rfl rfl Try.func21 (by kernel_rfl) rfl #[.string t402] rfl ar_ ?_; (with_reducible refine (impl_ReadRec.calls k t402 t403 t404 t405 t406 t407 t408 t409 _ A6.out).mono ?_); rintro e w23 ⟨rfl, hb⟩; refine ⟨_, rfl, ?_⟩; have n0_ := Aside0.mk (blk_below (g := gb401) (o := .cells #[.int .i64 t395, .int .i64 t396, .string t397, .string t398, .int .i64 t399, .int .i64 t400] 35 (0, 0)) (bk_ BK401) hb); have n1_ := Aside0.mk (below_step (hs_ HB GE401) hb); clear BK401; clear HB; have BK401 := n0_; have HB := n1_; clear n0_ n1_; (try clear hb); (try clear hb2); (try clear hk); (try clear hi)) | ((with_reducible refine gate_dst (N := 5) rfl ?_); refine box_event ?hg (N := 5) ?hd (cs := #[.int .i64 0, .int .i64 0, .string (⟨#[]⟩ : ByteArray), .string (⟨#[]⟩ : ByteArray), .int .i64 0, .int .i64 0]) (t := 35) ?hr ?_; (case hd => rfl); (case hg => rfl); (case hr => first | (go_simp; done) | (go_simp; rfl)); intro gb410 hg w24 hbox hb; have n0_ := Aside0.mk (blk_below (g := gb401) (o := .cells #[.int .i64 t395, .int .i64 t396, .string t397, .string t398, .int .i64 t399, .int .i64 t400] 35 (0, 0)) (bk_ BK401) hb); have n1_ := Aside0.mk (below_step (hs_ HB GE401) hb); have n2_ := Aside0.mk (hbox); have n3_ := Aside0.mk ((by rw [hg]; exact (below_size (hs_ HB GE401)) : w.heap.size ≤ gb410)); have n4_ := Aside0.mk ((by rw [hg]; exact (below_size (hs_ HB GE401)) : w.heap.size ≤ gb410)); have n5_ := Aside0.mk ((by rw [hg]; exact Nat.ne_of_lt (blk_lt (g := gb401) (o := .cells #[.int .i64 t395, .int .i64 t396, .string t397, .string t398, .int .i64 t399, .int .i64 t400] 35 (0, 0)) (bk_ BK401)) : gb401 ≠ gb410)); have n6_ := Aside0.mk ((by rw [hg]; exact Nat.ne_of_gt (blk_lt (g := gb401) (o := .cells #[.int .i64 t395, .int .i64 t396, .string t397, .string t398, .int .i64 t399, .int .i64 t400] 35 (0, 0)) (bk_ BK401)) : gb410 ≠ gb401)); clear BK401; clear HB; have BK401 := n0_; have HB := n1_; have BK410 := n2_; have GW410 := n3_; have GE410 := n4_; have NB401_410 := n5_; have NB410_401 := n6_; clear n0_ n1_ n2_ n3_ n4_ n5_ n6_; clear hb hbox hg; have hnb25 := NB410_401.out; have hnc25 := NB401_410.out; have hcz26_0 : w24.cell? ⟨gb410, 0, none⟩ = some (.int .i64 0) := (blk_cell BK410.out 0).trans rfl; have hcz26_1 : w24.cell? ⟨gb410, 1, none⟩ = some (.int .i64 0) := (blk_cell BK410.out 1).trans rfl; have hcz26_2 : w24.cell? ⟨gb410, 2, none⟩ = some (.string (⟨#[]⟩ : ByteArray)) := (blk_cell BK410.out 2).trans rfl; have hcz26_3 : w24.cell? ⟨gb410, 3, none⟩ = some (.string (⟨#[]⟩ : ByteArray)) := (blk_cell BK410.out 3).trans rfl; have hcz26_4 : w24.cell? ⟨gb410, 4, none⟩ = some (.int .i64 0) := (blk_cell BK410.out 4).trans rfl; have hcz26_5 : w24.cell? ⟨gb410, 5, none⟩ = some (.int .i64 0) := (blk_cell BK410.out 5).trans rfl; have hfz26_0 := blk_frozen BK410.out 0; have hfz26_1 := blk_frozen BK410.out 1; have hfz26_2 := blk_frozen BK410.out 2; have hfz26_3 := blk_frozen BK410.out 3; have hfz26_4 := blk_frozen BK410.out 4; have hfz26_5 := blk_frozen BK410.out 5) | ((with_reducible refine gate_callee (f := 46) rfl ?_); refine goesL_ (some 22) rfl rfl Try.func46 (by kernel_rfl) rfl #[.slice A0 l0.length c0] rfl ar_ ?_; (with_reducible refine (spec_DrawReadRec.calls k _ _ l0 t411 _ ?side1 ?side2 A7.out).mono ?_); (case side1 => exact Kd.C_below HR0.out (by repeat (first | (with_reducible first | exact HB.out | apply below_alloc | apply pw_below_drewN | apply below_drew1 | refine below_set ?_ GE401.out | refine below_set ?_ GE410.out) | exact HB.out))); (case side2 => exact HC0.out); rintro e w27 ⟨rfl, hb⟩; refine ⟨_, rfl, ?_⟩; have n0_ := Aside0.mk (blk_below (g := gb401) (o := .cells #[.int .i64 t395, .int .i64 t396, .string t397, .string t398, .int .i64 t399, .int .i64 t400] 35 (0, 0)) (by (with_reducible repeat (first | refine blk_drewN ?_ _ | refine blk_drew ?_ | refine blk_alloc ?_ _)); refine blk_far ?_ NB401_410.out _; (with_reducible repeat (first | refine blk_drewN ?_ _ | refine blk_drew ?_ | refine blk_alloc ?_ _)); refine blk_far ?_ NB401_410.out _; (with_reducible repeat (first | refine blk_drewN ?_ _ | refine blk_drew ?_ | refine blk_alloc ?_ _)); refine blk_far ?_ NB401_410.out _; (with_reducible repeat (first | refine blk_drewN ?_ _ | refine blk_drew ?_ | refine blk_alloc ?_ _)); refine blk_far ?_ NB401_410.out _; (with_reducible repeat (first | refine blk_drewN ?_ _ | refine blk_drew ?_ | refine blk_alloc ?_ _)); refine blk_far ?_ NB401_410.out _; (with_reducible repeat (first | refine blk_drewN ?_ _ | refine blk_drew ?_ | refine blk_alloc ?_ _)); refine blk_far ?_ NB401_410.out _; (with_reducible repeat (first | refine blk_drewN ?_ _ | refine blk_drew ?_ | refine blk_alloc ?_ _)); exact BK401.out) hb); have n1_ := Aside0.mk (blk_below (g := gb410) (o := .cells #[.int .i64 t403, .int .i64 t404, .string t405, .string t406, .int .i64 t407, .int .i64 t408] 35 (0, 0)) (by (with_reducible repeat (first | refine blk_drewN ?_ _ | refine blk_drew ?_ | refine blk_alloc ?_ _)); refine blk_put (cs := #[.int .i64 t403, .int .i64 t404, .string t405, .string t406, .int .i64 t407, .int .i64 0]) ?_ 5 _ rfl; (with_reducible repeat (first | refine blk_drewN ?_ _ | refine blk_drew ?_ | refine blk_alloc ?_ _)); refine blk_put (cs := #[.int .i64 t403, .int .i64 t404, .string t405, .string t406, .int .i64 0, .int .i64 0]) ?_ 4 _ rfl; (with_reducible repeat (first | refine blk_drewN ?_ _ | refine blk_drew ?_ | refine blk_alloc ?_ _)); refine blk_put (cs := #[.int .i64 t403, .int .i64 t404, .string t405, .string (⟨#[]⟩ : ByteArray), .int .i64 0, .int .i64 0]) ?_ 3 _ rfl; (with_reducible repeat (first | refine blk_drewN ?_ _ | refine blk_drew ?_ | refine blk_alloc ?_ _)); refine blk_put (cs := #[.int .i64 t403, .int .i64 t404, .string (⟨#[]⟩ : ByteArray), .string (⟨#[]⟩ : ByteArray), .int .i64 0, .int .i64 0]) ?_ 2 _ rfl; (with_reducible repeat (first | refine blk_drewN ?_ _ | refine blk_drew ?_ | refine blk_alloc ?_ _)); refine blk_put (cs := #[.int .i64 t403, .int .i64 0, .string (⟨#[]⟩ : ByteArray), .string (⟨#[]⟩ : ByteArray), .int .i64 0, .int .i64 0]) ?_ 1 _ rfl; (with_reducible repeat (first | refine blk_drewN ?_ _ | refine blk_drew ?_ | refine blk_alloc ?_ _)); refine blk_put (cs := #[.int .i64 0, .int .i64 0, .string (⟨#[]⟩ : ByteArray), .string (⟨#[]⟩ : ByteArray), .int .i64 0, .int .i64 0]) ?_ 0 _ rfl; (with_reducible repeat (first | refine blk_drewN ?_ _ | refine blk_drew ?_ | refine blk_alloc ?_ _)); exact BK410.out) hb); have n2_ := Aside0.mk (below_step (by repeat (first | (with_reducible first | exact HB.out | apply below_alloc | apply pw_below_drewN | apply below_drew1 | refine below_set ?_ GE401.out | refine below_set ?_ GE410.out) | exact HB.out)) hb); clear BK401; clear BK410; clear HB; have BK401 := n0_; have BK410 := n1_; have HB := n2_; clear n0_ n1_ n2_; (try clear hb); (try clear hb2); (try clear hk); (try clear hi)) | ((with_reducible refine gate_callee (f := 21) rfl ?_); refine goesL_ (some 25) rfl rfl Try.func21 (by kernel_rfl) rfl #[.string t411] rfl ar_ ?_; (with_reducible refine (impl_ReadRec.calls k t411 t412 t413 t414 t415 t416 t417 true _ A8.out).mono ?_); rintro e w28 ⟨rfl, hb⟩; refine ⟨_, rfl, ?_⟩; have n0_ := Aside0.mk (blk_below (g := gb401) (o := .cells #[.int .i64 t395, .int .i64 t396, .string t397, .string t398, .int .i64 t399, .int .i64 t400] 35 (0, 0)) (bk_ BK401) hb); have n1_ := Aside0.mk (blk_below (g := gb410) (o := .cells #[.int .i64 t403, .int .i64 t404, .string t405, .string t406, .int .i64 t407, .int .i64 t408] 35 (0, 0)) (bk_ BK410) hb); have n2_ := Aside0.mk (below_step (by repeat (first | (with_reducible first | exact HB.out | apply below_alloc | apply pw_below_drewN | apply below_drew1 | refine below_set ?_ GE401.out | refine below_set ?_ GE410.out) | exact HB.out)) hb); clear BK401; clear BK410; clear HB; have BK401 := n0_; have BK410 := n1_; have HB := n2_; clear n0_ n1_ n2_; (try clear hb); (try clear hb2); (try clear hk); (try clear hi)) | ((with_reducible refine gate_dst (N := 8) rfl ?_); refine box_event ?hg (N := 8) ?hd (cs := #[.int .i64 0, .int .i64 0, .string (⟨#[]⟩ : ByteArray), .string (⟨#[]⟩ : ByteArray), .int .i64 0, .int .i64 0]) (t := 35) ?hr ?_; (case hd => rfl); (case hg => rfl); (case hr => first | (go_simp; done) | (go_simp; rfl)); intro gb419 hg w29 hbox hb; have n0_ := Aside0.mk (blk_below (g := gb401) (o := .cells #[.int .i64 t395, .int .i64 t396, .string t397, .string t398, .int .i64 t399, .int .i64 t400] 35 (0, 0)) (bk_ BK401) hb); have n1_ := Aside0.mk (blk_below (g := gb410) (o := .cells #[.int .i64 t403, .int .i64 t404, .string t405, .string t406, .int .i64 t407, .int .i64 t408] 35 (0, 0)) (bk_ BK410) hb); have n2_ := Aside0.mk (below_step (by repeat (first | (with_reducible first | exact HB.out | apply below_alloc | apply pw_below_drewN | apply below_drew1 | refine below_set ?_ GE401.out | refine below_set ?_ GE410.out) | exact HB.out)) hb); have n3_ := Aside0.mk (hbox); have n4_ := Aside0.mk ((by rw [hg]; exact (below_size (by repeat (first | (with_reducible first | exact HB.out | apply below_alloc | apply pw_below_drewN | apply below_drew1 | refine below_set ?_ GE401.out | refine below_set ?_ GE410.out) | exact HB.out))) : w.heap.size ≤ gb419)); have n5_ := Aside0.mk ((by rw [hg]; exact (below_size (by repeat (first | (with_reducible first | exact HB.out | apply below_alloc | apply pw_below_drewN | apply below_drew1 | refine below_set ?_ GE401.out | refine below_set ?_ GE410.out) | exact HB.out))) : w.heap.size ≤ gb419)); have n6_ := Aside0.mk ((by rw [hg]; exact Nat.ne_of_lt (blk_lt (g := gb401) (o := .cells #[.int .i64 t395, .int .i64 t396, .string t397, .string t398, .int .i64 t399, .int .i64 t400] 35 (0, 0)) (bk_ BK401)) : gb401 ≠ gb419)); have n7_ := Aside0.mk ((by rw [hg]; exact Nat.ne_of_gt (blk_lt (g := gb401) (o := .cells #[.int .i64 t395, .int .i64 t396, .string t397, .string t398, .int .i64 t399, .int .i64 t400] 35 (0, 0)) (bk_ BK401)) : gb419 ≠ gb401)); have n8_ := Aside0.mk ((by rw [hg]; exact Nat.ne_of_lt (blk_lt (g := gb410) (o := .cells #[.int .i64 t403, .int .i64 t404, .string t405, .string t406, .int .i64 t407, .int .i64 t408] 35 (0, 0)) (bk_ BK410)) : gb410 ≠ gb419)); have n9_ := Aside0.mk ((by rw [hg]; exact Nat.ne_of_gt (blk_lt (g := gb410) (o := .cells #[.int .i64 t403, .int .i64 t404, .string t405, .string t406, .int .i64 t407, .int .i64 t408] 35 (0, 0)) (bk_ BK410)) : gb419 ≠ gb410)); clear BK401; clear BK410; clear HB; have BK401 := n0_; have BK410 := n1_; have HB := n2_; have BK419 := n3_; have GW419 := n4_; have GE419 := n5_; have NB401_419 := n6_; have NB419_401 := n7_; have NB410_419 := n8_; have NB419_410 := n9_; clear n0_ n1_ n2_ n3_ n4_ n5_ n6_ n7_ n8_ n9_; clear hb hbox hg; have hnb30 := NB419_401.out; have hnc30 := NB401_419.out; have hnb31 := NB419_410.out; have hnc31 := NB410_419.out; have hcz32_0 : w29.cell? ⟨gb419, 0, none⟩ = some (.int .i64 0) := (blk_cell BK419.out 0).trans rfl; have hcz32_1 : w29.cell? ⟨gb419, 1, none⟩ = some (.int .i64 0) := (blk_cell BK419.out 1).trans rfl; have hcz32_2 : w29.cell? ⟨gb419, 2, none⟩ = some (.string (⟨#[]⟩ : ByteArray)) := (blk_cell BK419.out 2).trans rfl; have hcz32_3 : w29.cell? ⟨gb419, 3, none⟩ = some (.string (⟨#[]⟩ : ByteArray)) := (blk_cell BK419.out 3).trans rfl; have hcz32_4 : w29.cell? ⟨gb419, 4, none⟩ = some (.int .i64 0) := (blk_cell BK419.out 4).trans rfl; have hcz32_5 : w29.cell? ⟨gb419, 5, none⟩ = some (.int .i64 0) := (blk_cell BK419.out 5).trans rfl; have hfz32_0 := blk_frozen BK419.out 0; have hfz32_1 := blk_frozen BK419.out 1; have hfz32_2 := blk_frozen BK419.out 2; have hfz32_3 := blk_frozen BK419.out 3; have hfz32_4 := blk_frozen BK419.out 4; have hfz32_5 := blk_frozen BK419.out 5))
       have n0_ : Aside0 (((((((w29.setCell ⟨gb419, 0, none⟩ (.int .i64 t412)).setCell ⟨gb419, 1, none⟩ (.int .i64 t413)).setCell ⟨gb419, 2, none⟩ (.string t414)).setCell ⟨gb419, 3, none⟩ (.string t415)).setCell ⟨gb419, 4, none⟩ (.int .i64 t416)).setCell ⟨gb419, 5, none⟩ (.int .i64 t417)).heap[gb401]? = some (.cells #[.int .i64 t395, .int .i64 t396, .string t397, .string t398, .int .i64 t399, .int .i64 t400] 35 (0, 0))) := ⟨by (with_reducible repeat (first | refine blk_drewN ?_ _ | refine blk_drew ?_ | refine blk_alloc ?_ _)); refine blk_far ?_ NB401_419.out _; (with_reducible repeat (first | refine blk_drewN ?_ _ | refine blk_drew ?_ | refine blk_alloc ?_ _)); refine blk_far ?_ NB401_419.out _; (with_reducible repeat (first | refine blk_drewN ?_ _ | refine blk_drew ?_ | refine blk_alloc ?_ _)); refine blk_far ?_ NB401_419.out _; (with_reducible repeat (first | refine blk_drewN ?_ _ | refine blk_drew ?_ | refine blk_alloc ?_ _)); refine blk_far ?_ NB401_419.out _; (with_reducible repeat (first | refine blk_drewN ?_ _ | refine blk_drew ?_ | refine blk_alloc ?_ _)); refine blk_far ?_ NB401_419.out _; (with_reducible repeat (first | refine blk_drewN ?_ _ | refine blk_drew ?_ | refine blk_alloc ?_ _)); refine blk_far ?_ NB401_419.out _; (with_reducible repeat (first | refine blk_drewN ?_ _ | refine blk_drew ?_ | refine blk_alloc ?_ _)); exact BK401.out⟩
       have n1_ : Aside0 (((((((w29.setCell ⟨gb419, 0, none⟩ (.int .i64 t412)).setCell ⟨gb419, 1, none⟩ (.int .i64 t413)).setCell ⟨gb419, 2, none⟩ (.string t414)).setCell ⟨gb419, 3, none⟩ (.string t415)).setCell ⟨gb419, 4, none⟩ (.int .i64 t416)).setCell ⟨gb419, 5, none⟩ (.int .i64 t417)).heap[gb410]? = some (.cells #[.int .i64 t403, .int .i64 t404, .string t405, .string t406, .int .i64 t407, .int .i64 t408] 35 (0, 0))) := ⟨by (with_reducible repeat (first | refine blk_drewN ?_ _ | refine blk_drew ?_ | refine blk_alloc ?_ _)); refine blk_far ?_ NB410_419.out _; (with_reducible repeat (first | refine blk_drewN ?_ _ | refine blk_drew ?_ | refine blk_alloc ?_ _)); refine blk_far ?_ NB410_419.out _; (with_reducible repeat (first | refine blk_drewN ?_ _ | refine blk_drew ?_ | refine blk_alloc ?_ _)); refine blk_far ?_ NB410_419.out _; (with_reducible repeat (first | refine blk_drewN ?_ _ | refine blk_drew ?_ | refine blk_alloc ?_ _)); refine blk_far ?_ NB410_419.out _; (with_reducible repeat (first | refine blk_drewN ?_ _ | refine blk_drew ?_ | refine blk_alloc ?_ _)); refine blk_far ?_ NB410_419.out _; (with_reducible repeat (first | refine blk_drewN ?_ _ | refine blk_drew ?_ | refine blk_alloc ?_ _)); refine blk_far ?_ NB410_419.out _; (with_reducible repeat (first | refine blk_drewN ?_ _ | refine blk_drew ?_ | refine blk_alloc ?_ _)); exact BK410.out⟩
       have n2_ : Aside0 (((((((w29.setCell ⟨gb419, 0, none⟩ (.int .i64 t412)).setCell ⟨gb419, 1, none⟩ (.int .i64 t413)).setCell ⟨gb419, 2, none⟩ (.string t414)).setCell ⟨gb419, 3, none⟩ (.string t415)).setCell ⟨gb419, 4, none⟩ (.int .i64 t416)).setCell ⟨gb419, 5, none⟩ (.int .i64 t417)).heap[gb419]? = some (.cells #[.int .i64 t412, .int .i64 t413, .string t414, .string t415, .int .i64 t416, .int .i64 t417] 35 (0, 0))) := ⟨by (with_reducible repeat (first | refine blk_drewN ?_ _ | refine blk_drew ?_ | refine blk_alloc ?_ _)); refine blk_put (cs := #[.int .i64 t412, .int .i64 t413, .string t414, .string t415, .int .i64 t416, .int .i64 0]) ?_ 5 _ rfl; (with_reducible repeat (first | refine blk_drewN ?_ _ | refine blk_drew ?_ | refine blk_alloc ?_ _)); refine blk_put (cs := #[.int .i64 t412, .int .i64 t413, .string t414, .string t415, .int .i64 0, .int .i64 0]) ?_ 4 _ rfl; (with_reducible repeat (first | refine blk_drewN ?_ _ | refine blk_drew ?_ | refine blk_alloc ?_ _)); refine blk_put (cs := #[.int .i64 t412, .int .i64 t413, .string t414, .string (⟨#[]⟩ : ByteArray), .int .i64 0, .int .i64 0]) ?_ 3 _ rfl; (with_reducible repeat (first | refine blk_drewN ?_ _ | refine blk_drew ?_ | refine blk_alloc ?_ _)); refine blk_put (cs := #[.int .i64 t412, .int .i64 t413, .string (⟨#[]⟩ : ByteArray), .string (⟨#[]⟩ : ByteArray), .int .i64 0, .int .i64 0]) ?_ 2 _ rfl; (with_reducible repeat (first | refine blk_drewN ?_ _ | refine blk_drew ?_ | refine blk_alloc ?_ _)); refine blk_put (cs := #[.int .i64 t412, .int .i64 0, .string (⟨#[]⟩ : ByteArray), .string (⟨#[]⟩ : ByteArray), .int .i64 0, .int .i64 0]) ?_ 1 _ rfl; (with_reducible repeat (first | refine blk_drewN ?_ _ | refine blk_drew ?_ | refine blk_alloc ?_ _)); refine blk_put (cs := #[.int .i64 0, .int .i64 0, .string (⟨#[]⟩ : ByteArray), .string (⟨#[]⟩ : ByteArray), .int .i64 0, .int .i64 0]) ?_ 0 _ rfl; (with_reducible repeat (first | refine blk_drewN ?_ _ | refine blk_drew ?_ | refine blk_alloc ?_ _)); exact BK419.out⟩
       have n3_ : Aside0 (Below w.heap.size w ((((((w29.setCell ⟨gb419, 0, none⟩ (.int .i64 t412)).setCell ⟨gb419, 1, none⟩ (.int .i64 t413)).setCell ⟨gb419, 2, none⟩ (.string t414)).setCell ⟨gb419, 3, none⟩ (.string t415)).setCell ⟨gb419, 4, none⟩ (.int .i64 t416)).setCell ⟨gb419, 5, none⟩ (.int .i64 t417))) := ⟨by repeat (first | (with_reducible first | exact HB.out | apply below_alloc | apply pw_below_drewN | apply below_drew1 | refine below_set ?_ GE401.out | refine below_set ?_ GE410.out | refine below_set ?_ GE419.out) | exact HB.out)⟩
       (try clear BK401)
       (try clear BK410)
       (try clear BK419)
       (try clear HB)
       generalize ((((((w29.setCell ⟨gb419, 0, none⟩ (.int .i64 t412)).setCell ⟨gb419, 1, none⟩ (.int .i64 t413)).setCell ⟨gb419, 2, none⟩ (.string t414)).setCell ⟨gb419, 3, none⟩ (.string t415)).setCell ⟨gb419, 4, none⟩ (.int .i64 t416)).setCell ⟨gb419, 5, none⟩ (.int .i64 t417)) = w33 at n0_ n1_ n2_ n3_ ⊢
       have BK401 := n0_
       have BK410 := n1_
       have BK419 := n2_
       have HB := n3_
       clear n0_ n1_ n2_ n3_
       have n0_ := Aside0.mk (blk_drew BK401.out)
       have n1_ := Aside0.mk (blk_drew BK410.out)
       have n2_ := Aside0.mk (blk_drew BK419.out)
       have n3_ := Aside0.mk (below_drew1 HB.out)
       clear BK401
       clear BK410
       clear BK419
       clear HB
       have BK401 := n0_
       have BK410 := n1_
       have BK419 := n2_
       have HB := n3_
       clear n0_ n1_ n2_ n3_
       refine start_ (n := 39) (S := fun w' => w'.cell? ⟨gb401, 0, none⟩ = some (.int .i64 t395) ∧ w'.cell? ⟨gb401, 1, none⟩ = some (.int .i64 t396) ∧ w'.cell? ⟨gb401, 2, none⟩ = some (.string t397) ∧ w'.cell? ⟨gb401, 3, none⟩ = some (.string t398) ∧ w'.cell? ⟨gb401, 4, none⟩ = some (.int .i64 t399) ∧ w'.cell? ⟨gb401, 5, none⟩ = some (.int .i64 t400) ∧ w'.cell? ⟨gb419, 0, none⟩ = some (.int .i64 t412) ∧ w'.cell? ⟨gb419, 1, none⟩ = some (.int .i64 t413) ∧ w'.cell? ⟨gb419, 2, none⟩ = some (.string t414) ∧ w'.cell? ⟨gb419, 3, none⟩ = some (.string t415) ∧ w'.cell? ⟨gb419, 4, none⟩ = some (.int .i64 t416) ∧ w'.cell? ⟨gb419, 5, none⟩ = some (.int .i64 t417)) (ds := []) #[o',o',o',o',o',o',o',o',o',o',o',o',o',o',o',o',o',o',o',o',o',o',o',o',o',o',o',o',o',o',o',o',o',o',o',o',o',o',o'] (by kernel_rfl) rfl rfl ⟨(blk_cell BK401.out 0).trans rfl, (blk_cell BK401.out 1).trans rfl, (blk_cell BK401.out 2).trans rfl, (blk_cell BK401.out 3).trans rfl, (blk_cell BK401.out 4).trans rfl, (blk_cell BK401.out 5).trans rfl, (blk_cell BK419.out 0).trans rfl, (blk_cell BK419.out 1).trans rfl, (blk_cell BK419.out 2).trans rfl, (blk_cell BK419.out 3).trans rfl, (blk_cell BK419.out 4).trans rfl, (blk_cell BK419.out 5).trans rfl⟩ (fun hHeld => ?_); refine with_tabW laws_FnRecords.tab8 laws_FnRecords.bits8 (fun HT_ HW_ => ?_)
       generalize w33.drew = w34 at BK401 BK410 BK419 HB hHeld ⊢
       refine pu_ (i := 0) (N := some 28) (v := ?_) (a' := ?_) #[i',o',o',o',o',o',o',o',o',o',o',o',o',o',o',o',o',o',o',o',o',o',o',o',o',o',o',o',o',o',o',o',o',o',o',o',o',o',o'] rfl rfl HT_ (Or.inl ⟨by rfl, ?_⟩) ?_ ?_
       rotate_left;·intro w';go_simp;with_reducible rfl
       rotate_left;·simp only [Act.put, la_, lz_, ls_, i64_w, i32_w];rfl
       refine pu_ (i := 1) (N := some 29) (v := ?_) (a' := ?_) #[i',i',o',o',o',o',o',o',o',o',o',o',o',o',o',o',o',o',o',o',o',o',o',o',o',o',o',o',o',o',o',o',o',o',o',o',o',o',o'] rfl rfl HT_ (Or.inl ⟨by rfl, ?_⟩) ?_ ?_
       rotate_left;·intro w';go_simp;with_reducible rfl
       rotate_left;·simp only [Act.put, la_, lz_, ls_, i64_w, i32_w];rfl
       refine take_ (i := 2) (N := some 30) (v := ?_) (a' := ?_) #[i',i',i',o',o',o',o',o',o',o',o',o',o',o',o',o',o',o',o',o',o',o',o',o',o',o',o',o',o',o',o',o',o',o',o',o',o',o',o'] rfl rfl (take_ofW HT_.out HW_.out (by kernel_rfl)) (fun _ _ _ h => h) (Or.inl ⟨by rfl, ?_⟩) hHeld ?_ ?_
       rotate_left
       ·rintro w' ⟨s0, s1, s2, s3, s4, s5, s6, s7, s8, s9, s10, s11⟩
        go_simp
        with_reducible rfl
       rotate_left
       ·simp only [Act.put, la_, lz_, ls_, i64_w, i32_w]
        rfl
       refine one_ (i := 3) (N := some 31) #[i',i',i',i',o',o',o',o',o',o',o',o',o',o',o',o',o',o',o',o',o',o',o',o',o',o',o',o',o',o',o',o',o',o',o',o',o',o',o'] rfl rfl (one_of HT_.out (by kernel_rfl)) (by decide) (fun K hK => ?_)
       refine goes_ Try.func47 (by kernel_rfl) rfl #[.agg #[.int .i64 t395, .int .i64 t396, .string t397, .string t398, .int .i64 t399, .int .i64 t400]] (by rfl) rfl rfl ar_ ?_
       with_reducible refine (spec_RecOk.calls k t395 t396 t397 t398 t399 t400 t420 _ A9.out).mono ?_
       rintro e w35 ⟨rfl, hb⟩
       refine ⟨_, rfl, ?_⟩
       have n0_ := Aside0.mk (blk_below (g := gb401) (o := .cells #[.int .i64 t395, .int .i64 t396, .string t397, .string t398, .int .i64 t399, .int .i64 t400] 35 (0, 0)) (bk_ BK401) hb)
       have n1_ := Aside0.mk (blk_below (g := gb410) (o := .cells #[.int .i64 t403, .int .i64 t404, .string t405, .string t406, .int .i64 t407, .int .i64 t408] 35 (0, 0)) (bk_ BK410) hb)
       have n2_ := Aside0.mk (blk_below (g := gb419) (o := .cells #[.int .i64 t412, .int .i64 t413, .string t414, .string t415, .int .i64 t416, .int .i64 t417] 35 (0, 0)) (bk_ BK419) hb)
       have n3_ := Aside0.mk (below_step (by repeat (first | (with_reducible first | exact HB.out | apply below_alloc | apply pw_below_drewN | apply below_drew1 | refine below_set ?_ GE401.out | refine below_set ?_ GE410.out | refine below_set ?_ GE419.out) | exact HB.out)) hb)
       clear BK401
       clear BK410
       clear BK419
       clear HB
       have BK401 := n0_
       have BK410 := n1_
       have BK419 := n2_
       have HB := n3_
       clear n0_ n1_ n2_ n3_
       (try clear hb)
       (try clear hb2)
       (try clear hk)
       (try clear hi)
       refine hK.out _ _ ⟨(blk_cell BK401.out 0).trans rfl, (blk_cell BK401.out 1).trans rfl, (blk_cell BK401.out 2).trans rfl, (blk_cell BK401.out 3).trans rfl, (blk_cell BK401.out 4).trans rfl, (blk_cell BK401.out 5).trans rfl, (blk_cell BK419.out 0).trans rfl, (blk_cell BK419.out 1).trans rfl, (blk_cell BK419.out 2).trans rfl, (blk_cell BK419.out 3).trans rfl, (blk_cell BK419.out 4).trans rfl, (blk_cell BK419.out 5).trans rfl⟩ (fun hHeld => ?_)
       clear hK K
       refine norm_ (a' := ?_) ?_ ?_
       rotate_left
       ·show Act.put _ (some 31) _ = _
        simp only [Act.put, la_, lz_, ls_, i64_w, i32_w]
        rfl
       refine pu_ (i := 4) (N := some 32) (v := ?_) (a' := ?_) #[i',i',i',i',i',o',o',o',o',o',o',o',o',o',o',o',o',o',o',o',o',o',o',o',o',o',o',o',o',o',o',o',o',o',o',o',o',o',o'] rfl rfl HT_ (Or.inl ⟨by rfl, ?_⟩) ?_ ?_
       rotate_left;·intro w';go_simp;with_reducible rfl
       rotate_left;·simp only [Act.put, la_, lz_, ls_, i64_w, i32_w];rfl
       refine pu_ (i := 5) (N := some 33) (v := ?_) (a' := ?_) #[i',i',i',i',i',i',o',o',o',o',o',o',o',o',o',o',o',o',o',o',o',o',o',o',o',o',o',o',o',o',o',o',o',o',o',o',o',o',o'] rfl rfl HT_ (Or.inl ⟨by rfl, ?_⟩) ?_ ?_
       rotate_left;·intro w';go_simp;with_reducible rfl
       rotate_left;·simp only [Act.put, la_, lz_, ls_, i64_w, i32_w];rfl
       refine take_ (i := 6) (N := some 34) (v := ?_) (a' := ?_) #[i',i',i',i',i',i',i',o',o',o',o',o',o',o',o',o',o',o',o',o',o',o',o',o',o',o',o',o',o',o',o',o',o',o',o',o',o',o',o'] rfl rfl (take_ofW HT_.out HW_.out (by kernel_rfl)) (fun _ _ _ h => h) (Or.inl ⟨by rfl, ?_⟩) hHeld ?_ ?_
       rotate_left
       ·rintro w' ⟨s0, s1, s2, s3, s4, s5, s6, s7, s8, s9, s10, s11⟩
        go_simp
        with_reducible rfl
       rotate_left
       ·simp only [Act.put, la_, lz_, ls_, i64_w, i32_w]
        rfl
       refine take_ (i := 8) (N := some 36) (v := ?_) (a' := ?_) #[i',i',i',i',i',i',i',o',i',o',o',o',o',o',o',o',o',o',o',o',o',o',o',o',o',o',o',o',o',o',o',o',o',o',o',o',o',o',o'] rfl rfl (take_ofW HT_.out HW_.out (by kernel_rfl)) (fun _ _ _ h => h) (Or.inl ⟨by rfl, ?_⟩) hHeld ?_ ?_
       rotate_left
       ·rintro w' ⟨s0, s1, s2, s3, s4, s5, s6, s7, s8, s9, s10, s11⟩
        go_simp
        with_reducible rfl
       rotate_left
       ·simp only [Act.put, la_, lz_, ls_, i64_w, i32_w]
        rfl
       refine one_ (i := 7) (N := some 35) #[i',i',i',i',i',i',i',i',i',o',o',o',o',o',o',o',o',o',o',o',o',o',o',o',o',o',o',o',o',o',o',o',o',o',o',o',o',o',o'] rfl rfl (one_of HT_.out (by kernel_rfl)) (by decide) (fun K hK => ?_)
       refine goes_ Try.func48 (by kernel_rfl) rfl #[.agg #[.int .i64 t395, .int .i64 t396, .string t397, .string t398, .int .i64 t399, .int .i64 t400]] (by rfl) rfl rfl ar_ ?_
       with_reducible refine (impl_RecOk.calls k t395 t396 t397 t398 t399 t400 t421 _ A11.out).mono ?_
       rintro e w36 ⟨rfl, hb⟩
       refine ⟨_, rfl, ?_⟩
       have n0_ := Aside0.mk (blk_below (g := gb401) (o := .cells #[.int .i64 t395, .int .i64 t396, .string t397, .string t398, .int .i64 t399, .int .i64 t400] 35 (0, 0)) (bk_ BK401) hb)
       have n1_ := Aside0.mk (blk_below (g := gb410) (o := .cells #[.int .i64 t403, .int .i64 t404, .string t405, .string t406, .int .i64 t407, .int .i64 t408] 35 (0, 0)) (bk_ BK410) hb)
       have n2_ := Aside0.mk (blk_below (g := gb419) (o := .cells #[.int .i64 t412, .int .i64 t413, .string t414, .string t415, .int .i64 t416, .int .i64 t417] 35 (0, 0)) (bk_ BK419) hb)
       have n3_ := Aside0.mk (below_step (by repeat (first | (with_reducible first | exact HB.out | apply below_alloc | apply pw_below_drewN | apply below_drew1 | refine below_set ?_ GE401.out | refine below_set ?_ GE410.out | refine below_set ?_ GE419.out) | exact HB.out)) hb)
       clear BK401
       clear BK410
       clear BK419
       clear HB
       have BK401 := n0_
       have BK410 := n1_
       have BK419 := n2_
       have HB := n3_
       clear n0_ n1_ n2_ n3_
       (try clear hb)
       (try clear hb2)
       (try clear hk)
       (try clear hi)
       refine hK.out _ _ ⟨(blk_cell BK401.out 0).trans rfl, (blk_cell BK401.out 1).trans rfl, (blk_cell BK401.out 2).trans rfl, (blk_cell BK401.out 3).trans rfl, (blk_cell BK401.out 4).trans rfl, (blk_cell BK401.out 5).trans rfl, (blk_cell BK419.out 0).trans rfl, (blk_cell BK419.out 1).trans rfl, (blk_cell BK419.out 2).trans rfl, (blk_cell BK419.out 3).trans rfl, (blk_cell BK419.out 4).trans rfl, (blk_cell BK419.out 5).trans rfl⟩ (fun hHeld => ?_)
       clear hK K
       refine norm_ (a' := ?_) ?_ ?_
       rotate_left
       ·show Act.put _ (some 35) _ = _
        simp only [Act.put, la_, lz_, ls_, i64_w, i32_w]
        rfl
       refine one_ (i := 9) (N := some 37) #[i',i',i',i',i',i',i',i',i',i',o',o',o',o',o',o',o',o',o',o',o',o',o',o',o',o',o',o',o',o',o',o',o',o',o',o',o',o',o'] rfl rfl (one_of HT_.out (by kernel_rfl)) (by decide) (fun K hK => ?_)
       refine goes_ Try.func47 (by kernel_rfl) rfl #[.agg #[.int .i64 t395, .int .i64 t396, .string t397, .string t398, .int .i64 t399, .int .i64 t400]] (by rfl) rfl rfl ar_ ?_
       with_reducible refine (spec_RecOk.calls k t395 t396 t397 t398 t399 t400 t422 _ A12.out).mono ?_
       rintro e w37 ⟨rfl, hb⟩
       refine ⟨_, rfl, ?_⟩
       have n0_ := Aside0.mk (blk_below (g := gb401) (o := .cells #[.int .i64 t395, .int .i64 t396, .string t397, .string t398, .int .i64 t399, .int .i64 t400] 35 (0, 0)) (bk_ BK401) hb)
       have n1_ := Aside0.mk (blk_below (g := gb410) (o := .cells #[.int .i64 t403, .int .i64 t404, .string t405, .string t406, .int .i64 t407, .int .i64 t408] 35 (0, 0)) (bk_ BK410) hb)
       have n2_ := Aside0.mk (blk_below (g := gb419) (o := .cells #[.int .i64 t412, .int .i64 t413, .string t414, .string t415, .int .i64 t416, .int .i64 t417] 35 (0, 0)) (bk_ BK419) hb)
       have n3_ := Aside0.mk (below_step (by repeat (first | (with_reducible first | exact HB.out | apply below_alloc | apply pw_below_drewN | apply below_drew1 | refine below_set ?_ GE401.out | refine below_set ?_ GE410.out | refine below_set ?_ GE419.out) | exact HB.out)) hb)
       clear BK401
       clear BK410
       clear BK419
       clear HB
       have BK401 := n0_
       have BK410 := n1_
       have BK419 := n2_
       have HB := n3_
       clear n0_ n1_ n2_ n3_
       (try clear hb)
       (try clear hb2)
       (try clear hk)
       (try clear hi)
       refine hK.out _ _ ⟨(blk_cell BK401.out 0).trans rfl, (blk_cell BK401.out 1).trans rfl, (blk_cell BK401.out 2).trans rfl, (blk_cell BK401.out 3).trans rfl, (blk_cell BK401.out 4).trans rfl, (blk_cell BK401.out 5).trans rfl, (blk_cell BK419.out 0).trans rfl, (blk_cell BK419.out 1).trans rfl, (blk_cell BK419.out 2).trans rfl, (blk_cell BK419.out 3).trans rfl, (blk_cell BK419.out 4).trans rfl, (blk_cell BK419.out 5).trans rfl⟩ (fun hHeld => ?_)
       clear hK K
       refine norm_ (a' := ?_) ?_ ?_
       rotate_left
       ·show Act.put _ (some 37) _ = _
        simp only [Act.put, la_, lz_, ls_, i64_w, i32_w]
        rfl
       refine pu_ (i := 10) (N := some 38) (v := ?_) (a' := ?_) #[i',i',i',i',i',i',i',i',i',i',i',o',o',o',o',o',o',o',o',o',o',o',o',o',o',o',o',o',o',o',o',o',o',o',o',o',o',o',o'] rfl rfl HT_ (Or.inl ⟨by rfl, ?_⟩) ?_ ?_
       rotate_left;·intro w';go_simp;with_reducible rfl
       rotate_left;·simp only [Act.put, la_, lz_, ls_, i64_w, i32_w];rfl
       refine pu_ (i := 11) (N := some 39) (v := ?_) (a' := ?_) #[i',i',i',i',i',i',i',i',i',i',i',i',o',o',o',o',o',o',o',o',o',o',o',o',o',o',o',o',o',o',o',o',o',o',o',o',o',o',o'] rfl rfl HT_ (Or.inl ⟨by rfl, ?_⟩) ?_ ?_
       rotate_left;·intro w';go_simp;with_reducible rfl
       rotate_left;·simp only [Act.put, la_, lz_, ls_, i64_w, i32_w];rfl
       refine pu_ (i := 12) (N := some 40) (v := ?_) (a' := ?_) #[i',i',i',i',i',i',i',i',i',i',i',i',i',o',o',o',o',o',o',o',o',o',o',o',o',o',o',o',o',o',o',o',o',o',o',o',o',o',o'] rfl rfl HT_ (Or.inl ⟨by rfl, ?_⟩) ?_ ?_
       rotate_left;·intro w';go_simp;with_reducible rfl
       rotate_left;·simp only [Act.put, la_, lz_, ls_, i64_w, i32_w];rfl
       refine pu_ (i := 13) (N := some 41) (v := ?_) (a' := ?_) #[i',i',i',i',i',i',i',i',i',i',i',i',i',i',o',o',o',o',o',o',o',o',o',o',o',o',o',o',o',o',o',o',o',o',o',o',o',o',o'] rfl rfl HT_ (Or.inl ⟨by rfl, ?_⟩) ?_ ?_
       rotate_left;·intro w';go_simp;with_reducible rfl
       rotate_left;·simp only [Act.put, la_, lz_, ls_, i64_w, i32_w];rfl
       refine pu_ (i := 14) (N := some 42) (v := ?_) (a' := ?_) #[i',i',i',i',i',i',i',i',i',i',i',i',i',i',i',o',o',o',o',o',o',o',o',o',o',o',o',o',o',o',o',o',o',o',o',o',o',o',o'] rfl rfl HT_ (Or.inl ⟨by rfl, ?_⟩) ?_ ?_
       rotate_left;·intro w';go_simp;with_reducible rfl
       rotate_left;·simp only [Act.put, la_, lz_, ls_, i64_w, i32_w];rfl
       refine pu_ (i := 15) (N := some 43) (v := ?_) (a' := ?_) #[i',i',i',i',i',i',i',i',i',i',i',i',i',i',i',i',o',o',o',o',o',o',o',o',o',o',o',o',o',o',o',o',o',o',o',o',o',o',o'] rfl rfl HT_ (Or.inl ⟨by rfl, ?_⟩) ?_ ?_
       rotate_left;·intro w';go_simp;with_reducible rfl
       rotate_left;·simp only [Act.put, la_, lz_, ls_, i64_w, i32_w];rfl
       refine pure_ (i := 16) (N := some 44) (v := undef) (a' := ?_) #[i',i',i',i',i',i',i',i',i',i',i',i',i',i',i',i',i',o',o',o',o',o',o',o',o',o',o',o',o',o',o',o',o',o',o',o',o',o',o'] rfl rfl (any_of HT_.out (by kernel_rfl)) (fun _ _ _ h => h) (Or.inr ⟨by rfl, rfl⟩) ?_ ?_
       rotate_left
       ·simp only [Act.put, la_, lz_, ls_, i64_w, i32_w]
        rfl
       refine pure_ (i := 17) (N := some 45) (v := undef) (a' := ?_) #[i',i',i',i',i',i',i',i',i',i',i',i',i',i',i',i',i',i',o',o',o',o',o',o',o',o',o',o',o',o',o',o',o',o',o',o',o',o',o'] rfl rfl (any_of HT_.out (by kernel_rfl)) (fun _ _ _ h => h) (Or.inr ⟨by rfl, rfl⟩) ?_ ?_
       rotate_left
       ·simp only [Act.put, la_, lz_, ls_, i64_w, i32_w]
        rfl
       refine pure_ (i := 18) (N := some 46) (v := undef) (a' := ?_) #[i',i',i',i',i',i',i',i',i',i',i',i',i',i',i',i',i',i',i',o',o',o',o',o',o',o',o',o',o',o',o',o',o',o',o',o',o',o',o'] rfl rfl (any_of HT_.out (by kernel_rfl)) (fun _ _ _ h => h) (Or.inr ⟨by rfl, rfl⟩) ?_ ?_
       rotate_left
       ·simp only [Act.put, la_, lz_, ls_, i64_w, i32_w]
        rfl
       refine pure_ (i := 19) (N := some 47) (v := undef) (a' := ?_) #[i',i',i',i',i',i',i',i',i',i',i',i',i',i',i',i',i',i',i',i',o',o',o',o',o',o',o',o',o',o',o',o',o',o',o',o',o',o',o'] rfl rfl (any_of HT_.out (by kernel_rfl)) (fun _ _ _ h => h) (Or.inr ⟨by rfl, rfl⟩) ?_ ?_
       rotate_left
       ·simp only [Act.put, la_, lz_, ls_, i64_w, i32_w]
        rfl
       refine pure_ (i := 20) (N := some 48) (v := undef) (a' := ?_) #[i',i',i',i',i',i',i',i',i',i',i',i',i',i',i',i',i',i',i',i',i',o',o',o',o',o',o',o',o',o',o',o',o',o',o',o',o',o',o'] rfl rfl (any_of HT_.out (by kernel_rfl)) (fun _ _ _ h => h) (Or.inr ⟨by rfl, rfl⟩) ?_ ?_
       rotate_left
       ·simp only [Act.put, la_, lz_, ls_, i64_w, i32_w]
        rfl
       refine pure_ (i := 21) (N := some 49) (v := undef) (a' := ?_) #[i',i',i',i',i',i',i',i',i',i',i',i',i',i',i',i',i',i',i',i',i',i',o',o',o',o',o',o',o',o',o',o',o',o',o',o',o',o',o'] rfl rfl (any_of HT_.out (by kernel_rfl)) (fun _ _ _ h => h) (Or.inr ⟨by rfl, rfl⟩) ?_ ?_
       rotate_left
       ·simp only [Act.put, la_, lz_, ls_, i64_w, i32_w]
        rfl
       refine pu_ (i := 22) (N := some 50) (v := ?_) (a' := ?_) #[i',i',i',i',i',i',i',i',i',i',i',i',i',i',i',i',i',i',i',i',i',i',i',o',o',o',o',o',o',o',o',o',o',o',o',o',o',o',o'] rfl rfl HT_ (Or.inl ⟨by rfl, ?_⟩) ?_ ?_
       rotate_left;·intro w';go_simp;with_reducible rfl
       rotate_left;·simp only [Act.put, la_, lz_, ls_, i64_w, i32_w];rfl
       refine pu_ (i := 23) (N := some 51) (v := ?_) (a' := ?_) #[i',i',i',i',i',i',i',i',i',i',i',i',i',i',i',i',i',i',i',i',i',i',i',i',o',o',o',o',o',o',o',o',o',o',o',o',o',o',o'] rfl rfl HT_ (Or.inl ⟨by rfl, ?_⟩) ?_ ?_
       rotate_left;·intro w';go_simp;with_reducible rfl
       rotate_left;·simp only [Act.put, la_, lz_, ls_, i64_w, i32_w];rfl
       refine pu_ (i := 24) (N := some 52) (v := ?_) (a' := ?_) #[i',i',i',i',i',i',i',i',i',i',i',i',i',i',i',i',i',i',i',i',i',i',i',i',i',o',o',o',o',o',o',o',o',o',o',o',o',o',o'] rfl rfl HT_ (Or.inl ⟨by rfl, ?_⟩) ?_ ?_
       rotate_left;·intro w';go_simp;with_reducible rfl
       rotate_left;·simp only [Act.put, la_, lz_, ls_, i64_w, i32_w];rfl
       refine pu_ (i := 25) (N := some 53) (v := ?_) (a' := ?_) #[i',i',i',i',i',i',i',i',i',i',i',i',i',i',i',i',i',i',i',i',i',i',i',i',i',i',o',o',o',o',o',o',o',o',o',o',o',o',o'] rfl rfl HT_ (Or.inl ⟨by rfl, ?_⟩) ?_ ?_
       rotate_left;·intro w';go_simp;with_reducible rfl
       rotate_left;·simp only [Act.put, la_, lz_, ls_, i64_w, i32_w];rfl
       refine pu_ (i := 26) (N := some 54) (v := ?_) (a' := ?_) #[i',i',i',i',i',i',i',i',i',i',i',i',i',i',i',i',i',i',i',i',i',i',i',i',i',i',i',o',o',o',o',o',o',o',o',o',o',o',o'] rfl rfl HT_ (Or.inl ⟨by rfl, ?_⟩) ?_ ?_
       rotate_left;·intro w';go_simp;with_reducible rfl
       rotate_left;·simp only [Act.put, la_, lz_, ls_, i64_w, i32_w];rfl
       refine pu_ (i := 27) (N := some 55) (v := ?_) (a' := ?_) #[i',i',i',i',i',i',i',i',i',i',i',i',i',i',i',i',i',i',i',i',i',i',i',i',i',i',i',i',o',o',o',o',o',o',o',o',o',o',o'] rfl rfl HT_ (Or.inl ⟨by rfl, ?_⟩) ?_ ?_
       rotate_left;·intro w';go_simp;with_reducible rfl
       rotate_left;·simp only [Act.put, la_, lz_, ls_, i64_w, i32_w];rfl
       refine pu_ (i := 30) (N := some 58) (v := ?_) (a' := ?_) #[i',i',i',i',i',i',i',i',i',i',i',i',i',i',i',i',i',i',i',i',i',i',i',i',i',i',i',i',o',o',i',o',o',o',o',o',o',o',o'] rfl rfl HT_ (Or.inl ⟨by rfl, ?_⟩) ?_ ?_
       rotate_left;·intro w';go_simp;with_reducible rfl
       rotate_left;·simp only [Act.put, la_, lz_, ls_, i64_w, i32_w];rfl
       refine take_ (i := 28) (N := some 56) (v := ?_) (a' := ?_) #[i',i',i',i',i',i',i',i',i',i',i',i',i',i',i',i',i',i',i',i',i',i',i',i',i',i',i',i',i',o',i',o',o',o',o',o',o',o',o'] rfl rfl (take_ofW HT_.out HW_.out (by kernel_rfl)) (fun _ _ _ h => h) (Or.inl ⟨by rfl, ?_⟩) hHeld ?_ ?_
       rotate_left
       ·rintro w' ⟨s0, s1, s2, s3, s4, s5, s6, s7, s8, s9, s10, s11⟩
        go_simp
        with_reducible rfl
       rotate_left
       ·simp only [Act.put, la_, lz_, ls_, i64_w, i32_w]
        rfl
       refine one_ (i := 29) (N := some 57) #[i',i',i',i',i',i',i',i',i',i',i',i',i',i',i',i',i',i',i',i',i',i',i',i',i',i',i',i',i',i',i',o',o',o',o',o',o',o',o'] rfl rfl (one_of HT_.out (by kernel_rfl)) (by decide) (fun K hK => ?_)
       refine goes_ Try.func45 (by kernel_rfl) rfl #[.agg #[.int .i64 t412, .int .i64 t413, .string t414, .string t415, .int .i64 t416, .int .i64 t417]] (by rfl) rfl rfl ar_ ?_
       with_reducible refine (impl_ShowRec.calls k t412 t413 t414 t415 t416 t417 t423 _ A16.out).mono ?_
       rintro e w38 ⟨rfl, hb⟩
       refine ⟨_, rfl, ?_⟩
       have n0_ := Aside0.mk (blk_below (g := gb401) (o := .cells #[.int .i64 t395, .int .i64 t396, .string t397, .string t398, .int .i64 t399, .int .i64 t400] 35 (0, 0)) (bk_ BK401) hb)
       have n1_ := Aside0.mk (blk_below (g := gb410) (o := .cells #[.int .i64 t403, .int .i64 t404, .string t405, .string t406, .int .i64 t407, .int .i64 t408] 35 (0, 0)) (bk_ BK410) hb)
       have n2_ := Aside0.mk (blk_below (g := gb419) (o := .cells #[.int .i64 t412, .int .i64 t413, .string t414, .string t415, .int .i64 t416, .int .i64 t417] 35 (0, 0)) (bk_ BK419) hb)
       have n3_ := Aside0.mk (below_step (by repeat (first | (with_reducible first | exact HB.out | apply below_alloc | apply pw_below_drewN | apply below_drew1 | refine below_set ?_ GE401.out | refine below_set ?_ GE410.out | refine below_set ?_ GE419.out) | exact HB.out)) hb)
       clear BK401
       clear BK410
       clear BK419
       clear HB
       have BK401 := n0_
       have BK410 := n1_
       have BK419 := n2_
       have HB := n3_
       clear n0_ n1_ n2_ n3_
       (try clear hb)
       (try clear hb2)
       (try clear hk)
       (try clear hi)
       refine hK.out _ _ ⟨(blk_cell BK401.out 0).trans rfl, (blk_cell BK401.out 1).trans rfl, (blk_cell BK401.out 2).trans rfl, (blk_cell BK401.out 3).trans rfl, (blk_cell BK401.out 4).trans rfl, (blk_cell BK401.out 5).trans rfl, (blk_cell BK419.out 0).trans rfl, (blk_cell BK419.out 1).trans rfl, (blk_cell BK419.out 2).trans rfl, (blk_cell BK419.out 3).trans rfl, (blk_cell BK419.out 4).trans rfl, (blk_cell BK419.out 5).trans rfl⟩ (fun hHeld => ?_)
       clear hK K
       refine norm_ (a' := ?_) ?_ ?_
       rotate_left
       ·show Act.put _ (some 57) _ = _
        simp only [Act.put, la_, lz_, ls_, i64_w, i32_w]
        rfl
       refine pu_ (i := 31) (N := some 59) (v := ?_) (a' := ?_) #[i',i',i',i',i',i',i',i',i',i',i',i',i',i',i',i',i',i',i',i',i',i',i',i',i',i',i',i',i',i',i',i',o',o',o',o',o',o',o'] rfl rfl HT_ (Or.inl ⟨by rfl, ?_⟩) ?_ ?_
       rotate_left;·intro w';go_simp;with_reducible rfl
       rotate_left;·simp only [Act.put, la_, lz_, ls_, i64_w, i32_w];rfl
       refine pu_ (i := 32) (N := some 60) (v := ?_) (a' := ?_) #[i',i',i',i',i',i',i',i',i',i',i',i',i',i',i',i',i',i',i',i',i',i',i',i',i',i',i',i',i',i',i',i',i',o',o',o',o',o',o'] rfl rfl HT_ (Or.inl ⟨by rfl, ?_⟩) ?_ ?_
       rotate_left;·intro w';go_simp;with_reducible rfl
       rotate_left;·simp only [Act.put, la_, lz_, ls_, i64_w, i32_w];rfl
       refine take_ (i := 33) (N := some 61) (v := ?_) (a' := ?_) #[i',i',i',i',i',i',i',i',i',i',i',i',i',i',i',i',i',i',i',i',i',i',i',i',i',i',i',i',i',i',i',i',i',i',o',o',o',o',o'] rfl rfl (take_ofW HT_.out HW_.out (by kernel_rfl)) (fun _ _ _ h => h) (Or.inl ⟨by rfl, ?_⟩) hHeld ?_ ?_
       rotate_left
       ·rintro w' ⟨s0, s1, s2, s3, s4, s5, s6, s7, s8, s9, s10, s11⟩
        go_simp
        with_reducible rfl
       rotate_left
       ·simp only [Act.put, la_, lz_, ls_, i64_w, i32_w]
        rfl
       refine one_ (i := 34) (N := some 62) #[i',i',i',i',i',i',i',i',i',i',i',i',i',i',i',i',i',i',i',i',i',i',i',i',i',i',i',i',i',i',i',i',i',i',i',o',o',o',o'] rfl rfl (one_of HT_.out (by kernel_rfl)) (by decide) (fun K hK => ?_)
       refine goes_ Try.func47 (by kernel_rfl) rfl #[.agg #[.int .i64 t412, .int .i64 t413, .string t414, .string t415, .int .i64 t416, .int .i64 t417]] (by rfl) rfl rfl ar_ ?_
       with_reducible refine (spec_RecOk.calls k t412 t413 t414 t415 t416 t417 t424 _ A18.out).mono ?_
       rintro e w39 ⟨rfl, hb⟩
       refine ⟨_, rfl, ?_⟩
       have n0_ := Aside0.mk (blk_below (g := gb401) (o := .cells #[.int .i64 t395, .int .i64 t396, .string t397, .string t398, .int .i64 t399, .int .i64 t400] 35 (0, 0)) (bk_ BK401) hb)
       have n1_ := Aside0.mk (blk_below (g := gb410) (o := .cells #[.int .i64 t403, .int .i64 t404, .string t405, .string t406, .int .i64 t407, .int .i64 t408] 35 (0, 0)) (bk_ BK410) hb)
       have n2_ := Aside0.mk (blk_below (g := gb419) (o := .cells #[.int .i64 t412, .int .i64 t413, .string t414, .string t415, .int .i64 t416, .int .i64 t417] 35 (0, 0)) (bk_ BK419) hb)
       have n3_ := Aside0.mk (below_step (by repeat (first | (with_reducible first | exact HB.out | apply below_alloc | apply pw_below_drewN | apply below_drew1 | refine below_set ?_ GE401.out | refine below_set ?_ GE410.out | refine below_set ?_ GE419.out) | exact HB.out)) hb)
       clear BK401
       clear BK410
       clear BK419
       clear HB
       have BK401 := n0_
       have BK410 := n1_
       have BK419 := n2_
       have HB := n3_
       clear n0_ n1_ n2_ n3_
       (try clear hb)
       (try clear hb2)
       (try clear hk)
       (try clear hi)
       refine hK.out _ _ ⟨(blk_cell BK401.out 0).trans rfl, (blk_cell BK401.out 1).trans rfl, (blk_cell BK401.out 2).trans rfl, (blk_cell BK401.out 3).trans rfl, (blk_cell BK401.out 4).trans rfl, (blk_cell BK401.out 5).trans rfl, (blk_cell BK419.out 0).trans rfl, (blk_cell BK419.out 1).trans rfl, (blk_cell BK419.out 2).trans rfl, (blk_cell BK419.out 3).trans rfl, (blk_cell BK419.out 4).trans rfl, (blk_cell BK419.out 5).trans rfl⟩ (fun hHeld => ?_)
       clear hK K
       refine norm_ (a' := ?_) ?_ ?_
       rotate_left
       ·show Act.put _ (some 62) _ = _
        simp only [Act.put, la_, lz_, ls_, i64_w, i32_w]
        rfl
       refine pu_ (i := 35) (N := some 63) (v := ?_) (a' := ?_) #[i',i',i',i',i',i',i',i',i',i',i',i',i',i',i',i',i',i',i',i',i',i',i',i',i',i',i',i',i',i',i',i',i',i',i',i',o',o',o'] rfl rfl HT_ (Or.inl ⟨by rfl, ?_⟩) ?_ ?_
       rotate_left;·intro w';go_simp;with_reducible rfl
       rotate_left;·simp only [Act.put, la_, lz_, ls_, i64_w, i32_w];rfl
       refine pu_ (i := 36) (N := some 64) (v := ?_) (a' := ?_) #[i',i',i',i',i',i',i',i',i',i',i',i',i',i',i',i',i',i',i',i',i',i',i',i',i',i',i',i',i',i',i',i',i',i',i',i',i',o',o'] rfl rfl HT_ (Or.inl ⟨by rfl, ?_⟩) ?_ ?_
       rotate_left;·intro w';go_simp;with_reducible rfl
       rotate_left;·simp only [Act.put, la_, lz_, ls_, i64_w, i32_w];rfl
       refine pu_ (i := 37) (N := some 65) (v := ?_) (a' := ?_) #[i',i',i',i',i',i',i',i',i',i',i',i',i',i',i',i',i',i',i',i',i',i',i',i',i',i',i',i',i',i',i',i',i',i',i',i',i',i',o'] rfl rfl HT_ (Or.inl ⟨by rfl, ?_⟩) ?_ ?_
       rotate_left;·intro w';go_simp;with_reducible rfl
       rotate_left;·simp only [Act.put, la_, lz_, ls_, i64_w, i32_w];rfl
       refine pu_ (i := 38) (N := some 2) (v := ?_) (a' := ?_) #[i',i',i',i',i',i',i',i',i',i',i',i',i',i',i',i',i',i',i',i',i',i',i',i',i',i',i',i',i',i',i',i',i',i',i',i',i',i',i'] rfl rfl HT_ (Or.inl ⟨by rfl, ?_⟩) ?_ ?_
       rotate_left;·intro w';go_simp;with_reducible rfl
       rotate_left;·simp only [Act.put, la_, lz_, ls_, i64_w, i32_w];rfl
       refine done_ (done_of HT_.out (by kernel_rfl)) ?_
       try go_wp2
       go_ret
       exact ⟨re_, by repeat (first | (with_reducible first | exact HB.out | apply below_alloc | apply pw_below_drewN | apply below_drew1 | refine below_set ?_ GE401.out | refine below_set ?_ GE410.out | refine below_set ?_ GE419.out) | exact HB.out)⟩
      ·rw [if_neg c17] at H
       have c17b0 : (t423.toList == t411.toList) = false := beq_eq_false_iff_ne.mpr c17
       have c17b1 : (t423.toList != t411.toList) = true := bne_iff_ne.mpr c17
       exact absurd ((Option.some.inj H).trans HRT.out) (by decide)
     ·replace c15 := Bool.eq_false_iff.mpr c15
      subst c15
      have H1 : (some true) = some r := by rw [if_neg (show ¬ (false = true) by decide)] at H; exact H
      clear H
      have H := H1
      clear H1
      obtain rfl := Option.some.inj H
      go_enter Try.func9, Try.ntmps9
      try go_wp2_with (first | ((with_reducible refine gate_callee (f := 43) rfl ?_); refine goesL_ (some 11) rfl rfl Try.func43 (by kernel_rfl) rfl #[.slice A0 l0.length c0] rfl ar_ ?_; (with_reducible refine (laws_big.calls _ _ l0 false _ ?side1 ?side2 A2.out).mono ?_); (case side1 => repeat (first | exact HR0.out | (with_reducible refine Kd.C_alloc ?_ _) | (with_reducible refine Kd.C_drewN ?_ _) | (with_reducible refine Kd.C_drew ?_))); (case side2 => exact HC0.out); rintro e w' ⟨rfl, ⟨nd, rfl⟩⟩; refine ⟨_, rfl, ?_⟩) | ((with_reducible refine gate_callee (f := 44) rfl ?_); refine goesL_ (some 13) rfl rfl Try.func44 (by kernel_rfl) rfl #[.slice A0 l0.length c0] rfl ar_ ?_; (with_reducible refine (spec_DrawShowRec.calls k _ _ l0 t395 t396 t397 t398 t399 t400 _ ?side1 ?side2 A4.out).mono ?_); (case side1 => repeat (first | exact HR0.out | (with_reducible refine Kd.C_alloc ?_ _) | (with_reducible refine Kd.C_drewN ?_ _) | (with_reducible refine Kd.C_drew ?_))); (case side2 => exact HC0.out); rintro e w40 ⟨rfl, hb⟩; refine ⟨_, rfl, ?_⟩; have n0_ := Aside0.mk (below_step (hb_ HB) hb); clear HB; have HB := n0_; clear n0_; (try clear hb); (try clear hb2); (try clear hk); (try clear hi)) | ((with_reducible refine gate_dst (N := 3) rfl ?_); refine box_event ?hg (N := 3) ?hd (cs := #[.int .i64 0, .int .i64 0, .string (⟨#[]⟩ : ByteArray), .string (⟨#[]⟩ : ByteArray), .int .i64 0, .int .i64 0]) (t := 35) ?hr ?_; (case hd => rfl); (case hg => rfl); (case hr => first | (go_simp; done) | (go_simp; rfl)); intro gb401 hg w41 hbox hb; have n0_ := Aside0.mk (below_step (hb_ HB) hb); have n1_ := Aside0.mk (hbox); have n2_ := Aside0.mk ((by rw [hg]; exact (below_size (hb_ HB)) : w.heap.size ≤ gb401)); have n3_ := Aside0.mk ((by rw [hg]; exact (below_size (hb_ HB)) : w.heap.size ≤ gb401)); clear HB; have HB := n0_; have BK401 := n1_; have GW401 := n2_; have GE401 := n3_; clear n0_ n1_ n2_ n3_; clear hb hbox hg; have hcz42_0 : w41.cell? ⟨gb401, 0, none⟩ = some (.int .i64 0) := (blk_cell BK401.out 0).trans rfl; have hcz42_1 : w41.cell? ⟨gb401, 1, none⟩ = some (.int .i64 0) := (blk_cell BK401.out 1).trans rfl; have hcz42_2 : w41.cell? ⟨gb401, 2, none⟩ = some (.string (⟨#[]⟩ : ByteArray)) := (blk_cell BK401.out 2).trans rfl; have hcz42_3 : w41.cell? ⟨gb401, 3, none⟩ = some (.string (⟨#[]⟩ : ByteArray)) := (blk_cell BK401.out 3).trans rfl; have hcz42_4 : w41.cell? ⟨gb401, 4, none⟩ = some (.int .i64 0) := (blk_cell BK401.out 4).trans rfl; have hcz42_5 : w41.cell? ⟨gb401, 5, none⟩ = some (.int .i64 0) := (blk_cell BK401.out 5).trans rfl; have hfz42_0 := blk_frozen BK401.out 0; have hfz42_1 := blk_frozen BK401.out 1; have hfz42_2 := blk_frozen BK401.out 2; have hfz42_3 := blk_frozen BK401.out 3; have hfz42_4 := blk_frozen BK401.out 4; have hfz42_5 := blk_frozen BK401.out 5) | ((with_reducible refine gate_callee (f := 45) rfl ?_); refine goesL_ (some 15) rfl rfl Try.func45 (by kernel_rfl) rfl #[.agg #[.int .i64 t395, .int .i64 t396, .string t397, .string t398, .int .i64 t399, .int .i64 t400]] rfl ar_ ?_; (with_reducible refine (impl_ShowRec.calls k t395 t396 t397 t398 t399 t400 t402 _ A5.out).mono ?_); rintro e w43 ⟨rfl, hb⟩; refine ⟨_, rfl, ?_⟩; have n0_ := Aside0.mk (blk_below (g := gb401) (o := .cells #[.int .i64 t395, .int .i64 t396, .string t397, .string t398, .int .i64 t399, .int .i64 t400] 35 (0, 0)) (by (with_reducible repeat (first | refine blk_drewN ?_ _ | refine blk_drew ?_ | refine blk_alloc ?_ _)); refine blk_put (cs := #[.int .i64 t395, .int .i64 t396, .string t397, .string t398, .int .i64 t399, .int .i64 0]) ?_ 5 _ rfl; (with_reducible repeat (first | refine blk_drewN ?_ _ | refine blk_drew ?_ | refine blk_alloc ?_ _)); refine blk_put (cs := #[.int .i64 t395, .int .i64 t396, .string t397, .string t398, .int .i64 0, .int .i64 0]) ?_ 4 _ rfl; (with_reducible repeat (first | refine blk_drewN ?_ _ | refine blk_drew ?_ | refine blk_alloc ?_ _)); refine blk_put (cs := #[.int .i64 t395, .int .i64 t396, .string t397, .string (⟨#[]⟩ : ByteArray), .int .i64 0, .int .i64 0]) ?_ 3 _ rfl; (with_reducible repeat (first | refine blk_drewN ?_ _ | refine blk_drew ?_ | refine blk_alloc ?_ _)); refine blk_put (cs := #[.int .i64 t395, .int .i64 t396, .string (⟨#[]⟩ : ByteArray), .string (⟨#[]⟩ : ByteArray), .int .i64 0, .int .i64 0]) ?_ 2 _ rfl; (with_reducible repeat (first | refine blk_drewN ?_ _ | refine blk_drew ?_ | refine blk_alloc ?_ _)); refine blk_put (cs := #[.int .i64 t395, .int .i64 0, .string (⟨#[]⟩ : ByteArray), .string (⟨#[]⟩ : ByteArray), .int .i64 0, .int .i64 0]) ?_ 1 _ rfl; (with_reducible repeat (first | refine blk_drewN ?_ _ | refine blk_drew ?_ | refine blk_alloc ?_ _)); refine blk_put (cs := #[.int .i64 0, .int .i64 0, .string (⟨#[]⟩ : ByteArray), .string (⟨#[]⟩ : ByteArray), .int .i64 0, .int .i64 0]) ?_ 0 _ rfl; (with_reducible repeat (first | refine blk_drewN ?_ _ | refine blk_drew ?_ | refine blk_alloc ?_ _)); exact BK401.out) hb); have n1_ := Aside0.mk (below_step (hs_ HB GE401) hb); clear BK401; clear HB; have BK401 := n0_; have HB := n1_; clear n0_ n1_; (try clear hb); (try clear hb2); (try clear hk); (try clear hi)) | ((with_reducible refine gate_callee (f := 21) rfl ?_); refine goesL_ (some 18) rfl rfl Try.func21 (by kernel_rfl) rfl #[.string t402] rfl ar_ ?_; (with_reducible refine (impl_ReadRec.calls k t402 t403 t404 t405 t406 t407 t408 t409 _ A6.out).mono ?_); rintro e w44 ⟨rfl, hb⟩; refine ⟨_, rfl, ?_⟩; have n0_ := Aside0.mk (blk_below (g := gb401) (o := .cells #[.int .i64 t395, .int .i64 t396, .string t397, .string t398, .int .i64 t399, .int .i64 t400] 35 (0, 0)) (bk_ BK401) hb); have n1_ := Aside0.mk (below_step (hs_ HB GE401) hb); clear BK401; clear HB; have BK401 := n0_; have HB := n1_; clear n0_ n1_; (try clear hb); (try clear hb2); (try clear hk); (try clear hi)) | ((with_reducible refine gate_dst (N := 5) rfl ?_); refine box_event ?hg (N := 5) ?hd (cs := #[.int .i64 0, .int .i64 0, .string (⟨#[]⟩ : ByteArray), .string (⟨#[]⟩ : ByteArray), .int .i64 0, .int .i64 0]) (t := 35) ?hr ?_; (case hd => rfl); (case hg => rfl); (case hr => first | (go_simp; done) | (go_simp; rfl)); intro gb410 hg w45 hbox hb; have n0_ := Aside0.mk (blk_below (g := gb401) (o := .cells #[.int .i64 t395, .int .i64 t396, .string t397, .string t398, .int .i64 t399, .int .i64 t400] 35 (0, 0)) (bk_ BK401) hb); have n1_ := Aside0.mk (below_step (hs_ HB GE401) hb); have n2_ := Aside0.mk (hbox); have n3_ := Aside0.mk ((by rw [hg]; exact (below_size (hs_ HB GE401)) : w.heap.size ≤ gb410)); have n4_ := Aside0.mk ((by rw [hg]; exact (below_size (hs_ HB GE401)) : w.heap.size ≤ gb410)); have n5_ := Aside0.mk ((by rw [hg]; exact Nat.ne_of_lt (blk_lt (g := gb401) (o := .cells #[.int .i64 t395, .int .i64 t396, .string t397, .string t398, .int .i64 t399, .int .i64 t400] 35 (0, 0)) (bk_ BK401)) : gb401 ≠ gb410)); have n6_ := Aside0.mk ((by rw [hg]; exact Nat.ne_of_gt (blk_lt (g := gb401) (o := .cells #[.int .i64 t395, .int .i64 t396, .string t397, .string t398, .int .i64 t399, .int .i64 t400] 35 (0, 0)) (bk_ BK401)) : gb410 ≠ gb401)); clear BK401; clear HB; have BK401 := n0_; have HB := n1_; have BK410 := n2_; have GW410 := n3_; have GE410 := n4_; have NB401_410 := n5_; have NB410_401 := n6_; clear n0_ n1_ n2_ n3_ n4_ n5_ n6_; clear hb hbox hg; have hnb46 := NB410_401.out; have hnc46 := NB401_410.out; have hcz47_0 : w45.cell? ⟨gb410, 0, none⟩ = some (.int .i64 0) := (blk_cell BK410.out 0).trans rfl; have hcz47_1 : w45.cell? ⟨gb410, 1, none⟩ = some (.int .i64 0) := (blk_cell BK410.out 1).trans rfl; have hcz47_2 : w45.cell? ⟨gb410, 2, none⟩ = some (.string (⟨#[]⟩ : ByteArray)) := (blk_cell BK410.out 2).trans rfl; have hcz47_3 : w45.cell? ⟨gb410, 3, none⟩ = some (.string (⟨#[]⟩ : ByteArray)) := (blk_cell BK410.out 3).trans rfl; have hcz47_4 : w45.cell? ⟨gb410, 4, none⟩ = some (.int .i64 0) := (blk_cell BK410.out 4).trans rfl; have hcz47_5 : w45.cell? ⟨gb410, 5, none⟩ = some (.int .i64 0) := (blk_cell BK410.out 5).trans rfl; have hfz47_0 := blk_frozen BK410.out 0; have hfz47_1 := blk_frozen BK410.out 1; have hfz47_2 := blk_frozen BK410.out 2; have hfz47_3 := blk_frozen BK410.out 3; have hfz47_4 := blk_frozen BK410.out 4; have hfz47_5 := blk_frozen BK410.out 5) | ((with_reducible refine gate_callee (f := 46) rfl ?_); refine goesL_ (some 22) rfl rfl Try.func46 (by kernel_rfl) rfl #[.slice A0 l0.length c0] rfl ar_ ?_; (with_reducible refine (spec_DrawReadRec.calls k _ _ l0 t411 _ ?side1 ?side2 A7.out).mono ?_); (case side1 => exact Kd.C_below HR0.out (by repeat (first | (with_reducible first | exact HB.out | apply below_alloc | apply pw_below_drewN | apply below_drew1 | refine below_set ?_ GE401.out | refine below_set ?_ GE410.out) | exact HB.out))); (case side2 => exact HC0.out); rintro e w48 ⟨rfl, hb⟩; refine ⟨_, rfl, ?_⟩; have n0_ := Aside0.mk (blk_below (g := gb401) (o := .cells #[.int .i64 t395, .int .i64 t396, .string t397, .string t398, .int .i64 t399, .int .i64 t400] 35 (0, 0)) (by (with_reducible repeat (first | refine blk_drewN ?_ _ | refine blk_drew ?_ | refine blk_alloc ?_ _)); refine blk_far ?_ NB401_410.out _; (with_reducible repeat (first | refine blk_drewN ?_ _ | refine blk_drew ?_ | refine blk_alloc ?_ _)); refine blk_far ?_ NB401_410.out _; (with_reducible repeat (first | refine blk_drewN ?_ _ | refine blk_drew ?_ | refine blk_alloc ?_ _)); refine blk_far ?_ NB401_410.out _; (with_reducible repeat (first | refine blk_drewN ?_ _ | refine blk_drew ?_ | refine blk_alloc ?_ _)); refine blk_far ?_ NB401_410.out _; (with_reducible repeat (first | refine blk_drewN ?_ _ | refine blk_drew ?_ | refine blk_alloc ?_ _)); refine blk_far ?_ NB401_410.out _; (with_reducible repeat (first | refine blk_drewN ?_ _ | refine blk_drew ?_ | refine blk_alloc ?_ _)); refine blk_far ?_ NB401_410.out _; (with_reducible repeat (first | refine blk_drewN ?_ _ | refine blk_drew ?_ | refine blk_alloc ?_ _)); exact BK401.out) hb); have n1_ := Aside0.mk (blk_below (g := gb410) (o := .cells #[.int .i64 t403, .int .i64 t404, .string t405, .string t406, .int .i64 t407, .int .i64 t408] 35 (0, 0)) (by (with_reducible repeat (first | refine blk_drewN ?_ _ | refine blk_drew ?_ | refine blk_alloc ?_ _)); refine blk_put (cs := #[.int .i64 t403, .int .i64 t404, .string t405, .string t406, .int .i64 t407, .int .i64 0]) ?_ 5 _ rfl; (with_reducible repeat (first | refine blk_drewN ?_ _ | refine blk_drew ?_ | refine blk_alloc ?_ _)); refine blk_put (cs := #[.int .i64 t403, .int .i64 t404, .string t405, .string t406, .int .i64 0, .int .i64 0]) ?_ 4 _ rfl; (with_reducible repeat (first | refine blk_drewN ?_ _ | refine blk_drew ?_ | refine blk_alloc ?_ _)); refine blk_put (cs := #[.int .i64 t403, .int .i64 t404, .string t405, .string (⟨#[]⟩ : ByteArray), .int .i64 0, .int .i64 0]) ?_ 3 _ rfl; (with_reducible repeat (first | refine blk_drewN ?_ _ | refine blk_drew ?_ | refine blk_alloc ?_ _)); refine blk_put (cs := #[.int .i64 t403, .int .i64 t404, .string (⟨#[]⟩ : ByteArray), .string (⟨#[]⟩ : ByteArray), .int .i64 0, .int .i64 0]) ?_ 2 _ rfl; (with_reducible repeat (first | refine blk_drewN ?_ _ | refine blk_drew ?_ | refine blk_alloc ?_ _)); refine blk_put (cs := #[.int .i64 t403, .int .i64 0, .string (⟨#[]⟩ : ByteArray), .string (⟨#[]⟩ : ByteArray), .int .i64 0, .int .i64 0]) ?_ 1 _ rfl; (with_reducible repeat (first | refine blk_drewN ?_ _ | refine blk_drew ?_ | refine blk_alloc ?_ _)); refine blk_put (cs := #[.int .i64 0, .int .i64 0, .string (⟨#[]⟩ : ByteArray), .string (⟨#[]⟩ : ByteArray), .int .i64 0, .int .i64 0]) ?_ 0 _ rfl; (with_reducible repeat (first | refine blk_drewN ?_ _ | refine blk_drew ?_ | refine blk_alloc ?_ _)); exact BK410.out) hb); have n2_ := Aside0.mk (below_step (by repeat (first | (with_reducible first | exact HB.out | apply below_alloc | apply pw_below_drewN | apply below_drew1 | refine below_set ?_ GE401.out | refine below_set ?_ GE410.out) | exact HB.out)) hb); clear BK401; clear BK410; clear HB; have BK401 := n0_; have BK410 := n1_; have HB := n2_; clear n0_ n1_ n2_; (try clear hb); (try clear hb2); (try clear hk); (try clear hi)) | ((with_reducible refine gate_callee (f := 21) rfl ?_); refine goesL_ (some 25) rfl rfl Try.func21 (by kernel_rfl) rfl #[.string t411] rfl ar_ ?_; (with_reducible refine (impl_ReadRec.calls k t411 t412 t413 t414 t415 t416 t417 false _ A8.out).mono ?_); rintro e w49 ⟨rfl, hb⟩; refine ⟨_, rfl, ?_⟩; have n0_ := Aside0.mk (blk_below (g := gb401) (o := .cells #[.int .i64 t395, .int .i64 t396, .string t397, .string t398, .int .i64 t399, .int .i64 t400] 35 (0, 0)) (bk_ BK401) hb); have n1_ := Aside0.mk (blk_below (g := gb410) (o := .cells #[.int .i64 t403, .int .i64 t404, .string t405, .string t406, .int .i64 t407, .int .i64 t408] 35 (0, 0)) (bk_ BK410) hb); have n2_ := Aside0.mk (below_step (by repeat (first | (with_reducible first | exact HB.out | apply below_alloc | apply pw_below_drewN | apply below_drew1 | refine below_set ?_ GE401.out | refine below_set ?_ GE410.out) | exact HB.out)) hb); clear BK401; clear BK410; clear HB; have BK401 := n0_; have BK410 := n1_; have HB := n2_; clear n0_ n1_ n2_; (try clear hb); (try clear hb2); (try clear hk); (try clear hi)) | ((with_reducible refine gate_dst (N := 8) rfl ?_); refine box_event ?hg (N := 8) ?hd (cs := #[.int .i64 0, .int .i64 0, .string (⟨#[]⟩ : ByteArray), .string (⟨#[]⟩ : ByteArray), .int .i64 0, .int .i64 0]) (t := 35) ?hr ?_; (case hd => rfl); (case hg => rfl); (case hr => first | (go_simp; done) | (go_simp; rfl)); intro gb419 hg w50 hbox hb; have n0_ := Aside0.mk (blk_below (g := gb401) (o := .cells #[.int .i64 t395, .int .i64 t396, .string t397, .string t398, .int .i64 t399, .int .i64 t400] 35 (0, 0)) (bk_ BK401) hb); have n1_ := Aside0.mk (blk_below (g := gb410) (o := .cells #[.int .i64 t403, .int .i64 t404, .string t405, .string t406, .int .i64 t407, .int .i64 t408] 35 (0, 0)) (bk_ BK410) hb); have n2_ := Aside0.mk (below_step (by repeat (first | (with_reducible first | exact HB.out | apply below_alloc | apply pw_below_drewN | apply below_drew1 | refine below_set ?_ GE401.out | refine below_set ?_ GE410.out) | exact HB.out)) hb); have n3_ := Aside0.mk (hbox); have n4_ := Aside0.mk ((by rw [hg]; exact (below_size (by repeat (first | (with_reducible first | exact HB.out | apply below_alloc | apply pw_below_drewN | apply below_drew1 | refine below_set ?_ GE401.out | refine below_set ?_ GE410.out) | exact HB.out))) : w.heap.size ≤ gb419)); have n5_ := Aside0.mk ((by rw [hg]; exact (below_size (by repeat (first | (with_reducible first | exact HB.out | apply below_alloc | apply pw_below_drewN | apply below_drew1 | refine below_set ?_ GE401.out | refine below_set ?_ GE410.out) | exact HB.out))) : w.heap.size ≤ gb419)); have n6_ := Aside0.mk ((by rw [hg]; exact Nat.ne_of_lt (blk_lt (g := gb401) (o := .cells #[.int .i64 t395, .int .i64 t396, .string t397, .string t398, .int .i64 t399, .int .i64 t400] 35 (0, 0)) (bk_ BK401)) : gb401 ≠ gb419)); have n7_ := Aside0.mk ((by rw [hg]; exact Nat.ne_of_gt (blk_lt (g := gb401) (o := .cells #[.int .i64 t395, .int .i64 t396, .string t397, .string t398, .int .i64 t399, .int .i64 t400] 35 (0, 0)) (bk_ BK401)) : gb419 ≠ gb401)); have n8_ := Aside0.mk ((by rw [hg]; exact Nat.ne_of_lt (blk_lt (g := gb410) (o := .cells #[.int .i64 t403, .int .i64 t404, .string t405, .string t406, .int .i64 t407, .int .i64 t408] 35 (0, 0)) (bk_ BK410)) : gb410 ≠ gb419)); have n9_ := Aside0.mk ((by rw [hg]; exact Nat.ne_of_gt (blk_lt (g := gb410) (o := .cells #[.int .i64 t403, .int .i64 t404, .string t405, .string t406, .int .i64 t407, .int .i64 t408] 35 (0, 0)) (bk_ BK410)) : gb419 ≠ gb410)); clear BK401; clear BK410; clear HB; have BK401 := n0_; have BK410 := n1_; have HB := n2_; have BK419 := n3_; have GW419 := n4_; have GE419 := n5_; have NB401_419 := n6_; have NB419_401 := n7_; have NB410_419 := n8_; have NB419_410 := n9_; clear n0_ n1_ n2_ n3_ n4_ n5_ n6_ n7_ n8_ n9_; clear hb hbox hg; have hnb51 := NB419_401.out; have hnc51 := NB401_419.out; have hnb52 := NB419_410.out; have hnc52 := NB410_419.out; have hcz53_0 : w50.cell? ⟨gb419, 0, none⟩ = some (.int .i64 0) := (blk_cell BK419.out 0).trans rfl; have hcz53_1 : w50.cell? ⟨gb419, 1, none⟩ = some (.int .i64 0) := (blk_cell BK419.out 1).trans rfl; have hcz53_2 : w50.cell? ⟨gb419, 2, none⟩ = some (.string (⟨#[]⟩ : ByteArray)) := (blk_cell BK419.out 2).trans rfl; have hcz53_3 : w50.cell? ⟨gb419, 3, none⟩ = some (.string (⟨#[]⟩ : ByteArray)) := (blk_cell BK419.out 3).trans rfl; have hcz53_4 : w50.cell? ⟨gb419, 4, none⟩ = some (.int .i64 0) := (blk_cell BK419.out 4).trans rfl; have hcz53_5 : w50.cell? ⟨gb419, 5, none⟩ = some (.int .i64 0) := (blk_cell BK419.out 5).trans rfl; have hfz53_0 := blk_frozen BK419.out 0; have hfz53_1 := blk_frozen BK419.out 1; have hfz53_2 := blk_frozen BK419.out 2; have hfz53_3 := blk_frozen BK419.out 3; have hfz53_4 := blk_frozen BK419.out 4; have hfz53_5 := blk_frozen BK419.out 5))
      have n0_ : Aside0 (((((((w50.setCell ⟨gb419, 0, none⟩ (.int .i64 t412)).setCell ⟨gb419, 1, none⟩ (.int .i64 t413)).setCell ⟨gb419, 2, none⟩ (.string t414)).setCell ⟨gb419, 3, none⟩ (.string t415)).setCell ⟨gb419, 4, none⟩ (.int .i64 t416)).setCell ⟨gb419, 5, none⟩ (.int .i64 t417)).heap[gb401]? = some (.cells #[.int .i64 t395, .int .i64 t396, .string t397, .string t398, .int .i64 t399, .int .i64 t400] 35 (0, 0))) := ⟨by (with_reducible repeat (first | refine blk_drewN ?_ _ | refine blk_drew ?_ | refine blk_alloc ?_ _)); refine blk_far ?_ NB401_419.out _; (with_reducible repeat (first | refine blk_drewN ?_ _ | refine blk_drew ?_ | refine blk_alloc ?_ _)); refine blk_far ?_ NB401_419.out _; (with_reducible repeat (first | refine blk_drewN ?_ _ | refine blk_drew ?_ | refine blk_alloc ?_ _)); refine blk_far ?_ NB401_419.out _; (with_reducible repeat (first | refine blk_drewN ?_ _ | refine blk_drew ?_ | refine blk_alloc ?_ _)); refine blk_far ?_ NB401_419.out _; (with_reducible repeat (first | refine blk_drewN ?_ _ | refine blk_drew ?_ | refine blk_alloc ?_ _)); refine blk_far ?_ NB401_419.out _; (with_reducible repeat (first | refine blk_drewN ?_ _ | refine blk_drew ?_ | refine blk_alloc ?_ _)); refine blk_far ?_ NB401_419.out _; (with_reducible repeat (first | refine blk_drewN ?_ _ | refine blk_drew ?_ | refine blk_alloc ?_ _)); exact BK401.out⟩
      have n1_ : Aside0 (((((((w50.setCell ⟨gb419, 0, none⟩ (.int .i64 t412)).setCell ⟨gb419, 1, none⟩ (.int .i64 t413)).setCell ⟨gb419, 2, none⟩ (.string t414)).setCell ⟨gb419, 3, none⟩ (.string t415)).setCell ⟨gb419, 4, none⟩ (.int .i64 t416)).setCell ⟨gb419, 5, none⟩ (.int .i64 t417)).heap[gb410]? = some (.cells #[.int .i64 t403, .int .i64 t404, .string t405, .string t406, .int .i64 t407, .int .i64 t408] 35 (0, 0))) := ⟨by (with_reducible repeat (first | refine blk_drewN ?_ _ | refine blk_drew ?_ | refine blk_alloc ?_ _)); refine blk_far ?_ NB410_419.out _; (with_reducible repeat (first | refine blk_drewN ?_ _ | refine blk_drew ?_ | refine blk_alloc ?_ _)); refine blk_far ?_ NB410_419.out _; (with_reducible repeat (first | refine blk_drewN ?_ _ | refine blk_drew ?_ | refine blk_alloc ?_ _)); refine blk_far ?_ NB410_419.out _; (with_reducible repeat (first | refine blk_drewN ?_ _ | refine blk_drew ?_ | refine blk_alloc ?_ _)); refine blk_far ?_ NB410_419.out _; (with_reducible repeat (first | refine blk_drewN ?_ _ | refine blk_drew ?_ | refine blk_alloc ?_ _)); refine blk_far ?_ NB410_419.out _; (with_reducible repeat (first | refine blk_drewN ?_ _ | refine blk_drew ?_ | refine blk_alloc ?_ _)); refine blk_far ?_ NB410_419.out _; (with_reducible repeat (first | refine blk_drewN ?_ _ | refine blk_drew ?_ | refine blk_alloc ?_ _)); exact BK410.out⟩
      have n2_ : Aside0 (((((((w50.setCell ⟨gb419, 0, none⟩ (.int .i64 t412)).setCell ⟨gb419, 1, none⟩ (.int .i64 t413)).setCell ⟨gb419, 2, none⟩ (.string t414)).setCell ⟨gb419, 3, none⟩ (.string t415)).setCell ⟨gb419, 4, none⟩ (.int .i64 t416)).setCell ⟨gb419, 5, none⟩ (.int .i64 t417)).heap[gb419]? = some (.cells #[.int .i64 t412, .int .i64 t413, .string t414, .string t415, .int .i64 t416, .int .i64 t417] 35 (0, 0))) := ⟨by (with_reducible repeat (first | refine blk_drewN ?_ _ | refine blk_drew ?_ | refine blk_alloc ?_ _)); refine blk_put (cs := #[.int .i64 t412, .int .i64 t413, .string t414, .string t415, .int .i64 t416, .int .i64 0]) ?_ 5 _ rfl; (with_reducible repeat (first | refine blk_drewN ?_ _ | refine blk_drew ?_ | refine blk_alloc ?_ _)); refine blk_put (cs := #[.int .i64 t412, .int .i64 t413, .string t414, .string t415, .int .i64 0, .int .i64 0]) ?_ 4 _ rfl; (with_reducible repeat (first | refine blk_drewN ?_ _ | refine blk_drew ?_ | refine blk_alloc ?_ _)); refine blk_put (cs := #[.int .i64 t412, .int .i64 t413, .string t414, .string (⟨#[]⟩ : ByteArray), .int .i64 0, .int .i64 0]) ?_ 3 _ rfl; (with_reducible repeat (first | refine blk_drewN ?_ _ | refine blk_drew ?_ | refine blk_alloc ?_ _)); refine blk_put (cs := #[.int .i64 t412, .int .i64 t413, .string (⟨#[]⟩ : ByteArray), .string (⟨#[]⟩ : ByteArray), .int .i64 0, .int .i64 0]) ?_ 2 _ rfl; (with_reducible repeat (first | refine blk_drewN ?_ _ | refine blk_drew ?_ | refine blk_alloc ?_ _)); refine blk_put (cs := #[.int .i64 t412, .int .i64 0, .string (⟨#[]⟩ : ByteArray), .string (⟨#[]⟩ : ByteArray), .int .i64 0, .int .i64 0]) ?_ 1 _ rfl; (with_reducible repeat (first | refine blk_drewN ?_ _ | refine blk_drew ?_ | refine blk_alloc ?_ _)); refine blk_put (cs := #[.int .i64 0, .int .i64 0, .string (⟨#[]⟩ : ByteArray), .string (⟨#[]⟩ : ByteArray), .int .i64 0, .int .i64 0]) ?_ 0 _ rfl; (with_reducible repeat (first | refine blk_drewN ?_ _ | refine blk_drew ?_ | refine blk_alloc ?_ _)); exact BK419.out⟩
      have n3_ : Aside0 (Below w.heap.size w ((((((w50.setCell ⟨gb419, 0, none⟩ (.int .i64 t412)).setCell ⟨gb419, 1, none⟩ (.int .i64 t413)).setCell ⟨gb419, 2, none⟩ (.string t414)).setCell ⟨gb419, 3, none⟩ (.string t415)).setCell ⟨gb419, 4, none⟩ (.int .i64 t416)).setCell ⟨gb419, 5, none⟩ (.int .i64 t417))) := ⟨by repeat (first | (with_reducible first | exact HB.out | apply below_alloc | apply pw_below_drewN | apply below_drew1 | refine below_set ?_ GE401.out | refine below_set ?_ GE410.out | refine below_set ?_ GE419.out) | exact HB.out)⟩
      (try clear BK401)
      (try clear BK410)
      (try clear BK419)
      (try clear HB)
      generalize ((((((w50.setCell ⟨gb419, 0, none⟩ (.int .i64 t412)).setCell ⟨gb419, 1, none⟩ (.int .i64 t413)).setCell ⟨gb419, 2, none⟩ (.string t414)).setCell ⟨gb419, 3, none⟩ (.string t415)).setCell ⟨gb419, 4, none⟩ (.int .i64 t416)).setCell ⟨gb419, 5, none⟩ (.int .i64 t417)) = w54 at n0_ n1_ n2_ n3_ ⊢
      have BK401 := n0_
      have BK410 := n1_
      have BK419 := n2_
      have HB := n3_
      clear n0_ n1_ n2_ n3_
      have n0_ := Aside0.mk (blk_drew BK401.out)
      have n1_ := Aside0.mk (blk_drew BK410.out)
      have n2_ := Aside0.mk (blk_drew BK419.out)
      have n3_ := Aside0.mk (below_drew1 HB.out)
      clear BK401
      clear BK410
      clear BK419
      clear HB
      have BK401 := n0_
      have BK410 := n1_
      have BK419 := n2_
      have HB := n3_
      clear n0_ n1_ n2_ n3_
      refine start_ (n := 39) (S := fun w' => w'.cell? ⟨gb401, 0, none⟩ = some (.int .i64 t395) ∧ w'.cell? ⟨gb401, 1, none⟩ = some (.int .i64 t396) ∧ w'.cell? ⟨gb401, 2, none⟩ = some (.string t397) ∧ w'.cell? ⟨gb401, 3, none⟩ = some (.string t398) ∧ w'.cell? ⟨gb401, 4, none⟩ = some (.int .i64 t399) ∧ w'.cell? ⟨gb401, 5, none⟩ = some (.int .i64 t400)) (ds := []) #[o',o',o',o',o',o',o',o',o',o',o',o',o',o',o',o',o',o',o',o',o',o',o',o',o',o',o',o',o',o',o',o',o',o',o',o',o',o',o'] (by kernel_rfl) rfl rfl ⟨(blk_cell BK401.out 0).trans rfl, (blk_cell BK401.out 1).trans rfl, (blk_cell BK401.out 2).trans rfl, (blk_cell BK401.out 3).trans rfl, (blk_cell BK401.out 4).trans rfl, (blk_cell BK401.out 5).trans rfl⟩ (fun hHeld => ?_); refine with_tabW laws_FnRecords.tab8 laws_FnRecords.bits8 (fun HT_ HW_ => ?_)
      generalize w54.drew = w55 at BK401 BK410 BK419 HB hHeld ⊢
      refine pu_ (i := 0) (N := some 28) (v := ?_) (a' := ?_) #[i',o',o',o',o',o',o',o',o',o',o',o',o',o',o',o',o',o',o',o',o',o',o',o',o',o',o',o',o',o',o',o',o',o',o',o',o',o',o'] rfl rfl HT_ (Or.inl ⟨by rfl, ?_⟩) ?_ ?_
      rotate_left;·intro w';go_simp;with_reducible rfl
      rotate_left;·simp only [Act.put, la_, lz_, ls_, i64_w, i32_w];rfl
      refine pu_ (i := 1) (N := some 29) (v := ?_) (a' := ?_) #[i',i',o',o',o',o',o',o',o',o',o',o',o',o',o',o',o',o',o',o',o',o',o',o',o',o',o',o',o',o',o',o',o',o',o',o',o',o',o'] rfl rfl HT_ (Or.inl ⟨by rfl, ?_⟩) ?_ ?_
      rotate_left;·intro w';go_simp;with_reducible rfl
      rotate_left;·simp only [Act.put, la_, lz_, ls_, i64_w, i32_w];rfl
      refine take_ (i := 2) (N := some 30) (v := ?_) (a' := ?_) #[i',i',i',o',o',o',o',o',o',o',o',o',o',o',o',o',o',o',o',o',o',o',o',o',o',o',o',o',o',o',o',o',o',o',o',o',o',o',o'] rfl rfl (take_ofW HT_.out HW_.out (by kernel_rfl)) (fun _ _ _ h => h) (Or.inl ⟨by rfl, ?_⟩) hHeld ?_ ?_
      rotate_left
      ·rintro w' ⟨s0, s1, s2, s3, s4, s5⟩
       go_simp
       with_reducible rfl
      rotate_left
      ·simp only [Act.put, la_, lz_, ls_, i64_w, i32_w]
       rfl
      refine one_ (i := 3) (N := some 31) #[i',i',i',i',o',o',o',o',o',o',o',o',o',o',o',o',o',o',o',o',o',o',o',o',o',o',o',o',o',o',o',o',o',o',o',o',o',o',o'] rfl rfl (one_of HT_.out (by kernel_rfl)) (by decide) (fun K hK => ?_)
      refine goes_ Try.func47 (by kernel_rfl) rfl #[.agg #[.int .i64 t395, .int .i64 t396, .string t397, .string t398, .int .i64 t399, .int .i64 t400]] (by rfl) rfl rfl ar_ ?_
      with_reducible refine (spec_RecOk.calls k t395 t396 t397 t398 t399 t400 t420 _ A9.out).mono ?_
      rintro e w56 ⟨rfl, hb⟩
      refine ⟨_, rfl, ?_⟩
      have n0_ := Aside0.mk (blk_below (g := gb401) (o := .cells #[.int .i64 t395, .int .i64 t396, .string t397, .string t398, .int .i64 t399, .int .i64 t400] 35 (0, 0)) (bk_ BK401) hb)
      have n1_ := Aside0.mk (blk_below (g := gb410) (o := .cells #[.int .i64 t403, .int .i64 t404, .string t405, .string t406, .int .i64 t407, .int .i64 t408] 35 (0, 0)) (bk_ BK410) hb)
      have n2_ := Aside0.mk (blk_below (g := gb419) (o := .cells #[.int .i64 t412, .int .i64 t413, .string t414, .string t415, .int .i64 t416, .int .i64 t417] 35 (0, 0)) (bk_ BK419) hb)
      have n3_ := Aside0.mk (below_step (by repeat (first | (with_reducible first | exact HB.out | apply below_alloc | apply pw_below_drewN | apply below_drew1 | refine below_set ?_ GE401.out | refine below_set ?_ GE410.out | refine below_set ?_ GE419.out) | exact HB.out)) hb)
      clear BK401
      clear BK410
      clear BK419
      clear HB
      have BK401 := n0_
      have BK410 := n1_
      have BK419 := n2_
      have HB := n3_
      clear n0_ n1_ n2_ n3_
      (try clear hb)
      (try clear hb2)
      (try clear hk)
      (try clear hi)
      refine hK.out _ _ ⟨(blk_cell BK401.out 0).trans rfl, (blk_cell BK401.out 1).trans rfl, (blk_cell BK401.out 2).trans rfl, (blk_cell BK401.out 3).trans rfl, (blk_cell BK401.out 4).trans rfl, (blk_cell BK401.out 5).trans rfl⟩ (fun hHeld => ?_)
      clear hK K
      refine norm_ (a' := ?_) ?_ ?_
      rotate_left
      ·show Act.put _ (some 31) _ = _
       simp only [Act.put, la_, lz_, ls_, i64_w, i32_w]
       rfl
      refine pu_ (i := 4) (N := some 32) (v := ?_) (a' := ?_) #[i',i',i',i',i',o',o',o',o',o',o',o',o',o',o',o',o',o',o',o',o',o',o',o',o',o',o',o',o',o',o',o',o',o',o',o',o',o',o'] rfl rfl HT_ (Or.inl ⟨by rfl, ?_⟩) ?_ ?_
      rotate_left;·intro w';go_simp;with_reducible rfl
      rotate_left;·simp only [Act.put, la_, lz_, ls_, i64_w, i32_w];rfl
      refine pu_ (i := 5) (N := some 33) (v := ?_) (a' := ?_) #[i',i',i',i',i',i',o',o',o',o',o',o',o',o',o',o',o',o',o',o',o',o',o',o',o',o',o',o',o',o',o',o',o',o',o',o',o',o',o'] rfl rfl HT_ (Or.inl ⟨by rfl, ?_⟩) ?_ ?_
      rotate_left;·intro w';go_simp;with_reducible rfl
      rotate_left;·simp only [Act.put, la_, lz_, ls_, i64_w, i32_w];rfl
      refine take_ (i := 6) (N := some 34) (v := ?_) (a' := ?_) #[i',i',i',i',i',i',i',o',o',o',o',o',o',o',o',o',o',o',o',o',o',o',o',o',o',o',o',o',o',o',o',o',o',o',o',o',o',o',o'] rfl rfl (take_ofW HT_.out HW_.out (by kernel_rfl)) (fun _ _ _ h => h) (Or.inl ⟨by rfl, ?_⟩) hHeld ?_ ?_
      rotate_left
      ·rintro w' ⟨s0, s1, s2, s3, s4, s5⟩
       go_simp
       with_reducible rfl
      rotate_left
      ·simp only [Act.put, la_, lz_, ls_, i64_w, i32_w]
       rfl
      refine take_ (i := 8) (N := some 36) (v := ?_) (a' := ?_) #[i',i',i',i',i',i',i',o',i',o',o',o',o',o',o',o',o',o',o',o',o',o',o',o',o',o',o',o',o',o',o',o',o',o',o',o',o',o',o'] rfl rfl (take_ofW HT_.out HW_.out (by kernel_rfl)) (fun _ _ _ h => h) (Or.inl ⟨by rfl, ?_⟩) hHeld ?_ ?_
      rotate_left
      ·rintro w' ⟨s0, s1, s2, s3, s4, s5⟩
       go_simp
       with_reducible rfl
      rotate_left
      ·simp only [Act.put, la_, lz_, ls_, i64_w, i32_w]
       rfl
      refine one_ (i := 7) (N := some 35) #[i',i',i',i',i',i',i',i',i',o',o',o',o',o',o',o',o',o',o',o',o',o',o',o',o',o',o',o',o',o',o',o',o',o',o',o',o',o',o'] rfl rfl (one_of HT_.out (by kernel_rfl)) (by decide) (fun K hK => ?_)
      refine goes_ Try.func48 (by kernel_rfl) rfl #[.agg #[.int .i64 t395, .int .i64 t396, .string t397, .string t398, .int .i64 t399, .int .i64 t400]] (by rfl) rfl rfl ar_ ?_
      with_reducible refine (impl_RecOk.calls k t395 t396 t397 t398 t399 t400 t421 _ A11.out).mono ?_
      rintro e w57 ⟨rfl, hb⟩
      refine ⟨_, rfl, ?_⟩
      have n0_ := Aside0.mk (blk_below (g := gb401) (o := .cells #[.int .i64 t395, .int .i64 t396, .string t397, .string t398, .int .i64 t399, .int .i64 t400] 35 (0, 0)) (bk_ BK401) hb)
      have n1_ := Aside0.mk (blk_below (g := gb410) (o := .cells #[.int .i64 t403, .int .i64 t404, .string t405, .string t406, .int .i64 t407, .int .i64 t408] 35 (0, 0)) (bk_ BK410) hb)
      have n2_ := Aside0.mk (blk_below (g := gb419) (o := .cells #[.int .i64 t412, .int .i64 t413, .string t414, .string t415, .int .i64 t416, .int .i64 t417] 35 (0, 0)) (bk_ BK419) hb)
      have n3_ := Aside0.mk (below_step (by repeat (first | (with_reducible first | exact HB.out | apply below_alloc | apply pw_below_drewN | apply below_drew1 | refine below_set ?_ GE401.out | refine below_set ?_ GE410.out | refine below_set ?_ GE419.out) | exact HB.out)) hb)
      clear BK401
      clear BK410
      clear BK419
      clear HB
      have BK401 := n0_
      have BK410 := n1_
      have BK419 := n2_
      have HB := n3_
      clear n0_ n1_ n2_ n3_
      (try clear hb)
      (try clear hb2)
      (try clear hk)
      (try clear hi)
      refine hK.out _ _ ⟨(blk_cell BK401.out 0).trans rfl, (blk_cell BK401.out 1).trans rfl, (blk_cell BK401.out 2).trans rfl, (blk_cell BK401.out 3).trans rfl, (blk_cell BK401.out 4).trans rfl, (blk_cell BK401.out 5).trans rfl⟩ (fun hHeld => ?_)
      clear hK K
      refine norm_ (a' := ?_) ?_ ?_
      rotate_left
      ·show Act.put _ (some 35) _ = _
       simp only [Act.put, la_, lz_, ls_, i64_w, i32_w]
       rfl
      refine one_ (i := 9) (N := some 37) #[i',i',i',i',i',i',i',i',i',i',o',o',o',o',o',o',o',o',o',o',o',o',o',o',o',o',o',o',o',o',o',o',o',o',o',o',o',o',o'] rfl rfl (one_of HT_.out (by kernel_rfl)) (by decide) (fun K hK => ?_)
      refine goes_ Try.func47 (by kernel_rfl) rfl #[.agg #[.int .i64 t395, .int .i64 t396, .string t397, .string t398, .int .i64 t399, .int .i64 t400]] (by rfl) rfl rfl ar_ ?_
      with_reducible refine (spec_RecOk.calls k t395 t396 t397 t398 t399 t400 t422 _ A12.out).mono ?_
      rintro e w58 ⟨rfl, hb⟩
      refine ⟨_, rfl, ?_⟩
      have n0_ := Aside0.mk (blk_below (g := gb401) (o := .cells #[.int .i64 t395, .int .i64 t396, .string t397, .string t398, .int .i64 t399, .int .i64 t400] 35 (0, 0)) (bk_ BK401) hb)
      have n1_ := Aside0.mk (blk_below (g := gb410) (o := .cells #[.int .i64 t403, .int .i64 t404, .string t405, .string t406, .int .i64 t407, .int .i64 t408] 35 (0, 0)) (bk_ BK410) hb)
      have n2_ := Aside0.mk (blk_below (g := gb419) (o := .cells #[.int .i64 t412, .int .i64 t413, .string t414, .string t415, .int .i64 t416, .int .i64 t417] 35 (0, 0)) (bk_ BK419) hb)
      have n3_ := Aside0.mk (below_step (by repeat (first | (with_reducible first | exact HB.out | apply below_alloc | apply pw_below_drewN | apply below_drew1 | refine below_set ?_ GE401.out | refine below_set ?_ GE410.out | refine below_set ?_ GE419.out) | exact HB.out)) hb)
      clear BK401
      clear BK410
      clear BK419
      clear HB
      have BK401 := n0_
      have BK410 := n1_
      have BK419 := n2_
      have HB := n3_
      clear n0_ n1_ n2_ n3_
      (try clear hb)
      (try clear hb2)
      (try clear hk)
      (try clear hi)
      refine hK.out _ _ ⟨(blk_cell BK401.out 0).trans rfl, (blk_cell BK401.out 1).trans rfl, (blk_cell BK401.out 2).trans rfl, (blk_cell BK401.out 3).trans rfl, (blk_cell BK401.out 4).trans rfl, (blk_cell BK401.out 5).trans rfl⟩ (fun hHeld => ?_)
      clear hK K
      refine norm_ (a' := ?_) ?_ ?_
      rotate_left
      ·show Act.put _ (some 37) _ = _
       simp only [Act.put, la_, lz_, ls_, i64_w, i32_w]
       rfl
      refine pu_ (i := 10) (N := some 38) (v := ?_) (a' := ?_) #[i',i',i',i',i',i',i',i',i',i',i',o',o',o',o',o',o',o',o',o',o',o',o',o',o',o',o',o',o',o',o',o',o',o',o',o',o',o',o'] rfl rfl HT_ (Or.inl ⟨by rfl, ?_⟩) ?_ ?_
      rotate_left;·intro w';go_simp;with_reducible rfl
      rotate_left;·simp only [Act.put, la_, lz_, ls_, i64_w, i32_w];rfl
      refine pu_ (i := 11) (N := some 39) (v := ?_) (a' := ?_) #[i',i',i',i',i',i',i',i',i',i',i',i',o',o',o',o',o',o',o',o',o',o',o',o',o',o',o',o',o',o',o',o',o',o',o',o',o',o',o'] rfl rfl HT_ (Or.inl ⟨by rfl, ?_⟩) ?_ ?_
      rotate_left;·intro w';go_simp;with_reducible rfl
      rotate_left;·simp only [Act.put, la_, lz_, ls_, i64_w, i32_w];rfl
      refine pu_ (i := 12) (N := some 40) (v := ?_) (a' := ?_) #[i',i',i',i',i',i',i',i',i',i',i',i',i',o',o',o',o',o',o',o',o',o',o',o',o',o',o',o',o',o',o',o',o',o',o',o',o',o',o'] rfl rfl HT_ (Or.inl ⟨by rfl, ?_⟩) ?_ ?_
      rotate_left;·intro w';go_simp;with_reducible rfl
      rotate_left;·simp only [Act.put, la_, lz_, ls_, i64_w, i32_w];rfl
      refine pu_ (i := 13) (N := some 41) (v := ?_) (a' := ?_) #[i',i',i',i',i',i',i',i',i',i',i',i',i',i',o',o',o',o',o',o',o',o',o',o',o',o',o',o',o',o',o',o',o',o',o',o',o',o',o'] rfl rfl HT_ (Or.inl ⟨by rfl, ?_⟩) ?_ ?_
      rotate_left;·intro w';go_simp;with_reducible rfl
      rotate_left;·simp only [Act.put, la_, lz_, ls_, i64_w, i32_w];rfl
      refine pu_ (i := 14) (N := some 42) (v := ?_) (a' := ?_) #[i',i',i',i',i',i',i',i',i',i',i',i',i',i',i',o',o',o',o',o',o',o',o',o',o',o',o',o',o',o',o',o',o',o',o',o',o',o',o'] rfl rfl HT_ (Or.inl ⟨by rfl, ?_⟩) ?_ ?_
      rotate_left;·intro w';go_simp;with_reducible rfl
      rotate_left;·simp only [Act.put, la_, lz_, ls_, i64_w, i32_w];rfl
      refine pu_ (i := 15) (N := some 43) (v := ?_) (a' := ?_) #[i',i',i',i',i',i',i',i',i',i',i',i',i',i',i',i',o',o',o',o',o',o',o',o',o',o',o',o',o',o',o',o',o',o',o',o',o',o',o'] rfl rfl HT_ (Or.inl ⟨by rfl, ?_⟩) ?_ ?_
      rotate_left;·intro w';go_simp;with_reducible rfl
      rotate_left;·simp only [Act.put, la_, lz_, ls_, i64_w, i32_w];rfl
      refine pure_ (i := 16) (N := some 44) (v := undef) (a' := ?_) #[i',i',i',i',i',i',i',i',i',i',i',i',i',i',i',i',i',o',o',o',o',o',o',o',o',o',o',o',o',o',o',o',o',o',o',o',o',o',o'] rfl rfl (any_of HT_.out (by kernel_rfl)) (fun _ _ _ h => h) (Or.inr ⟨by rfl, rfl⟩) ?_ ?_
      rotate_left
      ·simp only [Act.put, la_, lz_, ls_, i64_w, i32_w]
       rfl
      refine pure_ (i := 17) (N := some 45) (v := undef) (a' := ?_) #[i',i',i',i',i',i',i',i',i',i',i',i',i',i',i',i',i',i',o',o',o',o',o',o',o',o',o',o',o',o',o',o',o',o',o',o',o',o',o'] rfl rfl (any_of HT_.out (by kernel_rfl)) (fun _ _ _ h => h) (Or.inr ⟨by rfl, rfl⟩) ?_ ?_
      rotate_left
      ·simp only [Act.put, la_, lz_, ls_, i64_w, i32_w]
       rfl
      refine pure_ (i := 18) (N := some 46) (v := undef) (a' := ?_) #[i',i',i',i',i',i',i',i',i',i',i',i',i',i',i',i',i',i',i',o',o',o',o',o',o',o',o',o',o',o',o',o',o',o',o',o',o',o',o'] rfl rfl (any_of HT_.out (by kernel_rfl)) (fun _ _ _ h => h) (Or.inr ⟨by rfl, rfl⟩) ?_ ?_
      rotate_left
      ·simp only [Act.put, la_, lz_, ls_, i64_w, i32_w]
       rfl
      refine pure_ (i := 19) (N := some 47) (v := undef) (a' := ?_) #[i',i',i',i',i',i',i',i',i',i',i',i',i',i',i',i',i',i',i',i',o',o',o',o',o',o',o',o',o',o',o',o',o',o',o',o',o',o',o'] rfl rfl (any_of HT_.out (by kernel_rfl)) (fun _ _ _ h => h) (Or.inr ⟨by rfl, rfl⟩) ?_ ?_
      rotate_left
      ·simp only [Act.put, la_, lz_, ls_, i64_w, i32_w]
       rfl
      refine pure_ (i := 20) (N := some 48) (v := undef) (a' := ?_) #[i',i',i',i',i',i',i',i',i',i',i',i',i',i',i',i',i',i',i',i',i',o',o',o',o',o',o',o',o',o',o',o',o',o',o',o',o',o',o'] rfl rfl (any_of HT_.out (by kernel_rfl)) (fun _ _ _ h => h) (Or.inr ⟨by rfl, rfl⟩) ?_ ?_
      rotate_left
      ·simp only [Act.put, la_, lz_, ls_, i64_w, i32_w]
       rfl
      refine pure_ (i := 21) (N := some 49) (v := undef) (a' := ?_) #[i',i',i',i',i',i',i',i',i',i',i',i',i',i',i',i',i',i',i',i',i',i',o',o',o',o',o',o',o',o',o',o',o',o',o',o',o',o',o'] rfl rfl (any_of HT_.out (by kernel_rfl)) (fun _ _ _ h => h) (Or.inr ⟨by rfl, rfl⟩) ?_ ?_
      rotate_left
      ·simp only [Act.put, la_, lz_, ls_, i64_w, i32_w]
       rfl
      refine pu_ (i := 22) (N := some 50) (v := ?_) (a' := ?_) #[i',i',i',i',i',i',i',i',i',i',i',i',i',i',i',i',i',i',i',i',i',i',i',o',o',o',o',o',o',o',o',o',o',o',o',o',o',o',o'] rfl rfl HT_ (Or.inl ⟨by rfl, ?_⟩) ?_ ?_
      rotate_left;·intro w';go_simp;with_reducible rfl
      rotate_left;·simp only [Act.put, la_, lz_, ls_, i64_w, i32_w];rfl
      refine pu_ (i := 23) (N := some 51) (v := ?_) (a' := ?_) #[i',i',i',i',i',i',i',i',i',i',i',i',i',i',i',i',i',i',i',i',i',i',i',i',o',o',o',o',o',o',o',o',o',o',o',o',o',o',o'] rfl rfl HT_ (Or.inl ⟨by rfl, ?_⟩) ?_ ?_
      rotate_left;·intro w';go_simp;with_reducible rfl
      rotate_left;·simp only [Act.put, la_, lz_, ls_, i64_w, i32_w];rfl
      refine pu_ (i := 24) (N := some 52) (v := ?_) (a' := ?_) #[i',i',i',i',i',i',i',i',i',i',i',i',i',i',i',i',i',i',i',i',i',i',i',i',i',o',o',o',o',o',o',o',o',o',o',o',o',o',o'] rfl rfl HT_ (Or.inl ⟨by rfl, ?_⟩) ?_ ?_
      rotate_left;·intro w';go_simp;with_reducible rfl
      rotate_left;·simp only [Act.put, la_, lz_, ls_, i64_w, i32_w];rfl
      refine pu_ (i := 25) (N := some 53) (v := ?_) (a' := ?_) #[i',i',i',i',i',i',i',i',i',i',i',i',i',i',i',i',i',i',i',i',i',i',i',i',i',i',o',o',o',o',o',o',o',o',o',o',o',o',o'] rfl rfl HT_ (Or.inl ⟨by rfl, ?_⟩) ?_ ?_
      rotate_left;·intro w';go_simp;with_reducible rfl
      rotate_left;·simp only [Act.put, la_, lz_, ls_, i64_w, i32_w];rfl
      refine pu_ (i := 26) (N := some 54) (v := ?_) (a' := ?_) #[i',i',i',i',i',i',i',i',i',i',i',i',i',i',i',i',i',i',i',i',i',i',i',i',i',i',i',o',o',o',o',o',o',o',o',o',o',o',o'] rfl rfl HT_ (Or.inl ⟨by rfl, ?_⟩) ?_ ?_
      rotate_left;·intro w';go_simp;with_reducible rfl
      rotate_left;·simp only [Act.put, la_, lz_, ls_, i64_w, i32_w];rfl
      refine pu_ (i := 27) (N := some 55) (v := ?_) (a' := ?_) #[i',i',i',i',i',i',i',i',i',i',i',i',i',i',i',i',i',i',i',i',i',i',i',i',i',i',i',i',o',o',o',o',o',o',o',o',o',o',o'] rfl rfl HT_ (Or.inl ⟨by rfl, ?_⟩) ?_ ?_
      rotate_left;·intro w';go_simp;with_reducible rfl
      rotate_left;·simp only [Act.put, la_, lz_, ls_, i64_w, i32_w];rfl
      refine pure_ (i := 28) (N := some 56) (v := undef) (a' := ?_) #[i',i',i',i',i',i',i',i',i',i',i',i',i',i',i',i',i',i',i',i',i',i',i',i',i',i',i',i',i',o',o',o',o',o',o',o',o',o',o'] rfl rfl (any_of HT_.out (by kernel_rfl)) (fun _ _ _ h => h) (Or.inr ⟨by rfl, rfl⟩) ?_ ?_
      rotate_left
      ·simp only [Act.put, la_, lz_, ls_, i64_w, i32_w]
       rfl
      refine pure_ (i := 29) (N := some 57) (v := undef) (a' := ?_) #[i',i',i',i',i',i',i',i',i',i',i',i',i',i',i',i',i',i',i',i',i',i',i',i',i',i',i',i',i',i',o',o',o',o',o',o',o',o',o'] rfl rfl (any_of HT_.out (by kernel_rfl)) (fun _ _ _ h => h) (Or.inr ⟨by rfl, rfl⟩) ?_ ?_
      rotate_left
      ·simp only [Act.put, la_, lz_, ls_, i64_w, i32_w]
       rfl
      refine pure_ (i := 30) (N := some 58) (v := undef) (a' := ?_) #[i',i',i',i',i',i',i',i',i',i',i',i',i',i',i',i',i',i',i',i',i',i',i',i',i',i',i',i',i',i',i',o',o',o',o',o',o',o',o'] rfl rfl (any_of HT_.out (by kernel_rfl)) (fun _ _ _ h => h) (Or.inr ⟨by rfl, rfl⟩) ?_ ?_
      rotate_left
      ·simp only [Act.put, la_, lz_, ls_, i64_w, i32_w]
       rfl
      refine pure_ (i := 31) (N := some 59) (v := undef) (a' := ?_) #[i',i',i',i',i',i',i',i',i',i',i',i',i',i',i',i',i',i',i',i',i',i',i',i',i',i',i',i',i',i',i',i',o',o',o',o',o',o',o'] rfl rfl (any_of HT_.out (by kernel_rfl)) (fun _ _ _ h => h) (Or.inr ⟨by rfl, rfl⟩) ?_ ?_
      rotate_left
      ·simp only [Act.put, la_, lz_, ls_, i64_w, i32_w]
       rfl
      refine pure_ (i := 32) (N := some 60) (v := undef) (a' := ?_) #[i',i',i',i',i',i',i',i',i',i',i',i',i',i',i',i',i',i',i',i',i',i',i',i',i',i',i',i',i',i',i',i',i',o',o',o',o',o',o'] rfl rfl (any_of HT_.out (by kernel_rfl)) (fun _ _ _ h => h) (Or.inr ⟨by rfl, rfl⟩) ?_ ?_
      rotate_left
      ·simp only [Act.put, la_, lz_, ls_, i64_w, i32_w]
       rfl
      refine pure_ (i := 33) (N := some 61) (v := undef) (a' := ?_) #[i',i',i',i',i',i',i',i',i',i',i',i',i',i',i',i',i',i',i',i',i',i',i',i',i',i',i',i',i',i',i',i',i',i',o',o',o',o',o'] rfl rfl (any_of HT_.out (by kernel_rfl)) (fun _ _ _ h => h) (Or.inr ⟨by rfl, rfl⟩) ?_ ?_
      rotate_left
      ·simp only [Act.put, la_, lz_, ls_, i64_w, i32_w]
       rfl
      refine pure_ (i := 34) (N := some 62) (v := undef) (a' := ?_) #[i',i',i',i',i',i',i',i',i',i',i',i',i',i',i',i',i',i',i',i',i',i',i',i',i',i',i',i',i',i',i',i',i',i',i',o',o',o',o'] rfl rfl (any_of HT_.out (by kernel_rfl)) (fun _ _ _ h => h) (Or.inr ⟨by rfl, rfl⟩) ?_ ?_
      rotate_left
      ·simp only [Act.put, la_, lz_, ls_, i64_w, i32_w]
       rfl
      refine pure_ (i := 35) (N := some 63) (v := undef) (a' := ?_) #[i',i',i',i',i',i',i',i',i',i',i',i',i',i',i',i',i',i',i',i',i',i',i',i',i',i',i',i',i',i',i',i',i',i',i',i',o',o',o'] rfl rfl (any_of HT_.out (by kernel_rfl)) (fun _ _ _ h => h) (Or.inr ⟨by rfl, rfl⟩) ?_ ?_
      rotate_left
      ·simp only [Act.put, la_, lz_, ls_, i64_w, i32_w]
       rfl
      refine pu_ (i := 36) (N := some 64) (v := ?_) (a' := ?_) #[i',i',i',i',i',i',i',i',i',i',i',i',i',i',i',i',i',i',i',i',i',i',i',i',i',i',i',i',i',i',i',i',i',i',i',i',i',o',o'] rfl rfl HT_ (Or.inl ⟨by rfl, ?_⟩) ?_ ?_
      rotate_left;·intro w';go_simp;with_reducible rfl
      rotate_left;·simp only [Act.put, la_, lz_, ls_, i64_w, i32_w];rfl
      refine pu_ (i := 37) (N := some 65) (v := ?_) (a' := ?_) #[i',i',i',i',i',i',i',i',i',i',i',i',i',i',i',i',i',i',i',i',i',i',i',i',i',i',i',i',i',i',i',i',i',i',i',i',i',i',o'] rfl rfl HT_ (Or.inl ⟨by rfl, ?_⟩) ?_ ?_
      rotate_left;·intro w';go_simp;with_reducible rfl
      rotate_left;·simp only [Act.put, la_, lz_, ls_, i64_w, i32_w];rfl
      refine pu_ (i := 38) (N := some 2) (v := ?_) (a' := ?_) #[i',i',i',i',i',i',i',i',i',i',i',i',i',i',i',i',i',i',i',i',i',i',i',i',i',i',i',i',i',i',i',i',i',i',i',i',i',i',i'] rfl rfl HT_ (Or.inl ⟨by rfl, ?_⟩) ?_ ?_
      rotate_left;·intro w';go_simp;with_reducible rfl
      rotate_left;·simp only [Act.put, la_, lz_, ls_, i64_w, i32_w];rfl
      refine done_ (done_of HT_.out (by kernel_rfl)) ?_
      try go_wp2
      go_ret
      exact ⟨re_, by repeat (first | (with_reducible first | exact HB.out | apply below_alloc | apply pw_below_drewN | apply below_drew1 | refine below_set ?_ GE401.out | refine below_set ?_ GE410.out | refine below_set ?_ GE419.out) | exact HB.out)⟩
    ·rw [if_neg c14] at H
     have c14b0 : (t402.toList == ([] : List UInt8)) = false := beq_eq_false_iff_ne.mpr c14
     have c14b1 : (t402.toList != ([] : List UInt8)) = true := bne_iff_ne.mpr c14
     (try (have c10y0 := c10b0; simp only [c14b1, Bool.false_beq, Bool.true_beq] at c10y0))
     by_cases c59 : t409 = true
     ·subst c59
      have H1 : (if (t403 == t395 && (t404 == t396 && (t405.toList == t397.toList && (t406.toList == t398.toList && (t407 == t399 && (t408 == t400)))))) = true then (if t418 = true then ((impl_ShowRec.f k t412 t413 t414 t415 t416 t417).bind fun t425 => (if t425.toList = t411.toList then ((spec_RecOk.f k t412 t413 t414 t415 t416 t417).bind fun t426 => (some t426)) else (some false))) else (some true)) else (some false)) = some r := by rw [if_pos rfl] at H; exact H
      clear H
      have H := H1
      clear H1
      by_cases c60 : (t403 == t395 && (t404 == t396 && (t405.toList == t397.toList && (t406.toList == t398.toList && (t407 == t399 && (t408 == t400)))))) = true
      ·rw [if_pos c60] at H
       have c60b0 : (t403 == t395 && (t404 == t396 && (t405.toList == t397.toList && (t406.toList == t398.toList && (t407 == t399 && (t408 == t400)))))) = true := c60
       (try (have c60b1 : decide (t403 = t395 && (t404 == t396 && (t405.toList == t397.toList && (t406.toList == t398.toList && (t407 == t399 && (t408 == t400)))))) = true := by simpa using c60))
       (try (have c60b2 : (t403 == t395 && (t404 == t396 && (t405.toList == t397.toList && (t406.toList == t398.toList && (t407 == t399 && (t408 == t400)))))) = true := by simpa using c60))
       clear c60
       by_cases c61 : t418 = true
       ·subst c61
        have H1 : ((impl_ShowRec.f k t412 t413 t414 t415 t416 t417).bind fun t425 => (if t425.toList = t411.toList then ((spec_RecOk.f k t412 t413 t414 t415 t416 t417).bind fun t426 => (some t426)) else (some false))) = some r := by rw [if_pos rfl] at H; exact H
        clear H
        have H := H1
        clear H1
        replace H := Option.bind_eq_some_iff.mp H
        obtain ⟨t425, A620, H⟩ := H
        replace H : (if t425.toList = t411.toList then ((spec_RecOk.f k t412 t413 t414 t415 t416 t417).bind fun t426 => (some t426)) else (some false)) = some r := H
        have A62 := Aside0.mk A620
        clear A620
        by_cases c63 : t425.toList = t411.toList
        ·rw [if_pos c63] at H
         have c63b0 : (t425.toList == t411.toList) = true := beq_iff_eq.mpr c63
         have c63b1 : (t425.toList != t411.toList) = false := bne_eq_false_iff_eq.mpr c63
         clear c63
         replace H := Option.bind_eq_some_iff.mp H
         obtain ⟨t426, A640, H⟩ := H
         replace H : (some t426) = some r := H
         have A64 := Aside0.mk A640
         clear A640
         obtain rfl := Option.some.inj H
         go_enter Try.func9, Try.ntmps9
         try go_wp2_with (first | ((with_reducible refine gate_callee (f := 43) rfl ?_); refine goesL_ (some 11) rfl rfl Try.func43 (by kernel_rfl) rfl #[.slice A0 l0.length c0] rfl ar_ ?_; (with_reducible refine (laws_big.calls _ _ l0 false _ ?side1 ?side2 A2.out).mono ?_); (case side1 => repeat (first | exact HR0.out | (with_reducible refine Kd.C_alloc ?_ _) | (with_reducible refine Kd.C_drewN ?_ _) | (with_reducible refine Kd.C_drew ?_))); (case side2 => exact HC0.out); rintro e w' ⟨rfl, ⟨nd, rfl⟩⟩; refine ⟨_, rfl, ?_⟩) | ((with_reducible refine gate_callee (f := 44) rfl ?_); refine goesL_ (some 13) rfl rfl Try.func44 (by kernel_rfl) rfl #[.slice A0 l0.length c0] rfl ar_ ?_; (with_reducible refine (spec_DrawShowRec.calls k _ _ l0 t395 t396 t397 t398 t399 t400 _ ?side1 ?side2 A4.out).mono ?_); (case side1 => repeat (first | exact HR0.out | (with_reducible refine Kd.C_alloc ?_ _) | (with_reducible refine Kd.C_drewN ?_ _) | (with_reducible refine Kd.C_drew ?_))); (case side2 => exact HC0.out); rintro e w65 ⟨rfl, hb⟩; refine ⟨_, rfl, ?_⟩; have n0_ := Aside0.mk (below_step (hb_ HB) hb); clear HB; have HB := n0_; clear n0_; (try clear hb); (try clear hb2); (try clear hk); (try clear hi)) | ((with_reducible refine gate_dst (N := 3) rfl ?_); refine box_event ?hg (N := 3) ?hd (cs := #[.int .i64 0, .int .i64 0, .string (⟨#[]⟩ : ByteArray), .string (⟨#[]⟩ : ByteArray), .int .i64 0, .int .i64 0]) (t := 35) ?hr ?_; (case hd => rfl); (case hg => rfl); (case hr => first | (go_simp; done) | (go_simp; rfl)); intro gb401 hg w66 hbox hb; have n0_ := Aside0.mk (below_step (hb_ HB) hb); have n1_ := Aside0.mk (hbox); have n2_ := Aside0.mk ((by rw [hg]; exact (below_size (hb_ HB)) : w.heap.size ≤ gb401)); have n3_ := Aside0.mk ((by rw [hg]; exact (below_size (hb_ HB)) : w.heap.size ≤ gb401)); clear HB; have HB := n0_; have BK401 := n1_; have GW401 := n2_; have GE401 := n3_; clear n0_ n1_ n2_ n3_; clear hb hbox hg; have hcz67_0 : w66.cell? ⟨gb401, 0, none⟩ = some (.int .i64 0) := (blk_cell BK401.out 0).trans rfl; have hcz67_1 : w66.cell? ⟨gb401, 1, none⟩ = some (.int .i64 0) := (blk_cell BK401.out 1).trans rfl; have hcz67_2 : w66.cell? ⟨gb401, 2, none⟩ = some (.string (⟨#[]⟩ : ByteArray)) := (blk_cell BK401.out 2).trans rfl; have hcz67_3 : w66.cell? ⟨gb401, 3, none⟩ = some (.string (⟨#[]⟩ : ByteArray)) := (blk_cell BK401.out 3).trans rfl; have hcz67_4 : w66.cell? ⟨gb401, 4, none⟩ = some (.int .i64 0) := (blk_cell BK401.out 4).trans rfl; have hcz67_5 : w66.cell? ⟨gb401, 5, none⟩ = some (.int .i64 0) := (blk_cell BK401.out 5).trans rfl; have hfz67_0 := blk_frozen BK401.out 0; have hfz67_1 := blk_frozen BK401.out 1; have hfz67_2 := blk_frozen BK401.out 2; have hfz67_3 := blk_frozen BK401.out 3; have hfz67_4 := blk_frozen BK401.out 4; have hfz67_5 := blk_frozen BK401.out 5) | ((with_reducible refine gate_callee (f := 45) rfl ?_); refine goesL_ (some 15) rfl rfl Try.func45 (by kernel_rfl) rfl #[.agg #[.int .i64 t395, .int .i64 t396, .string t397, .string t398, .int .i64 t399, .int .i64 t400]] rfl ar_ ?_; (with_reducible refine (impl_ShowRec.calls k t395 t396 t397 t398 t399 t400 t402 _ A5.out).mono ?_); rintro e w68 ⟨rfl, hb⟩; refine ⟨_, rfl, ?_⟩; have n0_ := Aside0.mk (blk_below (g := gb401) (o := .cells #[.int .i64 t395, .int .i64 t396, .string t397, .string t398, .int .i64 t399, .int .i64 t400] 35 (0, 0)) (by (with_reducible repeat (first | refine blk_drewN ?_ _ | refine blk_drew ?_ | refine blk_alloc ?_ _)); refine blk_put (cs := #[.int .i64 t395, .int .i64 t396, .string t397, .string t398, .int .i64 t399, .int .i64 0]) ?_ 5 _ rfl; (with_reducible repeat (first | refine blk_drewN ?_ _ | refine blk_drew ?_ | refine blk_alloc ?_ _)); refine blk_put (cs := #[.int .i64 t395, .int .i64 t396, .string t397, .string t398, .int .i64 0, .int .i64 0]) ?_ 4 _ rfl; (with_reducible repeat (first | refine blk_drewN ?_ _ | refine blk_drew ?_ | refine blk_alloc ?_ _)); refine blk_put (cs := #[.int .i64 t395, .int .i64 t396, .string t397, .string (⟨#[]⟩ : ByteArray), .int .i64 0, .int .i64 0]) ?_ 3 _ rfl; (with_reducible repeat (first | refine blk_drewN ?_ _ | refine blk_drew ?_ | refine blk_alloc ?_ _)); refine blk_put (cs := #[.int .i64 t395, .int .i64 t396, .string (⟨#[]⟩ : ByteArray), .string (⟨#[]⟩ : ByteArray), .int .i64 0, .int .i64 0]) ?_ 2 _ rfl; (with_reducible repeat (first | refine blk_drewN ?_ _ | refine blk_drew ?_ | refine blk_alloc ?_ _)); refine blk_put (cs := #[.int .i64 t395, .int .i64 0, .string (⟨#[]⟩ : ByteArray), .string (⟨#[]⟩ : ByteArray), .int .i64 0, .int .i64 0]) ?_ 1 _ rfl; (with_reducible repeat (first | refine blk_drewN ?_ _ | refine blk_drew ?_ | refine blk_alloc ?_ _)); refine blk_put (cs := #[.int .i64 0, .int .i64 0, .string (⟨#[]⟩ : ByteArray), .string (⟨#[]⟩ : ByteArray), .int .i64 0, .int .i64 0]) ?_ 0 _ rfl; (with_reducible repeat (first | refine blk_drewN ?_ _ | refine blk_drew ?_ | refine blk_alloc ?_ _)); exact BK401.out) hb); have n1_ := Aside0.mk (below_step (hs_ HB GE401) hb); clear BK401; clear HB; have BK401 := n0_; have HB := n1_; clear n0_ n1_; (try clear hb); (try clear hb2); (try clear hk); (try clear hi)) | ((with_reducible refine gate_callee (f := 21) rfl ?_); refine goesL_ (some 18) rfl rfl Try.func21 (by kernel_rfl) rfl #[.string t402] rfl ar_ ?_; (with_reducible refine (impl_ReadRec.calls k t402 t403 t404 t405 t406 t407 t408 true _ A6.out).mono ?_); rintro e w69 ⟨rfl, hb⟩; refine ⟨_, rfl, ?_⟩; have n0_ := Aside0.mk (blk_below (g := gb401) (o := .cells #[.int .i64 t395, .int .i64 t396, .string t397, .string t398, .int .i64 t399, .int .i64 t400] 35 (0, 0)) (bk_ BK401) hb); have n1_ := Aside0.mk (below_step (hs_ HB GE401) hb); clear BK401; clear HB; have BK401 := n0_; have HB := n1_; clear n0_ n1_; (try clear hb); (try clear hb2); (try clear hk); (try clear hi)) | ((with_reducible refine gate_dst (N := 5) rfl ?_); refine box_event ?hg (N := 5) ?hd (cs := #[.int .i64 0, .int .i64 0, .string (⟨#[]⟩ : ByteArray), .string (⟨#[]⟩ : ByteArray), .int .i64 0, .int .i64 0]) (t := 35) ?hr ?_; (case hd => rfl); (case hg => rfl); (case hr => first | (go_simp; done) | (go_simp; rfl)); intro gb410 hg w70 hbox hb; have n0_ := Aside0.mk (blk_below (g := gb401) (o := .cells #[.int .i64 t395, .int .i64 t396, .string t397, .string t398, .int .i64 t399, .int .i64 t400] 35 (0, 0)) (bk_ BK401) hb); have n1_ := Aside0.mk (below_step (hs_ HB GE401) hb); have n2_ := Aside0.mk (hbox); have n3_ := Aside0.mk ((by rw [hg]; exact (below_size (hs_ HB GE401)) : w.heap.size ≤ gb410)); have n4_ := Aside0.mk ((by rw [hg]; exact (below_size (hs_ HB GE401)) : w.heap.size ≤ gb410)); have n5_ := Aside0.mk ((by rw [hg]; exact Nat.ne_of_lt (blk_lt (g := gb401) (o := .cells #[.int .i64 t395, .int .i64 t396, .string t397, .string t398, .int .i64 t399, .int .i64 t400] 35 (0, 0)) (bk_ BK401)) : gb401 ≠ gb410)); have n6_ := Aside0.mk ((by rw [hg]; exact Nat.ne_of_gt (blk_lt (g := gb401) (o := .cells #[.int .i64 t395, .int .i64 t396, .string t397, .string t398, .int .i64 t399, .int .i64 t400] 35 (0, 0)) (bk_ BK401)) : gb410 ≠ gb401)); clear BK401; clear HB; have BK401 := n0_; have HB := n1_; have BK410 := n2_; have GW410 := n3_; have GE410 := n4_; have NB401_410 := n5_; have NB410_401 := n6_; clear n0_ n1_ n2_ n3_ n4_ n5_ n6_; clear hb hbox hg; have hnb71 := NB410_401.out; have hnc71 := NB401_410.out; have hcz72_0 : w70.cell? ⟨gb410, 0, none⟩ = some (.int .i64 0) := (blk_cell BK410.out 0).trans rfl; have hcz72_1 : w70.cell? ⟨gb410, 1, none⟩ = some (.int .i64 0) := (blk_cell BK410.out 1).trans rfl; have hcz72_2 : w70.cell? ⟨gb410, 2, none⟩ = some (.string (⟨#[]⟩ : ByteArray)) := (blk_cell BK410.out 2).trans rfl; have hcz72_3 : w70.cell? ⟨gb410, 3, none⟩ = some (.string (⟨#[]⟩ : ByteArray)) := (blk_cell BK410.out 3).trans rfl; have hcz72_4 : w70.cell? ⟨gb410, 4, none⟩ = some (.int .i64 0) := (blk_cell BK410.out 4).trans rfl; have hcz72_5 : w70.cell? ⟨gb410, 5, none⟩ = some (.int .i64 0) := (blk_cell BK410.out 5).trans rfl; have hfz72_0 := blk_frozen BK410.out 0; have hfz72_1 := blk_frozen BK410.out 1; have hfz72_2 := blk_frozen BK410.out 2; have hfz72_3 := blk_frozen BK410.out 3; have hfz72_4 := blk_frozen BK410.out 4; have hfz72_5 := blk_frozen BK410.out 5) | ((with_reducible refine gate_callee (f := 46) rfl ?_); refine goesL_ (some 22) rfl rfl Try.func46 (by kernel_rfl) rfl #[.slice A0 l0.length c0] rfl ar_ ?_; (with_reducible refine (spec_DrawReadRec.calls k _ _ l0 t411 _ ?side1 ?side2 A7.out).mono ?_); (case side1 => exact Kd.C_below HR0.out (by repeat (first | (with_reducible first | exact HB.out | apply below_alloc | apply pw_below_drewN | apply below_drew1 | refine below_set ?_ GE401.out | refine below_set ?_ GE410.out) | exact HB.out))); (case side2 => exact HC0.out); rintro e w73 ⟨rfl, hb⟩; refine ⟨_, rfl, ?_⟩; have n0_ := Aside0.mk (blk_below (g := gb401) (o := .cells #[.int .i64 t395, .int .i64 t396, .string t397, .string t398, .int .i64 t399, .int .i64 t400] 35 (0, 0)) (by (with_reducible repeat (first | refine blk_drewN ?_ _ | refine blk_drew ?_ | refine blk_alloc ?_ _)); refine blk_far ?_ NB401_410.out _; (with_reducible repeat (first | refine blk_drewN ?_ _ | refine blk_drew ?_ | refine blk_alloc ?_ _)); refine blk_far ?_ NB401_410.out _; (with_reducible repeat (first | refine blk_drewN ?_ _ | refine blk_drew ?_ | refine blk_alloc ?_ _)); refine blk_far ?_ NB401_410.out _; (with_reducible repeat (first | refine blk_drewN ?_ _ | refine blk_drew ?_ | refine blk_alloc ?_ _)); refine blk_far ?_ NB401_410.out _; (with_reducible repeat (first | refine blk_drewN ?_ _ | refine blk_drew ?_ | refine blk_alloc ?_ _)); refine blk_far ?_ NB401_410.out _; (with_reducible repeat (first | refine blk_drewN ?_ _ | refine blk_drew ?_ | refine blk_alloc ?_ _)); refine blk_far ?_ NB401_410.out _; (with_reducible repeat (first | refine blk_drewN ?_ _ | refine blk_drew ?_ | refine blk_alloc ?_ _)); exact BK401.out) hb); have n1_ := Aside0.mk (blk_below (g := gb410) (o := .cells #[.int .i64 t403, .int .i64 t404, .string t405, .string t406, .int .i64 t407, .int .i64 t408] 35 (0, 0)) (by (with_reducible repeat (first | refine blk_drewN ?_ _ | refine blk_drew ?_ | refine blk_alloc ?_ _)); refine blk_put (cs := #[.int .i64 t403, .int .i64 t404, .string t405, .string t406, .int .i64 t407, .int .i64 0]) ?_ 5 _ rfl; (with_reducible repeat (first | refine blk_drewN ?_ _ | refine blk_drew ?_ | refine blk_alloc ?_ _)); refine blk_put (cs := #[.int .i64 t403, .int .i64 t404, .string t405, .string t406, .int .i64 0, .int .i64 0]) ?_ 4 _ rfl; (with_reducible repeat (first | refine blk_drewN ?_ _ | refine blk_drew ?_ | refine blk_alloc ?_ _)); refine blk_put (cs := #[.int .i64 t403, .int .i64 t404, .string t405, .string (⟨#[]⟩ : ByteArray), .int .i64 0, .int .i64 0]) ?_ 3 _ rfl; (with_reducible repeat (first | refine blk_drewN ?_ _ | refine blk_drew ?_ | refine blk_alloc ?_ _)); refine blk_put (cs := #[.int .i64 t403, .int .i64 t404, .string (⟨#[]⟩ : ByteArray), .string (⟨#[]⟩ : ByteArray), .int .i64 0, .int .i64 0]) ?_ 2 _ rfl; (with_reducible repeat (first | refine blk_drewN ?_ _ | refine blk_drew ?_ | refine blk_alloc ?_ _)); refine blk_put (cs := #[.int .i64 t403, .int .i64 0, .string (⟨#[]⟩ : ByteArray), .string (⟨#[]⟩ : ByteArray), .int .i64 0, .int .i64 0]) ?_ 1 _ rfl; (with_reducible repeat (first | refine blk_drewN ?_ _ | refine blk_drew ?_ | refine blk_alloc ?_ _)); refine blk_put (cs := #[.int .i64 0, .int .i64 0, .string (⟨#[]⟩ : ByteArray), .string (⟨#[]⟩ : ByteArray), .int .i64 0, .int .i64 0]) ?_ 0 _ rfl; (with_reducible repeat (first | refine blk_drewN ?_ _ | refine blk_drew ?_ | refine blk_alloc ?_ _)); exact BK410.out) hb); have n2_ := Aside0.mk (below_step (by repeat (first | (with_reducible first | exact HB.out | apply below_alloc | apply pw_below_drewN | apply below_drew1 | refine below_set ?_ GE401.out | refine below_set ?_ GE410.out) | exact HB.out)) hb); clear BK401; clear BK410; clear HB; have BK401 := n0_; have BK410 := n1_; have HB := n2_; clear n0_ n1_ n2_; (try clear hb); (try clear hb2); (try clear hk); (try clear hi)) | ((with_reducible refine gate_callee (f := 21) rfl ?_); refine goesL_ (some 25) rfl rfl Try.func21 (by kernel_rfl) rfl #[.string t411] rfl ar_ ?_; (with_reducible refine (impl_ReadRec.calls k t411 t412 t413 t414 t415 t416 t417 true _ A8.out).mono ?_); rintro e w74 ⟨rfl, hb⟩; refine ⟨_, rfl, ?_⟩; have n0_ := Aside0.mk (blk_below (g := gb401) (o := .cells #[.int .i64 t395, .int .i64 t396, .string t397, .string t398, .int .i64 t399, .int .i64 t400] 35 (0, 0)) (bk_ BK401) hb); have n1_ := Aside0.mk (blk_below (g := gb410) (o := .cells #[.int .i64 t403, .int .i64 t404, .string t405, .string t406, .int .i64 t407, .int .i64 t408] 35 (0, 0)) (bk_ BK410) hb); have n2_ := Aside0.mk (below_step (by repeat (first | (with_reducible first | exact HB.out | apply below_alloc | apply pw_below_drewN | apply below_drew1 | refine below_set ?_ GE401.out | refine below_set ?_ GE410.out) | exact HB.out)) hb); clear BK401; clear BK410; clear HB; have BK401 := n0_; have BK410 := n1_; have HB := n2_; clear n0_ n1_ n2_; (try clear hb); (try clear hb2); (try clear hk); (try clear hi)) | ((with_reducible refine gate_dst (N := 8) rfl ?_); refine box_event ?hg (N := 8) ?hd (cs := #[.int .i64 0, .int .i64 0, .string (⟨#[]⟩ : ByteArray), .string (⟨#[]⟩ : ByteArray), .int .i64 0, .int .i64 0]) (t := 35) ?hr ?_; (case hd => rfl); (case hg => rfl); (case hr => first | (go_simp; done) | (go_simp; rfl)); intro gb419 hg w75 hbox hb; have n0_ := Aside0.mk (blk_below (g := gb401) (o := .cells #[.int .i64 t395, .int .i64 t396, .string t397, .string t398, .int .i64 t399, .int .i64 t400] 35 (0, 0)) (bk_ BK401) hb); have n1_ := Aside0.mk (blk_below (g := gb410) (o := .cells #[.int .i64 t403, .int .i64 t404, .string t405, .string t406, .int .i64 t407, .int .i64 t408] 35 (0, 0)) (bk_ BK410) hb); have n2_ := Aside0.mk (below_step (by repeat (first | (with_reducible first | exact HB.out | apply below_alloc | apply pw_below_drewN | apply below_drew1 | refine below_set ?_ GE401.out | refine below_set ?_ GE410.out) | exact HB.out)) hb); have n3_ := Aside0.mk (hbox); have n4_ := Aside0.mk ((by rw [hg]; exact (below_size (by repeat (first | (with_reducible first | exact HB.out | apply below_alloc | apply pw_below_drewN | apply below_drew1 | refine below_set ?_ GE401.out | refine below_set ?_ GE410.out) | exact HB.out))) : w.heap.size ≤ gb419)); have n5_ := Aside0.mk ((by rw [hg]; exact (below_size (by repeat (first | (with_reducible first | exact HB.out | apply below_alloc | apply pw_below_drewN | apply below_drew1 | refine below_set ?_ GE401.out | refine below_set ?_ GE410.out) | exact HB.out))) : w.heap.size ≤ gb419)); have n6_ := Aside0.mk ((by rw [hg]; exact Nat.ne_of_lt (blk_lt (g := gb401) (o := .cells #[.int .i64 t395, .int .i64 t396, .string t397, .string t398, .int .i64 t399, .int .i64 t400] 35 (0, 0)) (bk_ BK401)) : gb401 ≠ gb419)); have n7_ := Aside0.mk ((by rw [hg]; exact Nat.ne_of_gt (blk_lt (g := gb401) (o := .cells #[.int .i64 t395, .int .i64 t396, .string t397, .string t398, .int .i64 t399, .int .i64 t400] 35 (0, 0)) (bk_ BK401)) : gb419 ≠ gb401)); have n8_ := Aside0.mk ((by rw [hg]; exact Nat.ne_of_lt (blk_lt (g := gb410) (o := .cells #[.int .i64 t403, .int .i64 t404, .string t405, .string t406, .int .i64 t407, .int .i64 t408] 35 (0, 0)) (bk_ BK410)) : gb410 ≠ gb419)); have n9_ := Aside0.mk ((by rw [hg]; exact Nat.ne_of_gt (blk_lt (g := gb410) (o := .cells #[.int .i64 t403, .int .i64 t404, .string t405, .string t406, .int .i64 t407, .int .i64 t408] 35 (0, 0)) (bk_ BK410)) : gb419 ≠ gb410)); clear BK401; clear BK410; clear HB; have BK401 := n0_; have BK410 := n1_; have HB := n2_; have BK419 := n3_; have GW419 := n4_; have GE419 := n5_; have NB401_419 := n6_; have NB419_401 := n7_; have NB410_419 := n8_; have NB419_410 := n9_; clear n0_ n1_ n2_ n3_ n4_ n5_ n6_ n7_ n8_ n9_; clear hb hbox hg; have hnb76 := NB419_401.out; have hnc76 := NB401_419.out; have hnb77 := NB419_410.out; have hnc77 := NB410_419.out; have hcz78_0 : w75.cell? ⟨gb419, 0, none⟩ = some (.int .i64 0) := (blk_cell BK419.out 0).trans rfl; have hcz78_1 : w75.cell? ⟨gb419, 1, none⟩ = some (.int .i64 0) := (blk_cell BK419.out 1).trans rfl; have hcz78_2 : w75.cell? ⟨gb419, 2, none⟩ = some (.string (⟨#[]⟩ : ByteArray)) := (blk_cell BK419.out 2).trans rfl; have hcz78_3 : w75.cell? ⟨gb419, 3, none⟩ = some (.string (⟨#[]⟩ : ByteArray)) := (blk_cell BK419.out 3).trans rfl; have hcz78_4 : w75.cell? ⟨gb419, 4, none⟩ = some (.int .i64 0) := (blk_cell BK419.out 4).trans rfl; have hcz78_5 : w75.cell? ⟨gb419, 5, none⟩ = some (.int .i64 0) := (blk_cell BK419.out 5).trans rfl; have hfz78_0 := blk_frozen BK419.out 0; have hfz78_1 := blk_frozen BK419.out 1; have hfz78_2 := blk_frozen BK419.out 2; have hfz78_3 := blk_frozen BK419.out 3; have hfz78_4 := blk_frozen BK419.out 4; have hfz78_5 := blk_frozen BK419.out 5))
         have n0_ : Aside0 (((((((w75.setCell ⟨gb419, 0, none⟩ (.int .i64 t412)).setCell ⟨gb419, 1, none⟩ (.int .i64 t413)).setCell ⟨gb419, 2, none⟩ (.string t414)).setCell ⟨gb419, 3, none⟩ (.string t415)).setCell ⟨gb419, 4, none⟩ (.int .i64 t416)).setCell ⟨gb419, 5, none⟩ (.int .i64 t417)).heap[gb401]? = some (.cells #[.int .i64 t395, .int .i64 t396, .string t397, .string t398, .int .i64 t399, .int .i64 t400] 35 (0, 0))) := ⟨by (with_reducible repeat (first | refine blk_drewN ?_ _ | refine blk_drew ?_ | refine blk_alloc ?_ _)); refine blk_far ?_ NB401_419.out _; (with_reducible repeat (first | refine blk_drewN ?_ _ | refine blk_drew ?_ | refine blk_alloc ?_ _)); refine blk_far ?_ NB401_419.out _; (with_reducible repeat (first | refine blk_drewN ?_ _ | refine blk_drew ?_ | refine blk_alloc ?_ _)); refine blk_far ?_ NB401_419.out _; (with_reducible repeat (first | refine blk_drewN ?_ _ | refine blk_drew ?_ | refine blk_alloc ?_ _)); refine blk_far ?_ NB401_419.out _; (with_reducible repeat (first | refine blk_drewN ?_ _ | refine blk_drew ?_ | refine blk_alloc ?_ _)); refine blk_far ?_ NB401_419.out _; (with_reducible repeat (first | refine blk_drewN ?_ _ | refine blk_drew ?_ | refine blk_alloc ?_ _)); refine blk_far ?_ NB401_419.out _; (with_reducible repeat (first | refine blk_drewN ?_ _ | refine blk_drew ?_ | refine blk_alloc ?_ _)); exact BK401.out⟩
         have n1_ : Aside0 (((((((w75.setCell ⟨gb419, 0, none⟩ (.int .i64 t412)).setCell ⟨gb419, 1, none⟩ (.int .i64 t413)).setCell ⟨gb419, 2, none⟩ (.string t414)).setCell ⟨gb419, 3, none⟩ (.string t415)).setCell ⟨gb419, 4, none⟩ (.int .i64 t416)).setCell ⟨gb419, 5, none⟩ (.int .i64 t417)).heap[gb410]? = some (.cells #[.int .i64 t403, .int .i64 t404, .string t405, .string t406, .int .i64 t407, .int .i64 t408] 35 (0, 0))) := ⟨by (with_reducible repeat (first | refine blk_drewN ?_ _ | refine blk_drew ?_ | refine blk_alloc ?_ _)); refine blk_far ?_ NB410_419.out _; (with_reducible repeat (first | refine blk_drewN ?_ _ | refine blk_drew ?_ | refine blk_alloc ?_ _)); refine blk_far ?_ NB410_419.out _; (with_reducible repeat (first | refine blk_drewN ?_ _ | refine blk_drew ?_ | refine blk_alloc ?_ _)); refine blk_far ?_ NB410_419.out _; (with_reducible repeat (first | refine blk_drewN ?_ _ | refine blk_drew ?_ | refine blk_alloc ?_ _)); refine blk_far ?_ NB410_419.out _; (with_reducible repeat (first | refine blk_drewN ?_ _ | refine blk_drew ?_ | refine blk_alloc ?_ _)); refine blk_far ?_ NB410_419.out _; (with_reducible repeat (first | refine blk_drewN ?_ _ | refine blk_drew ?_ | refine blk_alloc ?_ _)); refine blk_far ?_ NB410_419.out _; (with_reducible repeat (first | refine blk_drewN ?_ _ | refine blk_drew ?_ | refine blk_alloc ?_ _)); exact BK410.out⟩
         have n2_ : Aside0 (((((((w75.setCell ⟨gb419, 0, none⟩ (.int .i64 t412)).setCell ⟨gb419, 1, none⟩ (.int .i64 t413)).setCell ⟨gb419, 2, none⟩ (.string t414)).setCell ⟨gb419, 3, none⟩ (.string t415)).setCell ⟨gb419, 4, none⟩ (.int .i64 t416)).setCell ⟨gb419, 5, none⟩ (.int .i64 t417)).heap[gb419]? = some (.cells #[.int .i64 t412, .int .i64 t413, .string t414, .string t415, .int .i64 t416, .int .i64 t417] 35 (0, 0))) := ⟨by (with_reducible repeat (first | refine blk_drewN ?_ _ | refine blk_drew ?_ | refine blk_alloc ?_ _)); refine blk_put (cs := #[.int .i64 t412, .int .i64 t413, .string t414, .string t415, .int .i64 t416, .int .i64 0]) ?_ 5 _ rfl; (with_reducible repeat (first | refine blk_drewN ?_ _ | refine blk_drew ?_ | refine blk_alloc ?_ _)); refine blk_put (cs := #[.int .i64 t412, .int .i64 t413, .string t414, .string t415, .int .i64 0, .int .i64 0]) ?_ 4 _ rfl; (with_reducible repeat (first | refine blk_drewN ?_ _ | refine blk_drew ?_ | refine blk_alloc ?_ _)); refine blk_put (cs := #[.int .i64 t412, .int .i64 t413, .string t414, .string (⟨#[]⟩ : ByteArray), .int .i64 0, .int .i64 0]) ?_ 3 _ rfl; (with_reducible repeat (first | refine blk_drewN ?_ _ | refine blk_drew ?_ | refine blk_alloc ?_ _)); refine blk_put (cs := #[.int .i64 t412, .int .i64 t413, .string (⟨#[]⟩ : ByteArray), .string (⟨#[]⟩ : ByteArray), .int .i64 0, .int .i64 0]) ?_ 2 _ rfl; (with_reducible repeat (first | refine blk_drewN ?_ _ | refine blk_drew ?_ | refine blk_alloc ?_ _)); refine blk_put (cs := #[.int .i64 t412, .int .i64 0, .string (⟨#[]⟩ : ByteArray), .string (⟨#[]⟩ : ByteArray), .int .i64 0, .int .i64 0]) ?_ 1 _ rfl; (with_reducible repeat (first | refine blk_drewN ?_ _ | refine blk_drew ?_ | refine blk_alloc ?_ _)); refine blk_put (cs := #[.int .i64 0, .int .i64 0, .string (⟨#[]⟩ : ByteArray), .string (⟨#[]⟩ : ByteArray), .int .i64 0, .int .i64 0]) ?_ 0 _ rfl; (with_reducible repeat (first | refine blk_drewN ?_ _ | refine blk_drew ?_ | refine blk_alloc ?_ _)); exact BK419.out⟩
         have n3_ : Aside0 (Below w.heap.size w ((((((w75.setCell ⟨gb419, 0, none⟩ (.int .i64 t412)).setCell ⟨gb419, 1, none⟩ (.int .i64 t413)).setCell ⟨gb419, 2, none⟩ (.string t414)).setCell ⟨gb419, 3, none⟩ (.string t415)).setCell ⟨gb419, 4, none⟩ (.int .i64 t416)).setCell ⟨gb419, 5, none⟩ (.int .i64 t417))) := ⟨by repeat (first | (with_reducible first | exact HB.out | apply below_alloc | apply pw_below_drewN | apply below_drew1 | refine below_set ?_ GE401.out | refine below_set ?_ GE410.out | refine below_set ?_ GE419.out) | exact HB.out)⟩
         (try clear BK401)
         (try clear BK410)
         (try clear BK419)
         (try clear HB)
         generalize ((((((w75.setCell ⟨gb419, 0, none⟩ (.int .i64 t412)).setCell ⟨gb419, 1, none⟩ (.int .i64 t413)).setCell ⟨gb419, 2, none⟩ (.string t414)).setCell ⟨gb419, 3, none⟩ (.string t415)).setCell ⟨gb419, 4, none⟩ (.int .i64 t416)).setCell ⟨gb419, 5, none⟩ (.int .i64 t417)) = w79 at n0_ n1_ n2_ n3_ ⊢
         have BK401 := n0_
         have BK410 := n1_
         have BK419 := n2_
         have HB := n3_
         clear n0_ n1_ n2_ n3_
         have n0_ := Aside0.mk (blk_drew BK401.out)
         have n1_ := Aside0.mk (blk_drew BK410.out)
         have n2_ := Aside0.mk (blk_drew BK419.out)
         have n3_ := Aside0.mk (below_drew1 HB.out)
         clear BK401
         clear BK410
         clear BK419
         clear HB
         have BK401 := n0_
         have BK410 := n1_
         have BK419 := n2_
         have HB := n3_
         clear n0_ n1_ n2_ n3_
         refine start_ (n := 39) (S := fun w' => w'.cell? ⟨gb401, 0, none⟩ = some (.int .i64 t395) ∧ w'.cell? ⟨gb401, 1, none⟩ = some (.int .i64 t396) ∧ w'.cell? ⟨gb401, 2, none⟩ = some (.string t397) ∧ w'.cell? ⟨gb401, 3, none⟩ = some (.string t398) ∧ w'.cell? ⟨gb401, 4, none⟩ = some (.int .i64 t399) ∧ w'.cell? ⟨gb401, 5, none⟩ = some (.int .i64 t400) ∧ w'.cell? ⟨gb410, 0, none⟩ = some (.int .i64 t403) ∧ w'.cell? ⟨gb410, 1, none⟩ = some (.int .i64 t404) ∧ w'.cell? ⟨gb410, 2, none⟩ = some (.string t405) ∧ w'.cell? ⟨gb410, 3, none⟩ = some (.string t406) ∧ w'.cell? ⟨gb410, 4, none⟩ = some (.int .i64 t407) ∧ w'.cell? ⟨gb410, 5, none⟩ = some (.int .i64 t408) ∧ w'.cell? ⟨gb419, 0, none⟩ = some (.int .i64 t412) ∧ w'.cell? ⟨gb419, 1, none⟩ = some (.int .i64 t413) ∧ w'.cell? ⟨gb419, 2, none⟩ = some (.string t414) ∧ w'.cell? ⟨gb419, 3, none⟩ = some (.string t415) ∧ w'.cell? ⟨gb419, 4, none⟩ = some (.int .i64 t416) ∧ w'.cell? ⟨gb419, 5, none⟩ = some (.int .i64 t417)) (ds := []) #[o',o',o',o',o',o',o',o',o',o',o',o',o',o',o',o',o',o',o',o',o',o',o',o',o',o',o',o',o',o',o',o',o',o',o',o',o',o',o'] (by kernel_rfl) rfl rfl ⟨(blk_cell BK401.out 0).trans rfl, (blk_cell BK401.out 1).trans rfl, (blk_cell BK401.out 2).trans rfl, (blk_cell BK401.out 3).trans rfl, (blk_cell BK401.out 4).trans rfl, (blk_cell BK401.out 5).trans rfl, (blk_cell BK410.out 0).trans rfl, (blk_cell BK410.out 1).trans rfl, (blk_cell BK410.out 2).trans rfl, (blk_cell BK410.out 3).trans rfl, (blk_cell BK410.out 4).trans rfl, (blk_cell BK410.out 5).trans rfl, (blk_cell BK419.out 0).trans rfl, (blk_cell BK419.out 1).trans rfl, (blk_cell BK419.out 2).trans rfl, (blk_cell BK419.out 3).trans rfl, (blk_cell BK419.out 4).trans rfl, (blk_cell BK419.out 5).trans rfl⟩ (fun hHeld => ?_); refine with_tabW laws_FnRecords.tab8 laws_FnRecords.bits8 (fun HT_ HW_ => ?_)
         generalize w79.drew = w80 at BK401 BK410 BK419 HB hHeld ⊢
         refine pu_ (i := 0) (N := some 28) (v := ?_) (a' := ?_) #[i',o',o',o',o',o',o',o',o',o',o',o',o',o',o',o',o',o',o',o',o',o',o',o',o',o',o',o',o',o',o',o',o',o',o',o',o',o',o'] rfl rfl HT_ (Or.inl ⟨by rfl, ?_⟩) ?_ ?_
         rotate_left;·intro w';go_simp;with_reducible rfl
         rotate_left;·simp only [Act.put, la_, lz_, ls_, i64_w, i32_w];rfl
         refine pu_ (i := 1) (N := some 29) (v := ?_) (a' := ?_) #[i',i',o',o',o',o',o',o',o',o',o',o',o',o',o',o',o',o',o',o',o',o',o',o',o',o',o',o',o',o',o',o',o',o',o',o',o',o',o'] rfl rfl HT_ (Or.inl ⟨by rfl, ?_⟩) ?_ ?_
         rotate_left;·intro w';go_simp;with_reducible rfl
         rotate_left;·simp only [Act.put, la_, lz_, ls_, i64_w, i32_w];rfl
         refine take_ (i := 2) (N := some 30) (v := ?_) (a' := ?_) #[i',i',i',o',o',o',o',o',o',o',o',o',o',o',o',o',o',o',o',o',o',o',o',o',o',o',o',o',o',o',o',o',o',o',o',o',o',o',o'] rfl rfl (take_ofW HT_.out HW_.out (by kernel_rfl)) (fun _ _ _ h => h) (Or.inl ⟨by rfl, ?_⟩) hHeld ?_ ?_
         rotate_left
         ·rintro w' ⟨s0, s1, s2, s3, s4, s5, s6, s7, s8, s9, s10, s11, s12, s13, s14, s15, s16, s17⟩
          go_simp
          with_reducible rfl
         rotate_left
         ·simp only [Act.put, la_, lz_, ls_, i64_w, i32_w]
          rfl
         refine one_ (i := 3) (N := some 31) #[i',i',i',i',o',o',o',o',o',o',o',o',o',o',o',o',o',o',o',o',o',o',o',o',o',o',o',o',o',o',o',o',o',o',o',o',o',o',o'] rfl rfl (one_of HT_.out (by kernel_rfl)) (by decide) (fun K hK => ?_)
         refine goes_ Try.func47 (by kernel_rfl) rfl #[.agg #[.int .i64 t395, .int .i64 t396, .string t397, .string t398, .int .i64 t399, .int .i64 t400]] (by rfl) rfl rfl ar_ ?_
         with_reducible refine (spec_RecOk.calls k t395 t396 t397 t398 t399 t400 t420 _ A9.out).mono ?_
         rintro e w81 ⟨rfl, hb⟩
         refine ⟨_, rfl, ?_⟩
         have n0_ := Aside0.mk (blk_below (g := gb401) (o := .cells #[.int .i64 t395, .int .i64 t396, .string t397, .string t398, .int .i64 t399, .int .i64 t400] 35 (0, 0)) (bk_ BK401) hb)
         have n1_ := Aside0.mk (blk_below (g := gb410) (o := .cells #[.int .i64 t403, .int .i64 t404, .string t405, .string t406, .int .i64 t407, .int .i64 t408] 35 (0, 0)) (bk_ BK410) hb)
         have n2_ := Aside0.mk (blk_below (g := gb419) (o := .cells #[.int .i64 t412, .int .i64 t413, .string t414, .string t415, .int .i64 t416, .int .i64 t417] 35 (0, 0)) (bk_ BK419) hb)
         have n3_ := Aside0.mk (below_step (by repeat (first | (with_reducible first | exact HB.out | apply below_alloc | apply pw_below_drewN | apply below_drew1 | refine below_set ?_ GE401.out | refine below_set ?_ GE410.out | refine below_set ?_ GE419.out) | exact HB.out)) hb)
         clear BK401
         clear BK410
         clear BK419
         clear HB
         have BK401 := n0_
         have BK410 := n1_
         have BK419 := n2_
         have HB := n3_
         clear n0_ n1_ n2_ n3_
         (try clear hb)
         (try clear hb2)
         (try clear hk)
         (try clear hi)
         refine hK.out _ _ ⟨(blk_cell BK401.out 0).trans rfl, (blk_cell BK401.out 1).trans rfl, (blk_cell BK401.out 2).trans rfl, (blk_cell BK401.out 3).trans rfl, (blk_cell BK401.out 4).trans rfl, (blk_cell BK401.out 5).trans rfl, (blk_cell BK410.out 0).trans rfl, (blk_cell BK410.out 1).trans rfl, (blk_cell BK410.out 2).trans rfl, (blk_cell BK410.out 3).trans rfl, (blk_cell BK410.out 4).trans rfl, (blk_cell BK410.out 5).trans rfl, (blk_cell BK419.out 0).trans rfl, (blk_cell BK419.out 1).trans rfl, (blk_cell BK419.out 2).trans rfl, (blk_cell BK419.out 3).trans rfl, (blk_cell BK419.out 4).trans rfl, (blk_cell BK419.out 5).trans rfl⟩ (fun hHeld => ?_)
         clear hK K
         refine norm_ (a' := ?_) ?_ ?_
         rotate_left
         ·show Act.put _ (some 31) _ = _
          simp only [Act.put, la_, lz_, ls_, i64_w, i32_w]
          rfl
         refine pu_ (i := 4) (N := some 32) (v := ?_) (a' := ?_) #[i',i',i',i',i',o',o',o',o',o',o',o',o',o',o',o',o',o',o',o',o',o',o',o',o',o',o',o',o',o',o',o',o',o',o',o',o',o',o'] rfl rfl HT_ (Or.inl ⟨by rfl, ?_⟩) ?_ ?_
         rotate_left;·intro w';go_simp;with_reducible rfl
         rotate_left;·simp only [Act.put, la_, lz_, ls_, i64_w, i32_w];rfl
         refine pu_ (i := 5) (N := some 33) (v := ?_) (a' := ?_) #[i',i',i',i',i',i',o',o',o',o',o',o',o',o',o',o',o',o',o',o',o',o',o',o',o',o',o',o',o',o',o',o',o',o',o',o',o',o',o'] rfl rfl HT_ (Or.inl ⟨by rfl, ?_⟩) ?_ ?_
         rotate_left;·intro w';go_simp;with_reducible rfl
         rotate_left;·simp only [Act.put, la_, lz_, ls_, i64_w, i32_w];rfl
         refine take_ (i := 6) (N := some 34) (v := ?_) (a' := ?_) #[i',i',i',i',i',i',i',o',o',o',o',o',o',o',o',o',o',o',o',o',o',o',o',o',o',o',o',o',o',o',o',o',o',o',o',o',o',o',o'] rfl rfl (take_ofW HT_.out HW_.out (by kernel_rfl)) (fun _ _ _ h => h) (Or.inl ⟨by rfl, ?_⟩) hHeld ?_ ?_
         rotate_left
         ·rintro w' ⟨s0, s1, s2, s3, s4, s5, s6, s7, s8, s9, s10, s11, s12, s13, s14, s15, s16, s17⟩
          go_simp
          with_reducible rfl
         rotate_left
         ·simp only [Act.put, la_, lz_, ls_, i64_w, i32_w]
          rfl
         refine take_ (i := 8) (N := some 36) (v := ?_) (a' := ?_) #[i',i',i',i',i',i',i',o',i',o',o',o',o',o',o',o',o',o',o',o',o',o',o',o',o',o',o',o',o',o',o',o',o',o',o',o',o',o',o'] rfl rfl (take_ofW HT_.out HW_.out (by kernel_rfl)) (fun _ _ _ h => h) (Or.inl ⟨by rfl, ?_⟩) hHeld ?_ ?_
         rotate_left
         ·rintro w' ⟨s0, s1, s2, s3, s4, s5, s6, s7, s8, s9, s10, s11, s12, s13, s14, s15, s16, s17⟩
          go_simp
          with_reducible rfl
         rotate_left
         ·simp only [Act.put, la_, lz_, ls_, i64_w, i32_w]
          rfl
         refine one_ (i := 7) (N := some 35) #[i',i',i',i',i',i',i',i',i',o',o',o',o',o',o',o',o',o',o',o',o',o',o',o',o',o',o',o',o',o',o',o',o',o',o',o',o',o',o'] rfl rfl (one_of HT_.out (by kernel_rfl)) (by decide) (fun K hK => ?_)
         refine goes_ Try.func48 (by kernel_rfl) rfl #[.agg #[.int .i64 t395, .int .i64 t396, .string t397, .string t398, .int .i64 t399, .int .i64 t400]] (by rfl) rfl rfl ar_ ?_
         with_reducible refine (impl_RecOk.calls k t395 t396 t397 t398 t399 t400 t421 _ A11.out).mono ?_
         rintro e w82 ⟨rfl, hb⟩
         refine ⟨_, rfl, ?_⟩
         have n0_ := Aside0.mk (blk_below (g := gb401) (o := .cells #[.int .i64 t395, .int .i64 t396, .string t397, .string t398, .int .i64 t399, .int .i64 t400] 35 (0, 0)) (bk_ BK401) hb)
         have n1_ := Aside0.mk (blk_below (g := gb410) (o := .cells #[.int .i64 t403, .int .i64 t404, .string t405, .string t406, .int .i64 t407, .int .i64 t408] 35 (0, 0)) (bk_ BK410) hb)
         have n2_ := Aside0.mk (blk_below (g := gb419) (o := .cells #[.int .i64 t412, .int .i64 t413, .string t414, .string t415, .int .i64 t416, .int .i64 t417] 35 (0, 0)) (bk_ BK419) hb)
         have n3_ := Aside0.mk (below_step (by repeat (first | (with_reducible first | exact HB.out | apply below_alloc | apply pw_below_drewN | apply below_drew1 | refine below_set ?_ GE401.out | refine below_set ?_ GE410.out | refine below_set ?_ GE419.out) | exact HB.out)) hb)
         clear BK401
         clear BK410
         clear BK419
         clear HB
         have BK401 := n0_
         have BK410 := n1_
         have BK419 := n2_
         have HB := n3_
         clear n0_ n1_ n2_ n3_
         (try clear hb)
         (try clear hb2)
         (try clear hk)
         (try clear hi)
         refine hK.out _ _ ⟨(blk_cell BK401.out 0).trans rfl, (blk_cell BK401.out 1).trans rfl, (blk_cell BK401.out 2).trans rfl, (blk_cell BK401.out 3).trans rfl, (blk_cell BK401.out 4).trans rfl, (blk_cell BK401.out 5).trans rfl, (blk_cell BK410.out 0).trans rfl, (blk_cell BK410.out 1).trans rfl, (blk_cell BK410.out 2).trans rfl, (blk_cell BK410.out 3).trans rfl, (blk_cell BK410.out 4).trans rfl, (blk_cell BK410.out 5).trans rfl, (blk_cell BK419.out 0).trans rfl, (blk_cell BK419.out 1).trans rfl, (blk_cell BK419.out 2).trans rfl, (blk_cell BK419.out 3).trans rfl, (blk_cell BK419.out 4).trans rfl, (blk_cell BK419.out 5).trans rfl⟩ (fun hHeld => ?_)
         clear hK K
         refine norm_ (a' := ?_) ?_ ?_
         rotate_left
         ·show Act.put _ (some 35) _ = _
          simp only [Act.put, la_, lz_, ls_, i64_w, i32_w]
          rfl
         refine one_ (i := 9) (N := some 37) #[i',i',i',i',i',i',i',i',i',i',o',o',o',o',o',o',o',o',o',o',o',o',o',o',o',o',o',o',o',o',o',o',o',o',o',o',o',o',o'] rfl rfl (one_of HT_.out (by kernel_rfl)) (by decide) (fun K hK => ?_)
         refine goes_ Try.func47 (by kernel_rfl) rfl #[.agg #[.int .i64 t395, .int .i64 t396, .string t397, .string t398, .int .i64 t399, .int .i64 t400]] (by rfl) rfl rfl ar_ ?_
         with_reducible refine (spec_RecOk.calls k t395 t396 t397 t398 t399 t400 t422 _ A12.out).mono ?_
         rintro e w83 ⟨rfl, hb⟩
         refine ⟨_, rfl, ?_⟩
         have n0_ := Aside0.mk (blk_below (g := gb401) (o := .cells #[.int .i64 t395, .int .i64 t396, .string t397, .string t398, .int .i64 t399, .int .i64 t400] 35 (0, 0)) (bk_ BK401) hb)
         have n1_ := Aside0.mk (blk_below (g := gb410) (o := .cells #[.int .i64 t403, .int .i64 t404, .string t405, .string t406, .int .i64 t407, .int .i64 t408] 35 (0, 0)) (bk_ BK410) hb)
         have n2_ := Aside0.mk (blk_below (g := gb419) (o := .cells #[.int .i64 t412, .int .i64 t413, .string t414, .string t415, .int .i64 t416, .int .i64 t417] 35 (0, 0)) (bk_ BK419) hb)
         have n3_ := Aside0.mk (below_step (by repeat (first | (with_reducible first | exact HB.out | apply below_alloc | apply pw_below_drewN | apply below_drew1 | refine below_set ?_ GE401.out | refine below_set ?_ GE410.out | refine below_set ?_ GE419.out) | exact HB.out)) hb)
         clear BK401
         clear BK410
         clear BK419
         clear HB
         have BK401 := n0_
         have BK410 := n1_
         have BK419 := n2_
         have HB := n3_
         clear n0_ n1_ n2_ n3_
         (try clear hb)
         (try clear hb2)
         (try clear hk)
         (try clear hi)
         refine hK.out _ _ ⟨(blk_cell BK401.out 0).trans rfl, (blk_cell BK401.out 1).trans rfl, (blk_cell BK401.out 2).trans rfl, (blk_cell BK401.out 3).trans rfl, (blk_cell BK401.out 4).trans rfl, (blk_cell BK401.out 5).trans rfl, (blk_cell BK410.out 0).trans rfl, (blk_cell BK410.out 1).trans rfl, (blk_cell BK410.out 2).trans rfl, (blk_cell BK410.out 3).trans rfl, (blk_cell BK410.out 4).trans rfl, (blk_cell BK410.out 5).trans rfl, (blk_cell BK419.out 0).trans rfl, (blk_cell BK419.out 1).trans rfl, (blk_cell BK419.out 2).trans rfl, (blk_cell BK419.out 3).trans rfl, (blk_cell BK419.out 4).trans rfl, (blk_cell BK419.out 5).trans rfl⟩ (fun hHeld => ?_)
         clear hK K
         refine norm_ (a' := ?_) ?_ ?_
         rotate_left
         ·show Act.put _ (some 37) _ = _
          simp only [Act.put, la_, lz_, ls_, i64_w, i32_w]
          rfl
         refine pu_ (i := 10) (N := some 38) (v := ?_) (a' := ?_) #[i',i',i',i',i',i',i',i',i',i',i',o',o',o',o',o',o',o',o',o',o',o',o',o',o',o',o',o',o',o',o',o',o',o',o',o',o',o',o'] rfl rfl HT_ (Or.inl ⟨by rfl, ?_⟩) ?_ ?_
         rotate_left;·intro w';go_simp;with_reducible rfl
         rotate_left;·simp only [Act.put, la_, lz_, ls_, i64_w, i32_w];rfl
         refine pu_ (i := 11) (N := some 39) (v := ?_) (a' := ?_) #[i',i',i',i',i',i',i',i',i',i',i',i',o',o',o',o',o',o',o',o',o',o',o',o',o',o',o',o',o',o',o',o',o',o',o',o',o',o',o'] rfl rfl HT_ (Or.inl ⟨by rfl, ?_⟩) ?_ ?_
         rotate_left;·intro w';go_simp;with_reducible rfl
         rotate_left;·simp only [Act.put, la_, lz_, ls_, i64_w, i32_w];rfl
         refine pu_ (i := 12) (N := some 40) (v := ?_) (a' := ?_) #[i',i',i',i',i',i',i',i',i',i',i',i',i',o',o',o',o',o',o',o',o',o',o',o',o',o',o',o',o',o',o',o',o',o',o',o',o',o',o'] rfl rfl HT_ (Or.inl ⟨by rfl, ?_⟩) ?_ ?_
         rotate_left;·intro w';go_simp;with_reducible rfl
         rotate_left;·simp only [Act.put, la_, lz_, ls_, i64_w, i32_w];rfl
         refine pu_ (i := 13) (N := some 41) (v := ?_) (a' := ?_) #[i',i',i',i',i',i',i',i',i',i',i',i',i',i',o',o',o',o',o',o',o',o',o',o',o',o',o',o',o',o',o',o',o',o',o',o',o',o',o'] rfl rfl HT_ (Or.inl ⟨by rfl, ?_⟩) ?_ ?_
         rotate_left;·intro w';go_simp;with_reducible rfl
         rotate_left;·simp only [Act.put, la_, lz_, ls_, i64_w, i32_w];rfl
         refine pu_ (i := 14) (N := some 42) (v := ?_) (a' := ?_) #[i',i',i',i',i',i',i',i',i',i',i',i',i',i',i',o',o',o',o',o',o',o',o',o',o',o',o',o',o',o',o',o',o',o',o',o',o',o',o'] rfl rfl HT_ (Or.inl ⟨by rfl, ?_⟩) ?_ ?_
         rotate_left;·intro w';go_simp;with_reducible rfl
         rotate_left;·simp only [Act.put, la_, lz_, ls_, i64_w, i32_w];rfl
         refine pu_ (i := 15) (N := some 43) (v := ?_) (a' := ?_) #[i',i',i',i',i',i',i',i',i',i',i',i',i',i',i',i',o',o',o',o',o',o',o',o',o',o',o',o',o',o',o',o',o',o',o',o',o',o',o'] rfl rfl HT_ (Or.inl ⟨by rfl, ?_⟩) ?_ ?_
         rotate_left;·intro w';go_simp;with_reducible rfl
         rotate_left;·simp only [Act.put, la_, lz_, ls_, i64_w, i32_w];rfl
         refine pu_ (i := 16) (N := some 44) (v := ?_) (a' := ?_) #[i',i',i',i',i',i',i',i',i',i',i',i',i',i',i',i',i',o',o',o',o',o',o',o',o',o',o',o',o',o',o',o',o',o',o',o',o',o',o'] rfl rfl HT_ (Or.inl ⟨by rfl, ?_⟩) ?_ ?_
         rotate_left;·intro w';go_simp;with_reducible rfl
         rotate_left;·simp only [Act.put, la_, lz_, ls_, i64_w, i32_w];rfl
         refine pu_ (i := 17) (N := some 45) (v := ?_) (a' := ?_) #[i',i',i',i',i',i',i',i',i',i',i',i',i',i',i',i',i',i',o',o',o',o',o',o',o',o',o',o',o',o',o',o',o',o',o',o',o',o',o'] rfl rfl HT_ (Or.inl ⟨by rfl, ?_⟩) ?_ ?_
         rotate_left;·intro w';go_simp;with_reducible rfl
         rotate_left;·simp only [Act.put, la_, lz_, ls_, i64_w, i32_w];rfl
         refine take_ (i := 18) (N := some 46) (v := ?_) (a' := ?_) #[i',i',i',i',i',i',i',i',i',i',i',i',i',i',i',i',i',i',i',o',o',o',o',o',o',o',o',o',o',o',o',o',o',o',o',o',o',o',o'] rfl rfl (take_ofW HT_.out HW_.out (by kernel_rfl)) (fun _ _ _ h => h) (Or.inl ⟨by rfl, ?_⟩) hHeld ?_ ?_
         rotate_left
         ·rintro w' ⟨s0, s1, s2, s3, s4, s5, s6, s7, s8, s9, s10, s11, s12, s13, s14, s15, s16, s17⟩
          go_simp
          with_reducible rfl
         rotate_left
         ·simp only [Act.put, la_, lz_, ls_, i64_w, i32_w]
          rfl
         refine take_ (i := 19) (N := some 47) (v := ?_) (a' := ?_) #[i',i',i',i',i',i',i',i',i',i',i',i',i',i',i',i',i',i',i',i',o',o',o',o',o',o',o',o',o',o',o',o',o',o',o',o',o',o',o'] rfl rfl (take_ofW HT_.out HW_.out (by kernel_rfl)) (fun _ _ _ h => h) (Or.inl ⟨by rfl, ?_⟩) hHeld ?_ ?_
         rotate_left
         ·rintro w' ⟨s0, s1, s2, s3, s4, s5, s6, s7, s8, s9, s10, s11, s12, s13, s14, s15, s16, s17⟩
          go_simp
          with_reducible rfl
         rotate_left
         ·simp only [Act.put, la_, lz_, ls_, i64_w, i32_w]
          rfl
         refine pu_ (i := 20) (N := some 48) (v := ?_) (a' := ?_) #[i',i',i',i',i',i',i',i',i',i',i',i',i',i',i',i',i',i',i',i',i',o',o',o',o',o',o',o',o',o',o',o',o',o',o',o',o',o',o'] rfl rfl HT_ (Or.inl ⟨by rfl, ?_⟩) ?_ ?_
         rotate_left;·intro w';go_simp;with_reducible rfl
         rotate_left;·simp only [Act.put, la_, lz_, ls_, i64_w, i32_w];rfl
         refine pu_ (i := 21) (N := some 49) (v := ?_) (a' := ?_) #[i',i',i',i',i',i',i',i',i',i',i',i',i',i',i',i',i',i',i',i',i',i',o',o',o',o',o',o',o',o',o',o',o',o',o',o',o',o',o'] rfl rfl HT_ (Or.inl ⟨by rfl, ?_⟩) ?_ ?_
         rotate_left;·intro w';go_simp;with_reducible rfl
         rotate_left;·simp only [Act.put, la_, lz_, ls_, i64_w, i32_w];rfl
         refine pu_ (i := 22) (N := some 50) (v := ?_) (a' := ?_) #[i',i',i',i',i',i',i',i',i',i',i',i',i',i',i',i',i',i',i',i',i',i',i',o',o',o',o',o',o',o',o',o',o',o',o',o',o',o',o'] rfl rfl HT_ (Or.inl ⟨by rfl, ?_⟩) ?_ ?_
         rotate_left;·intro w';go_simp;with_reducible rfl
         rotate_left;·simp only [Act.put, la_, lz_, ls_, i64_w, i32_w];rfl
         refine pu_ (i := 23) (N := some 51) (v := ?_) (a' := ?_) #[i',i',i',i',i',i',i',i',i',i',i',i',i',i',i',i',i',i',i',i',i',i',i',i',o',o',o',o',o',o',o',o',o',o',o',o',o',o',o'] rfl rfl HT_ (Or.inl ⟨by rfl, ?_⟩) ?_ ?_
         rotate_left;·intro w';go_simp;with_reducible rfl
         rotate_left;·simp only [Act.put, la_, lz_, ls_, i64_w, i32_w];rfl
         refine pu_ (i := 24) (N := some 52) (v := ?_) (a' := ?_) #[i',i',i',i',i',i',i',i',i',i',i',i',i',i',i',i',i',i',i',i',i',i',i',i',i',o',o',o',o',o',o',o',o',o',o',o',o',o',o'] rfl rfl HT_ (Or.inl ⟨by rfl, ?_⟩) ?_ ?_
         rotate_left;·intro w';go_simp;with_reducible rfl
         rotate_left;·simp only [Act.put, la_, lz_, ls_, i64_w, i32_w];rfl
         refine pu_ (i := 25) (N := some 53) (v := ?_) (a' := ?_) #[i',i',i',i',i',i',i',i',i',i',i',i',i',i',i',i',i',i',i',i',i',i',i',i',i',i',o',o',o',o',o',o',o',o',o',o',o',o',o'] rfl rfl HT_ (Or.inl ⟨by rfl, ?_⟩) ?_ ?_
         rotate_left;·intro w';go_simp;with_reducible rfl
         rotate_left;·simp only [Act.put, la_, lz_, ls_, i64_w, i32_w];rfl
         refine pu_ (i := 26) (N := some 54) (v := ?_) (a' := ?_) #[i',i',i',i',i',i',i',i',i',i',i',i',i',i',i',i',i',i',i',i',i',i',i',i',i',i',i',o',o',o',o',o',o',o',o',o',o',o',o'] rfl rfl HT_ (Or.inl ⟨by rfl, ?_⟩) ?_ ?_
         rotate_left;·intro w';go_simp;with_reducible rfl
         rotate_left;·simp only [Act.put, la_, lz_, ls_, i64_w, i32_w];rfl
         refine pu_ (i := 27) (N := some 55) (v := ?_) (a' := ?_) #[i',i',i',i',i',i',i',i',i',i',i',i',i',i',i',i',i',i',i',i',i',i',i',i',i',i',i',i',o',o',o',o',o',o',o',o',o',o',o'] rfl rfl HT_ (Or.inl ⟨by rfl, ?_⟩) ?_ ?_
         rotate_left;·intro w';go_simp;with_reducible rfl
         rotate_left;·simp only [Act.put, la_, lz_, ls_, i64_w, i32_w];rfl
         refine pu_ (i := 30) (N := some 58) (v := ?_) (a' := ?_) #[i',i',i',i',i',i',i',i',i',i',i',i',i',i',i',i',i',i',i',i',i',i',i',i',i',i',i',i',o',o',i',o',o',o',o',o',o',o',o'] rfl rfl HT_ (Or.inl ⟨by rfl, ?_⟩) ?_ ?_
         rotate_left;·intro w';go_simp;with_reducible rfl
         rotate_left;·simp only [Act.put, la_, lz_, ls_, i64_w, i32_w];rfl
         refine take_ (i := 28) (N := some 56) (v := ?_) (a' := ?_) #[i',i',i',i',i',i',i',i',i',i',i',i',i',i',i',i',i',i',i',i',i',i',i',i',i',i',i',i',i',o',i',o',o',o',o',o',o',o',o'] rfl rfl (take_ofW HT_.out HW_.out (by kernel_rfl)) (fun _ _ _ h => h) (Or.inl ⟨by rfl, ?_⟩) hHeld ?_ ?_
         rotate_left
         ·rintro w' ⟨s0, s1, s2, s3, s4, s5, s6, s7, s8, s9, s10, s11, s12, s13, s14, s15, s16, s17⟩
          go_simp
          with_reducible rfl
         rotate_left
         ·simp only [Act.put, la_, lz_, ls_, i64_w, i32_w]
          rfl
         refine one_ (i := 29) (N := some 57) #[i',i',i',i',i',i',i',i',i',i',i',i',i',i',i',i',i',i',i',i',i',i',i',i',i',i',i',i',i',i',i',o',o',o',o',o',o',o',o'] rfl rfl (one_of HT_.out (by kernel_rfl)) (by decide) (fun K hK => ?_)
         refine goes_ Try.func45 (by kernel_rfl) rfl #[.agg #[.int .i64 t412, .int .i64 t413, .string t414, .string t415, .int .i64 t416, .int .i64 t417]] (by rfl) rfl rfl ar_ ?_
         with_reducible refine (impl_ShowRec.calls k t412 t413 t414 t415 t416 t417 t425 _ A62.out).mono ?_
         rintro e w84 ⟨rfl, hb⟩
         refine ⟨_, rfl, ?_⟩
         have n0_ := Aside0.mk (blk_below (g := gb401) (o := .cells #[.int .i64 t395, .int .i64 t396, .string t397, .string t398, .int .i64 t399, .int .i64 t400] 35 (0, 0)) (bk_ BK401) hb)
         have n1_ := Aside0.mk (blk_below (g := gb410) (o := .cells #[.int .i64 t403, .int .i64 t404, .string t405, .string t406, .int .i64 t407, .int .i64 t408] 35 (0, 0)) (bk_ BK410) hb)
         have n2_ := Aside0.mk (blk_below (g := gb419) (o := .cells #[.int .i64 t412, .int .i64 t413, .string t414, .string t415, .int .i64 t416, .int .i64 t417] 35 (0, 0)) (bk_ BK419) hb)
         have n3_ := Aside0.mk (below_step (by repeat (first | (with_reducible first | exact HB.out | apply below_alloc | apply pw_below_drewN | apply below_drew1 | refine below_set ?_ GE401.out | refine below_set ?_ GE410.out | refine below_set ?_ GE419.out) | exact HB.out)) hb)
         clear BK401
         clear BK410
         clear BK419
         clear HB
         have BK401 := n0_
         have BK410 := n1_
         have BK419 := n2_
         have HB := n3_
         clear n0_ n1_ n2_ n3_
         (try clear hb)
         (try clear hb2)
         (try clear hk)
         (try clear hi)
         refine hK.out _ _ ⟨(blk_cell BK401.out 0).trans rfl, (blk_cell BK401.out 1).trans rfl, (blk_cell BK401.out 2).trans rfl, (blk_cell BK401.out 3).trans rfl, (blk_cell BK401.out 4).trans rfl, (blk_cell BK401.out 5).trans rfl, (blk_cell BK410.out 0).trans rfl, (blk_cell BK410.out 1).trans rfl, (blk_cell BK410.out 2).trans rfl, (blk_cell BK410.out 3).trans rfl, (blk_cell BK410.out 4).trans rfl, (blk_cell BK410.out 5).trans rfl, (blk_cell BK419.out 0).trans rfl, (blk_cell BK419.out 1).trans rfl, (blk_cell BK419.out 2).trans rfl, (blk_cell BK419.out 3).trans rfl, (blk_cell BK419.out 4).trans rfl, (blk_cell BK419.out 5).trans rfl⟩ (fun hHeld => ?_)
         clear hK K
         refine norm_ (a' := ?_) ?_ ?_
         rotate_left
         ·show Act.put _ (some 57) _ = _
          simp only [Act.put, la_, lz_, ls_, i64_w, i32_w]
          rfl
         refine pu_ (i := 31) (N := some 59) (v := ?_) (a' := ?_) #[i',i',i',i',i',i',i',i',i',i',i',i',i',i',i',i',i',i',i',i',i',i',i',i',i',i',i',i',i',i',i',i',o',o',o',o',o',o',o'] rfl rfl HT_ (Or.inl ⟨by rfl, ?_⟩) ?_ ?_
         rotate_left;·intro w';go_simp;with_reducible rfl
         rotate_left;·simp only [Act.put, la_, lz_, ls_, i64_w, i32_w];rfl
         refine pu_ (i := 32) (N := some 60) (v := ?_) (a' := ?_) #[i',i',i',i',i',i',i',i',i',i',i',i',i',i',i',i',i',i',i',i',i',i',i',i',i',i',i',i',i',i',i',i',i',o',o',o',o',o',o'] rfl rfl HT_ (Or.inl ⟨by rfl, ?_⟩) ?_ ?_
         rotate_left;·intro w';go_simp;with_reducible rfl
         rotate_left;·simp only [Act.put, la_, lz_, ls_, i64_w, i32_w];rfl
         refine take_ (i := 33) (N := some 61) (v := ?_) (a' := ?_) #[i',i',i',i',i',i',i',i',i',i',i',i',i',i',i',i',i',i',i',i',i',i',i',i',i',i',i',i',i',i',i',i',i',i',o',o',o',o',o'] rfl rfl (take_ofW HT_.out HW_.out (by kernel_rfl)) (fun _ _ _ h => h) (Or.inl ⟨by rfl, ?_⟩) hHeld ?_ ?_
         rotate_left
         ·rintro w' ⟨s0, s1, s2, s3, s4, s5, s6, s7, s8, s9, s10, s11, s12, s13, s14, s15, s16, s17⟩
          go_simp
          with_reducible rfl
         rotate_left
         ·simp only [Act.put, la_, lz_, ls_, i64_w, i32_w]
          rfl
         refine one_ (i := 34) (N := some 62) #[i',i',i',i',i',i',i',i',i',i',i',i',i',i',i',i',i',i',i',i',i',i',i',i',i',i',i',i',i',i',i',i',i',i',i',o',o',o',o'] rfl rfl (one_of HT_.out (by kernel_rfl)) (by decide) (fun K hK => ?_)
         refine goes_ Try.func47 (by kernel_rfl) rfl #[.agg #[.int .i64 t412, .int .i64 t413, .string t414, .string t415, .int .i64 t416, .int .i64 t417]] (by rfl) rfl rfl ar_ ?_
         with_reducible refine (spec_RecOk.calls k t412 t413 t414 t415 t416 t417 t426 _ A64.out).mono ?_
         rintro e w85 ⟨rfl, hb⟩
         refine ⟨_, rfl, ?_⟩
         have n0_ := Aside0.mk (blk_below (g := gb401) (o := .cells #[.int .i64 t395, .int .i64 t396, .string t397, .string t398, .int .i64 t399, .int .i64 t400] 35 (0, 0)) (bk_ BK401) hb)
         have n1_ := Aside0.mk (blk_below (g := gb410) (o := .cells #[.int .i64 t403, .int .i64 t404, .string t405, .string t406, .int .i64 t407, .int .i64 t408] 35 (0, 0)) (bk_ BK410) hb)
         have n2_ := Aside0.mk (blk_below (g := gb419) (o := .cells #[.int .i64 t412, .int .i64 t413, .string t414, .string t415, .int .i64 t416, .int .i64 t417] 35 (0, 0)) (bk_ BK419) hb)
         have n3_ := Aside0.mk (below_step (by repeat (first | (with_reducible first | exact HB.out | apply below_alloc | apply pw_below_drewN | apply below_drew1 | refine below_set ?_ GE401.out | refine below_set ?_ GE410.out | refine below_set ?_ GE419.out) | exact HB.out)) hb)
         clear BK401
         clear BK410
         clear BK419
         clear HB
         have BK401 := n0_
         have BK410 := n1_
         have BK419 := n2_
         have HB := n3_
         clear n0_ n1_ n2_ n3_
         (try clear hb)
         (try clear hb2)
         (try clear hk)
         (try clear hi)
         refine hK.out _ _ ⟨(blk_cell BK401.out 0).trans rfl, (blk_cell BK401.out 1).trans rfl, (blk_cell BK401.out 2).trans rfl, (blk_cell BK401.out 3).trans rfl, (blk_cell BK401.out 4).trans rfl, (blk_cell BK401.out 5).trans rfl, (blk_cell BK410.out 0).trans rfl, (blk_cell BK410.out 1).trans rfl, (blk_cell BK410.out 2).trans rfl, (blk_cell BK410.out 3).trans rfl, (blk_cell BK410.out 4).trans rfl, (blk_cell BK410.out 5).trans rfl, (blk_cell BK419.out 0).trans rfl, (blk_cell BK419.out 1).trans rfl, (blk_cell BK419.out 2).trans rfl, (blk_cell BK419.out 3).trans rfl, (blk_cell BK419.out 4).trans rfl, (blk_cell BK419.out 5).trans rfl⟩ (fun hHeld => ?_)
         clear hK K
         refine norm_ (a' := ?_) ?_ ?_
         rotate_left
         ·show Act.put _ (some 62) _ = _
          simp only [Act.put, la_, lz_, ls_, i64_w, i32_w]
          rfl
         refine pu_ (i := 35) (N := some 63) (v := ?_) (a' := ?_) #[i',i',i',i',i',i',i',i',i',i',i',i',i',i',i',i',i',i',i',i',i',i',i',i',i',i',i',i',i',i',i',i',i',i',i',i',o',o',o'] rfl rfl HT_ (Or.inl ⟨by rfl, ?_⟩) ?_ ?_
         rotate_left;·intro w';go_simp;with_reducible rfl
         rotate_left;·simp only [Act.put, la_, lz_, ls_, i64_w, i32_w];rfl
         refine pu_ (i := 36) (N := some 64) (v := ?_) (a' := ?_) #[i',i',i',i',i',i',i',i',i',i',i',i',i',i',i',i',i',i',i',i',i',i',i',i',i',i',i',i',i',i',i',i',i',i',i',i',i',o',o'] rfl rfl HT_ (Or.inl ⟨by rfl, ?_⟩) ?_ ?_
         rotate_left;·intro w';go_simp;with_reducible rfl
         rotate_left;·simp only [Act.put, la_, lz_, ls_, i64_w, i32_w];rfl
         refine pu_ (i := 37) (N := some 65) (v := ?_) (a' := ?_) #[i',i',i',i',i',i',i',i',i',i',i',i',i',i',i',i',i',i',i',i',i',i',i',i',i',i',i',i',i',i',i',i',i',i',i',i',i',i',o'] rfl rfl HT_ (Or.inl ⟨by rfl, ?_⟩) ?_ ?_
         rotate_left;·intro w';go_simp;with_reducible rfl
         rotate_left;·simp only [Act.put, la_, lz_, ls_, i64_w, i32_w];rfl
         refine pu_ (i := 38) (N := some 2) (v := ?_) (a' := ?_) #[i',i',i',i',i',i',i',i',i',i',i',i',i',i',i',i',i',i',i',i',i',i',i',i',i',i',i',i',i',i',i',i',i',i',i',i',i',i',i'] rfl rfl HT_ (Or.inl ⟨by rfl, ?_⟩) ?_ ?_
         rotate_left;·intro w';go_simp;with_reducible rfl
         rotate_left;·simp only [Act.put, la_, lz_, ls_, i64_w, i32_w];rfl
         refine done_ (done_of HT_.out (by kernel_rfl)) ?_
         try go_wp2
         go_ret
         exact ⟨re_, by repeat (first | (with_reducible first | exact HB.out | apply below_alloc | apply pw_below_drewN | apply below_drew1 | refine below_set ?_ GE401.out | refine below_set ?_ GE410.out | refine below_set ?_ GE419.out) | exact HB.out)⟩
        ·rw [if_neg c63] at H
         have c63b0 : (t425.toList == t411.toList) = false := beq_eq_false_iff_ne.mpr c63
         have c63b1 : (t425.toList != t411.toList) = true := bne_iff_ne.mpr c63
         exact absurd ((Option.some.inj H).trans HRT.out) (by decide)
       ·replace c61 := Bool.eq_false_iff.mpr c61
        subst c61
        have H1 : (some true) = some r := by rw [if_neg (show ¬ (false = true) by decide)] at H; exact H
        clear H
        have H := H1
        clear H1
        obtain rfl := Option.some.inj H
        go_enter Try.func9, Try.ntmps9
        try go_wp2_with (first | ((with_reducible refine gate_callee (f := 43) rfl ?_); refine goesL_ (some 11) rfl rfl Try.func43 (by kernel_rfl) rfl #[.slice A0 l0.length c0] rfl ar_ ?_; (with_reducible refine (laws_big.calls _ _ l0 false _ ?side1 ?side2 A2.out).mono ?_); (case side1 => repeat (first | exact HR0.out | (with_reducible refine Kd.C_alloc ?_ _) | (with_reducible refine Kd.C_drewN ?_ _) | (with_reducible refine Kd.C_drew ?_))); (case side2 => exact HC0.out); rintro e w' ⟨rfl, ⟨nd, rfl⟩⟩; refine ⟨_, rfl, ?_⟩) | ((with_reducible refine gate_callee (f := 44) rfl ?_); refine goesL_ (some 13) rfl rfl Try.func44 (by kernel_rfl) rfl #[.slice A0 l0.length c0] rfl ar_ ?_; (with_reducible refine (spec_DrawShowRec.calls k _ _ l0 t395 t396 t397 t398 t399 t400 _ ?side1 ?side2 A4.out).mono ?_); (case side1 => repeat (first | exact HR0.out | (with_reducible refine Kd.C_alloc ?_ _) | (with_reducible refine Kd.C_drewN ?_ _) | (with_reducible refine Kd.C_drew ?_))); (case side2 => exact HC0.out); rintro e w86 ⟨rfl, hb⟩; refine ⟨_, rfl, ?_⟩; have n0_ := Aside0.mk (below_step (hb_ HB) hb); clear HB; have HB := n0_; clear n0_; (try clear hb); (try clear hb2); (try clear hk); (try clear hi)) | ((with_reducible refine gate_dst (N := 3) rfl ?_); refine box_event ?hg (N := 3) ?hd (cs := #[.int .i64 0, .int .i64 0, .string (⟨#[]⟩ : ByteArray), .string (⟨#[]⟩ : ByteArray), .int .i64 0, .int .i64 0]) (t := 35) ?hr ?_; (case hd => rfl); (case hg => rfl); (case hr => first | (go_simp; done) | (go_simp; rfl)); intro gb401 hg w87 hbox hb; have n0_ := Aside0.mk (below_step (hb_ HB) hb); have n1_ := Aside0.mk (hbox); have n2_ := Aside0.mk ((by rw [hg]; exact (below_size (hb_ HB)) : w.heap.size ≤ gb401)); have n3_ := Aside0.mk ((by rw [hg]; exact (below_size (hb_ HB)) : w.heap.size ≤ gb401)); clear HB; have HB := n0_; have BK401 := n1_; have GW401 := n2_; have GE401 := n3_; clear n0_ n1_ n2_ n3_; clear hb hbox hg; have hcz88_0 : w87.cell? ⟨gb401, 0, none⟩ = some (.int .i64 0) := (blk_cell BK401.out 0).trans rfl; have hcz88_1 : w87.cell? ⟨gb401, 1, none⟩ = some (.int .i64 0) := (blk_cell BK401.out 1).trans rfl; have hcz88_2 : w87.cell? ⟨gb401, 2, none⟩ = some (.string (⟨#[]⟩ : ByteArray)) := (blk_cell BK401.out 2).trans rfl; have hcz88_3 : w87.cell? ⟨gb401, 3, none⟩ = some (.string (⟨#[]⟩ : ByteArray)) := (blk_cell BK401.out 3).trans rfl; have hcz88_4 : w87.cell? ⟨gb401, 4, none⟩ = some (.int .i64 0) := (blk_cell BK401.out 4).trans rfl; have hcz88_5 : w87.cell? ⟨gb401, 5, none⟩ = some (.int .i64 0) := (blk_cell BK401.out 5).trans rfl; have hfz88_0 := blk_frozen BK401.out 0; have hfz88_1 := blk_frozen BK401.out 1; have hfz88_2 := blk_frozen BK401.out 2; have hfz88_3 := blk_frozen BK401.out 3; have hfz88_4 := blk_frozen BK401.out 4; have hfz88_5 := blk_frozen BK401.out 5) | ((with_reducible refine gate_callee (f := 45) rfl ?_); refine goesL_ (some 15) rfl rfl Try.func45 (by kernel_rfl) rfl #[.agg #[.int .i64 t395, .int .i64 t396, .string t397, .string t398, .int .i64 t399, .int .i64 t400]] rfl ar_ ?_; (with_reducible refine (impl_ShowRec.calls k t395 t396 t397 t398 t399 t400 t402 _ A5.out).mono ?_); rintro e w89 ⟨rfl, hb⟩; refine ⟨_, rfl, ?_⟩; have n0_ := Aside0.mk (blk_below (g := gb401) (o := .cells #[.int .i64 t395, .int .i64 t396, .string t397, .string t398, .int .i64 t399, .int .i64 t400] 35 (0, 0)) (by (with_reducible repeat (first | refine blk_drewN ?_ _ | refine blk_drew ?_ | refine blk_alloc ?_ _)); refine blk_put (cs := #[.int .i64 t395, .int .i64 t396, .string t397, .string t398, .int .i64 t399, .int .i64 0]) ?_ 5 _ rfl; (with_reducible repeat (first | refine blk_drewN ?_ _ | refine blk_drew ?_ | refine blk_alloc ?_ _)); refine blk_put (cs := #[.int .i64 t395, .int .i64 t396, .string t397, .string t398, .int .i64 0, .int .i64 0]) ?_ 4 _ rfl; (with_reducible repeat (first | refine blk_drewN ?_ _ | refine blk_drew ?_ | refine blk_alloc ?_ _)); refine blk_put (cs := #[.int .i64 t395, .int .i64 t396, .string t397, .string (⟨#[]⟩ : ByteArray), .int .i64 0, .int .i64 0]) ?_ 3 _ rfl; (with_reducible repeat (first | refine blk_drewN ?_ _ | refine blk_drew ?_ | refine blk_alloc ?_ _)); refine blk_put (cs := #[.int .i64 t395, .int .i64 t396, .string (⟨#[]⟩ : ByteArray), .string (⟨#[]⟩ : ByteArray), .int .i64 0, .int .i64 0]) ?_ 2 _ rfl; (with_reducible repeat (first | refine blk_drewN ?_ _ | refine blk_drew ?_ | refine blk_alloc ?_ _)); refine blk_put (cs := #[.int .i64 t395, .int .i64 0, .string (⟨#[]⟩ : ByteArray), .string (⟨#[]⟩ : ByteArray), .int .i64 0, .int .i64 0]) ?_ 1 _ rfl; (with_reducible repeat (first | refine blk_drewN ?_ _ | refine blk_drew ?_ | refine blk_alloc ?_ _)); refine blk_put (cs := #[.int .i64 0, .int .i64 0, .string (⟨#[]⟩ : ByteArray), .string (⟨#[]⟩ : ByteArray), .int .i64 0, .int .i64 0]) ?_ 0 _ rfl; (with_reducible repeat (first | refine blk_drewN ?_ _ | refine blk_drew ?_ | refine blk_alloc ?_ _)); exact BK401.out) hb); have n1_ := Aside0.mk (below_step (hs_ HB GE401) hb); clear BK401; clear HB; have BK401 := n0_; have HB := n1_; clear n0_ n1_; (try clear hb); (try clear hb2); (try clear hk); (try clear hi)) | ((with_reducible refine gate_callee (f := 21) rfl ?_); refine goesL_ (some 18) rfl rfl Try.func21 (by kernel_rfl) rfl #[.string t402] rfl ar_ ?_; (with_reducible refine (impl_ReadRec.calls k t402 t403 t404 t405 t406 t407 t408 true _ A6.out).mono ?_); rintro e w90 ⟨rfl, hb⟩; refine ⟨_, rfl, ?_⟩; have n0_ := Aside0.mk (blk_below (g := gb401) (o := .cells #[.int .i64 t395, .int .i64 t396, .string t397, .string t398, .int .i64 t399, .int .i64 t400] 35 (0, 0)) (bk_ BK401) hb); have n1_ := Aside0.mk (below_step (hs_ HB GE401) hb); clear BK401; clear HB; have BK401 := n0_; have HB := n1_; clear n0_ n1_; (try clear hb); (try clear hb2); (try clear hk); (try clear hi)) | ((with_reducible refine gate_dst (N := 5) rfl ?_); refine box_event ?hg (N := 5) ?hd (cs := #[.int .i64 0, .int .i64 0, .string (⟨#[]⟩ : ByteArray), .string (⟨#[]⟩ : ByteArray), .int .i64 0, .int .i64 0]) (t := 35) ?hr ?_; (case hd => rfl); (case hg => rfl); (case hr => first | (go_simp; done) | (go_simp; rfl)); intro gb410 hg w91 hbox hb; have n0_ := Aside0.mk (blk_below (g := gb401) (o := .cells #[.int .i64 t395, .int .i64 t396, .string t397, .string t398, .int .i64 t399, .int .i64 t400] 35 (0, 0)) (bk_ BK401) hb); have n1_ := Aside0.mk (below_step (hs_ HB GE401) hb); have n2_ := Aside0.mk (hbox); have n3_ := Aside0.mk ((by rw [hg]; exact (below_size (hs_ HB GE401)) : w.heap.size ≤ gb410)); have n4_ := Aside0.mk ((by rw [hg]; exact (below_size (hs_ HB GE401)) : w.heap.size ≤ gb410)); have n5_ := Aside0.mk ((by rw [hg]; exact Nat.ne_of_lt (blk_lt (g := gb401) (o := .cells #[.int .i64 t395, .int .i64 t396, .string t397, .string t398, .int .i64 t399, .int .i64 t400] 35 (0, 0)) (bk_ BK401)) : gb401 ≠ gb410)); have n6_ := Aside0.mk ((by rw [hg]; exact Nat.ne_of_gt (blk_lt (g := gb401) (o := .cells #[.int .i64 t395, .int .i64 t396, .string t397, .string t398, .int .i64 t399, .int .i64 t400] 35 (0, 0)) (bk_ BK401)) : gb410 ≠ gb401)); clear BK401; clear HB; have BK401 := n0_; have HB := n1_; have BK410 := n2_; have GW410 := n3_; have GE410 := n4_; have NB401_410 := n5_; have NB410_401 := n6_; clear n0_ n1_ n2_ n3_ n4_ n5_ n6_; clear hb hbox hg; have hnb92 := NB410_401.out; have hnc92 := NB401_410.out; have hcz93_0 : w91.cell? ⟨gb410, 0, none⟩ = some (.int .i64 0) := (blk_cell BK410.out 0).trans rfl; have hcz93_1 : w91.cell? ⟨gb410, 1, none⟩ = some (.int .i64 0) := (blk_cell BK410.out 1).trans rfl; have hcz93_2 : w91.cell? ⟨gb410, 2, none⟩ = some (.string (⟨#[]⟩ : ByteArray)) := (blk_cell BK410.out 2).trans rfl; have hcz93_3 : w91.cell? ⟨gb410, 3, none⟩ = some (.string (⟨#[]⟩ : ByteArray)) := (blk_cell BK410.out 3).trans rfl; have hcz93_4 : w91.cell? ⟨gb410, 4, none⟩ = some (.int .i64 0) := (blk_cell BK410.out 4).trans rfl; have hcz93_5 : w91.cell? ⟨gb410, 5, none⟩ = some (.int .i64 0) := (blk_cell BK410.out 5).trans rfl; have hfz93_0 := blk_frozen BK410.out 0; have hfz93_1 := blk_frozen BK410.out 1; have hfz93_2 := blk_frozen BK410.out 2; have hfz93_3 := blk_frozen BK410.out 3; have hfz93_4 := blk_frozen BK410.out 4; have hfz93_5 := blk_frozen BK410.out 5) | ((with_reducible refine gate_callee (f := 46) rfl ?_); refine goesL_ (some 22) rfl rfl Try.func46 (by kernel_rfl) rfl #[.slice A0 l0.length c0] rfl ar_ ?_; (with_reducible refine (spec_DrawReadRec.calls k _ _ l0 t411 _ ?side1 ?side2 A7.out).mono ?_); (case side1 => exact Kd.C_below HR0.out (by repeat (first | (with_reducible first | exact HB.out | apply below_alloc | apply pw_below_drewN | apply below_drew1 | refine below_set ?_ GE401.out | refine below_set ?_ GE410.out) | exact HB.out))); (case side2 => exact HC0.out); rintro e w94 ⟨rfl, hb⟩; refine ⟨_, rfl, ?_⟩; have n0_ := Aside0.mk (blk_below (g := gb401) (o := .cells #[.int .i64 t395, .int .i64 t396, .string t397, .string t398, .int .i64 t399, .int .i64 t400] 35 (0, 0)) (by (with_reducible repeat (first | refine blk_drewN ?_ _ | refine blk_drew ?_ | refine blk_alloc ?_ _)); refine blk_far ?_ NB401_410.out _; (with_reducible repeat (first | refine blk_drewN ?_ _ | refine blk_drew ?_ | refine blk_alloc ?_ _)); refine blk_far ?_ NB401_410.out _; (with_reducible repeat (first | refine blk_drewN ?_ _ | refine blk_drew ?_ | refine blk_alloc ?_ _)); refine blk_far ?_ NB401_410.out _; (with_reducible repeat (first | refine blk_drewN ?_ _ | refine blk_drew ?_ | refine blk_alloc ?_ _)); refine blk_far ?_ NB401_410.out _; (with_reducible repeat (first | refine blk_drewN ?_ _ | refine blk_drew ?_ | refine blk_alloc ?_ _)); refine blk_far ?_ NB401_410.out _; (with_reducible repeat (first | refine blk_drewN ?_ _ | refine blk_drew ?_ | refine blk_alloc ?_ _)); refine blk_far ?_ NB401_410.out _; (with_reducible repeat (first | refine blk_drewN ?_ _ | refine blk_drew ?_ | refine blk_alloc ?_ _)); exact BK401.out) hb); have n1_ := Aside0.mk (blk_below (g := gb410) (o := .cells #[.int .i64 t403, .int .i64 t404, .string t405, .string t406, .int .i64 t407, .int .i64 t408] 35 (0, 0)) (by (with_reducible repeat (first | refine blk_drewN ?_ _ | refine blk_drew ?_ | refine blk_alloc ?_ _)); refine blk_put (cs := #[.int .i64 t403, .int .i64 t404, .string t405, .string t406, .int .i64 t407, .int .i64 0]) ?_ 5 _ rfl; (with_reducible repeat (first | refine blk_drewN ?_ _ | refine blk_drew ?_ | refine blk_alloc ?_ _)); refine blk_put (cs := #[.int .i64 t403, .int .i64 t404, .string t405, .string t406, .int .i64 0, .int .i64 0]) ?_ 4 _ rfl; (with_reducible repeat (first | refine blk_drewN ?_ _ | refine blk_drew ?_ | refine blk_alloc ?_ _)); refine blk_put (cs := #[.int .i64 t403, .int .i64 t404, .string t405, .string (⟨#[]⟩ : ByteArray), .int .i64 0, .int .i64 0]) ?_ 3 _ rfl; (with_reducible repeat (first | refine blk_drewN ?_ _ | refine blk_drew ?_ | refine blk_alloc ?_ _)); refine blk_put (cs := #[.int .i64 t403, .int .i64 t404, .string (⟨#[]⟩ : ByteArray), .string (⟨#[]⟩ : ByteArray), .int .i64 0, .int .i64 0]) ?_ 2 _ rfl; (with_reducible repeat (first | refine blk_drewN ?_ _ | refine blk_drew ?_ | refine blk_alloc ?_ _)); refine blk_put (cs := #[.int .i64 t403, .int .i64 0, .string (⟨#[]⟩ : ByteArray), .string (⟨#[]⟩ : ByteArray), .int .i64 0, .int .i64 0]) ?_ 1 _ rfl; (with_reducible repeat (first | refine blk_drewN ?_ _ | refine blk_drew ?_ | refine blk_alloc ?_ _)); refine blk_put (cs := #[.int .i64 0, .int .i64 0, .string (⟨#[]⟩ : ByteArray), .string (⟨#[]⟩ : ByteArray), .int .i64 0, .int .i64 0]) ?_ 0 _ rfl; (with_reducible repeat (first | refine blk_drewN ?_ _ | refine blk_drew ?_ | refine blk_alloc ?_ _)); exact BK410.out) hb); have n2_ := Aside0.mk (below_step (by repeat (first | (with_reducible first | exact HB.out | apply below_alloc | apply pw_below_drewN | apply below_drew1 | refine below_set ?_ GE401.out | refine below_set ?_ GE410.out) | exact HB.out)) hb); clear BK401; clear BK410; clear HB; have BK401 := n0_; have BK410 := n1_; have HB := n2_; clear n0_ n1_ n2_; (try clear hb); (try clear hb2); (try clear hk); (try clear hi)) | ((with_reducible refine gate_callee (f := 21) rfl ?_); refine goesL_ (some 25) rfl rfl Try.func21 (by kernel_rfl) rfl #[.string t411] rfl ar_ ?_; (with_reducible refine (impl_ReadRec.calls k t411 t412 t413 t414 t415 t416 t417 false _ A8.out).mono ?_); rintro e w95 ⟨rfl, hb⟩; refine ⟨_, rfl, ?_⟩; have n0_ := Aside0.mk (blk_below (g := gb401) (o := .cells #[.int .i64 t395, .int .i64 t396, .string t397, .string t398, .int .i64 t399, .int .i64 t400] 35 (0, 0)) (bk_ BK401) hb); have n1_ := Aside0.mk (blk_below (g := gb410) (o := .cells #[.int .i64 t403, .int .i64 t404, .string t405, .string t406, .int .i64 t407, .int .i64 t408] 35 (0, 0)) (bk_ BK410) hb); have n2_ := Aside0.mk (below_step (by repeat (first | (with_reducible first | exact HB.out | apply below_alloc | apply pw_below_drewN | apply below_drew1 | refine below_set ?_ GE401.out | refine below_set ?_ GE410.out) | exact HB.out)) hb); clear BK401; clear BK410; clear HB; have BK401 := n0_; have BK410 := n1_; have HB := n2_; clear n0_ n1_ n2_; (try clear hb); (try clear hb2); (try clear hk); (try clear hi)) | ((with_reducible refine gate_dst (N := 8) rfl ?_); refine box_event ?hg (N := 8) ?hd (cs := #[.int .i64 0, .int .i64 0, .string (⟨#[]⟩ : ByteArray), .string (⟨#[]⟩ : ByteArray), .int .i64 0, .int .i64 0]) (t := 35) ?hr ?_; (case hd => rfl); (case hg => rfl); (case hr => first | (go_simp; done) | (go_simp; rfl)); intro gb419 hg w96 hbox hb; have n0_ := Aside0.mk (blk_below (g := gb401) (o := .cells #[.int .i64 t395, .int .i64 t396, .string t397, .string t398, .int .i64 t399, .int .i64 t400] 35 (0, 0)) (bk_ BK401) hb); have n1_ := Aside0.mk (blk_below (g := gb410) (o := .cells #[.int .i64 t403, .int .i64 t404, .string t405, .string t406, .int .i64 t407, .int .i64 t408] 35 (0, 0)) (bk_ BK410) hb); have n2_ := Aside0.mk (below_step (by repeat (first | (with_reducible first | exact HB.out | apply below_alloc | apply pw_below_drewN | apply below_drew1 | refine below_set ?_ GE401.out | refine below_set ?_ GE410.out) | exact HB.out)) hb); have n3_ := Aside0.mk (hbox); have n4_ := Aside0.mk ((by rw [hg]; exact (below_size (by repeat (first | (with_reducible first | exact HB.out | apply below_alloc | apply pw_below_drewN | apply below_drew1 | refine below_set ?_ GE401.out | refine below_set ?_ GE410.out) | exact HB.out))) : w.heap.size ≤ gb419)); have n5_ := Aside0.mk ((by rw [hg]; exact (below_size (by repeat (first | (with_reducible first | exact HB.out | apply below_alloc | apply pw_below_drewN | apply below_drew1 | refine below_set ?_ GE401.out | refine below_set ?_ GE410.out) | exact HB.out))) : w.heap.size ≤ gb419)); have n6_ := Aside0.mk ((by rw [hg]; exact Nat.ne_of_lt (blk_lt (g := gb401) (o := .cells #[.int .i64 t395, .int .i64 t396, .string t397, .string t398, .int .i64 t399, .int .i64 t400] 35 (0, 0)) (bk_ BK401)) : gb401 ≠ gb419)); have n7_ := Aside0.mk ((by rw [hg]; exact Nat.ne_of_gt (blk_lt (g := gb401) (o := .cells #[.int .i64 t395, .int .i64 t396, .string t397, .string t398, .int .i64 t399, .int .i64 t400] 35 (0, 0)) (bk_ BK401)) : gb419 ≠ gb401)); have n8_ := Aside0.mk ((by rw [hg]; exact Nat.ne_of_lt (blk_lt (g := gb410) (o := .cells #[.int .i64 t403, .int .i64 t404, .string t405, .string t406, .int .i64 t407, .int .i64 t408] 35 (0, 0)) (bk_ BK410)) : gb410 ≠ gb419)); have n9_ := Aside0.mk ((by rw [hg]; exact Nat.ne_of_gt (blk_lt (g := gb410) (o := .cells #[.int .i64 t403, .int .i64 t404, .string t405, .string t406, .int .i64 t407, .int .i64 t408] 35 (0, 0)) (bk_ BK410)) : gb419 ≠ gb410)); clear BK401; clear BK410; clear HB; have BK401 := n0_; have BK410 := n1_; have HB := n2_; have BK419 := n3_; have GW419 := n4_; have GE419 := n5_; have NB401_419 := n6_; have NB419_401 := n7_; have NB410_419 := n8_; have NB419_410 := n9_; clear n0_ n1_ n2_ n3_ n4_ n5_ n6_ n7_ n8_ n9_; clear hb hbox hg; have hnb97 := NB419_401.out; have hnc97 := NB401_419.out; have hnb98 := NB419_410.out; have hnc98 := NB410_419.out; have hcz99_0 : w96.cell? ⟨gb419, 0, none⟩ = some (.int .i64 0) := (blk_cell BK419.out 0).trans rfl; have hcz99_1 : w96.cell? ⟨gb419, 1, none⟩ = some (.int .i64 0) := (blk_cell BK419.out 1).trans rfl; have hcz99_2 : w96.cell? ⟨gb419, 2, none⟩ = some (.string (⟨#[]⟩ : ByteArray)) := (blk_cell BK419.out 2).trans rfl; have hcz99_3 : w96.cell? ⟨gb419, 3, none⟩ = some (.string (⟨#[]⟩ : ByteArray)) := (blk_cell BK419.out 3).trans rfl; have hcz99_4 : w96.cell? ⟨gb419, 4, none⟩ = some (.int .i64 0) := (blk_cell BK419.out 4).trans rfl; have hcz99_5 : w96.cell? ⟨gb419, 5, none⟩ = some (.int .i64 0) := (blk_cell BK419.out 5).trans rfl; have hfz99_0 := blk_frozen BK419.out 0; have hfz99_1 := blk_frozen BK419.out 1; have hfz99_2 := blk_frozen BK419.out 2; have hfz99_3 := blk_frozen BK419.out 3; have hfz99_4 := blk_frozen BK419.out 4; have hfz99_5 := blk_frozen BK419.out 5))
        have n0_ : Aside0 (((((((w96.setCell ⟨gb419, 0, none⟩ (.int .i64 t412)).setCell ⟨gb419, 1, none⟩ (.int .i64 t413)).setCell ⟨gb419, 2, none⟩ (.string t414)).setCell ⟨gb419, 3, none⟩ (.string t415)).setCell ⟨gb419, 4, none⟩ (.int .i64 t416)).setCell ⟨gb419, 5, none⟩ (.int .i64 t417)).heap[gb401]? = some (.cells #[.int .i64 t395, .int .i64 t396, .string t397, .string t398, .int .i64 t399, .int .i64 t400] 35 (0, 0))) := ⟨by (with_reducible repeat (first | refine blk_drewN ?_ _ | refine blk_drew ?_ | refine blk_alloc ?_ _)); refine blk_far ?_ NB401_419.out _; (with_reducible repeat (first | refine blk_drewN ?_ _ | refine blk_drew ?_ | refine blk_alloc ?_ _)); refine blk_far ?_ NB401_419.out _; (with_reducible repeat (first | refine blk_drewN ?_ _ | refine blk_drew ?_ | refine blk_alloc ?_ _)); refine blk_far ?_ NB401_419.out _; (with_reducible repeat (first | refine blk_drewN ?_ _ | refine blk_drew ?_ | refine blk_alloc ?_ _)); refine blk_far ?_ NB401_419.out _; (with_reducible repeat (first | refine blk_drewN ?_ _ | refine blk_drew ?_ | refine blk_alloc ?_ _)); refine blk_far ?_ NB401_419.out _; (with_reducible repeat (first | refine blk_drewN ?_ _ | refine blk_drew ?_ | refine blk_alloc ?_ _)); refine blk_far ?_ NB401_419.out _; (with_reducible repeat (first | refine blk_drewN ?_ _ | refine blk_drew ?_ | refine blk_alloc ?_ _)); exact BK401.out⟩
        have n1_ : Aside0 (((((((w96.setCell ⟨gb419, 0, none⟩ (.int .i64 t412)).setCell ⟨gb419, 1, none⟩ (.int .i64 t413)).setCell ⟨gb419, 2, none⟩ (.string t414)).setCell ⟨gb419, 3, none⟩ (.string t415)).setCell ⟨gb419, 4, none⟩ (.int .i64 t416)).setCell ⟨gb419, 5, none⟩ (.int .i64 t417)).heap[gb410]? = some (.cells #[.int .i64 t403, .int .i64 t404, .string t405, .string t406, .int .i64 t407, .int .i64 t408] 35 (0, 0))) := ⟨by (with_reducible repeat (first | refine blk_drewN ?_ _ | refine blk_drew ?_ | refine blk_alloc ?_ _)); refine blk_far ?_ NB410_419.out _; (with_reducible repeat (first | refine blk_drewN ?_ _ | refine blk_drew ?_ | refine blk_alloc ?_ _)); refine blk_far ?_ NB410_419.out _; (with_reducible repeat (first | refine blk_drewN ?_ _ | refine blk_drew ?_ | refine blk_alloc ?_ _)); refine blk_far ?_ NB410_419.out _; (with_reducible repeat (first | refine blk_drewN ?_ _ | refine blk_drew ?_ | refine blk_alloc ?_ _)); refine blk_far ?_ NB410_419.out _; (with_reducible repeat (first | refine blk_drewN ?_ _ | refine blk_drew ?_ | refine blk_alloc ?_ _)); refine blk_far ?_ NB410_419.out _; (with_reducible repeat (first | refine blk_drewN ?_ _ | refine blk_drew ?_ | refine blk_alloc ?_ _)); refine blk_far ?_ NB410_419.out _; (with_reducible repeat (first | refine blk_drewN ?_ _ | refine blk_drew ?_ | refine blk_alloc ?_ _)); exact BK410.out⟩
        have n2_ : Aside0 (((((((w96.setCell ⟨gb419, 0, none⟩ (.int .i64 t412)).setCell ⟨gb419, 1, none⟩ (.int .i64 t413)).setCell ⟨gb419, 2, none⟩ (.string t414)).setCell ⟨gb419, 3, none⟩ (.string t415)).setCell ⟨gb419, 4, none⟩ (.int .i64 t416)).setCell ⟨gb419, 5, none⟩ (.int .i64 t417)).heap[gb419]? = some (.cells #[.int .i64 t412, .int .i64 t413, .string t414, .string t415, .int .i64 t416, .int .i64 t417] 35 (0, 0))) := ⟨by (with_reducible repeat (first | refine blk_drewN ?_ _ | refine blk_drew ?_ | refine blk_alloc ?_ _)); refine blk_put (cs := #[.int .i64 t412, .int .i64 t413, .string t414, .string t415, .int .i64 t416, .int .i64 0]) ?_ 5 _ rfl; (with_reducible repeat (first | refine blk_drewN ?_ _ | refine blk_drew ?_ | refine blk_alloc ?_ _)); refine blk_put (cs := #[.int .i64 t412, .int .i64 t413, .string t414, .string t415, .int .i64 0, .int .i64 0]) ?_ 4 _ rfl; (with_reducible repeat (first | refine blk_drewN ?_ _ | refine blk_drew ?_ | refine blk_alloc ?_ _)); refine blk_put (cs := #[.int .i64 t412, .int .i64 t413, .string t414, .string (⟨#[]⟩ : ByteArray), .int .i64 0, .int .i64 0]) ?_ 3 _ rfl; (with_reducible repeat (first | refine blk_drewN ?_ _ | refine blk_drew ?_ | refine blk_alloc ?_ _)); refine blk_put (cs := #[.int .i64 t412, .int .i64 t413, .string (⟨#[]⟩ : ByteArray), .string (⟨#[]⟩ : ByteArray), .int .i64 0, .int .i64 0]) ?_ 2 _ rfl; (with_reducible repeat (first | refine blk_drewN ?_ _ | refine blk_drew ?_ | refine blk_alloc ?_ _)); refine blk_put (cs := #[.int .i64 t412, .int .i64 0, .string (⟨#[]⟩ : ByteArray), .string (⟨#[]⟩ : ByteArray), .int .i64 0, .int .i64 0]) ?_ 1 _ rfl; (with_reducible repeat (first | refine blk_drewN ?_ _ | refine blk_drew ?_ | refine blk_alloc ?_ _)); refine blk_put (cs := #[.int .i64 0, .int .i64 0, .string (⟨#[]⟩ : ByteArray), .string (⟨#[]⟩ : ByteArray), .int .i64 0, .int .i64 0]) ?_ 0 _ rfl; (with_reducible repeat (first | refine blk_drewN ?_ _ | refine blk_drew ?_ | refine blk_alloc ?_ _)); exact BK419.out⟩
        have n3_ : Aside0 (Below w.heap.size w ((((((w96.setCell ⟨gb419, 0, none⟩ (.int .i64 t412)).setCell ⟨gb419, 1, none⟩ (.int .i64 t413)).setCell ⟨gb419, 2, none⟩ (.string t414)).setCell ⟨gb419, 3, none⟩ (.string t415)).setCell ⟨gb419, 4, none⟩ (.int .i64 t416)).setCell ⟨gb419, 5, none⟩ (.int .i64 t417))) := ⟨by repeat (first | (with_reducible first | exact HB.out | apply below_alloc | apply pw_below_drewN | apply below_drew1 | refine below_set ?_ GE401.out | refine below_set ?_ GE410.out | refine below_set ?_ GE419.out) | exact HB.out)⟩
        (try clear BK401)
        (try clear BK410)
        (try clear BK419)
        (try clear HB)
        generalize ((((((w96.setCell ⟨gb419, 0, none⟩ (.int .i64 t412)).setCell ⟨gb419, 1, none⟩ (.int .i64 t413)).setCell ⟨gb419, 2, none⟩ (.string t414)).setCell ⟨gb419, 3, none⟩ (.string t415)).setCell ⟨gb419, 4, none⟩ (.int .i64 t416)).setCell ⟨gb419, 5, none⟩ (.int .i64 t417)) = w100 at n0_ n1_ n2_ n3_ ⊢
        have BK401 := n0_
        have BK410 := n1_
        have BK419 := n2_
        have HB := n3_
        clear n0_ n1_ n2_ n3_
        have n0_ := Aside0.mk (blk_drew BK401.out)
        have n1_ := Aside0.mk (blk_drew BK410.out)
        have n2_ := Aside0.mk (blk_drew BK419.out)
        have n3_ := Aside0.mk (below_drew1 HB.out)
        clear BK401
        clear BK410
        clear BK419
        clear HB
        have BK401 := n0_
        have BK410 := n1_
        have BK419 := n2_
        have HB := n3_
        clear n0_ n1_ n2_ n3_
        refine start_ (n := 39) (S := fun w' => w'.cell? ⟨gb401, 0, none⟩ = some (.int .i64 t395) ∧ w'.cell? ⟨gb401, 1, none⟩ = some (.int .i64 t396) ∧ w'.cell? ⟨gb401, 2, none⟩ = some (.string t397) ∧ w'.cell? ⟨gb401, 3, none⟩ = some (.string t398) ∧ w'.cell? ⟨gb401, 4, none⟩ = some (.int .i64 t399) ∧ w'.cell? ⟨gb401, 5, none⟩ = some (.int .i64 t400) ∧ w'.cell? ⟨gb410, 0, none⟩ = some (.int .i64 t403) ∧ w'.cell? ⟨gb410, 1, none⟩ = some (.int .i64 t404) ∧ w'.cell? ⟨gb410, 2, none⟩ = some (.string t405) ∧ w'.cell? ⟨gb410, 3, none⟩ = some (.string t406) ∧ w'.cell? ⟨gb410, 4, none⟩ = some (.int .i64 t407) ∧ w'.cell? ⟨gb410, 5, none⟩ = some (.int .i64 t408)) (ds := []) #[o',o',o',o',o',o',o',o',o',o',o',o',o',o',o',o',o',o',o',o',o',o',o',o',o',o',o',o',o',o',o',o',o',o',o',o',o',o',o'] (by kernel_rfl) rfl rfl ⟨(blk_cell BK401.out 0).trans rfl, (blk_cell BK401.out 1).trans rfl, (blk_cell BK401.out 2).trans rfl, (blk_cell BK401.out 3).trans rfl, (blk_cell BK401.out 4).trans rfl, (blk_cell BK401.out 5).trans rfl, (blk_cell BK410.out 0).trans rfl, (blk_cell BK410.out 1).trans rfl, (blk_cell BK410.out 2).trans rfl, (blk_cell BK410.out 3).trans rfl, (blk_cell BK410.out 4).trans rfl, (blk_cell BK410.out 5).trans rfl⟩ (fun hHeld => ?_); refine with_tabW laws_FnRecords.tab8 laws_FnRecords.bits8 (fun HT_ HW_ => ?_)
        generalize w100.drew = w101 at BK401 BK410 BK419 HB hHeld ⊢
        refine pu_ (i := 0) (N := some 28) (v := ?_) (a' := ?_) #[i',o',o',o',o',o',o',o',o',o',o',o',o',o',o',o',o',o',o',o',o',o',o',o',o',o',o',o',o',o',o',o',o',o',o',o',o',o',o'] rfl rfl HT_ (Or.inl ⟨by rfl, ?_⟩) ?_ ?_
        rotate_left;·intro w';go_simp;with_reducible rfl
        rotate_left;·simp only [Act.put, la_, lz_, ls_, i64_w, i32_w];rfl
        refine pu_ (i := 1) (N := some 29) (v := ?_) (a' := ?_) #[i',i',o',o',o',o',o',o',o',o',o',o',o',o',o',o',o',o',o',o',o',o',o',o',o',o',o',o',o',o',o',o',o',o',o',o',o',o',o'] rfl rfl HT_ (Or.inl ⟨by rfl, ?_⟩) ?_ ?_
        rotate_left;·intro w';go_simp;with_reducible rfl
        rotate_left;·simp only [Act.put, la_, lz_, ls_, i64_w, i32_w];rfl
        refine take_ (i := 2) (N := some 30) (v := ?_) (a' := ?_) #[i',i',i',o',o',o',o',o',o',o',o',o',o',o',o',o',o',o',o',o',o',o',o',o',o',o',o',o',o',o',o',o',o',o',o',o',o',o',o'] rfl rfl (take_ofW HT_.out HW_.out (by kernel_rfl)) (fun _ _ _ h => h) (Or.inl ⟨by rfl, ?_⟩) hHeld ?_ ?_
        rotate_left
        ·rintro w' ⟨s0, s1, s2, s3, s4, s5, s6, s7, s8, s9, s10, s11⟩
         go_simp
         with_reducible rfl
        rotate_left
        ·simp only [Act.put, la_, lz_, ls_, i64_w, i32_w]
         rfl
        refine one_ (i := 3) (N := some 31) #[i',i',i',i',o',o',o',o',o',o',o',o',o',o',o',o',o',o',o',o',o',o',o',o',o',o',o',o',o',o',o',o',o',o',o',o',o',o',o'] rfl rfl (one_of HT_.out (by kernel_rfl)) (by decide) (fun K hK => ?_)
        refine goes_ Try.func47 (by kernel_rfl) rfl #[.agg #[.int .i64 t395, .int .i64 t396, .string t397, .string t398, .int .i64 t399, .int .i64 t400]] (by rfl) rfl rfl ar_ ?_
        with_reducible refine (spec_RecOk.calls k t395 t396 t397 t398 t399 t400 t420 _ A9.out).mono ?_
        rintro e w102 ⟨rfl, hb⟩
        refine ⟨_, rfl, ?_⟩
        have n0_ := Aside0.mk (blk_below (g := gb401) (o := .cells #[.int .i64 t395, .int .i64 t396, .string t397, .string t398, .int .i64 t399, .int .i64 t400] 35 (0, 0)) (bk_ BK401) hb)
        have n1_ := Aside0.mk (blk_below (g := gb410) (o := .cells #[.int .i64 t403, .int .i64 t404, .string t405, .string t406, .int .i64 t407, .int .i64 t408] 35 (0, 0)) (bk_ BK410) hb)
        have n2_ := Aside0.mk (blk_below (g := gb419) (o := .cells #[.int .i64 t412, .int .i64 t413, .string t414, .string t415, .int .i64 t416, .int .i64 t417] 35 (0, 0)) (bk_ BK419) hb)
        have n3_ := Aside0.mk (below_step (by repeat (first | (with_reducible first | exact HB.out | apply below_alloc | apply pw_below_drewN | apply below_drew1 | refine below_set ?_ GE401.out | refine below_set ?_ GE410.out | refine below_set ?_ GE419.out) | exact HB.out)) hb)
        clear BK401
        clear BK410
        clear BK419
        clear HB
        have BK401 := n0_
        have BK410 := n1_
        have BK419 := n2_
        have HB := n3_
        clear n0_ n1_ n2_ n3_
        (try clear hb)
        (try clear hb2)
        (try clear hk)
        (try clear hi)
        refine hK.out _ _ ⟨(blk_cell BK401.out 0).trans rfl, (blk_cell BK401.out 1).trans rfl, (blk_cell BK401.out 2).trans rfl, (blk_cell BK401.out 3).trans rfl, (blk_cell BK401.out 4).trans rfl, (blk_cell BK401.out 5).trans rfl, (blk_cell BK410.out 0).trans rfl, (blk_cell BK410.out 1).trans rfl, (blk_cell BK410.out 2).trans rfl, (blk_cell BK410.out 3).trans rfl, (blk_cell BK410.out 4).trans rfl, (blk_cell BK410.out 5).trans rfl⟩ (fun hHeld => ?_)
        clear hK K
        refine norm_ (a' := ?_) ?_ ?_
        rotate_left
        ·show Act.put _ (some 31) _ = _
         simp only [Act.put, la_, lz_, ls_, i64_w, i32_w]
         rfl
        refine pu_ (i := 4) (N := some 32) (v := ?_) (a' := ?_) #[i',i',i',i',i',o',o',o',o',o',o',o',o',o',o',o',o',o',o',o',o',o',o',o',o',o',o',o',o',o',o',o',o',o',o',o',o',o',o'] rfl rfl HT_ (Or.inl ⟨by rfl, ?_⟩) ?_ ?_
        rotate_left;·intro w';go_simp;with_reducible rfl
        rotate_left;·simp only [Act.put, la_, lz_, ls_, i64_w, i32_w];rfl
        refine pu_ (i := 5) (N := some 33) (v := ?_) (a' := ?_) #[i',i',i',i',i',i',o',o',o',o',o',o',o',o',o',o',o',o',o',o',o',o',o',o',o',o',o',o',o',o',o',o',o',o',o',o',o',o',o'] rfl rfl HT_ (Or.inl ⟨by rfl, ?_⟩) ?_ ?_
        rotate_left;·intro w';go_simp;with_reducible rfl
        rotate_left;·simp only [Act.put, la_, lz_, ls_, i64_w, i32_w];rfl
        refine take_ (i := 6) (N := some 34) (v := ?_) (a' := ?_) #[i',i',i',i',i',i',i',o',o',o',o',o',o',o',o',o',o',o',o',o',o',o',o',o',o',o',o',o',o',o',o',o',o',o',o',o',o',o',o'] rfl rfl (take_ofW HT_.out HW_.out (by kernel_rfl)) (fun _ _ _ h => h) (Or.inl ⟨by rfl, ?_⟩) hHeld ?_ ?_
        rotate_left
        ·rintro w' ⟨s0, s1, s2, s3, s4, s5, s6, s7, s8, s9, s10, s11⟩
         go_simp
         with_reducible rfl
        rotate_left
        ·simp only [Act.put, la_, lz_, ls_, i64_w, i32_w]
         rfl
        refine take_ (i := 8) (N := some 36) (v := ?_) (a' := ?_) #[i',i',i',i',i',i',i',o',i',o',o',o',o',o',o',o',o',o',o',o',o',o',o',o',o',o',o',o',o',o',o',o',o',o',o',o',o',o',o'] rfl rfl (take_ofW HT_.out HW_.out (by kernel_rfl)) (fun _ _ _ h => h) (Or.inl ⟨by rfl, ?_⟩) hHeld ?_ ?_
        rotate_left
        ·rintro w' ⟨s0, s1, s2, s3, s4, s5, s6, s7, s8, s9, s10, s11⟩
         go_simp
         with_reducible rfl
        rotate_left
        ·simp only [Act.put, la_, lz_, ls_, i64_w, i32_w]
         rfl
        refine one_ (i := 7) (N := some 35) #[i',i',i',i',i',i',i',i',i',o',o',o',o',o',o',o',o',o',o',o',o',o',o',o',o',o',o',o',o',o',o',o',o',o',o',o',o',o',o'] rfl rfl (one_of HT_.out (by kernel_rfl)) (by decide) (fun K hK => ?_)
        refine goes_ Try.func48 (by kernel_rfl) rfl #[.agg #[.int .i64 t395, .int .i64 t396, .string t397, .string t398, .int .i64 t399, .int .i64 t400]] (by rfl) rfl rfl ar_ ?_
        with_reducible refine (impl_RecOk.calls k t395 t396 t397 t398 t399 t400 t421 _ A11.out).mono ?_
        rintro e w103 ⟨rfl, hb⟩
        refine ⟨_, rfl, ?_⟩
        have n0_ := Aside0.mk (blk_below (g := gb401) (o := .cells #[.int .i64 t395, .int .i64 t396, .string t397, .string t398, .int .i64 t399, .int .i64 t400] 35 (0, 0)) (bk_ BK401) hb)
        have n1_ := Aside0.mk (blk_below (g := gb410) (o := .cells #[.int .i64 t403, .int .i64 t404, .string t405, .string t406, .int .i64 t407, .int .i64 t408] 35 (0, 0)) (bk_ BK410) hb)
        have n2_ := Aside0.mk (blk_below (g := gb419) (o := .cells #[.int .i64 t412, .int .i64 t413, .string t414, .string t415, .int .i64 t416, .int .i64 t417] 35 (0, 0)) (bk_ BK419) hb)
        have n3_ := Aside0.mk (below_step (by repeat (first | (with_reducible first | exact HB.out | apply below_alloc | apply pw_below_drewN | apply below_drew1 | refine below_set ?_ GE401.out | refine below_set ?_ GE410.out | refine below_set ?_ GE419.out) | exact HB.out)) hb)
        clear BK401
        clear BK410
        clear BK419
        clear HB
        have BK401 := n0_
        have BK410 := n1_
        have BK419 := n2_
        have HB := n3_
        clear n0_ n1_ n2_ n3_
        (try clear hb)
        (try clear hb2)
        (try clear hk)
        (try clear hi)
        refine hK.out _ _ ⟨(blk_cell BK401.out 0).trans rfl, (blk_cell BK401.out 1).trans rfl, (blk_cell BK401.out 2).trans rfl, (blk_cell BK401.out 3).trans rfl, (blk_cell BK401.out 4).trans rfl, (blk_cell BK401.out 5).trans rfl, (blk_cell BK410.out 0).trans rfl, (blk_cell BK410.out 1).trans rfl, (blk_cell BK410.out 2).trans rfl, (blk_cell BK410.out 3).trans rfl, (blk_cell BK410.out 4).trans rfl, (blk_cell BK410.out 5).trans rfl⟩ (fun hHeld => ?_)
        clear hK K
        refine norm_ (a' := ?_) ?_ ?_
        rotate_left
        ·show Act.put _ (some 35) _ = _
         simp only [Act.put, la_, lz_, ls_, i64_w, i32_w]
         rfl
        refine one_ (i := 9) (N := some 37) #[i',i',i',i',i',i',i',i',i',i',o',o',o',o',o',o',o',o',o',o',o',o',o',o',o',o',o',o',o',o',o',o',o',o',o',o',o',o',o'] rfl rfl (one_of HT_.out (by kernel_rfl)) (by decide) (fun K hK => ?_)
        refine goes_ Try.func47 (by kernel_rfl) rfl #[.agg #[.int .i64 t395, .int .i64 t396, .string t397, .string t398, .int .i64 t399, .int .i64 t400]] (by rfl) rfl rfl ar_ ?_
        with_reducible refine (spec_RecOk.calls k t395 t396 t397 t398 t399 t400 t422 _ A12.out).mono ?_
        rintro e w104 ⟨rfl, hb⟩
        refine ⟨_, rfl, ?_⟩
        have n0_ := Aside0.mk (blk_below (g := gb401) (o := .cells #[.int .i64 t395, .int .i64 t396, .string t397, .string t398, .int .i64 t399, .int .i64 t400] 35 (0, 0)) (bk_ BK401) hb)
        have n1_ := Aside0.mk (blk_below (g := gb410) (o := .cells #[.int .i64 t403, .int .i64 t404, .string t405, .string t406, .int .i64 t407, .int .i64 t408] 35 (0, 0)) (bk_ BK410) hb)
        have n2_ := Aside0.mk (blk_below (g := gb419) (o := .cells #[.int .i64 t412, .int .i64 t413, .string t414, .string t415, .int .i64 t416, .int .i64 t417] 35 (0, 0)) (bk_ BK419) hb)
        have n3_ := Aside0.mk (below_step (by repeat (first | (with_reducible first | exact HB.out | apply below_alloc | apply pw_below_drewN | apply below_drew1 | refine below_set ?_ GE401.out | refine below_set ?_ GE410.out | refine below_set ?_ GE419.out) | exact HB.out)) hb)
        clear BK401
        clear BK410
        clear BK419
        clear HB
        have BK401 := n0_
        have BK410 := n1_
        have BK419 := n2_
        have HB := n3_
        clear n0_ n1_ n2_ n3_
        (try clear hb)
        (try clear hb2)
        (try clear hk)
        (try clear hi)
        refine hK.out _ _ ⟨(blk_cell BK401.out 0).trans rfl, (blk_cell BK401.out 1).trans rfl, (blk_cell BK401.out 2).trans rfl, (blk_cell BK401.out 3).trans rfl, (blk_cell BK401.out 4).trans rfl, (blk_cell BK401.out 5).trans rfl, (blk_cell BK410.out 0).trans rfl, (blk_cell BK410.out 1).trans rfl, (blk_cell BK410.out 2).trans rfl, (blk_cell BK410.out 3).trans rfl, (blk_cell BK410.out 4).trans rfl, (blk_cell BK410.out 5).trans rfl⟩ (fun hHeld => ?_)
        clear hK K
        refine norm_ (a' := ?_) ?_ ?_
        rotate_left
        ·show Act.put _ (some 37) _ = _
         simp only [Act.put, la_, lz_, ls_, i64_w, i32_w]
         rfl
        refine pu_ (i := 10) (N := some 38) (v := ?_) (a' := ?_) #[i',i',i',i',i',i',i',i',i',i',i',o',o',o',o',o',o',o',o',o',o',o',o',o',o',o',o',o',o',o',o',o',o',o',o',o',o',o',o'] rfl rfl HT_ (Or.inl ⟨by rfl, ?_⟩) ?_ ?_
        rotate_left;·intro w';go_simp;with_reducible rfl
        rotate_left;·simp only [Act.put, la_, lz_, ls_, i64_w, i32_w];rfl
        refine pu_ (i := 11) (N := some 39) (v := ?_) (a' := ?_) #[i',i',i',i',i',i',i',i',i',i',i',i',o',o',o',o',o',o',o',o',o',o',o',o',o',o',o',o',o',o',o',o',o',o',o',o',o',o',o'] rfl rfl HT_ (Or.inl ⟨by rfl, ?_⟩) ?_ ?_
        rotate_left;·intro w';go_simp;with_reducible rfl
        rotate_left;·simp only [Act.put, la_, lz_, ls_, i64_w, i32_w];rfl
        refine pu_ (i := 12) (N := some 40) (v := ?_) (a' := ?_) #[i',i',i',i',i',i',i',i',i',i',i',i',i',o',o',o',o',o',o',o',o',o',o',o',o',o',o',o',o',o',o',o',o',o',o',o',o',o',o'] rfl rfl HT_ (Or.inl ⟨by rfl, ?_⟩) ?_ ?_
        rotate_left;·intro w';go_simp;with_reducible rfl
        rotate_left;·simp only [Act.put, la_, lz_, ls_, i64_w, i32_w];rfl
        refine pu_ (i := 13) (N := some 41) (v := ?_) (a' := ?_) #[i',i',i',i',i',i',i',i',i',i',i',i',i',i',o',o',o',o',o',o',o',o',o',o',o',o',o',o',o',o',o',o',o',o',o',o',o',o',o'] rfl rfl HT_ (Or.inl ⟨by rfl, ?_⟩) ?_ ?_
        rotate_left;·intro w';go_simp;with_reducible rfl
        rotate_left;·simp only [Act.put, la_, lz_, ls_, i64_w, i32_w];rfl
        refine pu_ (i := 14) (N := some 42) (v := ?_) (a' := ?_) #[i',i',i',i',i',i',i',i',i',i',i',i',i',i',i',o',o',o',o',o',o',o',o',o',o',o',o',o',o',o',o',o',o',o',o',o',o',o',o'] rfl rfl HT_ (Or.inl ⟨by rfl, ?_⟩) ?_ ?_
        rotate_left;·intro w';go_simp;with_reducible rfl
        rotate_left;·simp only [Act.put, la_, lz_, ls_, i64_w, i32_w];rfl
        refine pu_ (i := 15) (N := some 43) (v := ?_) (a' := ?_) #[i',i',i',i',i',i',i',i',i',i',i',i',i',i',i',i',o',o',o',o',o',o',o',o',o',o',o',o',o',o',o',o',o',o',o',o',o',o',o'] rfl rfl HT_ (Or.inl ⟨by rfl, ?_⟩) ?_ ?_
        rotate_left;·intro w';go_simp;with_reducible rfl
        rotate_left;·simp only [Act.put, la_, lz_, ls_, i64_w, i32_w];rfl
        refine pu_ (i := 16) (N := some 44) (v := ?_) (a' := ?_) #[i',i',i',i',i',i',i',i',i',i',i',i',i',i',i',i',i',o',o',o',o',o',o',o',o',o',o',o',o',o',o',o',o',o',o',o',o',o',o'] rfl rfl HT_ (Or.inl ⟨by rfl, ?_⟩) ?_ ?_
        rotate_left;·intro w';go_simp;with_reducible rfl
        rotate_left;·simp only [Act.put, la_, lz_, ls_, i64_w, i32_w];rfl
        refine pu_ (i := 17) (N := some 45) (v := ?_) (a' := ?_) #[i',i',i',i',i',i',i',i',i',i',i',i',i',i',i',i',i',i',o',o',o',o',o',o',o',o',o',o',o',o',o',o',o',o',o',o',o',o',o'] rfl rfl HT_ (Or.inl ⟨by rfl, ?_⟩) ?_ ?_
        rotate_left;·intro w';go_simp;with_reducible rfl
        rotate_left;·simp only [Act.put, la_, lz_, ls_, i64_w, i32_w];rfl
        refine take_ (i := 18) (N := some 46) (v := ?_) (a' := ?_) #[i',i',i',i',i',i',i',i',i',i',i',i',i',i',i',i',i',i',i',o',o',o',o',o',o',o',o',o',o',o',o',o',o',o',o',o',o',o',o'] rfl rfl (take_ofW HT_.out HW_.out (by kernel_rfl)) (fun _ _ _ h => h) (Or.inl ⟨by rfl, ?_⟩) hHeld ?_ ?_
        rotate_left
        ·rintro w' ⟨s0, s1, s2, s3, s4, s5, s6, s7, s8, s9, s10, s11⟩
         go_simp
         with_reducible rfl
        rotate_left
        ·simp only [Act.put, la_, lz_, ls_, i64_w, i32_w]
         rfl
        refine take_ (i := 19) (N := some 47) (v := ?_) (a' := ?_) #[i',i',i',i',i',i',i',i',i',i',i',i',i',i',i',i',i',i',i',i',o',o',o',o',o',o',o',o',o',o',o',o',o',o',o',o',o',o',o'] rfl rfl (take_ofW HT_.out HW_.out (by kernel_rfl)) (fun _ _ _ h => h) (Or.inl ⟨by rfl, ?_⟩) hHeld ?_ ?_
        rotate_left
        ·rintro w' ⟨s0, s1, s2, s3, s4, s5, s6, s7, s8, s9, s10, s11⟩
         go_simp
         with_reducible rfl
        rotate_left
        ·simp only [Act.put, la_, lz_, ls_, i64_w, i32_w]
         rfl
        refine pu_ (i := 20) (N := some 48) (v := ?_) (a' := ?_) #[i',i',i',i',i',i',i',i',i',i',i',i',i',i',i',i',i',i',i',i',i',o',o',o',o',o',o',o',o',o',o',o',o',o',o',o',o',o',o'] rfl rfl HT_ (Or.inl ⟨by rfl, ?_⟩) ?_ ?_
        rotate_left;·intro w';go_simp;with_reducible rfl
        rotate_left;·simp only [Act.put, la_, lz_, ls_, i64_w, i32_w];rfl
        refine pu_ (i := 21) (N := some 49) (v := ?_) (a' := ?_) #[i',i',i',i',i',i',i',i',i',i',i',i',i',i',i',i',i',i',i',i',i',i',o',o',o',o',o',o',o',o',o',o',o',o',o',o',o',o',o'] rfl rfl HT_ (Or.inl ⟨by rfl, ?_⟩) ?_ ?_
        rotate_left;·intro w';go_simp;with_reducible rfl
        rotate_left;·simp only [Act.put, la_, lz_, ls_, i64_w, i32_w];rfl
        refine pu_ (i := 22) (N := some 50) (v := ?_) (a' := ?_) #[i',i',i',i',i',i',i',i',i',i',i',i',i',i',i',i',i',i',i',i',i',i',i',o',o',o',o',o',o',o',o',o',o',o',o',o',o',o',o'] rfl rfl HT_ (Or.inl ⟨by rfl, ?_⟩) ?_ ?_
        rotate_left;·intro w';go_simp;with_reducible rfl
        rotate_left;·simp only [Act.put, la_, lz_, ls_, i64_w, i32_w];rfl
        refine pu_ (i := 23) (N := some 51) (v := ?_) (a' := ?_) #[i',i',i',i',i',i',i',i',i',i',i',i',i',i',i',i',i',i',i',i',i',i',i',i',o',o',o',o',o',o',o',o',o',o',o',o',o',o',o'] rfl rfl HT_ (Or.inl ⟨by rfl, ?_⟩) ?_ ?_
        rotate_left;·intro w';go_simp;with_reducible rfl
        rotate_left;·simp only [Act.put, la_, lz_, ls_, i64_w, i32_w];rfl
        refine pu_ (i := 24) (N := some 52) (v := ?_) (a' := ?_) #[i',i',i',i',i',i',i',i',i',i',i',i',i',i',i',i',i',i',i',i',i',i',i',i',i',o',o',o',o',o',o',o',o',o',o',o',o',o',o'] rfl rfl HT_ (Or.inl ⟨by rfl, ?_⟩) ?_ ?_
        rotate_left;·intro w';go_simp;with_reducible rfl
        rotate_left;·simp only [Act.put, la_, lz_, ls_, i64_w, i32_w];rfl
        refine pu_ (i := 25) (N := some 53) (v := ?_) (a' := ?_) #[i',i',i',i',i',i',i',i',i',i',i',i',i',i',i',i',i',i',i',i',i',i',i',i',i',i',o',o',o',o',o',o',o',o',o',o',o',o',o'] rfl rfl HT_ (Or.inl ⟨by rfl, ?_⟩) ?_ ?_
        rotate_left;·intro w';go_simp;with_reducible rfl
        rotate_left;·simp only [Act.put, la_, lz_, ls_, i64_w, i32_w];rfl
        refine pu_ (i := 26) (N := some 54) (v := ?_) (a' := ?_) #[i',i',i',i',i',i',i',i',i',i',i',i',i',i',i',i',i',i',i',i',i',i',i',i',i',i',i',o',o',o',o',o',o',o',o',o',o',o',o'] rfl rfl HT_ (Or.inl ⟨by rfl, ?_⟩) ?_ ?_
        rotate_left;·intro w';go_simp;with_reducible rfl
        rotate_left;·simp only [Act.put, la_, lz_, ls_, i64_w, i32_w];rfl
        refine pu_ (i := 27) (N := some 55) (v := ?_) (a' := ?_) #[i',i',i',i',i',i',i',i',i',i',i',i',i',i',i',i',i',i',i',i',i',i',i',i',i',i',i',i',o',o',o',o',o',o',o',o',o',o',o'] rfl rfl HT_ (Or.inl ⟨by rfl, ?_⟩) ?_ ?_
        rotate_left;·intro w';go_simp;with_reducible rfl
        rotate_left;·simp only [Act.put, la_, lz_, ls_, i64_w, i32_w];rfl
        refine pure_ (i := 28) (N := some 56) (v := undef) (a' := ?_) #[i',i',i',i',i',i',i',i',i',i',i',i',i',i',i',i',i',i',i',i',i',i',i',i',i',i',i',i',i',o',o',o',o',o',o',o',o',o',o'] rfl rfl (any_of HT_.out (by kernel_rfl)) (fun _ _ _ h => h) (Or.inr ⟨by rfl, rfl⟩) ?_ ?_
        rotate_left
        ·simp only [Act.put, la_, lz_, ls_, i64_w, i32_w]
         rfl
        refine pure_ (i := 29) (N := some 57) (v := undef) (a' := ?_) #[i',i',i',i',i',i',i',i',i',i',i',i',i',i',i',i',i',i',i',i',i',i',i',i',i',i',i',i',i',i',o',o',o',o',o',o',o',o',o'] rfl rfl (any_of HT_.out (by kernel_rfl)) (fun _ _ _ h => h) (Or.inr ⟨by rfl, rfl⟩) ?_ ?_
        rotate_left
        ·simp only [Act.put, la_, lz_, ls_, i64_w, i32_w]
         rfl
        refine pure_ (i := 30) (N := some 58) (v := undef) (a' := ?_) #[i',i',i',i',i',i',i',i',i',i',i',i',i',i',i',i',i',i',i',i',i',i',i',i',i',i',i',i',i',i',i',o',o',o',o',o',o',o',o'] rfl rfl (any_of HT_.out (by kernel_rfl)) (fun _ _ _ h => h) (Or.inr ⟨by rfl, rfl⟩) ?_ ?_
        rotate_left
        ·simp only [Act.put, la_, lz_, ls_, i64_w, i32_w]
         rfl
        refine pure_ (i := 31) (N := some 59) (v := undef) (a' := ?_) #[i',i',i',i',i',i',i',i',i',i',i',i',i',i',i',i',i',i',i',i',i',i',i',i',i',i',i',i',i',i',i',i',o',o',o',o',o',o',o'] rfl rfl (any_of HT_.out (by kernel_rfl)) (fun _ _ _ h => h) (Or.inr ⟨by rfl, rfl⟩) ?_ ?_
        rotate_left
        ·simp only [Act.put, la_, lz_, ls_, i64_w, i32_w]
         rfl
        refine pure_ (i := 32) (N := some 60) (v := undef) (a' := ?_) #[i',i',i',i',i',i',i',i',i',i',i',i',i',i',i',i',i',i',i',i',i',i',i',i',i',i',i',i',i',i',i',i',i',o',o',o',o',o',o'] rfl rfl (any_of HT_.out (by kernel_rfl)) (fun _ _ _ h => h) (Or.inr ⟨by rfl, rfl⟩) ?_ ?_
        rotate_left
        ·simp only [Act.put, la_, lz_, ls_, i64_w, i32_w]
         rfl
        refine pure_ (i := 33) (N := some 61) (v := undef) (a' := ?_) #[i',i',i',i',i',i',i',i',i',i',i',i',i',i',i',i',i',i',i',i',i',i',i',i',i',i',i',i',i',i',i',i',i',i',o',o',o',o',o'] rfl rfl (any_of HT_.out (by kernel_rfl)) (fun _ _ _ h => h) (Or.inr ⟨by rfl, rfl⟩) ?_ ?_
        rotate_left
        ·simp only [Act.put, la_, lz_, ls_, i64_w, i32_w]
         rfl
        refine pure_ (i := 34) (N := some 62) (v := undef) (a' := ?_) #[i',i',i',i',i',i',i',i',i',i',i',i',i',i',i',i',i',i',i',i',i',i',i',i',i',i',i',i',i',i',i',i',i',i',i',o',o',o',o'] rfl rfl (any_of HT_.out (by kernel_rfl)) (fun _ _ _ h => h) (Or.inr ⟨by rfl, rfl⟩) ?_ ?_
        rotate_left
        ·simp only [Act.put, la_, lz_, ls_, i64_w, i32_w]
         rfl
        refine pure_ (i := 35) (N := some 63) (v := undef) (a' := ?_) #[i',i',i',i',i',i',i',i',i',i',i',i',i',i',i',i',i',i',i',i',i',i',i',i',i',i',i',i',i',i',i',i',i',i',i',i',o',o',o'] rfl rfl (any_of HT_.out (by kernel_rfl)) (fun _ _ _ h => h) (Or.inr ⟨by rfl, rfl⟩) ?_ ?_
        rotate_left
        ·simp only [Act.put, la_, lz_, ls_, i64_w, i32_w]
         rfl
        refine pu_ (i := 36) (N := some 64) (v := ?_) (a' := ?_) #[i',i',i',i',i',i',i',i',i',i',i',i',i',i',i',i',i',i',i',i',i',i',i',i',i',i',i',i',i',i',i',i',i',i',i',i',i',o',o'] rfl rfl HT_ (Or.inl ⟨by rfl, ?_⟩) ?_ ?_
        rotate_left;·intro w';go_simp;with_reducible rfl
        rotate_left;·simp only [Act.put, la_, lz_, ls_, i64_w, i32_w];rfl
        refine pu_ (i := 37) (N := some 65) (v := ?_) (a' := ?_) #[i',i',i',i',i',i',i',i',i',i',i',i',i',i',i',i',i',i',i',i',i',i',i',i',i',i',i',i',i',i',i',i',i',i',i',i',i',i',o'] rfl rfl HT_ (Or.inl ⟨by rfl, ?_⟩) ?_ ?_
        rotate_left;·intro w';go_simp;with_reducible rfl
        rotate_left;·simp only [Act.put, la_, lz_, ls_, i64_w, i32_w];rfl
        refine pu_ (i := 38) (N := some 2) (v := ?_) (a' := ?_) #[i',i',i',i',i',i',i',i',i',i',i',i',i',i',i',i',i',i',i',i',i',i',i',i',i',i',i',i',i',i',i',i',i',i',i',i',i',i',i'] rfl rfl HT_ (Or.inl ⟨by rfl, ?_⟩) ?_ ?_
        rotate_left;·intro w';go_simp;with_reducible rfl
        rotate_left;·simp only [Act.put, la_, lz_, ls_, i64_w, i32_w];rfl
        refine done_ (done_of HT_.out (by kernel_rfl)) ?_
        try go_wp2
        go_ret
        exact ⟨re_, by repeat (first | (with_reducible first | exact HB.out | apply below_alloc | apply pw_below_drewN | apply below_drew1 | refine below_set ?_ GE401.out | refine below_set ?_ GE410.out | refine below_set ?_ GE419.out) | exact HB.out)⟩
      ·rw [if_neg c60] at H
       have c60b0 : (t403 == t395 && (t404 == t396 && (t405.toList == t397.toList && (t406.toList == t398.toList && (t407 == t399 && (t408 == t400)))))) = false := by simpa using c60
       (try (have c60b1 : decide (t403 = t395 && (t404 == t396 && (t405.toList == t397.toList && (t406.toList == t398.toList && (t407 == t399 && (t408 == t400)))))) = false := by simpa using c60))
       (try (have c60b2 : (t403 == t395 && (t404 == t396 && (t405.toList == t397.toList && (t406.toList == t398.toList && (t407 == t399 && (t408 == t400)))))) = false := by simpa using c60))
       (try (have c60b3 : ¬ (t403 = t395 && (t404 == t396 && (t405.toList == t397.toList && (t406.toList == t398.toList && (t407 == t399 && (t408 == t400)))))) := by simpa using c60))
       clear c60
       exact absurd ((Option.some.inj H).trans HRT.out) (by decide)
     ·replace c59 := Bool.eq_false_iff.mpr c59
      subst c59
      have H1 : (some false) = some r := by rw [if_neg (show ¬ (false = true) by decide)] at H; exact H
      clear H
      have H := H1
      clear H1
      exact absurd ((Option.some.inj H).trans HRT.out) (by decide)
   ·rw [if_neg c13] at H
    have c13b0 : (t421 == t422) = false := by simpa using c13
    (try (have c13b1 : decide (t421 = t422) = false := by simpa using c13))
    (try (have c13b2 : (t421 == t422) = false := by simpa using c13))
    (try (have c13b3 : ¬ (t421 = t422) := by simpa using c13))
    clear c13
    exact absurd ((Option.some.inj H).trans HRT.out) (by decide)
  ·rw [if_neg c10] at H
   have c10b0 : ((t402.toList != ([] : List UInt8)) == t420) = false := by simpa using c10
   (try (have c10b1 : decide ((t402.toList != ([] : List UInt8)) = t420) = false := by simpa using c10))
   (try (have c10b2 : ((t402.toList != ([] : List UInt8)) == t420) = false := by simpa using c10))
   (try (have c10b3 : ¬ ((t402.toList != ([] : List UInt8)) = t420) := by simpa using c10))
   clear c10
   exact absurd ((Option.some.inj H).trans HRT.out) (by decide)

/-- THE ONE PURE STATEMENT of laws_FnRecords: yours. -/
def laws_FnRecords.Pure : Prop := ∀ (l0 : List Int), l0.length ≤ maxLen → l0.length * 1 ≤ 140737488351232 → (∀ x ∈ l0, (Lit.int .u8 x).wf = true) → ∃ k, laws_FnRecords.f k l0 = some true
theorem laws_FnRecords.walk (P : laws_FnRecords.Pure) (a0 : Option Addr) (len0 cap0 : Nat) (z0 : List Int) (w : World) (w0 : (a0 = none ∧ len0 = 0 ∧ cap0 = 0 ∧ z0 = []) ∨ ∃ x, a0 = some x ∧ len0 ≤ cap0 ∧ cap0 ≤ maxLen ∧ z0.length = cap0 ∧ (∀ i, i < z0.length → w.cell? (x.add i) = some (.int .u8 (z0.getD i 0))) ∧ ∀ n ∈ z0, (Lit.int .u8 n).wf = true) (y0 : len0 * 1 ≤ 140737488351232) :
  Calls Try.prog 9 #[.slice a0 len0 cap0] w fun e w' => e = .returned (.bool true) ∧ Below w.heap.size w w' := by
 obtain ⟨l0, rfl, hr0, hm0, hw0, hc0⟩ := ReadsInt.ofRowC w0
 obtain ⟨k, h⟩ := P l0 hm0 y0 hw0
 refine (laws_FnRecords.calls k _ _ l0 true w (Kd.C_of_reads (d := (0 : Int)) (h1 := fun _ => rfl) hr0) hc0 rfl h).mono ?_
 rintro e w' ⟨rfl, hd⟩
 exact ⟨rfl, hd⟩

end Go.Proofs.Ytebeafcdabkkfaa.PFnRecords
