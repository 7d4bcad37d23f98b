-- Laid by a program of this session, a copy of the kit's printer with additions (wip/patch_print.py): myhead. Lean checks it.
import Derived.Test.YtnjmehiploelnaaPFnFramesx0
import Derived.Test.YtnjmehiploelnaaPFnFramesx1
import Derived.Test.YtnjmehiploelnaaPFnFramesx2
import Derived.Test.YtnjmehiploelnaaPFnFramesx3
import Derived.Test.YtnjmehiploelnaaPFnFramesx4
import Derived.Test.YtnjmehiploelnaaPFnFramesx10
import Derived.Test.YtnjmehiploelnaaPFnFramesx12
import Derived.Test.YtnjmehiploelnaaPFnFramesx15
namespace Go.Proofs.Ytnjmehiploelnaa.PFnFrames
open Go.RowKit Go.Proofs.YtnjmehiploelnaaW.PrintWords Go.Proofs.YtnjmehiploelnaaW.PrintLast Go.Proofs.YtnjmehiploelnaaW.PrintMore
attribute [local go_sem] max2_int min2_int max_two min_two max_three min_three max_four min_four   -- for this text's walks alone
set_option linter.unusedVariables false
set_option linter.unusedSimpArgs false

attribute [local go_sem high] eqA33 eqA37
/-! ### laws_FnFrames: function 3 -/
mutual
def laws_FnFrames.j0 : Nat → List Int → Bool → Option (Bool)
 | 0, _, _ => none
 | k + 1, x0, x50 => if x50 = true then (some false) else ((spec_DrawScanRecs.f k x0).bind fun t441 => ((impl_ScanRecs.f k t441).bind fun bt442 => ((spec_ScanRecs.f k t441).bind fun bt446 => (if bt442.2 = bt446.2 then (laws_FnFrames.j1 k x0 t441 bt442.1 bt446.1 ((bt442.1.length : Int) != (bt446.1.length : Int))) else (laws_FnFrames.j1 k x0 t441 bt442.1 bt446.1 true)))))
def laws_FnFrames.j1 : Nat → List Int → ByteArray → List (S37) → List (S37) → Bool → Option (Bool)
 | 0, _, _, _, _, _ => none
 | k + 1, x0, x7, x8, x10, x72 => if x72 = true then (some false) else (if (x7.size : Int) > 0 then ((laws_at.f x0 0).bind fun t450 => ((laws_at.f x0 1).bind fun t451 => (if (wrap64 ((x7.size : Int) + 1)) = 0 then (none) else (laws_FnFrames.j2 k x7 x8 x10 (Int.tmod (wrap64 ((wrap64 (t450 * 256)) + t451)) (wrap64 ((x7.size : Int) + 1))))))) else (laws_FnFrames.j2 k x7 x8 x10 0))
def laws_FnFrames.j2 : Nat → ByteArray → List (S37) → List (S37) → Int → Option (Bool)
 | 0, _, _, _, _ => none
 | k + 1, x7, x8, x10, x12 => if 0 ≤ x12 then (if x12 ≤ (x7.size : Int) then ((impl_ScanRecs.f k (x7.extract 0 (x12 : Int).toNat)).bind fun bt452 => (if bt452.2 > x12 then (laws_FnFrames.j3 k x7 x8 x10 bt452.1 true) else (laws_FnFrames.j3 k x7 x8 x10 bt452.1 (decide ((bt452.1.length : Int) > (x8.length : Int)))))) else (none)) else (none)
def laws_FnFrames.j3 : Nat → ByteArray → List (S37) → List (S37) → List (S37) → Bool → Option (Bool)
 | 0, _, _, _, _, _ => none
 | k + 1, x7, x8, x10, x13, x102 => if x102 = true then (some false) else (laws_FnFrames.l0 k x7 x8 x10 x13 0)
def laws_FnFrames.l0 : Nat → ByteArray → List (S37) → List (S37) → List (S37) → Int → Option (Bool)
 | 0, _, _, _, _, _ => none
 | k + 1, x7, x8, x10, x13, x15 => if x15 < (x8.length : Int) then (if 0 ≤ x15 then ((impl_RecAt.f k x7 ((rd_T37 x8 x15).f0) ((rd_T37 x8 x15).f1)).bind fun bt458 => (if x15 < (x10.length : Int) then (if (!(((rd_T37 x8 x15).f0) == ((rd_T37 x10 x15).f0)) || (!(((rd_T37 x8 x15).f1) == ((rd_T37 x10 x15).f1)) || ((!(((rd_T37 x8 x15).f2.f0) == ((rd_T37 x10 x15).f2.f0)) || (!(((rd_T37 x8 x15).f2.f1) == ((rd_T37 x10 x15).f2.f1)) || (!((((rd_T37 x8 x15).f2.f2).toList) == (((rd_T37 x10 x15).f2.f2).toList)) || (!((((rd_T37 x8 x15).f2.f3).toList) == (((rd_T37 x10 x15).f2.f3).toList)) || (!(((rd_T37 x8 x15).f2.f4) == ((rd_T37 x10 x15).f2.f4)) || (!(((rd_T37 x8 x15).f2.f5) == ((rd_T37 x10 x15).f2.f5))))))))))) = true then (laws_FnFrames.j5 k x7 x8 x10 x13 x15 true) else (if bt458.2.2.2.2.2.2 = true then (if (!(bt458.1 == ((rd_T37 x8 x15).f2.f0)) || (!(bt458.2.1 == ((rd_T37 x8 x15).f2.f1)) || (!(bt458.2.2.1.toList == (((rd_T37 x8 x15).f2.f2).toList)) || (!(bt458.2.2.2.1.toList == (((rd_T37 x8 x15).f2.f3).toList)) || (!(bt458.2.2.2.2.1 == ((rd_T37 x8 x15).f2.f4)) || (!(bt458.2.2.2.2.2.1 == ((rd_T37 x8 x15).f2.f5)))))))) = true then (laws_FnFrames.j5 k x7 x8 x10 x13 x15 true) else (if x15 < (x13.length : Int) then (laws_FnFrames.j5 k x7 x8 x10 x13 x15 (!(((rd_T37 x13 x15).f0) == ((rd_T37 x8 x15).f0)) || (!(((rd_T37 x13 x15).f1) == ((rd_T37 x8 x15).f1)) || ((!(((rd_T37 x13 x15).f2.f0) == ((rd_T37 x8 x15).f2.f0)) || (!(((rd_T37 x13 x15).f2.f1) == ((rd_T37 x8 x15).f2.f1)) || (!((((rd_T37 x13 x15).f2.f2).toList) == (((rd_T37 x8 x15).f2.f2).toList)) || (!((((rd_T37 x13 x15).f2.f3).toList) == (((rd_T37 x8 x15).f2.f3).toList)) || (!(((rd_T37 x13 x15).f2.f4) == ((rd_T37 x8 x15).f2.f4)) || (!(((rd_T37 x13 x15).f2.f5) == ((rd_T37 x8 x15).f2.f5)))))))))))) else (laws_FnFrames.j5 k x7 x8 x10 x13 x15 false))) else (laws_FnFrames.j5 k x7 x8 x10 x13 x15 true))) else (none))) else (none)) else (some true)
def laws_FnFrames.j5 : Nat → ByteArray → List (S37) → List (S37) → List (S37) → Int → Bool → Option (Bool)
 | 0, _, _, _, _, _, _ => none
 | k + 1, x7, x8, x10, x13, x15, x162 => if x162 = true then (some false) else (laws_FnFrames.l0 k x7 x8 x10 x13 (wrap64 (x15 + 1)))
end
def laws_FnFrames.f (k : Nat) (l0 : List Int) : Option (Bool) := (laws_big.f l0).bind fun t436 => (if t436 = true then (some true) else ((spec_DrawFrame.f k l0).bind fun t437 => ((impl_Frame.f k t437).bind fun t438 => (if t438.size + 4 ≤ 9223372036854775807 then ((impl_Unframe.f k (t438 ++ (⟨#[116, 97, 105, 108]⟩ : ByteArray))).bind fun bt439 => (if ((t438.toList != ([] : List UInt8)) != (decide ((t437.size : Int) ≤ 200))) = true then (laws_FnFrames.j0 k l0 true) else (if t438.toList = ([] : List UInt8) then (laws_FnFrames.j0 k l0 false) else (if bt439.1.toList = t437.toList then (laws_FnFrames.j0 k l0 (bt439.2 != (t438.size : Int))) else (laws_FnFrames.j0 k l0 true))))) else (none)))))
theorem laws_FnFrames.mono_l : ∀ k, (∀ y0 y1, LeO (laws_FnFrames.j0 k y0 y1) (laws_FnFrames.j0 (k + 1) y0 y1)) ∧ (∀ y0 y1 y2 y3 y4, LeO (laws_FnFrames.j1 k y0 y1 y2 y3 y4) (laws_FnFrames.j1 (k + 1) y0 y1 y2 y3 y4)) ∧ (∀ y0 y1 y2 y3, LeO (laws_FnFrames.j2 k y0 y1 y2 y3) (laws_FnFrames.j2 (k + 1) y0 y1 y2 y3)) ∧ (∀ y0 y1 y2 y3 y4, LeO (laws_FnFrames.j3 k y0 y1 y2 y3 y4) (laws_FnFrames.j3 (k + 1) y0 y1 y2 y3 y4)) ∧ (∀ y0 y1 y2 y3 y4, LeO (laws_FnFrames.l0 k y0 y1 y2 y3 y4) (laws_FnFrames.l0 (k + 1) y0 y1 y2 y3 y4)) ∧ (∀ y0 y1 y2 y3 y4 y5, LeO (laws_FnFrames.j5 k y0 y1 y2 y3 y4 y5) (laws_FnFrames.j5 (k + 1) y0 y1 y2 y3 y4 y5))
 | 0 => ⟨fun _ _ r h => by simp [laws_FnFrames.j0] at h, fun _ _ _ _ _ r h => by simp [laws_FnFrames.j1] at h, fun _ _ _ _ r h => by simp [laws_FnFrames.j2] at h, fun _ _ _ _ _ r h => by simp [laws_FnFrames.j3] at h, fun _ _ _ _ _ r h => by simp [laws_FnFrames.l0] at h, fun _ _ _ _ _ _ r h => by simp [laws_FnFrames.j5] at h⟩
 | k + 1 => by
  obtain ⟨ih0, ih1, ih2, ih3, ih4, ih5⟩ := laws_FnFrames.mono_l k
  refine ⟨?_, ?_, ?_, ?_, ?_, ?_⟩
  ·intro y0 y1
   unfold laws_FnFrames.j0
   repeat' first | (with_reducible first | exact ih0 .. | exact ih1 .. | exact ih2 .. | exact ih3 .. | exact ih4 .. | exact ih5 .. | exact impl_Frame.mono .. | exact impl_RecAt.mono .. | exact impl_ScanRecs.mono .. | exact impl_Unframe.mono .. | exact spec_DrawFrame.mono .. | exact spec_DrawScanRecs.mono .. | exact spec_ScanRecs.mono .. | exact LeO.refl .. | exact LeO.none .. | refine LeO.ite ?_ ?_ | refine LeO.bind ?_ (fun _ => ?_)) | exact ih0 .. | exact ih1 .. | exact ih2 .. | exact ih3 .. | exact ih4 .. | exact ih5 .. | exact impl_Frame.mono .. | exact impl_RecAt.mono .. | exact impl_ScanRecs.mono .. | exact impl_Unframe.mono .. | exact spec_DrawFrame.mono .. | exact spec_DrawScanRecs.mono .. | exact spec_ScanRecs.mono .. | exact LeO.none .. | refine LeO.ite ?_ ?_ | refine LeO.bind ?_ (fun _ => ?_)
  ·intro y0 y1 y2 y3 y4
   unfold laws_FnFrames.j1
   repeat' first | (with_reducible first | exact ih0 .. | exact ih1 .. | exact ih2 .. | exact ih3 .. | exact ih4 .. | exact ih5 .. | exact impl_Frame.mono .. | exact impl_RecAt.mono .. | exact impl_ScanRecs.mono .. | exact impl_Unframe.mono .. | exact spec_DrawFrame.mono .. | exact spec_DrawScanRecs.mono .. | exact spec_ScanRecs.mono .. | exact LeO.refl .. | exact LeO.none .. | refine LeO.ite ?_ ?_ | refine LeO.bind ?_ (fun _ => ?_)) | exact ih0 .. | exact ih1 .. | exact ih2 .. | exact ih3 .. | exact ih4 .. | exact ih5 .. | exact impl_Frame.mono .. | exact impl_RecAt.mono .. | exact impl_ScanRecs.mono .. | exact impl_Unframe.mono .. | exact spec_DrawFrame.mono .. | exact spec_DrawScanRecs.mono .. | exact spec_ScanRecs.mono .. | exact LeO.none .. | refine LeO.ite ?_ ?_ | refine LeO.bind ?_ (fun _ => ?_)
  ·intro y0 y1 y2 y3
   unfold laws_FnFrames.j2
   repeat' first | (with_reducible first | exact ih0 .. | exact ih1 .. | exact ih2 .. | exact ih3 .. | exact ih4 .. | exact ih5 .. | exact impl_Frame.mono .. | exact impl_RecAt.mono .. | exact impl_ScanRecs.mono .. | exact impl_Unframe.mono .. | exact spec_DrawFrame.mono .. | exact spec_DrawScanRecs.mono .. | exact spec_ScanRecs.mono .. | exact LeO.refl .. | exact LeO.none .. | refine LeO.ite ?_ ?_ | refine LeO.bind ?_ (fun _ => ?_)) | exact ih0 .. | exact ih1 .. | exact ih2 .. | exact ih3 .. | exact ih4 .. | exact ih5 .. | exact impl_Frame.mono .. | exact impl_RecAt.mono .. | exact impl_ScanRecs.mono .. | exact impl_Unframe.mono .. | exact spec_DrawFrame.mono .. | exact spec_DrawScanRecs.mono .. | exact spec_ScanRecs.mono .. | exact LeO.none .. | refine LeO.ite ?_ ?_ | refine LeO.bind ?_ (fun _ => ?_)
  ·intro y0 y1 y2 y3 y4
   unfold laws_FnFrames.j3
   repeat' first | (with_reducible first | exact ih0 .. | exact ih1 .. | exact ih2 .. | exact ih3 .. | exact ih4 .. | exact ih5 .. | exact impl_Frame.mono .. | exact impl_RecAt.mono .. | exact impl_ScanRecs.mono .. | exact impl_Unframe.mono .. | exact spec_DrawFrame.mono .. | exact spec_DrawScanRecs.mono .. | exact spec_ScanRecs.mono .. | exact LeO.refl .. | exact LeO.none .. | refine LeO.ite ?_ ?_ | refine LeO.bind ?_ (fun _ => ?_)) | exact ih0 .. | exact ih1 .. | exact ih2 .. | exact ih3 .. | exact ih4 .. | exact ih5 .. | exact impl_Frame.mono .. | exact impl_RecAt.mono .. | exact impl_ScanRecs.mono .. | exact impl_Unframe.mono .. | exact spec_DrawFrame.mono .. | exact spec_DrawScanRecs.mono .. | exact spec_ScanRecs.mono .. | exact LeO.none .. | refine LeO.ite ?_ ?_ | refine LeO.bind ?_ (fun _ => ?_)
  ·intro y0 y1 y2 y3 y4
   unfold laws_FnFrames.l0
   repeat' first | (with_reducible first | exact ih0 .. | exact ih1 .. | exact ih2 .. | exact ih3 .. | exact ih4 .. | exact ih5 .. | exact impl_Frame.mono .. | exact impl_RecAt.mono .. | exact impl_ScanRecs.mono .. | exact impl_Unframe.mono .. | exact spec_DrawFrame.mono .. | exact spec_DrawScanRecs.mono .. | exact spec_ScanRecs.mono .. | exact LeO.refl .. | exact LeO.none .. | refine LeO.ite ?_ ?_ | refine LeO.bind ?_ (fun _ => ?_)) | exact ih0 .. | exact ih1 .. | exact ih2 .. | exact ih3 .. | exact ih4 .. | exact ih5 .. | exact impl_Frame.mono .. | exact impl_RecAt.mono .. | exact impl_ScanRecs.mono .. | exact impl_Unframe.mono .. | exact spec_DrawFrame.mono .. | exact spec_DrawScanRecs.mono .. | exact spec_ScanRecs.mono .. | exact LeO.none .. | refine LeO.ite ?_ ?_ | refine LeO.bind ?_ (fun _ => ?_)
  ·intro y0 y1 y2 y3 y4 y5
   unfold laws_FnFrames.j5
   repeat' first | (with_reducible first | exact ih0 .. | exact ih1 .. | exact ih2 .. | exact ih3 .. | exact ih4 .. | exact ih5 .. | exact impl_Frame.mono .. | exact impl_RecAt.mono .. | exact impl_ScanRecs.mono .. | exact impl_Unframe.mono .. | exact spec_DrawFrame.mono .. | exact spec_DrawScanRecs.mono .. | exact spec_ScanRecs.mono .. | exact LeO.refl .. | exact LeO.none .. | refine LeO.ite ?_ ?_ | refine LeO.bind ?_ (fun _ => ?_)) | exact ih0 .. | exact ih1 .. | exact ih2 .. | exact ih3 .. | exact ih4 .. | exact ih5 .. | exact impl_Frame.mono .. | exact impl_RecAt.mono .. | exact impl_ScanRecs.mono .. | exact impl_Unframe.mono .. | exact spec_DrawFrame.mono .. | exact spec_DrawScanRecs.mono .. | exact spec_ScanRecs.mono .. | exact LeO.none .. | refine LeO.ite ?_ ?_ | refine LeO.bind ?_ (fun _ => ?_)
theorem laws_FnFrames.mono : ∀ a0 k, LeO (laws_FnFrames.f k a0) (laws_FnFrames.f (k + 1) a0) := by
 intro a0 k
 obtain ⟨ih0, ih1, ih2, ih3, ih4, ih5⟩ := laws_FnFrames.mono_l k
 unfold laws_FnFrames.f
 repeat' first | (with_reducible first | exact ih0 .. | exact ih1 .. | exact ih2 .. | exact ih3 .. | exact ih4 .. | exact ih5 .. | exact impl_Frame.mono .. | exact impl_RecAt.mono .. | exact impl_ScanRecs.mono .. | exact impl_Unframe.mono .. | exact spec_DrawFrame.mono .. | exact spec_DrawScanRecs.mono .. | exact spec_ScanRecs.mono .. | exact LeO.refl .. | exact LeO.none .. | refine LeO.ite ?_ ?_ | refine LeO.bind ?_ (fun _ => ?_)) | exact ih0 .. | exact ih1 .. | exact ih2 .. | exact ih3 .. | exact ih4 .. | exact ih5 .. | exact impl_Frame.mono .. | exact impl_RecAt.mono .. | exact impl_ScanRecs.mono .. | exact impl_Unframe.mono .. | exact spec_DrawFrame.mono .. | exact spec_DrawScanRecs.mono .. | exact spec_ScanRecs.mono .. | exact LeO.none .. | refine LeO.ite ?_ ?_ | refine LeO.bind ?_ (fun _ => ?_)
def laws_FnFrames.T22 : Bool × List (List Nat × List Nat) := (true, [([], []), ([], []), ([], []), ([1, 2], [1, 2]), ([3], [3]), ([4], [4]), ([], []), ([], []), ([6, 7], [6, 7]), ([8], [8]), ([9], [9]), ([0, 5, 10], [0, 5, 10]), ([11], [11]), ([12], [12]), ([12], [12]), ([], []), ([15, 13, 11, 0, 1, 2, 3, 4, 5, 6, 7, 8, 9, 10, 11, 12, 13, 15], [13, 15]), ([14, 16, 0, 1, 2, 3, 4, 5, 6, 7, 8, 9, 10, 11, 12, 13, 14, 15, 16], [14])])
def laws_FnFrames.B22 : List Nat := [0, 0, 0, 6, 14, 30, 0, 0, 192, 448, 960, 2047, 4095, 8191, 8191, 0, 49151, 131071]
theorem laws_FnFrames.tab22 : rtab .any (opsOf Try.f3 22) = laws_FnFrames.T22 := by kernel_rfl
theorem laws_FnFrames.bits22 : waitsOk laws_FnFrames.T22.2 laws_FnFrames.B22 = true := by kernel_rfl
def laws_FnFrames.T23 : Bool × List (List Nat × List Nat) := (true, [([], []), ([], []), ([0, 1], [0, 1]), ([2], [2]), ([], []), ([], []), ([4, 5], [4, 5]), ([6], [6]), ([3, 7], [3, 7]), ([8], [8]), ([9], [9]), ([10, 9], [9, 10]), ([9, 11], [9, 11]), ([12, 9], [12]), ([13], [13]), ([13], [13]), ([13], [13]), ([15, 16, 13], [13, 15, 16]), ([17, 13], [13, 17]), ([18, 13], [13, 18]), ([14, 19, 13], [13, 14, 19]), ([13, 20], [13, 20]), ([21, 13], [21]), ([22], [22]), ([22], [22]), ([24, 22], [22, 24]), ([23, 25, 22], [22, 23, 25]), ([26, 22, 22], [22, 26]), ([27], [27]), ([27], [27]), ([28, 29, 27], [27, 28, 29]), ([30, 27], [27, 30]), ([27], [27]), ([27], [27]), ([32, 33, 27], [27, 32, 33]), ([34, 27], [27, 34]), ([31, 35, 27], [27, 31, 35]), ([27, 36, 22], [22, 27, 36]), ([22, 37], [22, 37])])
def laws_FnFrames.B23 : List Nat := [0, 0, 3, 7, 0, 0, 48, 112, 255, 511, 1023, 2047, 4095, 8191, 16383, 16383, 16383, 114687, 245759, 507903, 1048575, 2097151, 4194303, 8388607, 8388607, 25165823, 67108863, 134217727, 268435455, 268435455, 1073741823, 2147483647, 268435455, 268435455, 13153337343, 30333206527, 68719476735, 137438953471, 274877906943]
theorem laws_FnFrames.tab23 : rtab .any (opsOf Try.f3 23) = laws_FnFrames.T23 := by kernel_rfl
theorem laws_FnFrames.bits23 : waitsOk laws_FnFrames.T23.2 laws_FnFrames.B23 = true := by kernel_rfl
set_option maxHeartbeats 80000000 in
set_option maxRecDepth 100000 in
theorem laws_FnFrames.calls (k : Nat) (A0 : Option Addr) (c0 : Nat) (l0 : List Int) (r : Bool) (w : World) (hr0 : Kd.C (Kd.int .u8) w A0 l0.length l0) (hc0 : l0.length ≤ c0) (hrt : r = true) (h : laws_FnFrames.f k l0 = some r) :
  Calls Try.prog 3 #[.slice A0 l0.length c0] w fun e w' => e = .returned (.bool r) ∧ Below w.heap.size w w' := by
 have hu33 := Try.underlying33
 have hu37 := Try.underlying37
 have HRT := Aside0.mk hrt
 clear hrt
 have HR0 := Aside0.mk hr0
 have HC0 := Aside0.mk hc0
 clear hr0 hc0
 have HB := Aside0.mk (Below.refl w.heap.size w)
 have H : ((laws_big.f l0).bind fun t436 => (if t436 = true then (some true) else ((spec_DrawFrame.f k l0).bind fun t437 => ((impl_Frame.f k t437).bind fun t438 => (if t438.size + 4 ≤ 9223372036854775807 then ((impl_Unframe.f k (t438 ++ (⟨#[116, 97, 105, 108]⟩ : ByteArray))).bind fun bt439 => (if ((t438.toList != ([] : List UInt8)) != (decide ((t437.size : Int) ≤ 200))) = true then (laws_FnFrames.j0 k l0 true) else (if t438.toList = ([] : List UInt8) then (laws_FnFrames.j0 k l0 false) else (if bt439.1.toList = t437.toList then (laws_FnFrames.j0 k l0 (bt439.2 != (t438.size : Int))) else (laws_FnFrames.j0 k l0 true))))) else (none)))))) = some r := h
 clear h
 replace H := Option.bind_eq_some_iff.mp H
 obtain ⟨t436, A20, H⟩ := H
 replace H : (if t436 = true then (some true) else ((spec_DrawFrame.f k l0).bind fun t437 => ((impl_Frame.f k t437).bind fun t438 => (if t438.size + 4 ≤ 9223372036854775807 then ((impl_Unframe.f k (t438 ++ (⟨#[116, 97, 105, 108]⟩ : ByteArray))).bind fun bt439 => (if ((t438.toList != ([] : List UInt8)) != (decide ((t437.size : Int) ≤ 200))) = true then (laws_FnFrames.j0 k l0 true) else (if t438.toList = ([] : List UInt8) then (laws_FnFrames.j0 k l0 false) else (if bt439.1.toList = t437.toList then (laws_FnFrames.j0 k l0 (bt439.2 != (t438.size : Int))) else (laws_FnFrames.j0 k l0 true))))) else (none))))) = some r := H
 have A2 := Aside0.mk A20
 clear A20
 by_cases c3 : t436 = true
 ·subst c3
  have H1 : (some true) = some r := by rw [if_pos rfl] at H; exact H
  clear H
  have H := H1
  clear H1
  obtain rfl := Option.some.inj H
  go_enter Try.func3, Try.ntmps3
  go_wp2_with (first | ((with_reducible refine gate_callee (f := 6) rfl ?_); refine goesL_ (some 19) rfl rfl Try.func6 (by kernel_rfl) rfl #[.slice A0 l0.length c0] rfl ar_ ?_; (with_reducible refine (laws_big.calls _ _ l0 true _ ?side1 ?side2 A2.out).mono ?_); (case side1 => repeat (first | exact HR0.out | (with_reducible refine Kd.C_alloc ?_ _) | (with_reducible refine Kd.C_drewN ?_ _) | (with_reducible refine Kd.C_drew ?_))); (case side2 => exact HC0.out); rintro e w' ⟨rfl, ⟨nd, rfl⟩⟩; refine ⟨_, rfl, ?_⟩))
  go_ret
  exact ⟨re_, hb_ HB⟩
 ·replace c3 := Bool.eq_false_iff.mpr c3
  subst c3
  have H1 : ((spec_DrawFrame.f k l0).bind fun t437 => ((impl_Frame.f k t437).bind fun t438 => (if t438.size + 4 ≤ 9223372036854775807 then ((impl_Unframe.f k (t438 ++ (⟨#[116, 97, 105, 108]⟩ : ByteArray))).bind fun bt439 => (if ((t438.toList != ([] : List UInt8)) != (decide ((t437.size : Int) ≤ 200))) = true then (laws_FnFrames.j0 k l0 true) else (if t438.toList = ([] : List UInt8) then (laws_FnFrames.j0 k l0 false) else (if bt439.1.toList = t437.toList then (laws_FnFrames.j0 k l0 (bt439.2 != (t438.size : Int))) else (laws_FnFrames.j0 k l0 true))))) else (none)))) = some r := by rw [if_neg (show ¬ (false = true) by decide)] at H; exact H
  clear H
  have H := H1
  clear H1
  replace H := Option.bind_eq_some_iff.mp H
  obtain ⟨t437, A40, H⟩ := H
  replace H : ((impl_Frame.f k t437).bind fun t438 => (if t438.size + 4 ≤ 9223372036854775807 then ((impl_Unframe.f k (t438 ++ (⟨#[116, 97, 105, 108]⟩ : ByteArray))).bind fun bt439 => (if ((t438.toList != ([] : List UInt8)) != (decide ((t437.size : Int) ≤ 200))) = true then (laws_FnFrames.j0 k l0 true) else (if t438.toList = ([] : List UInt8) then (laws_FnFrames.j0 k l0 false) else (if bt439.1.toList = t437.toList then (laws_FnFrames.j0 k l0 (bt439.2 != (t438.size : Int))) else (laws_FnFrames.j0 k l0 true))))) else (none))) = some r := H
  have A4 := Aside0.mk A40
  clear A40
  replace H := Option.bind_eq_some_iff.mp H
  obtain ⟨t438, A50, H⟩ := H
  replace H : (if t438.size + 4 ≤ 9223372036854775807 then ((impl_Unframe.f k (t438 ++ (⟨#[116, 97, 105, 108]⟩ : ByteArray))).bind fun bt439 => (if ((t438.toList != ([] : List UInt8)) != (decide ((t437.size : Int) ≤ 200))) = true then (laws_FnFrames.j0 k l0 true) else (if t438.toList = ([] : List UInt8) then (laws_FnFrames.j0 k l0 false) else (if bt439.1.toList = t437.toList then (laws_FnFrames.j0 k l0 (bt439.2 != (t438.size : Int))) else (laws_FnFrames.j0 k l0 true))))) else (none)) = some r := H
  have A5 := Aside0.mk A50
  clear A50
  by_cases c6 : t438.size + 4 ≤ 9223372036854775807
  ·rw [if_pos c6] at H
   have c6b0 := eq_true c6
   have c6b1 : decide (t438.size + 4 ≤ 9223372036854775807) = true := decide_eq_true c6
   try have c6b2 : (9223372036854775807 < t438.size + 4) = False := eq_false (Nat.not_lt.2 c6)
   (try (have c6b3 := c6b2; simp only [ByteArray.size_append] at c6b3))
   replace H := Option.bind_eq_some_iff.mp H
   obtain ⟨⟨t439, t440⟩, A70, H⟩ := H
   replace H : (if ((t438.toList != ([] : List UInt8)) != (decide ((t437.size : Int) ≤ 200))) = true then (laws_FnFrames.j0 k l0 true) else (if t438.toList = ([] : List UInt8) then (laws_FnFrames.j0 k l0 false) else (if t439.toList = t437.toList then (laws_FnFrames.j0 k l0 (t440 != (t438.size : Int))) else (laws_FnFrames.j0 k l0 true)))) = some r := H
   have A7 := Aside0.mk A70
   clear A70
   have HC8 := Aside0.mk H
   clear H
   go_enter Try.func3, Try.ntmps3
   go_upto_region 6 with (first | ((with_reducible refine gate_callee (f := 6) rfl ?_); refine goesL_ (some 19) rfl rfl Try.func6 (by kernel_rfl) rfl #[.slice A0 l0.length c0] rfl ar_ ?_; (with_reducible refine (laws_big.calls _ _ l0 false _ ?side1 ?side2 A2.out).mono ?_); (case side1 => repeat (first | exact HR0.out | (with_reducible refine Kd.C_alloc ?_ _) | (with_reducible refine Kd.C_drewN ?_ _) | (with_reducible refine Kd.C_drew ?_))); (case side2 => exact HC0.out); rintro e w' ⟨rfl, ⟨nd, rfl⟩⟩; refine ⟨_, rfl, ?_⟩) | ((with_reducible refine gate_callee (f := 7) rfl ?_); refine goesL_ (some 21) rfl rfl Try.func7 (by kernel_rfl) rfl #[.slice A0 l0.length c0] rfl ar_ ?_; (with_reducible refine (spec_DrawFrame.calls k _ _ l0 t437 _ ?side1 ?side2 A4.out).mono ?_); (case side1 => repeat (first | exact HR0.out | (with_reducible refine Kd.C_alloc ?_ _) | (with_reducible refine Kd.C_drewN ?_ _) | (with_reducible refine Kd.C_drew ?_))); (case side2 => exact HC0.out); rintro e w9 ⟨rfl, hb⟩; refine ⟨_, rfl, ?_⟩; replace HB := bs_ HB hb; (try clear hb); (try clear hb2); (try clear hk); (try clear hi)) | ((with_reducible refine gate_callee (f := 8) rfl ?_); refine goesL_ (some 23) rfl rfl Try.func8 (by kernel_rfl) rfl #[.string t437] rfl ar_ ?_; (with_reducible refine (impl_Frame.calls k t437 t438 _ A5.out).mono ?_); rintro e w10 ⟨rfl, hb⟩; refine ⟨_, rfl, ?_⟩; replace HB := bs_ HB hb; (try clear hb); (try clear hb2); (try clear hk); (try clear hi)) | ((with_reducible refine gate_callee (f := 9) rfl ?_); refine goesL_ (some 27) rfl rfl Try.func9 (by kernel_rfl) rfl #[.string (t438 ++ (⟨#[116, 97, 105, 108]⟩ : ByteArray))] rfl ar_ ?_; (with_reducible refine (impl_Unframe.calls k (t438 ++ (⟨#[116, 97, 105, 108]⟩ : ByteArray)) t439 t440 _ A7.out).mono ?_); rintro e w11 ⟨rfl, hb⟩; refine ⟨_, rfl, ?_⟩; replace HB := bs_ HB hb; (try clear hb); (try clear hb2); (try clear hk); (try clear hi)))
   (try simp only [Act.put, la_, lz_, ls_])
   go_cut [50] (fun v50 wc => ∃ (kq : Nat) (x50_7 : Bool), v50 = .bool x50_7 ∧ Aside0 (laws_FnFrames.j0 kq l0 x50_7 = some r) ∧ Aside0 (kq ≤ k) ∧ Aside0 (Below w.heap.size w wc))
   case first =>
    have H := HC8.out
    clear HC8
    by_cases c12 : ((t438.toList != ([] : List UInt8)) != (decide ((t437.size : Int) ≤ 200))) = true
    ·rw [if_pos c12] at H
     have c12b0 : ((t438.toList != ([] : List UInt8)) != (decide ((t437.size : Int) ≤ 200))) = true := c12
     (try (have c12b5 : (t438.toList.isEmpty = !(decide ((t437.size : Int) ≤ 200))) = False := by have h_ := c12b0; revert h_; generalize t438.toList = l_; generalize (decide ((t437.size : Int) ≤ 200)) = D_; cases l_ <;> cases D_ <;> simp))
     (try (have c12b1 : decide ((t438.toList != ([] : List UInt8)) = (decide ((t437.size : Int) ≤ 200))) = false := by simpa using c12))
     (try (have c12b2 : ((t438.toList != ([] : List UInt8)) == (decide ((t437.size : Int) ≤ 200))) = false := by simpa using c12))
     (try (have c12b3 : ¬ ((t438.toList != ([] : List UInt8)) = (decide ((t437.size : Int) ≤ 200))) := by simpa using c12))
     clear c12
     (first | rw [c12b0] | (simp only [i64_w, i32_w]; rw [c12b0]) | skip)
     have H' := Aside0.mk H
     clear H
     go_wp2
     go_meet
     case rel => exact ⟨_, (true), rs_, H', ⟨by first | exact Nat.le_refl _ | exact Nat.le_of_succ_le this | omega⟩, ⟨hb_ HB⟩⟩
    ·rw [if_neg c12] at H
     have c12b0 : ((t438.toList != ([] : List UInt8)) != (decide ((t437.size : Int) ≤ 200))) = false := by simpa using c12
     (try (have c12b5 : (t438.toList.isEmpty = !(decide ((t437.size : Int) ≤ 200))) = True := by have h_ := c12b0; revert h_; generalize t438.toList = l_; generalize (decide ((t437.size : Int) ≤ 200)) = D_; cases l_ <;> cases D_ <;> simp))
     (try (have c12b1 : decide ((t438.toList != ([] : List UInt8)) = (decide ((t437.size : Int) ≤ 200))) = true := by simpa using c12))
     (try (have c12b2 : ((t438.toList != ([] : List UInt8)) == (decide ((t437.size : Int) ≤ 200))) = true := by simpa using c12))
     clear c12
     (first | rw [c12b0] | (simp only [i64_w, i32_w]; rw [c12b0]) | skip)
     by_cases c13 : t438.toList = ([] : List UInt8)
     ·rw [if_pos c13] at H
      have c13b0 : (t438.toList == ([] : List UInt8)) = true := beq_iff_eq.mpr c13
      have c13b1 : (t438.toList != ([] : List UInt8)) = false := bne_eq_false_iff_eq.mpr c13
      have c13b6 : (decide ((t437.size : Int) ≤ 200)) = false := by have h_ := c12b0; rw [c13b1] at h_; simpa using h_
      have c13b5 : ((t437.size : Int) ≤ 200) = False := eq_false (of_decide_eq_false c13b6)
      have c13b4 : (200 < (t437.size : Int)) = True := eq_true (by have h_ := of_decide_eq_false c13b6; omega)
      clear c13
      have H' := Aside0.mk H
      clear H
      go_wp2
      go_meet
      case rel => exact ⟨_, (false), rs_, H', ⟨by first | exact Nat.le_refl _ | exact Nat.le_of_succ_le this | omega⟩, ⟨hb_ HB⟩⟩
     ·rw [if_neg c13] at H
      have c13b0 : (t438.toList == ([] : List UInt8)) = false := beq_eq_false_iff_ne.mpr c13
      have c13b1 : (t438.toList != ([] : List UInt8)) = true := bne_iff_ne.mpr c13
      have c13b6 : (decide ((t437.size : Int) ≤ 200)) = true := by have h_ := c12b0; rw [c13b1] at h_; simpa using h_
      have c13b5 : ((t437.size : Int) ≤ 200) = True := eq_true (of_decide_eq_true c13b6)
      have c13b4 : (200 < (t437.size : Int)) = False := eq_false (by have h_ := of_decide_eq_true c13b6; omega)
      by_cases c14 : t439.toList = t437.toList
      ·rw [if_pos c14] at H
       have c14b0 : (t439.toList == t437.toList) = true := beq_iff_eq.mpr c14
       have c14b1 : (t439.toList != t437.toList) = false := bne_eq_false_iff_eq.mpr c14
       clear c14
       have H' := Aside0.mk H
       clear H
       go_wp2
       go_meet
       case rel => exact ⟨_, ((t440 != (t438.size : Int))), rs_, H', ⟨by first | exact Nat.le_refl _ | exact Nat.le_of_succ_le this | omega⟩, ⟨hb_ HB⟩⟩
      ·rw [if_neg c14] at H
       have c14b0 : (t439.toList == t437.toList) = false := beq_eq_false_iff_ne.mpr c14
       have c14b1 : (t439.toList != t437.toList) = true := bne_iff_ne.mpr c14
       have H' := Aside0.mk H
       clear H
       go_wp2
       go_meet
       case rel => exact ⟨_, (true), rs_, H', ⟨by first | exact Nat.le_refl _ | exact Nat.le_of_succ_le this | omega⟩, ⟨hb_ HB⟩⟩
   case rest =>
    clear HC8
    try clear c1
    try clear p2
    try clear c3
    try clear c6
    try clear c6b0
    try clear c6b1
    try clear c6b2
    try clear c7
    try clear c8
    try clear c9
    try clear c12
    try clear c12b0
    try clear c12b1
    try clear c12b2
    try clear c13
    try clear c13b0
    try clear c13b1
    try clear c14
    try clear c14b0
    try clear c14b1
    obtain ⟨kq, x50_7, rfl, HA, HJ7, HB⟩ := hcut
    cases kq with
    | zero => exact absurd HA.out (by simp [laws_FnFrames.j0])
    | succ kj7 =>
     have H := HA.out
     clear HA
     simp only [laws_FnFrames.j0] at H
     by_cases c15 : x50_7 = true
     ·subst c15
      have H1 : (some false) = some r := by rw [if_pos rfl] at H; exact H
      clear H
      have H := H1
      clear H1
      exact absurd ((Option.some.inj H).trans HRT.out) (by decide)
     ·replace c15 := Bool.eq_false_iff.mpr c15
      subst c15
      have H1 : ((spec_DrawScanRecs.f kj7 l0).bind fun t441 => ((impl_ScanRecs.f kj7 t441).bind fun bt442 => ((spec_ScanRecs.f kj7 t441).bind fun bt446 => (if bt442.2 = bt446.2 then (laws_FnFrames.j1 kj7 l0 t441 bt442.1 bt446.1 ((bt442.1.length : Int) != (bt446.1.length : Int))) else (laws_FnFrames.j1 kj7 l0 t441 bt442.1 bt446.1 true))))) = some r := by rw [if_neg (show ¬ (false = true) by decide)] at H; exact H
      clear H
      have H := H1
      clear H1
      replace H := Option.bind_eq_some_iff.mp H
      obtain ⟨t441, A160, H⟩ := H
      replace H : ((impl_ScanRecs.f kj7 t441).bind fun bt442 => ((spec_ScanRecs.f kj7 t441).bind fun bt446 => (if bt442.2 = bt446.2 then (laws_FnFrames.j1 kj7 l0 t441 bt442.1 bt446.1 ((bt442.1.length : Int) != (bt446.1.length : Int))) else (laws_FnFrames.j1 kj7 l0 t441 bt442.1 bt446.1 true)))) = some r := H
      have A16 := Aside0.mk A160
      clear A160
      replace H := Option.bind_eq_some_iff.mp H
      obtain ⟨⟨t442, t443⟩, A170, H⟩ := H
      replace H : ((spec_ScanRecs.f kj7 t441).bind fun bt446 => (if t443 = bt446.2 then (laws_FnFrames.j1 kj7 l0 t441 t442 bt446.1 ((t442.length : Int) != (bt446.1.length : Int))) else (laws_FnFrames.j1 kj7 l0 t441 t442 bt446.1 true))) = some r := H
      have A17 := Aside0.mk A170
      clear A170
      replace H := Option.bind_eq_some_iff.mp H
      obtain ⟨⟨t446, t447⟩, A180, H⟩ := H
      replace H : (if t443 = t447 then (laws_FnFrames.j1 kj7 l0 t441 t442 t446 ((t442.length : Int) != (t446.length : Int))) else (laws_FnFrames.j1 kj7 l0 t441 t442 t446 true)) = some r := H
      have A18 := Aside0.mk A180
      clear A180
      have HC19 := Aside0.mk H
      clear H
      go_upto_region 11 with (first | ((with_reducible refine gate_callee (f := 10) rfl ?_); refine goesL_ (some 52) rfl rfl Try.func10 (by kernel_rfl) rfl #[.slice A0 l0.length c0] rfl ar_ ?_; (with_reducible refine (spec_DrawScanRecs.calls kj7 _ _ l0 t441 _ ?side1 ?side2 A16.out).mono ?_); (case side1 => repeat (first | exact (Kd.C_below HR0.out HB.out) | (with_reducible refine Kd.C_alloc ?_ _) | (with_reducible refine Kd.C_drewN ?_ _) | (with_reducible refine Kd.C_drew ?_))); (case side2 => exact HC0.out); rintro e w20 ⟨rfl, hb⟩; refine ⟨_, rfl, ?_⟩; replace HB := bs_ HB hb; (try clear hb); (try clear hb2); (try clear hk); (try clear hi)) | ((with_reducible refine gate_callee (f := 11) rfl ?_); refine goesL_ (some 55) rfl rfl Try.func11 (by kernel_rfl) rfl #[.string t441] rfl ar_ ?_; (with_reducible refine (impl_ScanRecs.calls kj7 t441 t442 t443 _ A17.out).mono ?_); rintro e w21 ⟨v444, rfl, ho0, hb⟩; refine ⟨_, rfl, ?_⟩; have HO445 := Aside0.mk (Kd.R_lower ho0 (below_size (hb_ HB))); replace HB := bs_ HB hb; (try clear hb); (try clear hb2); (try clear hk); (try clear hi); (try clear ho0)) | ((with_reducible refine gate_callee (f := 12) rfl ?_); refine goesL_ (some 60) rfl rfl Try.func12 (by kernel_rfl) rfl #[.string t441] rfl ar_ ?_; (with_reducible refine (spec_ScanRecs.calls kj7 t441 t446 t447 _ A18.out).mono ?_); rintro e w22 ⟨v448, rfl, ho0, hb⟩; refine ⟨_, rfl, ?_⟩; have HO449 := Aside0.mk (Kd.R_lower (Kd.R_new' ho0 (Kd.R_lt (rr_ HO445))) (below_size (hb_ HB))); replace HO445 := Aside0.mk (Kd.R_elder' (rr_ HO445) (Kd.R_base ho0) hb); replace HB := bs_ HB hb; (try clear hb); (try clear hb2); (try clear hk); (try clear hi); (try clear ho0)))
      (try simp only [Act.put, la_, lz_, ls_])
      go_cut [72] (fun v72 wc => ∃ (kq : Nat) (x72_18 : Bool), v72 = .bool x72_18 ∧ Aside0 (laws_FnFrames.j1 kq l0 t441 t442 t446 x72_18 = some r) ∧ Aside0 (kq ≤ kj7) ∧ Aside0 (Kd.R k37 37 wc w.heap.size (fun k_ => some k_ ≠ (v448 : Value).ownBlock) v444 t442) ∧ Aside0 (Kd.R k37 37 wc w.heap.size (fun k_ => some k_ ≠ (v444 : Value).ownBlock) v448 t446) ∧ Aside0 (Below w.heap.size w wc))
      case first =>
       have H := HC19.out
       clear HC19
       by_cases c23 : t443 = t447
       ·rw [if_pos c23] at H
        have c23b0 : (t443 == t447) = true := beq_iff_eq.mpr c23
        have c23b1 : (t443 != t447) = false := bne_eq_false_iff_eq.mpr c23
        clear c23
        (first | rw [c23b0] | (simp only [i64_w, i32_w]; rw [c23b0]) | skip)
        have H' := Aside0.mk H
        clear H
        obtain ⟨Ao24, co24, eo24⟩ := Kd.R_slice HO445.out
        subst eo24
        obtain ⟨Ao25, co25, eo25⟩ := Kd.R_slice HO449.out
        subst eo25
        go_wp2
        go_meet
        case rel => exact ⟨_, (((t442.length : Int) != (t446.length : Int))), rs_, H', ⟨by have := HJ7.out; first | exact Nat.le_refl _ | exact Nat.le_of_succ_le this | omega⟩, ⟨by (with_reducible repeat (first | apply Kd.R_alloc | apply Kd.R_drewN | apply Kd.R_drew)); exact Kd.R_mono HO445.out (fun _ hk => hk.2)⟩, ⟨by (with_reducible repeat (first | apply Kd.R_alloc | apply Kd.R_drewN | apply Kd.R_drew)); exact Kd.R_mono HO449.out (fun _ hk => hk.2)⟩, ⟨hb_ HB⟩⟩
       ·rw [if_neg c23] at H
        have c23b0 : (t443 == t447) = false := beq_eq_false_iff_ne.mpr c23
        have c23b1 : (t443 != t447) = true := bne_iff_ne.mpr c23
        (first | rw [c23b0] | (simp only [i64_w, i32_w]; rw [c23b0]) | skip)
        have H' := Aside0.mk H
        clear H
        go_wp2
        go_meet
        case rel => exact ⟨_, (true), rs_, H', ⟨by have := HJ7.out; first | exact Nat.le_refl _ | exact Nat.le_of_succ_le this | omega⟩, ⟨by (with_reducible repeat (first | apply Kd.R_alloc | apply Kd.R_drewN | apply Kd.R_drew)); exact Kd.R_mono HO445.out (fun _ hk => hk.2)⟩, ⟨by (with_reducible repeat (first | apply Kd.R_alloc | apply Kd.R_drewN | apply Kd.R_drew)); exact Kd.R_mono HO449.out (fun _ hk => hk.2)⟩, ⟨hb_ HB⟩⟩
      case rest =>
       clear HC19
       try clear c1
       try clear c2
       try clear p2
       try clear c3
       try clear c6
       try clear c6b0
       try clear c6b1
       try clear c6b2
       try clear c7
       try clear c8
       try clear c9
       try clear c10
       try clear c11
       try clear c12
       try clear c12b0
       try clear c12b1
       try clear c12b2
       try clear c13
       try clear c13b0
       try clear c13b1
       try clear c14
       try clear c14b0
       try clear c14b1
       try clear c15
       try clear c23
       try clear c23b0
       try clear c23b1
       try clear p2
       obtain ⟨kq, x72_18, rfl, HA, HJ18, HO_8, HO_10, HB⟩ := hcut
       cases kq with
       | zero => exact absurd HA.out (by simp [laws_FnFrames.j1])
       | succ kj18 =>
        have H := HA.out
        clear HA
        simp only [laws_FnFrames.j1] at H
        by_cases c26 : x72_18 = true
        ·subst c26
         have H1 : (some false) = some r := by rw [if_pos rfl] at H; exact H
         clear H
         have H := H1
         clear H1
         exact absurd ((Option.some.inj H).trans HRT.out) (by decide)
        ·replace c26 := Bool.eq_false_iff.mpr c26
         subst c26
         have H1 : (if (t441.size : Int) > 0 then ((laws_at.f l0 0).bind fun t450 => ((laws_at.f l0 1).bind fun t451 => (if (wrap64 ((t441.size : Int) + 1)) = 0 then (none) else (laws_FnFrames.j2 kj18 t441 t442 t446 (Int.tmod (wrap64 ((wrap64 (t450 * 256)) + t451)) (wrap64 ((t441.size : Int) + 1))))))) else (laws_FnFrames.j2 kj18 t441 t442 t446 0)) = some r := by rw [if_neg (show ¬ (false = true) by decide)] at H; exact H
         clear H
         have H := H1
         clear H1
         have HC27 := Aside0.mk H
         clear H
         go_upto_if 75 with (fail)
         go_cut [12] (fun v12 wc => ∃ (kq : Nat) (x12_26 : Int), v12 = .int .i64 x12_26 ∧ Aside0 (laws_FnFrames.j2 kq t441 t442 t446 x12_26 = some r) ∧ Aside0 (kq ≤ kj18) ∧ Aside0 (Kd.R k37 37 wc w.heap.size (fun k_ => some k_ ≠ (v448 : Value).ownBlock) v444 t442) ∧ Aside0 (Kd.R k37 37 wc w.heap.size (fun k_ => some k_ ≠ (v444 : Value).ownBlock) v448 t446) ∧ Aside0 (Below w.heap.size w wc))
         case first =>
          have H := HC27.out
          clear HC27
          by_cases c28 : (t441.size : Int) > 0
          ·rw [if_pos c28] at H
           have c28b0 : decide (0 < (t441.size : Int)) = true := decide_eq_true c28
           have c28b1 : decide (0 < t441.size) = true := decide_eq_true (by omega)
           clear c28
           (first | rw [c28b0] | rw [c28b1] | (simp only [i64_w, i32_w]; rw [c28b0]) | skip)
           replace H := Option.bind_eq_some_iff.mp H
           obtain ⟨t450, A290, H⟩ := H
           replace H : ((laws_at.f l0 1).bind fun t451 => (if (wrap64 ((t441.size : Int) + 1)) = 0 then (none) else (laws_FnFrames.j2 kj18 t441 t442 t446 (Int.tmod (wrap64 ((wrap64 (t450 * 256)) + t451)) (wrap64 ((t441.size : Int) + 1)))))) = some r := H
           have A29 := Aside0.mk A290
           clear A290
           replace H := Option.bind_eq_some_iff.mp H
           obtain ⟨t451, A300, H⟩ := H
           replace H : (if (wrap64 ((t441.size : Int) + 1)) = 0 then (none) else (laws_FnFrames.j2 kj18 t441 t442 t446 (Int.tmod (wrap64 ((wrap64 (t450 * 256)) + t451)) (wrap64 ((t441.size : Int) + 1))))) = some r := H
           have A30 := Aside0.mk A300
           clear A300
           by_cases c31 : (wrap64 ((t441.size : Int) + 1)) = 0
           ·rw [if_pos c31] at H
            exact absurd H (by simp)
           ·rw [if_neg c31] at H
            have c31b0 : ((wrap64 ((t441.size : Int) + 1)) == 0) = false := beq_eq_false_iff_ne.mpr c31
            have c31b1 : ((wrap64 ((t441.size : Int) + 1)) != 0) = true := bne_iff_ne.mpr c31
            have H' := Aside0.mk H
            clear H
            go_wp2_with (first | ((with_reducible refine gate_callee (f := 13) rfl ?_); refine goesL_ (some 77) rfl rfl Try.func13 (by kernel_rfl) rfl #[.slice A0 l0.length c0, .int .i64 0] rfl ar_ ?_; (with_reducible refine (laws_at.calls _ _ l0 0 t450 _ ?side1 ?side2 A29.out).mono ?_); (case side1 => repeat (first | exact (Kd.C_below HR0.out HB.out) | (with_reducible refine Kd.C_alloc ?_ _) | (with_reducible refine Kd.C_drewN ?_ _) | (with_reducible refine Kd.C_drew ?_))); (case side2 => exact HC0.out); rintro e w' ⟨rfl, ⟨nd, rfl⟩⟩; refine ⟨_, rfl, ?_⟩) | ((with_reducible refine gate_callee (f := 13) rfl ?_); refine goesL_ (some 80) rfl rfl Try.func13 (by kernel_rfl) rfl #[.slice A0 l0.length c0, .int .i64 1] rfl ar_ ?_; (with_reducible refine (laws_at.calls _ _ l0 1 t451 _ ?side1 ?side2 A30.out).mono ?_); (case side1 => repeat (first | exact (Kd.C_below HR0.out (hb_ HB)) | (with_reducible refine Kd.C_alloc ?_ _) | (with_reducible refine Kd.C_drewN ?_ _) | (with_reducible refine Kd.C_drew ?_))); (case side2 => exact HC0.out); rintro e w' ⟨rfl, ⟨nd, rfl⟩⟩; refine ⟨_, rfl, ?_⟩))
            go_meet
            case rel => exact ⟨_, (Int.tmod (wrap64 ((wrap64 (t450 * 256)) + t451)) (wrap64 ((t441.size : Int) + 1))), rs_, H', ⟨by have := HJ7.out; have := HJ18.out; first | exact Nat.le_refl _ | exact Nat.le_of_succ_le this | omega⟩, ⟨rr_ HO_8⟩, ⟨rr_ HO_10⟩, ⟨hb_ HB⟩⟩
          ·rw [if_neg c28] at H
           have c28b0 : decide (0 < (t441.size : Int)) = false := decide_eq_false c28
           have c28b1 : decide (0 < t441.size) = false := decide_eq_false (by omega)
           clear c28
           (first | rw [c28b0] | rw [c28b1] | (simp only [i64_w, i32_w]; rw [c28b0]) | skip)
           have H' := Aside0.mk H
           clear H
           go_wp2
           go_meet
           case rel => exact ⟨_, (0), rs_, H', ⟨by have := HJ7.out; have := HJ18.out; first | exact Nat.le_refl _ | exact Nat.le_of_succ_le this | omega⟩, ⟨rr_ HO_8⟩, ⟨rr_ HO_10⟩, ⟨hb_ HB⟩⟩
         case rest =>
          clear HC27
          try clear c1
          try clear c2
          try clear p2
          try clear c3
          try clear c6
          try clear c6b0
          try clear c6b1
          try clear c6b2
          try clear p6
          try clear c7
          try clear c8
          try clear c9
          try clear c10
          try clear c11
          try clear c12
          try clear c12b0
          try clear c12b1
          try clear c12b2
          try clear c13
          try clear c13b0
          try clear c13b1
          try clear c14
          try clear c14b0
          try clear c14b1
          try clear c15
          try clear c23
          try clear c23b0
          try clear c23b1
          try clear c26
          try clear c28
          try clear c28b0
          try clear c28b1
          try clear c31
          try clear c31b0
          try clear c31b1
          try clear p2
          obtain ⟨kq, x12_26, rfl, HA, HJ26, HO_8, HO_10, HB⟩ := hcut
          cases kq with
          | zero => exact absurd HA.out (by simp [laws_FnFrames.j2])
          | succ kj26 =>
           have H := HA.out
           clear HA
           simp only [laws_FnFrames.j2] at H
           by_cases c32 : 0 ≤ x12_26
           ·rw [if_pos c32] at H
            have c32b0 := eq_true c32
            have c32b1 : decide (0 ≤ x12_26) = true := decide_eq_true c32
            clear c32
            by_cases c33 : x12_26 ≤ (t441.size : Int)
            ·rw [if_pos c33] at H
             have c33b0 := eq_true c33
             have c33b1 : decide (x12_26 ≤ (t441.size : Int)) = true := decide_eq_true c33
             clear c33
             replace H := Option.bind_eq_some_iff.mp H
             obtain ⟨⟨t452, t453⟩, A340, H⟩ := H
             replace H : (if t453 > x12_26 then (laws_FnFrames.j3 kj26 t441 t442 t446 t452 true) else (laws_FnFrames.j3 kj26 t441 t442 t446 t452 (decide ((t452.length : Int) > (t442.length : Int))))) = some r := H
             have A34 := Aside0.mk A340
             clear A340
             have HC35 := Aside0.mk H
             clear H
             go_upto_region 17 with (first | ((with_reducible refine gate_callee (f := 11) rfl ?_); refine goesL_ (some 90) rfl rfl Try.func11 (by kernel_rfl) rfl #[.string (t441.extract 0 (x12_26 : Int).toNat)] rfl ar_ ?_; (with_reducible refine (impl_ScanRecs.calls kj26 (t441.extract 0 (x12_26 : Int).toNat) t452 t453 _ A34.out).mono ?_); rintro e w36 ⟨v454, rfl, ho0, hb⟩; refine ⟨_, rfl, ?_⟩; have HO455 := Aside0.mk (Kd.R_lower (Kd.R_new' (Kd.R_new' ho0 (Kd.R_lt (rr_ HO_8))) (Kd.R_lt (rr_ HO_10))) (below_size (hb_ HB))); replace HO_8 := Aside0.mk (Kd.R_elder' (rr_ HO_8) (Kd.R_base ho0) hb); replace HO_10 := Aside0.mk (Kd.R_elder' (rr_ HO_10) (Kd.R_base ho0) hb); replace HB := bs_ HB hb; (try clear hb); (try clear hb2); (try clear hk); (try clear hi); (try clear ho0)))
             (try simp only [Act.put, la_, lz_, ls_])
             go_cut [102] (fun v102 wc => ∃ (kq : Nat) (x102_34 : Bool), v102 = .bool x102_34 ∧ Aside0 (laws_FnFrames.j3 kq t441 t442 t446 t452 x102_34 = some r) ∧ Aside0 (kq ≤ kj26) ∧ Aside0 (Kd.R k37 37 wc w.heap.size (fun k_ => some k_ ≠ (v448 : Value).ownBlock ∧ some k_ ≠ (v454 : Value).ownBlock) v444 t442) ∧ Aside0 (Kd.R k37 37 wc w.heap.size (fun k_ => some k_ ≠ (v444 : Value).ownBlock ∧ some k_ ≠ (v454 : Value).ownBlock) v448 t446) ∧ Aside0 (Kd.R k37 37 wc w.heap.size (fun k_ => some k_ ≠ (v444 : Value).ownBlock ∧ some k_ ≠ (v448 : Value).ownBlock) v454 t452) ∧ Aside0 (Below w.heap.size w wc))
             case first =>
              have H := HC35.out
              clear HC35
              by_cases c37 : t453 > x12_26
              ·rw [if_pos c37] at H
               have c37b0 : decide (x12_26 < t453) = true := decide_eq_true c37
               clear c37
               (first | rw [c37b0] | (simp only [i64_w, i32_w]; rw [c37b0]) | skip)
               have H' := Aside0.mk H
               clear H
               go_wp2
               go_meet
               case rel => exact ⟨_, (true), rs_, H', ⟨by have := HJ7.out; have := HJ18.out; have := HJ26.out; first | exact Nat.le_refl _ | exact Nat.le_of_succ_le this | omega⟩, ⟨rr_ HO_8⟩, ⟨rr_ HO_10⟩, ⟨by (with_reducible repeat (first | apply Kd.R_alloc | apply Kd.R_drewN | apply Kd.R_drew)); exact Kd.R_mono HO455.out (fun _ hk => ⟨hk.1.2, hk.2⟩)⟩, ⟨hb_ HB⟩⟩
              ·rw [if_neg c37] at H
               have c37b0 : decide (x12_26 < t453) = false := decide_eq_false c37
               clear c37
               (first | rw [c37b0] | (simp only [i64_w, i32_w]; rw [c37b0]) | skip)
               have H' := Aside0.mk H
               clear H
               obtain ⟨Ao38, co38, eo38⟩ := Kd.R_slice HO455.out
               subst eo38
               obtain ⟨Ao39, co39, eo39⟩ := Kd.R_slice HO_8.out
               subst eo39
               go_wp2
               go_meet
               case rel => exact ⟨_, (decide ((t452.length : Int) > (t442.length : Int))), rs_, H', ⟨by have := HJ7.out; have := HJ18.out; have := HJ26.out; first | exact Nat.le_refl _ | exact Nat.le_of_succ_le this | omega⟩, ⟨rr_ HO_8⟩, ⟨rr_ HO_10⟩, ⟨by (with_reducible repeat (first | apply Kd.R_alloc | apply Kd.R_drewN | apply Kd.R_drew)); exact Kd.R_mono HO455.out (fun _ hk => ⟨hk.1.2, hk.2⟩)⟩, ⟨hb_ HB⟩⟩
             case rest =>
              clear HC35
              try clear c1
              try clear c2
              try clear p2
              try clear c3
              try clear c6
              try clear c6b0
              try clear c6b1
              try clear c6b2
              try clear p6
              try clear c7
              try clear c8
              try clear c9
              try clear c10
              try clear c11
              try clear c12
              try clear c12b0
              try clear c12b1
              try clear c12b2
              try clear c13
              try clear c13b0
              try clear c13b1
              try clear c14
              try clear c14b0
              try clear c14b1
              try clear c15
              try clear c23
              try clear c23b0
              try clear c23b1
              try clear c26
              try clear c28
              try clear c28b0
              try clear c28b1
              try clear c31
              try clear c31b0
              try clear c31b1
              try clear c32
              try clear c32b0
              try clear c32b1
              try clear c33
              try clear c33b0
              try clear c33b1
              try clear c37
              try clear c37b0
              try clear p2
              try clear p6
              obtain ⟨kq, x102_34, rfl, HA, HJ34, HO_8, HO_10, HO_13, HB⟩ := hcut
              cases kq with
              | zero => exact absurd HA.out (by simp [laws_FnFrames.j3])
              | succ kj34 =>
               have H := HA.out
               clear HA
               simp only [laws_FnFrames.j3] at H
               by_cases c40 : x102_34 = true
               ·subst c40
                have H1 : (some false) = some r := by rw [if_pos rfl] at H; exact H
                clear H
                have H := H1
                clear H1
                exact absurd ((Option.some.inj H).trans HRT.out) (by decide)
               ·replace c40 := Bool.eq_false_iff.mpr c40
                subst c40
                have H1 : (laws_FnFrames.l0 kj34 t441 t442 t446 t452 0) = some r := by rw [if_neg (show ¬ (false = true) by decide)] at H; exact H
                clear H
                have H := H1
                clear H1
                have H' := Aside0.mk H
                clear H
                go_wp2
                go_loopg [15] kj34 (fun kq v15 w' => ∃ (x15_5 : Int), v15 = .int .i64 x15_5 ∧ Aside0 (laws_FnFrames.l0 kq t441 t442 t446 t452 x15_5 = some r) ∧ Aside0 (kq ≤ kj34) ∧ Aside0 (Kd.R k37 37 w' w.heap.size (fun k_ => some k_ ≠ (v448 : Value).ownBlock ∧ some k_ ≠ (v454 : Value).ownBlock) v444 t442) ∧ Aside0 (Kd.R k37 37 w' w.heap.size (fun k_ => some k_ ≠ (v444 : Value).ownBlock ∧ some k_ ≠ (v454 : Value).ownBlock) v448 t446) ∧ Aside0 (Kd.R k37 37 w' w.heap.size (fun k_ => some k_ ≠ (v444 : Value).ownBlock ∧ some k_ ≠ (v448 : Value).ownBlock) v454 t452) ∧ Aside0 (Below w.heap.size w w'))
                case atStart => exact ⟨(0), rs_, H', ⟨Nat.le_refl _⟩, ⟨rr_ HO_8⟩, ⟨rr_ HO_10⟩, ⟨rr_ HO_13⟩, ⟨hb_ HB⟩⟩
                case round =>
                 clear H'
                 try clear c1
                 try clear c2
                 try clear p2
                 try clear c3
                 try clear c4
                 try clear c6
                 try clear c6b0
                 try clear c6b1
                 try clear c6b2
                 try clear p6
                 try clear c7
                 try clear c8
                 try clear c9
                 try clear c10
                 try clear c11
                 try clear c12
                 try clear c12b0
                 try clear c12b1
                 try clear c12b2
                 try clear c13
                 try clear c13b0
                 try clear c13b1
                 try clear c14
                 try clear c14b0
                 try clear c14b1
                 try clear c15
                 try clear c23
                 try clear c23b0
                 try clear c23b1
                 try clear c26
                 try clear c28
                 try clear c28b0
                 try clear c28b1
                 try clear c31
                 try clear c31b0
                 try clear c31b1
                 try clear c32
                 try clear c32b0
                 try clear c32b1
                 try clear c33
                 try clear c33b0
                 try clear c33b1
                 try clear c37
                 try clear c37b0
                 try clear c40
                 try clear p2
                 try clear p6
                 obtain ⟨x15_5, rfl, HA, HK5, HO_8, HO_10, HO_13, HB⟩ := hrel
                 cases gk with
                 | zero => exact absurd HA.out (by simp [laws_FnFrames.l0])
                 | succ k5 =>
                  have H := HA.out
                  clear HA
                  simp only [laws_FnFrames.l0] at H
                  by_cases c41 : x15_5 < (t442.length : Int)
                  ·rw [if_pos c41] at H
                   have c41b0 : decide (x15_5 < (t442.length : Int)) = true := decide_eq_true c41
                   clear c41
                   by_cases c42 : 0 ≤ x15_5
                   ·rw [if_pos c42] at H
                    have c42b0 : decide (0 ≤ x15_5) = true := decide_eq_true c42
                    clear c42
                    replace H := Option.bind_eq_some_iff.mp H
                    obtain ⟨⟨t458, t459, t460, t461, t462, t463, t464⟩, A430, H⟩ := H
                    replace H : (if x15_5 < (t446.length : Int) then (if (!(((rd_T37 t442 x15_5).f0) == ((rd_T37 t446 x15_5).f0)) || (!(((rd_T37 t442 x15_5).f1) == ((rd_T37 t446 x15_5).f1)) || ((!(((rd_T37 t442 x15_5).f2.f0) == ((rd_T37 t446 x15_5).f2.f0)) || (!(((rd_T37 t442 x15_5).f2.f1) == ((rd_T37 t446 x15_5).f2.f1)) || (!((((rd_T37 t442 x15_5).f2.f2).toList) == (((rd_T37 t446 x15_5).f2.f2).toList)) || (!((((rd_T37 t442 x15_5).f2.f3).toList) == (((rd_T37 t446 x15_5).f2.f3).toList)) || (!(((rd_T37 t442 x15_5).f2.f4) == ((rd_T37 t446 x15_5).f2.f4)) || (!(((rd_T37 t442 x15_5).f2.f5) == ((rd_T37 t446 x15_5).f2.f5))))))))))) = true then (laws_FnFrames.j5 k5 t441 t442 t446 t452 x15_5 true) else (if t464 = true then (if (!(t458 == ((rd_T37 t442 x15_5).f2.f0)) || (!(t459 == ((rd_T37 t442 x15_5).f2.f1)) || (!(t460.toList == (((rd_T37 t442 x15_5).f2.f2).toList)) || (!(t461.toList == (((rd_T37 t442 x15_5).f2.f3).toList)) || (!(t462 == ((rd_T37 t442 x15_5).f2.f4)) || (!(t463 == ((rd_T37 t442 x15_5).f2.f5)))))))) = true then (laws_FnFrames.j5 k5 t441 t442 t446 t452 x15_5 true) else (if x15_5 < (t452.length : Int) then (laws_FnFrames.j5 k5 t441 t442 t446 t452 x15_5 (!(((rd_T37 t452 x15_5).f0) == ((rd_T37 t442 x15_5).f0)) || (!(((rd_T37 t452 x15_5).f1) == ((rd_T37 t442 x15_5).f1)) || ((!(((rd_T37 t452 x15_5).f2.f0) == ((rd_T37 t442 x15_5).f2.f0)) || (!(((rd_T37 t452 x15_5).f2.f1) == ((rd_T37 t442 x15_5).f2.f1)) || (!((((rd_T37 t452 x15_5).f2.f2).toList) == (((rd_T37 t442 x15_5).f2.f2).toList)) || (!((((rd_T37 t452 x15_5).f2.f3).toList) == (((rd_T37 t442 x15_5).f2.f3).toList)) || (!(((rd_T37 t452 x15_5).f2.f4) == ((rd_T37 t442 x15_5).f2.f4)) || (!(((rd_T37 t452 x15_5).f2.f5) == ((rd_T37 t442 x15_5).f2.f5)))))))))))) else (laws_FnFrames.j5 k5 t441 t442 t446 t452 x15_5 false))) else (laws_FnFrames.j5 k5 t441 t442 t446 t452 x15_5 true))) else (none)) = some r := H
                    have A43 := Aside0.mk A430
                    clear A430
                    have HC44 := Aside0.mk H
                    clear H
                    obtain ⟨Ao45, co45, eo45⟩ := Kd.R_slice HO_8.out
                    subst eo45
                    try go_wp2
                    replace HO_8 := rd_ HO_8
                    replace HO_10 := rd_ HO_10
                    replace HO_13 := rd_ HO_13
                    replace HB := hd_ HB
                    have p456 : 0 ≤ (x15_5 : Int) := of_decide_eq_true as_
                    have q456 : x15_5 < (t442.length : Int) := of_decide_eq_true as_
                    obtain ⟨ad456, e456, hx456_0, hx456_1, hx456_2, hx456_3, hx456_4, hx456_5, hx456_6, hx456_7⟩ := at_T37 (Kd.R_reads' HO_8.out).2.2 x15_5 p456 q456
                    cases e456
                    replace p456 := eq_true p456
                    replace q456 := eq_true q456
                    have p457 : 0 ≤ (x15_5 : Int) := of_decide_eq_true as_
                    have q457 : x15_5 < (t442.length : Int) := of_decide_eq_true as_
                    obtain ⟨ad457, e457, hx457_0, hx457_1, hx457_2, hx457_3, hx457_4, hx457_5, hx457_6, hx457_7⟩ := at_T37 (Kd.R_reads' HO_8.out).2.2 x15_5 p457 q457
                    obtain rfl : ad456 = ad457 := (by injection e457)
                    replace p457 := eq_true p457
                    replace q457 := eq_true q457
                    refine start_ (n := 18) (S := e8_ (ad456.add ((x15_5).toNat * 8)) (.int .i64 ((rd_T37 t442 x15_5).f0)) (.int .i64 ((rd_T37 t442 x15_5).f1)) (.int .i64 ((rd_T37 t442 x15_5).f2.f0)) (.int .i64 ((rd_T37 t442 x15_5).f2.f1)) (.string ((rd_T37 t442 x15_5).f2.f2)) (.string ((rd_T37 t442 x15_5).f2.f3)) (.int .i64 ((rd_T37 t442 x15_5).f2.f4)) (.int .i64 ((rd_T37 t442 x15_5).f2.f5)) (e8e_ (ad456.add ((x15_5).toNat * 8)) (.int .i64 ((rd_T37 t442 x15_5).f0)) (.int .i64 ((rd_T37 t442 x15_5).f1)) (.int .i64 ((rd_T37 t442 x15_5).f2.f0)) (.int .i64 ((rd_T37 t442 x15_5).f2.f1)) (.string ((rd_T37 t442 x15_5).f2.f2)) (.string ((rd_T37 t442 x15_5).f2.f3)) (.int .i64 ((rd_T37 t442 x15_5).f2.f4)) (.int .i64 ((rd_T37 t442 x15_5).f2.f5)))) (ds := []) (on_ 0 18) (by kernel_rfl) rfl rfl (q8_ hx456_0 hx456_1 hx456_2 hx456_3 hx456_4 hx456_5 hx456_6 hx456_7 (q8e_ hx457_0 hx457_1 hx457_2 hx457_3 hx457_4 hx457_5 hx457_6 hx457_7)) (fun hHeld => ?_); refine with_tabW laws_FnFrames.tab22 laws_FnFrames.bits22 (fun HT_ HW_ => ?_)
                    generalize wr.drew = w46 at HO_8 HO_10 HO_13 HB hx456_0 hx456_1 hx456_2 hx456_3 hx456_4 hx456_5 hx456_6 hx456_7 hx457_0 hx457_1 hx457_2 hx457_3 hx457_4 hx457_5 hx457_6 hx457_7 hHeld ⊢
                    refine pv_' 0 110 (on_ 1 17) rfl rfl HT_ ?_
                    refine pv_' 1 111 (on_ 2 16) rfl rfl HT_ ?_
                    refine pv_' 2 112 (on_ 3 15) rfl rfl HT_ ?_
                    refine pv_' 3 113 (on_ 4 14) rfl rfl HT_ ?_
                    refine pv_' 4 114 (on_ 5 13) rfl rfl HT_ ?_
                    refine pv_' 6 116 #[i',i',i',i',i',o',i',o',o',o',o',o',o',o',o',o',o',o'] rfl rfl HT_ ?_
                    refine pv_' 7 117 #[i',i',i',i',i',o',i',i',o',o',o',o',o',o',o',o',o',o'] rfl rfl HT_ ?_
                    refine pv_' 8 118 #[i',i',i',i',i',o',i',i',i',o',o',o',o',o',o',o',o',o'] rfl rfl HT_ ?_
                    refine pv_' 9 119 #[i',i',i',i',i',o',i',i',i',i',o',o',o',o',o',o',o',o'] rfl rfl HT_ ?_
                    refine take_ (i := 5) (N := some 115) (v := ?_) (a' := ?_) (on_ 10 8) rfl rfl (take_ofW HT_.out HW_.out (by kernel_rfl)) (fun _ _ _ h => h) (Or.inl ⟨by rfl, ?_⟩) hHeld ?_ ?_
                    rotate_left
                    ·rintro w' ⟨s0, s1, s2, s3, s4, s5, s6, s7, s8, s9, s10, s11, s12, s13, s14, s15⟩
                     go_simp
                     with_reducible rfl
                    rotate_left
                    ·simp only [Act.put, la_, lz_, ls_, i64_w, i32_w]
                     rfl
                    refine take_ (i := 10) (N := some 120) (v := ?_) (a' := ?_) (on_ 11 7) rfl rfl (take_ofW HT_.out HW_.out (by kernel_rfl)) (fun _ _ _ h => h) (Or.inl ⟨by rfl, ?_⟩) hHeld ?_ ?_
                    rotate_left
                    ·rintro w' ⟨s0, s1, s2, s3, s4, s5, s6, s7, s8, s9, s10, s11, s12, s13, s14, s15⟩
                     go_simp
                     with_reducible rfl
                    rotate_left
                    ·simp only [Act.put, la_, lz_, ls_, i64_w, i32_w]
                     rfl
                    refine join_ (σ := Nat) 2 (on_ 16 2) (fun s_ => [(121, .tuple #[.agg #[.int .i64 t458, .int .i64 t459, .string t460, .string t461, .int .i64 t462, .int .i64 t463], .bool t464]), (16, .pointer (some ⟨s_, 0, none⟩)), (109, .tuple #[.agg #[.int .i64 t458, .int .i64 t459, .string t460, .string t461, .int .i64 t462, .int .i64 t463], .bool t464]), (122, .agg #[.int .i64 t458, .int .i64 t459, .string t460, .string t461, .int .i64 t462, .int .i64 t463]), (123, .bool t464)]) (fun s_ w' => (w'.cell? (ad456.add ((x15_5).toNat * 8)) = some (.int .i64 ((rd_T37 t442 x15_5).f0)) ∧ w'.cell? ⟨(ad456.add ((x15_5).toNat * 8)).block, (ad456.add ((x15_5).toNat * 8)).off + 1, none⟩ = some (.int .i64 ((rd_T37 t442 x15_5).f1)) ∧ w'.cell? ⟨(ad456.add ((x15_5).toNat * 8)).block, (ad456.add ((x15_5).toNat * 8)).off + 2, none⟩ = some (.int .i64 ((rd_T37 t442 x15_5).f2.f0)) ∧ w'.cell? ⟨(ad456.add ((x15_5).toNat * 8)).block, (ad456.add ((x15_5).toNat * 8)).off + 3, none⟩ = some (.int .i64 ((rd_T37 t442 x15_5).f2.f1)) ∧ w'.cell? ⟨(ad456.add ((x15_5).toNat * 8)).block, (ad456.add ((x15_5).toNat * 8)).off + 4, none⟩ = some (.string ((rd_T37 t442 x15_5).f2.f2)) ∧ w'.cell? ⟨(ad456.add ((x15_5).toNat * 8)).block, (ad456.add ((x15_5).toNat * 8)).off + 5, none⟩ = some (.string ((rd_T37 t442 x15_5).f2.f3)) ∧ w'.cell? ⟨(ad456.add ((x15_5).toNat * 8)).block, (ad456.add ((x15_5).toNat * 8)).off + 6, none⟩ = some (.int .i64 ((rd_T37 t442 x15_5).f2.f4)) ∧ w'.cell? ⟨(ad456.add ((x15_5).toNat * 8)).block, (ad456.add ((x15_5).toNat * 8)).off + 7, none⟩ = some (.int .i64 ((rd_T37 t442 x15_5).f2.f5)) ∧ w'.cell? (ad456.add ((x15_5).toNat * 8)) = some (.int .i64 ((rd_T37 t442 x15_5).f0)) ∧ w'.cell? ⟨(ad456.add ((x15_5).toNat * 8)).block, (ad456.add ((x15_5).toNat * 8)).off + 1, none⟩ = some (.int .i64 ((rd_T37 t442 x15_5).f1)) ∧ w'.cell? ⟨(ad456.add ((x15_5).toNat * 8)).block, (ad456.add ((x15_5).toNat * 8)).off + 2, none⟩ = some (.int .i64 ((rd_T37 t442 x15_5).f2.f0)) ∧ w'.cell? ⟨(ad456.add ((x15_5).toNat * 8)).block, (ad456.add ((x15_5).toNat * 8)).off + 3, none⟩ = some (.int .i64 ((rd_T37 t442 x15_5).f2.f1)) ∧ w'.cell? ⟨(ad456.add ((x15_5).toNat * 8)).block, (ad456.add ((x15_5).toNat * 8)).off + 4, none⟩ = some (.string ((rd_T37 t442 x15_5).f2.f2)) ∧ w'.cell? ⟨(ad456.add ((x15_5).toNat * 8)).block, (ad456.add ((x15_5).toNat * 8)).off + 5, none⟩ = some (.string ((rd_T37 t442 x15_5).f2.f3)) ∧ w'.cell? ⟨(ad456.add ((x15_5).toNat * 8)).block, (ad456.add ((x15_5).toNat * 8)).off + 6, none⟩ = some (.int .i64 ((rd_T37 t442 x15_5).f2.f4)) ∧ w'.cell? ⟨(ad456.add ((x15_5).toNat * 8)).block, (ad456.add ((x15_5).toNat * 8)).off + 7, none⟩ = some (.int .i64 ((rd_T37 t442 x15_5).f2.f5))) ∧ (Kd.R k37 37 w' w.heap.size (fun k_ => some k_ ≠ (v454 : Value).ownBlock ∧ some k_ ≠ (.slice (some ad456) t442.length co45 : Value).ownBlock) v448 t446) ∧ (Kd.R k37 37 w' w.heap.size (fun k_ => some k_ ≠ (v448 : Value).ownBlock ∧ some k_ ≠ (.slice (some ad456) t442.length co45 : Value).ownBlock) v454 t452) ∧ (Kd.R k37 37 w' w.heap.size (fun k_ => some k_ ≠ (v448 : Value).ownBlock ∧ some k_ ≠ (v454 : Value).ownBlock) (.slice (some ad456) t442.length co45) t442) ∧ (w'.heap[s_]? = some (.cells #[.int .i64 0, .int .i64 0, .string (⟨#[]⟩ : ByteArray), .string (⟨#[]⟩ : ByteArray), .int .i64 0, .int .i64 0] 33 (0, 0))) ∧ (w.heap.size ≤ s_) ∧ (w.heap.size ≤ s_) ∧ (Below w.heap.size w w')) ?_ ?_
                    rotate_left
                    ·intro hCont
                     refine two_ (i := 11) (j := 15) (Ni := some 121) (Nj := some 16) (on_ 12 6) #[i',i',i',i',i',i',i',i',i',i',i',o',o',o',o',i',o',o'] rfl rfl rfl rfl (two_of HT_.out (by kernel_rfl)) (by decide) (by decide) (fun K hK => ?_) (fun K hK => ?_)
                     ·skip
                      refine goes_ Try.func14 (by kernel_rfl) rfl #[.string t441, .int .i64 ((rd_T37 t442 x15_5).f0), .int .i64 ((rd_T37 t442 x15_5).f1)] (by rfl) rfl rfl ar_ ?_
                      with_reducible refine (impl_RecAt.calls k5 t441 ((rd_T37 t442 x15_5).f0) ((rd_T37 t442 x15_5).f1) t458 t459 t460 t461 t462 t463 t464 _ A43.out).mono ?_
                      rintro e w47 ⟨rfl, hb⟩
                      have HS0_ := (hb.cell (World.block_lt_of_cell? _ _ (hHeld.1))).trans (hHeld.1)
                      have HS1_ := (hb.cell (World.block_lt_of_cell? _ _ (hHeld.2.1))).trans (hHeld.2.1)
                      have HS2_ := (hb.cell (World.block_lt_of_cell? _ _ (hHeld.2.2.1))).trans (hHeld.2.2.1)
                      have HS3_ := (hb.cell (World.block_lt_of_cell? _ _ (hHeld.2.2.2.1))).trans (hHeld.2.2.2.1)
                      have HS4_ := (hb.cell (World.block_lt_of_cell? _ _ (hHeld.2.2.2.2.1))).trans (hHeld.2.2.2.2.1)
                      have HS5_ := (hb.cell (World.block_lt_of_cell? _ _ (hHeld.2.2.2.2.2.1))).trans (hHeld.2.2.2.2.2.1)
                      have HS6_ := (hb.cell (World.block_lt_of_cell? _ _ (hHeld.2.2.2.2.2.2.1))).trans (hHeld.2.2.2.2.2.2.1)
                      have HS7_ := (hb.cell (World.block_lt_of_cell? _ _ (hHeld.2.2.2.2.2.2.2.1))).trans (hHeld.2.2.2.2.2.2.2.1)
                      have HS8_ := (hb.cell (World.block_lt_of_cell? _ _ (hHeld.2.2.2.2.2.2.2.2.1))).trans (hHeld.2.2.2.2.2.2.2.2.1)
                      have HS9_ := (hb.cell (World.block_lt_of_cell? _ _ (hHeld.2.2.2.2.2.2.2.2.2.1))).trans (hHeld.2.2.2.2.2.2.2.2.2.1)
                      have HS10_ := (hb.cell (World.block_lt_of_cell? _ _ (hHeld.2.2.2.2.2.2.2.2.2.2.1))).trans (hHeld.2.2.2.2.2.2.2.2.2.2.1)
                      have HS11_ := (hb.cell (World.block_lt_of_cell? _ _ (hHeld.2.2.2.2.2.2.2.2.2.2.2.1))).trans (hHeld.2.2.2.2.2.2.2.2.2.2.2.1)
                      have HS12_ := (hb.cell (World.block_lt_of_cell? _ _ (hHeld.2.2.2.2.2.2.2.2.2.2.2.2.1))).trans (hHeld.2.2.2.2.2.2.2.2.2.2.2.2.1)
                      have HS13_ := (hb.cell (World.block_lt_of_cell? _ _ (hHeld.2.2.2.2.2.2.2.2.2.2.2.2.2.1))).trans (hHeld.2.2.2.2.2.2.2.2.2.2.2.2.2.1)
                      have HS14_ := (hb.cell (World.block_lt_of_cell? _ _ (hHeld.2.2.2.2.2.2.2.2.2.2.2.2.2.2.1))).trans (hHeld.2.2.2.2.2.2.2.2.2.2.2.2.2.2.1)
                      have HS15_ := (hb.cell (World.block_lt_of_cell? _ _ (hHeld.2.2.2.2.2.2.2.2.2.2.2.2.2.2.2))).trans (hHeld.2.2.2.2.2.2.2.2.2.2.2.2.2.2.2)
                      refine ⟨_, rfl, ?_⟩
                      replace HO_8 := rb_ HO_8 hb
                      replace HO_10 := rb_ HO_10 hb
                      replace HO_13 := rb_ HO_13 hb
                      replace HB := bs_ HB hb
                      (try clear hb)
                      (try clear hb2)
                      (try clear hk)
                      (try clear hi)
                      refine hK.out _ _ (q8_ HS0_ HS1_ HS2_ HS3_ HS4_ HS5_ HS6_ HS7_ (q8e_ HS8_ HS9_ HS10_ HS11_ HS12_ HS13_ HS14_ HS15_)) (fun hHeld => ?_)
                      clear hK K
                      refine norm_ (a' := ?_) ?_ ?_
                      rotate_left
                      ·show Act.put _ (some 121) _ = _
                       simp only [Act.put, la_, lz_, ls_, i64_w, i32_w]
                       rfl
                      refine pv_' 12 109 (on_ 13 5) rfl rfl HT_ ?_
                      refine pv_' 13 122 (on_ 14 4) rfl rfl HT_ ?_
                      refine pv_' 14 123 (on_ 15 3) rfl rfl HT_ ?_
                      refine one_ (i := 15) (N := some 16) (on_ 16 2) rfl rfl (one_of HT_.out (by kernel_rfl)) (by decide) (fun K hK => ?_)
                      refine box_step ?hg (N := 16) ?hd (cs := #[.int .i64 0, .int .i64 0, .string (⟨#[]⟩ : ByteArray), .string (⟨#[]⟩ : ByteArray), .int .i64 0, .int .i64 0]) (t := 33) ?hr ?_; (case hd => rfl); (case hg => rfl); (case hr => first | (go_simp; done) | (go_simp; rfl))
                      intro gb465 hg w48 hbox hb
                      have HS0_ := (hb.cell (World.block_lt_of_cell? _ _ (hHeld.1))).trans (hHeld.1)
                      have HS1_ := (hb.cell (World.block_lt_of_cell? _ _ (hHeld.2.1))).trans (hHeld.2.1)
                      have HS2_ := (hb.cell (World.block_lt_of_cell? _ _ (hHeld.2.2.1))).trans (hHeld.2.2.1)
                      have HS3_ := (hb.cell (World.block_lt_of_cell? _ _ (hHeld.2.2.2.1))).trans (hHeld.2.2.2.1)
                      have HS4_ := (hb.cell (World.block_lt_of_cell? _ _ (hHeld.2.2.2.2.1))).trans (hHeld.2.2.2.2.1)
                      have HS5_ := (hb.cell (World.block_lt_of_cell? _ _ (hHeld.2.2.2.2.2.1))).trans (hHeld.2.2.2.2.2.1)
                      have HS6_ := (hb.cell (World.block_lt_of_cell? _ _ (hHeld.2.2.2.2.2.2.1))).trans (hHeld.2.2.2.2.2.2.1)
                      have HS7_ := (hb.cell (World.block_lt_of_cell? _ _ (hHeld.2.2.2.2.2.2.2.1))).trans (hHeld.2.2.2.2.2.2.2.1)
                      have HS8_ := (hb.cell (World.block_lt_of_cell? _ _ (hHeld.2.2.2.2.2.2.2.2.1))).trans (hHeld.2.2.2.2.2.2.2.2.1)
                      have HS9_ := (hb.cell (World.block_lt_of_cell? _ _ (hHeld.2.2.2.2.2.2.2.2.2.1))).trans (hHeld.2.2.2.2.2.2.2.2.2.1)
                      have HS10_ := (hb.cell (World.block_lt_of_cell? _ _ (hHeld.2.2.2.2.2.2.2.2.2.2.1))).trans (hHeld.2.2.2.2.2.2.2.2.2.2.1)
                      have HS11_ := (hb.cell (World.block_lt_of_cell? _ _ (hHeld.2.2.2.2.2.2.2.2.2.2.2.1))).trans (hHeld.2.2.2.2.2.2.2.2.2.2.2.1)
                      have HS12_ := (hb.cell (World.block_lt_of_cell? _ _ (hHeld.2.2.2.2.2.2.2.2.2.2.2.2.1))).trans (hHeld.2.2.2.2.2.2.2.2.2.2.2.2.1)
                      have HS13_ := (hb.cell (World.block_lt_of_cell? _ _ (hHeld.2.2.2.2.2.2.2.2.2.2.2.2.2.1))).trans (hHeld.2.2.2.2.2.2.2.2.2.2.2.2.2.1)
                      have HS14_ := (hb.cell (World.block_lt_of_cell? _ _ (hHeld.2.2.2.2.2.2.2.2.2.2.2.2.2.2.1))).trans (hHeld.2.2.2.2.2.2.2.2.2.2.2.2.2.2.1)
                      have HS15_ := (hb.cell (World.block_lt_of_cell? _ _ (hHeld.2.2.2.2.2.2.2.2.2.2.2.2.2.2.2))).trans (hHeld.2.2.2.2.2.2.2.2.2.2.2.2.2.2.2)
                      replace HO_8 := rb_ HO_8 hb
                      replace HO_10 := rb_ HO_10 hb
                      replace HO_13 := rb_ HO_13 hb
                      have BK465 := Aside0.mk (hbox)
                      have GW465 := ge_ hg (hb_ HB)
                      have GE465 := ge_ hg (hb_ HB)
                      replace HB := bs_ HB hb
                      clear hb hbox hg
                      refine hK.out _ _ (q8_ HS0_ HS1_ HS2_ HS3_ HS4_ HS5_ HS6_ HS7_ (q8e_ HS8_ HS9_ HS10_ HS11_ HS12_ HS13_ HS14_ HS15_)) (fun hHeld => ?_)
                      clear hK K
                      refine norm_ (a' := ?_) ?_ ?_
                      rotate_left
                      ·show Act.put _ (some 16) _ = _
                       simp only [Act.put, la_, lz_, ls_, i64_w, i32_w]
                       rfl
                      exact norm_ (by simp only [putAll, Act.put, la_, lz_, ls_]) (hCont (gb465) _ ⟨hHeld, (by (with_reducible repeat (first | apply Kd.R_alloc | apply Kd.R_drewN | apply Kd.R_drew)); exact Kd.R_mono HO_10.out (fun _ hk => ⟨hk.2, hk.1⟩)), (by (with_reducible repeat (first | apply Kd.R_alloc | apply Kd.R_drewN | apply Kd.R_drew)); exact Kd.R_mono HO_13.out (fun _ hk => ⟨hk.2, hk.1⟩)), (rr_ HO_8), (bk_ BK465), GW465.out, GE465.out, (hs_ HB GE465)⟩)
                     ·skip
                      refine box_step ?hg (N := 16) ?hd (cs := #[.int .i64 0, .int .i64 0, .string (⟨#[]⟩ : ByteArray), .string (⟨#[]⟩ : ByteArray), .int .i64 0, .int .i64 0]) (t := 33) ?hr ?_; (case hd => rfl); (case hg => rfl); (case hr => first | (go_simp; done) | (go_simp; rfl))
                      intro gb465 hg w47 hbox hb
                      have HS0_ := (hb.cell (World.block_lt_of_cell? _ _ (hHeld.1))).trans (hHeld.1)
                      have HS1_ := (hb.cell (World.block_lt_of_cell? _ _ (hHeld.2.1))).trans (hHeld.2.1)
                      have HS2_ := (hb.cell (World.block_lt_of_cell? _ _ (hHeld.2.2.1))).trans (hHeld.2.2.1)
                      have HS3_ := (hb.cell (World.block_lt_of_cell? _ _ (hHeld.2.2.2.1))).trans (hHeld.2.2.2.1)
                      have HS4_ := (hb.cell (World.block_lt_of_cell? _ _ (hHeld.2.2.2.2.1))).trans (hHeld.2.2.2.2.1)
                      have HS5_ := (hb.cell (World.block_lt_of_cell? _ _ (hHeld.2.2.2.2.2.1))).trans (hHeld.2.2.2.2.2.1)
                      have HS6_ := (hb.cell (World.block_lt_of_cell? _ _ (hHeld.2.2.2.2.2.2.1))).trans (hHeld.2.2.2.2.2.2.1)
                      have HS7_ := (hb.cell (World.block_lt_of_cell? _ _ (hHeld.2.2.2.2.2.2.2.1))).trans (hHeld.2.2.2.2.2.2.2.1)
                      have HS8_ := (hb.cell (World.block_lt_of_cell? _ _ (hHeld.2.2.2.2.2.2.2.2.1))).trans (hHeld.2.2.2.2.2.2.2.2.1)
                      have HS9_ := (hb.cell (World.block_lt_of_cell? _ _ (hHeld.2.2.2.2.2.2.2.2.2.1))).trans (hHeld.2.2.2.2.2.2.2.2.2.1)
                      have HS10_ := (hb.cell (World.block_lt_of_cell? _ _ (hHeld.2.2.2.2.2.2.2.2.2.2.1))).trans (hHeld.2.2.2.2.2.2.2.2.2.2.1)
                      have HS11_ := (hb.cell (World.block_lt_of_cell? _ _ (hHeld.2.2.2.2.2.2.2.2.2.2.2.1))).trans (hHeld.2.2.2.2.2.2.2.2.2.2.2.1)
                      have HS12_ := (hb.cell (World.block_lt_of_cell? _ _ (hHeld.2.2.2.2.2.2.2.2.2.2.2.2.1))).trans (hHeld.2.2.2.2.2.2.2.2.2.2.2.2.1)
                      have HS13_ := (hb.cell (World.block_lt_of_cell? _ _ (hHeld.2.2.2.2.2.2.2.2.2.2.2.2.2.1))).trans (hHeld.2.2.2.2.2.2.2.2.2.2.2.2.2.1)
                      have HS14_ := (hb.cell (World.block_lt_of_cell? _ _ (hHeld.2.2.2.2.2.2.2.2.2.2.2.2.2.2.1))).trans (hHeld.2.2.2.2.2.2.2.2.2.2.2.2.2.2.1)
                      have HS15_ := (hb.cell (World.block_lt_of_cell? _ _ (hHeld.2.2.2.2.2.2.2.2.2.2.2.2.2.2.2))).trans (hHeld.2.2.2.2.2.2.2.2.2.2.2.2.2.2.2)
                      replace HO_8 := rb_ HO_8 hb
                      replace HO_10 := rb_ HO_10 hb
                      replace HO_13 := rb_ HO_13 hb
                      have BK465 := Aside0.mk (hbox)
                      have GW465 := ge_ hg (hb_ HB)
                      have GE465 := ge_ hg (hb_ HB)
                      replace HB := bs_ HB hb
                      clear hb hbox hg
                      refine hK.out _ _ (q8_ HS0_ HS1_ HS2_ HS3_ HS4_ HS5_ HS6_ HS7_ (q8e_ HS8_ HS9_ HS10_ HS11_ HS12_ HS13_ HS14_ HS15_)) (fun hHeld => ?_)
                      clear hK K
                      refine norm_ (a' := ?_) ?_ ?_
                      rotate_left
                      ·show Act.put _ (some 16) _ = _
                       simp only [Act.put, la_, lz_, ls_, i64_w, i32_w]
                       rfl
                      refine one_ (i := 11) (N := some 121) #[i',i',i',i',i',i',i',i',i',i',i',i',o',o',o',i',o',o'] rfl rfl (one_of HT_.out (by kernel_rfl)) (by decide) (fun K hK => ?_)
                      refine goes_ Try.func14 (by kernel_rfl) rfl #[.string t441, .int .i64 ((rd_T37 t442 x15_5).f0), .int .i64 ((rd_T37 t442 x15_5).f1)] (by rfl) rfl rfl ar_ ?_
                      with_reducible refine (impl_RecAt.calls k5 t441 ((rd_T37 t442 x15_5).f0) ((rd_T37 t442 x15_5).f1) t458 t459 t460 t461 t462 t463 t464 _ A43.out).mono ?_
                      rintro e w48 ⟨rfl, hb⟩
                      have HS0_ := (hb.cell (World.block_lt_of_cell? _ _ (hHeld.1))).trans (hHeld.1)
                      have HS1_ := (hb.cell (World.block_lt_of_cell? _ _ (hHeld.2.1))).trans (hHeld.2.1)
                      have HS2_ := (hb.cell (World.block_lt_of_cell? _ _ (hHeld.2.2.1))).trans (hHeld.2.2.1)
                      have HS3_ := (hb.cell (World.block_lt_of_cell? _ _ (hHeld.2.2.2.1))).trans (hHeld.2.2.2.1)
                      have HS4_ := (hb.cell (World.block_lt_of_cell? _ _ (hHeld.2.2.2.2.1))).trans (hHeld.2.2.2.2.1)
                      have HS5_ := (hb.cell (World.block_lt_of_cell? _ _ (hHeld.2.2.2.2.2.1))).trans (hHeld.2.2.2.2.2.1)
                      have HS6_ := (hb.cell (World.block_lt_of_cell? _ _ (hHeld.2.2.2.2.2.2.1))).trans (hHeld.2.2.2.2.2.2.1)
                      have HS7_ := (hb.cell (World.block_lt_of_cell? _ _ (hHeld.2.2.2.2.2.2.2.1))).trans (hHeld.2.2.2.2.2.2.2.1)
                      have HS8_ := (hb.cell (World.block_lt_of_cell? _ _ (hHeld.2.2.2.2.2.2.2.2.1))).trans (hHeld.2.2.2.2.2.2.2.2.1)
                      have HS9_ := (hb.cell (World.block_lt_of_cell? _ _ (hHeld.2.2.2.2.2.2.2.2.2.1))).trans (hHeld.2.2.2.2.2.2.2.2.2.1)
                      have HS10_ := (hb.cell (World.block_lt_of_cell? _ _ (hHeld.2.2.2.2.2.2.2.2.2.2.1))).trans (hHeld.2.2.2.2.2.2.2.2.2.2.1)
                      have HS11_ := (hb.cell (World.block_lt_of_cell? _ _ (hHeld.2.2.2.2.2.2.2.2.2.2.2.1))).trans (hHeld.2.2.2.2.2.2.2.2.2.2.2.1)
                      have HS12_ := (hb.cell (World.block_lt_of_cell? _ _ (hHeld.2.2.2.2.2.2.2.2.2.2.2.2.1))).trans (hHeld.2.2.2.2.2.2.2.2.2.2.2.2.1)
                      have HS13_ := (hb.cell (World.block_lt_of_cell? _ _ (hHeld.2.2.2.2.2.2.2.2.2.2.2.2.2.1))).trans (hHeld.2.2.2.2.2.2.2.2.2.2.2.2.2.1)
                      have HS14_ := (hb.cell (World.block_lt_of_cell? _ _ (hHeld.2.2.2.2.2.2.2.2.2.2.2.2.2.2.1))).trans (hHeld.2.2.2.2.2.2.2.2.2.2.2.2.2.2.1)
                      have HS15_ := (hb.cell (World.block_lt_of_cell? _ _ (hHeld.2.2.2.2.2.2.2.2.2.2.2.2.2.2.2))).trans (hHeld.2.2.2.2.2.2.2.2.2.2.2.2.2.2.2)
                      refine ⟨_, rfl, ?_⟩
                      replace HO_8 := rb_ HO_8 hb
                      replace HO_10 := rb_ HO_10 hb
                      replace HO_13 := rb_ HO_13 hb
                      replace BK465 := bb_ BK465 hb
                      replace HB := bt_ HB GE465 hb
                      (try clear hb)
                      (try clear hb2)
                      (try clear hk)
                      (try clear hi)
                      refine hK.out _ _ (q8_ HS0_ HS1_ HS2_ HS3_ HS4_ HS5_ HS6_ HS7_ (q8e_ HS8_ HS9_ HS10_ HS11_ HS12_ HS13_ HS14_ HS15_)) (fun hHeld => ?_)
                      clear hK K
                      refine norm_ (a' := ?_) ?_ ?_
                      rotate_left
                      ·show Act.put _ (some 121) _ = _
                       simp only [Act.put, la_, lz_, ls_, i64_w, i32_w]
                       rfl
                      refine pv_' 12 109 #[i',i',i',i',i',i',i',i',i',i',i',i',i',o',o',i',o',o'] rfl rfl HT_ ?_
                      refine pv_' 13 122 #[i',i',i',i',i',i',i',i',i',i',i',i',i',i',o',i',o',o'] rfl rfl HT_ ?_
                      refine pv_' 14 123 (on_ 16 2) rfl rfl HT_ ?_
                      exact norm_ (by simp only [putAll, Act.put, la_, lz_, ls_]) (hCont (gb465) _ ⟨hHeld, (by (with_reducible repeat (first | apply Kd.R_alloc | apply Kd.R_drewN | apply Kd.R_drew)); exact Kd.R_mono HO_10.out (fun _ hk => ⟨hk.2, hk.1⟩)), (by (with_reducible repeat (first | apply Kd.R_alloc | apply Kd.R_drewN | apply Kd.R_drew)); exact Kd.R_mono HO_13.out (fun _ hk => ⟨hk.2, hk.1⟩)), (rr_ HO_8), (bk_ BK465), GW465.out, GE465.out, (hs_ HB GE465)⟩)
                    rintro gb465 w49 ⟨hS_, h0_, h1_, h2_, h3_, h4_, h5_, h6_⟩
                    have n0_ : Aside0 (Kd.R k37 37 w49 w.heap.size (fun k_ => some k_ ≠ (v454 : Value).ownBlock ∧ some k_ ≠ (.slice (some ad456) t442.length co45 : Value).ownBlock) v448 t446) := ⟨h0_⟩
                    have n1_ : Aside0 (Kd.R k37 37 w49 w.heap.size (fun k_ => some k_ ≠ (v448 : Value).ownBlock ∧ some k_ ≠ (.slice (some ad456) t442.length co45 : Value).ownBlock) v454 t452) := ⟨h1_⟩
                    have n2_ : Aside0 (Kd.R k37 37 w49 w.heap.size (fun k_ => some k_ ≠ (v448 : Value).ownBlock ∧ some k_ ≠ (v454 : Value).ownBlock) (.slice (some ad456) t442.length co45) t442) := ⟨h2_⟩
                    have n3_ : Aside0 (w49.heap[gb465]? = some (.cells #[.int .i64 0, .int .i64 0, .string (⟨#[]⟩ : ByteArray), .string (⟨#[]⟩ : ByteArray), .int .i64 0, .int .i64 0] 33 (0, 0))) := ⟨h3_⟩
                    have n4_ : Aside0 (w.heap.size ≤ gb465) := ⟨h4_⟩
                    have n5_ : Aside0 (w.heap.size ≤ gb465) := ⟨h5_⟩
                    have n6_ : Aside0 (Below w.heap.size w w49) := ⟨h6_⟩
                    clear HO_8
                    clear HO_10
                    clear HO_13
                    clear HB
                    clear h0_ h1_ h2_ h3_ h4_ h5_ h6_
                    have HO_10 := n0_
                    have HO_13 := n1_
                    have HO_8 := n2_
                    have BK465 := n3_
                    have GW465 := n4_
                    have GE465 := n5_
                    have HB := n6_
                    clear n0_ n1_ n2_ n3_ n4_ n5_ n6_
                    have hHeld : w49.cell? (ad456.add ((x15_5).toNat * 8)) = some (.int .i64 ((rd_T37 t442 x15_5).f0)) ∧ w49.cell? ⟨(ad456.add ((x15_5).toNat * 8)).block, (ad456.add ((x15_5).toNat * 8)).off + 1, none⟩ = some (.int .i64 ((rd_T37 t442 x15_5).f1)) ∧ w49.cell? ⟨(ad456.add ((x15_5).toNat * 8)).block, (ad456.add ((x15_5).toNat * 8)).off + 2, none⟩ = some (.int .i64 ((rd_T37 t442 x15_5).f2.f0)) ∧ w49.cell? ⟨(ad456.add ((x15_5).toNat * 8)).block, (ad456.add ((x15_5).toNat * 8)).off + 3, none⟩ = some (.int .i64 ((rd_T37 t442 x15_5).f2.f1)) ∧ w49.cell? ⟨(ad456.add ((x15_5).toNat * 8)).block, (ad456.add ((x15_5).toNat * 8)).off + 4, none⟩ = some (.string ((rd_T37 t442 x15_5).f2.f2)) ∧ w49.cell? ⟨(ad456.add ((x15_5).toNat * 8)).block, (ad456.add ((x15_5).toNat * 8)).off + 5, none⟩ = some (.string ((rd_T37 t442 x15_5).f2.f3)) ∧ w49.cell? ⟨(ad456.add ((x15_5).toNat * 8)).block, (ad456.add ((x15_5).toNat * 8)).off + 6, none⟩ = some (.int .i64 ((rd_T37 t442 x15_5).f2.f4)) ∧ w49.cell? ⟨(ad456.add ((x15_5).toNat * 8)).block, (ad456.add ((x15_5).toNat * 8)).off + 7, none⟩ = some (.int .i64 ((rd_T37 t442 x15_5).f2.f5)) ∧ w49.cell? (ad456.add ((x15_5).toNat * 8)) = some (.int .i64 ((rd_T37 t442 x15_5).f0)) ∧ w49.cell? ⟨(ad456.add ((x15_5).toNat * 8)).block, (ad456.add ((x15_5).toNat * 8)).off + 1, none⟩ = some (.int .i64 ((rd_T37 t442 x15_5).f1)) ∧ w49.cell? ⟨(ad456.add ((x15_5).toNat * 8)).block, (ad456.add ((x15_5).toNat * 8)).off + 2, none⟩ = some (.int .i64 ((rd_T37 t442 x15_5).f2.f0)) ∧ w49.cell? ⟨(ad456.add ((x15_5).toNat * 8)).block, (ad456.add ((x15_5).toNat * 8)).off + 3, none⟩ = some (.int .i64 ((rd_T37 t442 x15_5).f2.f1)) ∧ w49.cell? ⟨(ad456.add ((x15_5).toNat * 8)).block, (ad456.add ((x15_5).toNat * 8)).off + 4, none⟩ = some (.string ((rd_T37 t442 x15_5).f2.f2)) ∧ w49.cell? ⟨(ad456.add ((x15_5).toNat * 8)).block, (ad456.add ((x15_5).toNat * 8)).off + 5, none⟩ = some (.string ((rd_T37 t442 x15_5).f2.f3)) ∧ w49.cell? ⟨(ad456.add ((x15_5).toNat * 8)).block, (ad456.add ((x15_5).toNat * 8)).off + 6, none⟩ = some (.int .i64 ((rd_T37 t442 x15_5).f2.f4)) ∧ w49.cell? ⟨(ad456.add ((x15_5).toNat * 8)).block, (ad456.add ((x15_5).toNat * 8)).off + 7, none⟩ = some (.int .i64 ((rd_T37 t442 x15_5).f2.f5)) := hS_
                    refine norm_ (a' := ?_) ?_ ?_
                    rotate_left
                    ·simp only [putAll, Act.put, la_, lz_, ls_]
                     rfl
                    refine one_ (i := 16) (N := none) (on_ 17 1) rfl rfl (one_of HT_.out (by kernel_rfl)) (by decide) (fun K hK => ?_)
                    have hs50 : w49.cell? ⟨gb465, 0, none⟩ = some (.int .i64 0) := (blk_cell BK465.out 0).trans rfl
                    have hfs50 := blk_frozen BK465.out 0
                    have hs51 : w49.cell? ⟨gb465, 1, none⟩ = some (.int .i64 0) := (blk_cell BK465.out 1).trans rfl
                    have hfs51 := blk_frozen BK465.out 1
                    have hs52 : w49.cell? ⟨gb465, 2, none⟩ = some (.string (⟨#[]⟩ : ByteArray)) := (blk_cell BK465.out 2).trans rfl
                    have hfs52 := blk_frozen BK465.out 2
                    have hs53 : w49.cell? ⟨gb465, 3, none⟩ = some (.string (⟨#[]⟩ : ByteArray)) := (blk_cell BK465.out 3).trans rfl
                    have hfs53 := blk_frozen BK465.out 3
                    have hs54 : w49.cell? ⟨gb465, 4, none⟩ = some (.int .i64 0) := (blk_cell BK465.out 4).trans rfl
                    have hfs54 := blk_frozen BK465.out 4
                    have hs55 : w49.cell? ⟨gb465, 5, none⟩ = some (.int .i64 0) := (blk_cell BK465.out 5).trans rfl
                    have hfs55 := blk_frozen BK465.out 5
                    refine skip_ (w1 := ?_) (by rfl) rfl ?_ ?_
                    rotate_left
                    ·go_simp
                     rfl
                    refine hK.out _ _ (q8_ ((cell_far (p := ⟨gb465, _, none⟩) (by first | exact Kd.own_blk (Kd.R_ne HO_8.out BK465.out (by decide)) | (rw [add_block]; exact Kd.own_blk (Kd.R_ne HO_8.out BK465.out (by decide))) | (show (Addr.add _ _).block ≠ _; rw [add_block]; exact Kd.own_blk (Kd.R_ne HO_8.out BK465.out (by decide))) | (dsimp only; exact Kd.own_blk (Kd.R_ne HO_8.out BK465.out (by decide)))) _).trans (((cell_far (p := ⟨gb465, _, none⟩) (by first | exact Kd.own_blk (Kd.R_ne HO_8.out BK465.out (by decide)) | (rw [add_block]; exact Kd.own_blk (Kd.R_ne HO_8.out BK465.out (by decide))) | (show (Addr.add _ _).block ≠ _; rw [add_block]; exact Kd.own_blk (Kd.R_ne HO_8.out BK465.out (by decide))) | (dsimp only; exact Kd.own_blk (Kd.R_ne HO_8.out BK465.out (by decide)))) _).trans (((cell_far (p := ⟨gb465, _, none⟩) (by first | exact Kd.own_blk (Kd.R_ne HO_8.out BK465.out (by decide)) | (rw [add_block]; exact Kd.own_blk (Kd.R_ne HO_8.out BK465.out (by decide))) | (show (Addr.add _ _).block ≠ _; rw [add_block]; exact Kd.own_blk (Kd.R_ne HO_8.out BK465.out (by decide))) | (dsimp only; exact Kd.own_blk (Kd.R_ne HO_8.out BK465.out (by decide)))) _).trans (((cell_far (p := ⟨gb465, _, none⟩) (by first | exact Kd.own_blk (Kd.R_ne HO_8.out BK465.out (by decide)) | (rw [add_block]; exact Kd.own_blk (Kd.R_ne HO_8.out BK465.out (by decide))) | (show (Addr.add _ _).block ≠ _; rw [add_block]; exact Kd.own_blk (Kd.R_ne HO_8.out BK465.out (by decide))) | (dsimp only; exact Kd.own_blk (Kd.R_ne HO_8.out BK465.out (by decide)))) _).trans (((cell_far (p := ⟨gb465, _, none⟩) (by first | exact Kd.own_blk (Kd.R_ne HO_8.out BK465.out (by decide)) | (rw [add_block]; exact Kd.own_blk (Kd.R_ne HO_8.out BK465.out (by decide))) | (show (Addr.add _ _).block ≠ _; rw [add_block]; exact Kd.own_blk (Kd.R_ne HO_8.out BK465.out (by decide))) | (dsimp only; exact Kd.own_blk (Kd.R_ne HO_8.out BK465.out (by decide)))) _).trans (((cell_far (p := ⟨gb465, _, none⟩) (by first | exact Kd.own_blk (Kd.R_ne HO_8.out BK465.out (by decide)) | (rw [add_block]; exact Kd.own_blk (Kd.R_ne HO_8.out BK465.out (by decide))) | (show (Addr.add _ _).block ≠ _; rw [add_block]; exact Kd.own_blk (Kd.R_ne HO_8.out BK465.out (by decide))) | (dsimp only; exact Kd.own_blk (Kd.R_ne HO_8.out BK465.out (by decide)))) _).trans (hHeld.1)))))))))))) ((cell_far (p := ⟨gb465, _, none⟩) (by first | exact Kd.own_blk (Kd.R_ne HO_8.out BK465.out (by decide)) | (rw [add_block]; exact Kd.own_blk (Kd.R_ne HO_8.out BK465.out (by decide))) | (show (Addr.add _ _).block ≠ _; rw [add_block]; exact Kd.own_blk (Kd.R_ne HO_8.out BK465.out (by decide))) | (dsimp only; exact Kd.own_blk (Kd.R_ne HO_8.out BK465.out (by decide)))) _).trans (((cell_far (p := ⟨gb465, _, none⟩) (by first | exact Kd.own_blk (Kd.R_ne HO_8.out BK465.out (by decide)) | (rw [add_block]; exact Kd.own_blk (Kd.R_ne HO_8.out BK465.out (by decide))) | (show (Addr.add _ _).block ≠ _; rw [add_block]; exact Kd.own_blk (Kd.R_ne HO_8.out BK465.out (by decide))) | (dsimp only; exact Kd.own_blk (Kd.R_ne HO_8.out BK465.out (by decide)))) _).trans (((cell_far (p := ⟨gb465, _, none⟩) (by first | exact Kd.own_blk (Kd.R_ne HO_8.out BK465.out (by decide)) | (rw [add_block]; exact Kd.own_blk (Kd.R_ne HO_8.out BK465.out (by decide))) | (show (Addr.add _ _).block ≠ _; rw [add_block]; exact Kd.own_blk (Kd.R_ne HO_8.out BK465.out (by decide))) | (dsimp only; exact Kd.own_blk (Kd.R_ne HO_8.out BK465.out (by decide)))) _).trans (((cell_far (p := ⟨gb465, _, none⟩) (by first | exact Kd.own_blk (Kd.R_ne HO_8.out BK465.out (by decide)) | (rw [add_block]; exact Kd.own_blk (Kd.R_ne HO_8.out BK465.out (by decide))) | (show (Addr.add _ _).block ≠ _; rw [add_block]; exact Kd.own_blk (Kd.R_ne HO_8.out BK465.out (by decide))) | (dsimp only; exact Kd.own_blk (Kd.R_ne HO_8.out BK465.out (by decide)))) _).trans (((cell_far (p := ⟨gb465, _, none⟩) (by first | exact Kd.own_blk (Kd.R_ne HO_8.out BK465.out (by decide)) | (rw [add_block]; exact Kd.own_blk (Kd.R_ne HO_8.out BK465.out (by decide))) | (show (Addr.add _ _).block ≠ _; rw [add_block]; exact Kd.own_blk (Kd.R_ne HO_8.out BK465.out (by decide))) | (dsimp only; exact Kd.own_blk (Kd.R_ne HO_8.out BK465.out (by decide)))) _).trans (((cell_far (p := ⟨gb465, _, none⟩) (by first | exact Kd.own_blk (Kd.R_ne HO_8.out BK465.out (by decide)) | (rw [add_block]; exact Kd.own_blk (Kd.R_ne HO_8.out BK465.out (by decide))) | (show (Addr.add _ _).block ≠ _; rw [add_block]; exact Kd.own_blk (Kd.R_ne HO_8.out BK465.out (by decide))) | (dsimp only; exact Kd.own_blk (Kd.R_ne HO_8.out BK465.out (by decide)))) _).trans (hHeld.2.1)))))))))))) ((cell_far (p := ⟨gb465, _, none⟩) (by first | exact Kd.own_blk (Kd.R_ne HO_8.out BK465.out (by decide)) | (rw [add_block]; exact Kd.own_blk (Kd.R_ne HO_8.out BK465.out (by decide))) | (show (Addr.add _ _).block ≠ _; rw [add_block]; exact Kd.own_blk (Kd.R_ne HO_8.out BK465.out (by decide))) | (dsimp only; exact Kd.own_blk (Kd.R_ne HO_8.out BK465.out (by decide)))) _).trans (((cell_far (p := ⟨gb465, _, none⟩) (by first | exact Kd.own_blk (Kd.R_ne HO_8.out BK465.out (by decide)) | (rw [add_block]; exact Kd.own_blk (Kd.R_ne HO_8.out BK465.out (by decide))) | (show (Addr.add _ _).block ≠ _; rw [add_block]; exact Kd.own_blk (Kd.R_ne HO_8.out BK465.out (by decide))) | (dsimp only; exact Kd.own_blk (Kd.R_ne HO_8.out BK465.out (by decide)))) _).trans (((cell_far (p := ⟨gb465, _, none⟩) (by first | exact Kd.own_blk (Kd.R_ne HO_8.out BK465.out (by decide)) | (rw [add_block]; exact Kd.own_blk (Kd.R_ne HO_8.out BK465.out (by decide))) | (show (Addr.add _ _).block ≠ _; rw [add_block]; exact Kd.own_blk (Kd.R_ne HO_8.out BK465.out (by decide))) | (dsimp only; exact Kd.own_blk (Kd.R_ne HO_8.out BK465.out (by decide)))) _).trans (((cell_far (p := ⟨gb465, _, none⟩) (by first | exact Kd.own_blk (Kd.R_ne HO_8.out BK465.out (by decide)) | (rw [add_block]; exact Kd.own_blk (Kd.R_ne HO_8.out BK465.out (by decide))) | (show (Addr.add _ _).block ≠ _; rw [add_block]; exact Kd.own_blk (Kd.R_ne HO_8.out BK465.out (by decide))) | (dsimp only; exact Kd.own_blk (Kd.R_ne HO_8.out BK465.out (by decide)))) _).trans (((cell_far (p := ⟨gb465, _, none⟩) (by first | exact Kd.own_blk (Kd.R_ne HO_8.out BK465.out (by decide)) | (rw [add_block]; exact Kd.own_blk (Kd.R_ne HO_8.out BK465.out (by decide))) | (show (Addr.add _ _).block ≠ _; rw [add_block]; exact Kd.own_blk (Kd.R_ne HO_8.out BK465.out (by decide))) | (dsimp only; exact Kd.own_blk (Kd.R_ne HO_8.out BK465.out (by decide)))) _).trans (((cell_far (p := ⟨gb465, _, none⟩) (by first | exact Kd.own_blk (Kd.R_ne HO_8.out BK465.out (by decide)) | (rw [add_block]; exact Kd.own_blk (Kd.R_ne HO_8.out BK465.out (by decide))) | (show (Addr.add _ _).block ≠ _; rw [add_block]; exact Kd.own_blk (Kd.R_ne HO_8.out BK465.out (by decide))) | (dsimp only; exact Kd.own_blk (Kd.R_ne HO_8.out BK465.out (by decide)))) _).trans (hHeld.2.2.1)))))))))))) ((cell_far (p := ⟨gb465, _, none⟩) (by first | exact Kd.own_blk (Kd.R_ne HO_8.out BK465.out (by decide)) | (rw [add_block]; exact Kd.own_blk (Kd.R_ne HO_8.out BK465.out (by decide))) | (show (Addr.add _ _).block ≠ _; rw [add_block]; exact Kd.own_blk (Kd.R_ne HO_8.out BK465.out (by decide))) | (dsimp only; exact Kd.own_blk (Kd.R_ne HO_8.out BK465.out (by decide)))) _).trans (((cell_far (p := ⟨gb465, _, none⟩) (by first | exact Kd.own_blk (Kd.R_ne HO_8.out BK465.out (by decide)) | (rw [add_block]; exact Kd.own_blk (Kd.R_ne HO_8.out BK465.out (by decide))) | (show (Addr.add _ _).block ≠ _; rw [add_block]; exact Kd.own_blk (Kd.R_ne HO_8.out BK465.out (by decide))) | (dsimp only; exact Kd.own_blk (Kd.R_ne HO_8.out BK465.out (by decide)))) _).trans (((cell_far (p := ⟨gb465, _, none⟩) (by first | exact Kd.own_blk (Kd.R_ne HO_8.out BK465.out (by decide)) | (rw [add_block]; exact Kd.own_blk (Kd.R_ne HO_8.out BK465.out (by decide))) | (show (Addr.add _ _).block ≠ _; rw [add_block]; exact Kd.own_blk (Kd.R_ne HO_8.out BK465.out (by decide))) | (dsimp only; exact Kd.own_blk (Kd.R_ne HO_8.out BK465.out (by decide)))) _).trans (((cell_far (p := ⟨gb465, _, none⟩) (by first | exact Kd.own_blk (Kd.R_ne HO_8.out BK465.out (by decide)) | (rw [add_block]; exact Kd.own_blk (Kd.R_ne HO_8.out BK465.out (by decide))) | (show (Addr.add _ _).block ≠ _; rw [add_block]; exact Kd.own_blk (Kd.R_ne HO_8.out BK465.out (by decide))) | (dsimp only; exact Kd.own_blk (Kd.R_ne HO_8.out BK465.out (by decide)))) _).trans (((cell_far (p := ⟨gb465, _, none⟩) (by first | exact Kd.own_blk (Kd.R_ne HO_8.out BK465.out (by decide)) | (rw [add_block]; exact Kd.own_blk (Kd.R_ne HO_8.out BK465.out (by decide))) | (show (Addr.add _ _).block ≠ _; rw [add_block]; exact Kd.own_blk (Kd.R_ne HO_8.out BK465.out (by decide))) | (dsimp only; exact Kd.own_blk (Kd.R_ne HO_8.out BK465.out (by decide)))) _).trans (((cell_far (p := ⟨gb465, _, none⟩) (by first | exact Kd.own_blk (Kd.R_ne HO_8.out BK465.out (by decide)) | (rw [add_block]; exact Kd.own_blk (Kd.R_ne HO_8.out BK465.out (by decide))) | (show (Addr.add _ _).block ≠ _; rw [add_block]; exact Kd.own_blk (Kd.R_ne HO_8.out BK465.out (by decide))) | (dsimp only; exact Kd.own_blk (Kd.R_ne HO_8.out BK465.out (by decide)))) _).trans (hHeld.2.2.2.1)))))))))))) ((cell_far (p := ⟨gb465, _, none⟩) (by first | exact Kd.own_blk (Kd.R_ne HO_8.out BK465.out (by decide)) | (rw [add_block]; exact Kd.own_blk (Kd.R_ne HO_8.out BK465.out (by decide))) | (show (Addr.add _ _).block ≠ _; rw [add_block]; exact Kd.own_blk (Kd.R_ne HO_8.out BK465.out (by decide))) | (dsimp only; exact Kd.own_blk (Kd.R_ne HO_8.out BK465.out (by decide)))) _).trans (((cell_far (p := ⟨gb465, _, none⟩) (by first | exact Kd.own_blk (Kd.R_ne HO_8.out BK465.out (by decide)) | (rw [add_block]; exact Kd.own_blk (Kd.R_ne HO_8.out BK465.out (by decide))) | (show (Addr.add _ _).block ≠ _; rw [add_block]; exact Kd.own_blk (Kd.R_ne HO_8.out BK465.out (by decide))) | (dsimp only; exact Kd.own_blk (Kd.R_ne HO_8.out BK465.out (by decide)))) _).trans (((cell_far (p := ⟨gb465, _, none⟩) (by first | exact Kd.own_blk (Kd.R_ne HO_8.out BK465.out (by decide)) | (rw [add_block]; exact Kd.own_blk (Kd.R_ne HO_8.out BK465.out (by decide))) | (show (Addr.add _ _).block ≠ _; rw [add_block]; exact Kd.own_blk (Kd.R_ne HO_8.out BK465.out (by decide))) | (dsimp only; exact Kd.own_blk (Kd.R_ne HO_8.out BK465.out (by decide)))) _).trans (((cell_far (p := ⟨gb465, _, none⟩) (by first | exact Kd.own_blk (Kd.R_ne HO_8.out BK465.out (by decide)) | (rw [add_block]; exact Kd.own_blk (Kd.R_ne HO_8.out BK465.out (by decide))) | (show (Addr.add _ _).block ≠ _; rw [add_block]; exact Kd.own_blk (Kd.R_ne HO_8.out BK465.out (by decide))) | (dsimp only; exact Kd.own_blk (Kd.R_ne HO_8.out BK465.out (by decide)))) _).trans (((cell_far (p := ⟨gb465, _, none⟩) (by first | exact Kd.own_blk (Kd.R_ne HO_8.out BK465.out (by decide)) | (rw [add_block]; exact Kd.own_blk (Kd.R_ne HO_8.out BK465.out (by decide))) | (show (Addr.add _ _).block ≠ _; rw [add_block]; exact Kd.own_blk (Kd.R_ne HO_8.out BK465.out (by decide))) | (dsimp only; exact Kd.own_blk (Kd.R_ne HO_8.out BK465.out (by decide)))) _).trans (((cell_far (p := ⟨gb465, _, none⟩) (by first | exact Kd.own_blk (Kd.R_ne HO_8.out BK465.out (by decide)) | (rw [add_block]; exact Kd.own_blk (Kd.R_ne HO_8.out BK465.out (by decide))) | (show (Addr.add _ _).block ≠ _; rw [add_block]; exact Kd.own_blk (Kd.R_ne HO_8.out BK465.out (by decide))) | (dsimp only; exact Kd.own_blk (Kd.R_ne HO_8.out BK465.out (by decide)))) _).trans (hHeld.2.2.2.2.1)))))))))))) ((cell_far (p := ⟨gb465, _, none⟩) (by first | exact Kd.own_blk (Kd.R_ne HO_8.out BK465.out (by decide)) | (rw [add_block]; exact Kd.own_blk (Kd.R_ne HO_8.out BK465.out (by decide))) | (show (Addr.add _ _).block ≠ _; rw [add_block]; exact Kd.own_blk (Kd.R_ne HO_8.out BK465.out (by decide))) | (dsimp only; exact Kd.own_blk (Kd.R_ne HO_8.out BK465.out (by decide)))) _).trans (((cell_far (p := ⟨gb465, _, none⟩) (by first | exact Kd.own_blk (Kd.R_ne HO_8.out BK465.out (by decide)) | (rw [add_block]; exact Kd.own_blk (Kd.R_ne HO_8.out BK465.out (by decide))) | (show (Addr.add _ _).block ≠ _; rw [add_block]; exact Kd.own_blk (Kd.R_ne HO_8.out BK465.out (by decide))) | (dsimp only; exact Kd.own_blk (Kd.R_ne HO_8.out BK465.out (by decide)))) _).trans (((cell_far (p := ⟨gb465, _, none⟩) (by first | exact Kd.own_blk (Kd.R_ne HO_8.out BK465.out (by decide)) | (rw [add_block]; exact Kd.own_blk (Kd.R_ne HO_8.out BK465.out (by decide))) | (show (Addr.add _ _).block ≠ _; rw [add_block]; exact Kd.own_blk (Kd.R_ne HO_8.out BK465.out (by decide))) | (dsimp only; exact Kd.own_blk (Kd.R_ne HO_8.out BK465.out (by decide)))) _).trans (((cell_far (p := ⟨gb465, _, none⟩) (by first | exact Kd.own_blk (Kd.R_ne HO_8.out BK465.out (by decide)) | (rw [add_block]; exact Kd.own_blk (Kd.R_ne HO_8.out BK465.out (by decide))) | (show (Addr.add _ _).block ≠ _; rw [add_block]; exact Kd.own_blk (Kd.R_ne HO_8.out BK465.out (by decide))) | (dsimp only; exact Kd.own_blk (Kd.R_ne HO_8.out BK465.out (by decide)))) _).trans (((cell_far (p := ⟨gb465, _, none⟩) (by first | exact Kd.own_blk (Kd.R_ne HO_8.out BK465.out (by decide)) | (rw [add_block]; exact Kd.own_blk (Kd.R_ne HO_8.out BK465.out (by decide))) | (show (Addr.add _ _).block ≠ _; rw [add_block]; exact Kd.own_blk (Kd.R_ne HO_8.out BK465.out (by decide))) | (dsimp only; exact Kd.own_blk (Kd.R_ne HO_8.out BK465.out (by decide)))) _).trans (((cell_far (p := ⟨gb465, _, none⟩) (by first | exact Kd.own_blk (Kd.R_ne HO_8.out BK465.out (by decide)) | (rw [add_block]; exact Kd.own_blk (Kd.R_ne HO_8.out BK465.out (by decide))) | (show (Addr.add _ _).block ≠ _; rw [add_block]; exact Kd.own_blk (Kd.R_ne HO_8.out BK465.out (by decide))) | (dsimp only; exact Kd.own_blk (Kd.R_ne HO_8.out BK465.out (by decide)))) _).trans (hHeld.2.2.2.2.2.1)))))))))))) ((cell_far (p := ⟨gb465, _, none⟩) (by first | exact Kd.own_blk (Kd.R_ne HO_8.out BK465.out (by decide)) | (rw [add_block]; exact Kd.own_blk (Kd.R_ne HO_8.out BK465.out (by decide))) | (show (Addr.add _ _).block ≠ _; rw [add_block]; exact Kd.own_blk (Kd.R_ne HO_8.out BK465.out (by decide))) | (dsimp only; exact Kd.own_blk (Kd.R_ne HO_8.out BK465.out (by decide)))) _).trans (((cell_far (p := ⟨gb465, _, none⟩) (by first | exact Kd.own_blk (Kd.R_ne HO_8.out BK465.out (by decide)) | (rw [add_block]; exact Kd.own_blk (Kd.R_ne HO_8.out BK465.out (by decide))) | (show (Addr.add _ _).block ≠ _; rw [add_block]; exact Kd.own_blk (Kd.R_ne HO_8.out BK465.out (by decide))) | (dsimp only; exact Kd.own_blk (Kd.R_ne HO_8.out BK465.out (by decide)))) _).trans (((cell_far (p := ⟨gb465, _, none⟩) (by first | exact Kd.own_blk (Kd.R_ne HO_8.out BK465.out (by decide)) | (rw [add_block]; exact Kd.own_blk (Kd.R_ne HO_8.out BK465.out (by decide))) | (show (Addr.add _ _).block ≠ _; rw [add_block]; exact Kd.own_blk (Kd.R_ne HO_8.out BK465.out (by decide))) | (dsimp only; exact Kd.own_blk (Kd.R_ne HO_8.out BK465.out (by decide)))) _).trans (((cell_far (p := ⟨gb465, _, none⟩) (by first | exact Kd.own_blk (Kd.R_ne HO_8.out BK465.out (by decide)) | (rw [add_block]; exact Kd.own_blk (Kd.R_ne HO_8.out BK465.out (by decide))) | (show (Addr.add _ _).block ≠ _; rw [add_block]; exact Kd.own_blk (Kd.R_ne HO_8.out BK465.out (by decide))) | (dsimp only; exact Kd.own_blk (Kd.R_ne HO_8.out BK465.out (by decide)))) _).trans (((cell_far (p := ⟨gb465, _, none⟩) (by first | exact Kd.own_blk (Kd.R_ne HO_8.out BK465.out (by decide)) | (rw [add_block]; exact Kd.own_blk (Kd.R_ne HO_8.out BK465.out (by decide))) | (show (Addr.add _ _).block ≠ _; rw [add_block]; exact Kd.own_blk (Kd.R_ne HO_8.out BK465.out (by decide))) | (dsimp only; exact Kd.own_blk (Kd.R_ne HO_8.out BK465.out (by decide)))) _).trans (((cell_far (p := ⟨gb465, _, none⟩) (by first | exact Kd.own_blk (Kd.R_ne HO_8.out BK465.out (by decide)) | (rw [add_block]; exact Kd.own_blk (Kd.R_ne HO_8.out BK465.out (by decide))) | (show (Addr.add _ _).block ≠ _; rw [add_block]; exact Kd.own_blk (Kd.R_ne HO_8.out BK465.out (by decide))) | (dsimp only; exact Kd.own_blk (Kd.R_ne HO_8.out BK465.out (by decide)))) _).trans (hHeld.2.2.2.2.2.2.1)))))))))))) ((cell_far (p := ⟨gb465, _, none⟩) (by first | exact Kd.own_blk (Kd.R_ne HO_8.out BK465.out (by decide)) | (rw [add_block]; exact Kd.own_blk (Kd.R_ne HO_8.out BK465.out (by decide))) | (show (Addr.add _ _).block ≠ _; rw [add_block]; exact Kd.own_blk (Kd.R_ne HO_8.out BK465.out (by decide))) | (dsimp only; exact Kd.own_blk (Kd.R_ne HO_8.out BK465.out (by decide)))) _).trans (((cell_far (p := ⟨gb465, _, none⟩) (by first | exact Kd.own_blk (Kd.R_ne HO_8.out BK465.out (by decide)) | (rw [add_block]; exact Kd.own_blk (Kd.R_ne HO_8.out BK465.out (by decide))) | (show (Addr.add _ _).block ≠ _; rw [add_block]; exact Kd.own_blk (Kd.R_ne HO_8.out BK465.out (by decide))) | (dsimp only; exact Kd.own_blk (Kd.R_ne HO_8.out BK465.out (by decide)))) _).trans (((cell_far (p := ⟨gb465, _, none⟩) (by first | exact Kd.own_blk (Kd.R_ne HO_8.out BK465.out (by decide)) | (rw [add_block]; exact Kd.own_blk (Kd.R_ne HO_8.out BK465.out (by decide))) | (show (Addr.add _ _).block ≠ _; rw [add_block]; exact Kd.own_blk (Kd.R_ne HO_8.out BK465.out (by decide))) | (dsimp only; exact Kd.own_blk (Kd.R_ne HO_8.out BK465.out (by decide)))) _).trans (((cell_far (p := ⟨gb465, _, none⟩) (by first | exact Kd.own_blk (Kd.R_ne HO_8.out BK465.out (by decide)) | (rw [add_block]; exact Kd.own_blk (Kd.R_ne HO_8.out BK465.out (by decide))) | (show (Addr.add _ _).block ≠ _; rw [add_block]; exact Kd.own_blk (Kd.R_ne HO_8.out BK465.out (by decide))) | (dsimp only; exact Kd.own_blk (Kd.R_ne HO_8.out BK465.out (by decide)))) _).trans (((cell_far (p := ⟨gb465, _, none⟩) (by first | exact Kd.own_blk (Kd.R_ne HO_8.out BK465.out (by decide)) | (rw [add_block]; exact Kd.own_blk (Kd.R_ne HO_8.out BK465.out (by decide))) | (show (Addr.add _ _).block ≠ _; rw [add_block]; exact Kd.own_blk (Kd.R_ne HO_8.out BK465.out (by decide))) | (dsimp only; exact Kd.own_blk (Kd.R_ne HO_8.out BK465.out (by decide)))) _).trans (((cell_far (p := ⟨gb465, _, none⟩) (by first | exact Kd.own_blk (Kd.R_ne HO_8.out BK465.out (by decide)) | (rw [add_block]; exact Kd.own_blk (Kd.R_ne HO_8.out BK465.out (by decide))) | (show (Addr.add _ _).block ≠ _; rw [add_block]; exact Kd.own_blk (Kd.R_ne HO_8.out BK465.out (by decide))) | (dsimp only; exact Kd.own_blk (Kd.R_ne HO_8.out BK465.out (by decide)))) _).trans (hHeld.2.2.2.2.2.2.2.1)))))))))))) (q8e_ ((cell_far (p := ⟨gb465, _, none⟩) (by first | exact Kd.own_blk (Kd.R_ne HO_8.out BK465.out (by decide)) | (rw [add_block]; exact Kd.own_blk (Kd.R_ne HO_8.out BK465.out (by decide))) | (show (Addr.add _ _).block ≠ _; rw [add_block]; exact Kd.own_blk (Kd.R_ne HO_8.out BK465.out (by decide))) | (dsimp only; exact Kd.own_blk (Kd.R_ne HO_8.out BK465.out (by decide)))) _).trans (((cell_far (p := ⟨gb465, _, none⟩) (by first | exact Kd.own_blk (Kd.R_ne HO_8.out BK465.out (by decide)) | (rw [add_block]; exact Kd.own_blk (Kd.R_ne HO_8.out BK465.out (by decide))) | (show (Addr.add _ _).block ≠ _; rw [add_block]; exact Kd.own_blk (Kd.R_ne HO_8.out BK465.out (by decide))) | (dsimp only; exact Kd.own_blk (Kd.R_ne HO_8.out BK465.out (by decide)))) _).trans (((cell_far (p := ⟨gb465, _, none⟩) (by first | exact Kd.own_blk (Kd.R_ne HO_8.out BK465.out (by decide)) | (rw [add_block]; exact Kd.own_blk (Kd.R_ne HO_8.out BK465.out (by decide))) | (show (Addr.add _ _).block ≠ _; rw [add_block]; exact Kd.own_blk (Kd.R_ne HO_8.out BK465.out (by decide))) | (dsimp only; exact Kd.own_blk (Kd.R_ne HO_8.out BK465.out (by decide)))) _).trans (((cell_far (p := ⟨gb465, _, none⟩) (by first | exact Kd.own_blk (Kd.R_ne HO_8.out BK465.out (by decide)) | (rw [add_block]; exact Kd.own_blk (Kd.R_ne HO_8.out BK465.out (by decide))) | (show (Addr.add _ _).block ≠ _; rw [add_block]; exact Kd.own_blk (Kd.R_ne HO_8.out BK465.out (by decide))) | (dsimp only; exact Kd.own_blk (Kd.R_ne HO_8.out BK465.out (by decide)))) _).trans (((cell_far (p := ⟨gb465, _, none⟩) (by first | exact Kd.own_blk (Kd.R_ne HO_8.out BK465.out (by decide)) | (rw [add_block]; exact Kd.own_blk (Kd.R_ne HO_8.out BK465.out (by decide))) | (show (Addr.add _ _).block ≠ _; rw [add_block]; exact Kd.own_blk (Kd.R_ne HO_8.out BK465.out (by decide))) | (dsimp only; exact Kd.own_blk (Kd.R_ne HO_8.out BK465.out (by decide)))) _).trans (((cell_far (p := ⟨gb465, _, none⟩) (by first | exact Kd.own_blk (Kd.R_ne HO_8.out BK465.out (by decide)) | (rw [add_block]; exact Kd.own_blk (Kd.R_ne HO_8.out BK465.out (by decide))) | (show (Addr.add _ _).block ≠ _; rw [add_block]; exact Kd.own_blk (Kd.R_ne HO_8.out BK465.out (by decide))) | (dsimp only; exact Kd.own_blk (Kd.R_ne HO_8.out BK465.out (by decide)))) _).trans (hHeld.2.2.2.2.2.2.2.2.1)))))))))))) ((cell_far (p := ⟨gb465, _, none⟩) (by first | exact Kd.own_blk (Kd.R_ne HO_8.out BK465.out (by decide)) | (rw [add_block]; exact Kd.own_blk (Kd.R_ne HO_8.out BK465.out (by decide))) | (show (Addr.add _ _).block ≠ _; rw [add_block]; exact Kd.own_blk (Kd.R_ne HO_8.out BK465.out (by decide))) | (dsimp only; exact Kd.own_blk (Kd.R_ne HO_8.out BK465.out (by decide)))) _).trans (((cell_far (p := ⟨gb465, _, none⟩) (by first | exact Kd.own_blk (Kd.R_ne HO_8.out BK465.out (by decide)) | (rw [add_block]; exact Kd.own_blk (Kd.R_ne HO_8.out BK465.out (by decide))) | (show (Addr.add _ _).block ≠ _; rw [add_block]; exact Kd.own_blk (Kd.R_ne HO_8.out BK465.out (by decide))) | (dsimp only; exact Kd.own_blk (Kd.R_ne HO_8.out BK465.out (by decide)))) _).trans (((cell_far (p := ⟨gb465, _, none⟩) (by first | exact Kd.own_blk (Kd.R_ne HO_8.out BK465.out (by decide)) | (rw [add_block]; exact Kd.own_blk (Kd.R_ne HO_8.out BK465.out (by decide))) | (show (Addr.add _ _).block ≠ _; rw [add_block]; exact Kd.own_blk (Kd.R_ne HO_8.out BK465.out (by decide))) | (dsimp only; exact Kd.own_blk (Kd.R_ne HO_8.out BK465.out (by decide)))) _).trans (((cell_far (p := ⟨gb465, _, none⟩) (by first | exact Kd.own_blk (Kd.R_ne HO_8.out BK465.out (by decide)) | (rw [add_block]; exact Kd.own_blk (Kd.R_ne HO_8.out BK465.out (by decide))) | (show (Addr.add _ _).block ≠ _; rw [add_block]; exact Kd.own_blk (Kd.R_ne HO_8.out BK465.out (by decide))) | (dsimp only; exact Kd.own_blk (Kd.R_ne HO_8.out BK465.out (by decide)))) _).trans (((cell_far (p := ⟨gb465, _, none⟩) (by first | exact Kd.own_blk (Kd.R_ne HO_8.out BK465.out (by decide)) | (rw [add_block]; exact Kd.own_blk (Kd.R_ne HO_8.out BK465.out (by decide))) | (show (Addr.add _ _).block ≠ _; rw [add_block]; exact Kd.own_blk (Kd.R_ne HO_8.out BK465.out (by decide))) | (dsimp only; exact Kd.own_blk (Kd.R_ne HO_8.out BK465.out (by decide)))) _).trans (((cell_far (p := ⟨gb465, _, none⟩) (by first | exact Kd.own_blk (Kd.R_ne HO_8.out BK465.out (by decide)) | (rw [add_block]; exact Kd.own_blk (Kd.R_ne HO_8.out BK465.out (by decide))) | (show (Addr.add _ _).block ≠ _; rw [add_block]; exact Kd.own_blk (Kd.R_ne HO_8.out BK465.out (by decide))) | (dsimp only; exact Kd.own_blk (Kd.R_ne HO_8.out BK465.out (by decide)))) _).trans (hHeld.2.2.2.2.2.2.2.2.2.1)))))))))))) ((cell_far (p := ⟨gb465, _, none⟩) (by first | exact Kd.own_blk (Kd.R_ne HO_8.out BK465.out (by decide)) | (rw [add_block]; exact Kd.own_blk (Kd.R_ne HO_8.out BK465.out (by decide))) | (show (Addr.add _ _).block ≠ _; rw [add_block]; exact Kd.own_blk (Kd.R_ne HO_8.out BK465.out (by decide))) | (dsimp only; exact Kd.own_blk (Kd.R_ne HO_8.out BK465.out (by decide)))) _).trans (((cell_far (p := ⟨gb465, _, none⟩) (by first | exact Kd.own_blk (Kd.R_ne HO_8.out BK465.out (by decide)) | (rw [add_block]; exact Kd.own_blk (Kd.R_ne HO_8.out BK465.out (by decide))) | (show (Addr.add _ _).block ≠ _; rw [add_block]; exact Kd.own_blk (Kd.R_ne HO_8.out BK465.out (by decide))) | (dsimp only; exact Kd.own_blk (Kd.R_ne HO_8.out BK465.out (by decide)))) _).trans (((cell_far (p := ⟨gb465, _, none⟩) (by first | exact Kd.own_blk (Kd.R_ne HO_8.out BK465.out (by decide)) | (rw [add_block]; exact Kd.own_blk (Kd.R_ne HO_8.out BK465.out (by decide))) | (show (Addr.add _ _).block ≠ _; rw [add_block]; exact Kd.own_blk (Kd.R_ne HO_8.out BK465.out (by decide))) | (dsimp only; exact Kd.own_blk (Kd.R_ne HO_8.out BK465.out (by decide)))) _).trans (((cell_far (p := ⟨gb465, _, none⟩) (by first | exact Kd.own_blk (Kd.R_ne HO_8.out BK465.out (by decide)) | (rw [add_block]; exact Kd.own_blk (Kd.R_ne HO_8.out BK465.out (by decide))) | (show (Addr.add _ _).block ≠ _; rw [add_block]; exact Kd.own_blk (Kd.R_ne HO_8.out BK465.out (by decide))) | (dsimp only; exact Kd.own_blk (Kd.R_ne HO_8.out BK465.out (by decide)))) _).trans (((cell_far (p := ⟨gb465, _, none⟩) (by first | exact Kd.own_blk (Kd.R_ne HO_8.out BK465.out (by decide)) | (rw [add_block]; exact Kd.own_blk (Kd.R_ne HO_8.out BK465.out (by decide))) | (show (Addr.add _ _).block ≠ _; rw [add_block]; exact Kd.own_blk (Kd.R_ne HO_8.out BK465.out (by decide))) | (dsimp only; exact Kd.own_blk (Kd.R_ne HO_8.out BK465.out (by decide)))) _).trans (((cell_far (p := ⟨gb465, _, none⟩) (by first | exact Kd.own_blk (Kd.R_ne HO_8.out BK465.out (by decide)) | (rw [add_block]; exact Kd.own_blk (Kd.R_ne HO_8.out BK465.out (by decide))) | (show (Addr.add _ _).block ≠ _; rw [add_block]; exact Kd.own_blk (Kd.R_ne HO_8.out BK465.out (by decide))) | (dsimp only; exact Kd.own_blk (Kd.R_ne HO_8.out BK465.out (by decide)))) _).trans (hHeld.2.2.2.2.2.2.2.2.2.2.1)))))))))))) ((cell_far (p := ⟨gb465, _, none⟩) (by first | exact Kd.own_blk (Kd.R_ne HO_8.out BK465.out (by decide)) | (rw [add_block]; exact Kd.own_blk (Kd.R_ne HO_8.out BK465.out (by decide))) | (show (Addr.add _ _).block ≠ _; rw [add_block]; exact Kd.own_blk (Kd.R_ne HO_8.out BK465.out (by decide))) | (dsimp only; exact Kd.own_blk (Kd.R_ne HO_8.out BK465.out (by decide)))) _).trans (((cell_far (p := ⟨gb465, _, none⟩) (by first | exact Kd.own_blk (Kd.R_ne HO_8.out BK465.out (by decide)) | (rw [add_block]; exact Kd.own_blk (Kd.R_ne HO_8.out BK465.out (by decide))) | (show (Addr.add _ _).block ≠ _; rw [add_block]; exact Kd.own_blk (Kd.R_ne HO_8.out BK465.out (by decide))) | (dsimp only; exact Kd.own_blk (Kd.R_ne HO_8.out BK465.out (by decide)))) _).trans (((cell_far (p := ⟨gb465, _, none⟩) (by first | exact Kd.own_blk (Kd.R_ne HO_8.out BK465.out (by decide)) | (rw [add_block]; exact Kd.own_blk (Kd.R_ne HO_8.out BK465.out (by decide))) | (show (Addr.add _ _).block ≠ _; rw [add_block]; exact Kd.own_blk (Kd.R_ne HO_8.out BK465.out (by decide))) | (dsimp only; exact Kd.own_blk (Kd.R_ne HO_8.out BK465.out (by decide)))) _).trans (((cell_far (p := ⟨gb465, _, none⟩) (by first | exact Kd.own_blk (Kd.R_ne HO_8.out BK465.out (by decide)) | (rw [add_block]; exact Kd.own_blk (Kd.R_ne HO_8.out BK465.out (by decide))) | (show (Addr.add _ _).block ≠ _; rw [add_block]; exact Kd.own_blk (Kd.R_ne HO_8.out BK465.out (by decide))) | (dsimp only; exact Kd.own_blk (Kd.R_ne HO_8.out BK465.out (by decide)))) _).trans (((cell_far (p := ⟨gb465, _, none⟩) (by first | exact Kd.own_blk (Kd.R_ne HO_8.out BK465.out (by decide)) | (rw [add_block]; exact Kd.own_blk (Kd.R_ne HO_8.out BK465.out (by decide))) | (show (Addr.add _ _).block ≠ _; rw [add_block]; exact Kd.own_blk (Kd.R_ne HO_8.out BK465.out (by decide))) | (dsimp only; exact Kd.own_blk (Kd.R_ne HO_8.out BK465.out (by decide)))) _).trans (((cell_far (p := ⟨gb465, _, none⟩) (by first | exact Kd.own_blk (Kd.R_ne HO_8.out BK465.out (by decide)) | (rw [add_block]; exact Kd.own_blk (Kd.R_ne HO_8.out BK465.out (by decide))) | (show (Addr.add _ _).block ≠ _; rw [add_block]; exact Kd.own_blk (Kd.R_ne HO_8.out BK465.out (by decide))) | (dsimp only; exact Kd.own_blk (Kd.R_ne HO_8.out BK465.out (by decide)))) _).trans (hHeld.2.2.2.2.2.2.2.2.2.2.2.1)))))))))))) ((cell_far (p := ⟨gb465, _, none⟩) (by first | exact Kd.own_blk (Kd.R_ne HO_8.out BK465.out (by decide)) | (rw [add_block]; exact Kd.own_blk (Kd.R_ne HO_8.out BK465.out (by decide))) | (show (Addr.add _ _).block ≠ _; rw [add_block]; exact Kd.own_blk (Kd.R_ne HO_8.out BK465.out (by decide))) | (dsimp only; exact Kd.own_blk (Kd.R_ne HO_8.out BK465.out (by decide)))) _).trans (((cell_far (p := ⟨gb465, _, none⟩) (by first | exact Kd.own_blk (Kd.R_ne HO_8.out BK465.out (by decide)) | (rw [add_block]; exact Kd.own_blk (Kd.R_ne HO_8.out BK465.out (by decide))) | (show (Addr.add _ _).block ≠ _; rw [add_block]; exact Kd.own_blk (Kd.R_ne HO_8.out BK465.out (by decide))) | (dsimp only; exact Kd.own_blk (Kd.R_ne HO_8.out BK465.out (by decide)))) _).trans (((cell_far (p := ⟨gb465, _, none⟩) (by first | exact Kd.own_blk (Kd.R_ne HO_8.out BK465.out (by decide)) | (rw [add_block]; exact Kd.own_blk (Kd.R_ne HO_8.out BK465.out (by decide))) | (show (Addr.add _ _).block ≠ _; rw [add_block]; exact Kd.own_blk (Kd.R_ne HO_8.out BK465.out (by decide))) | (dsimp only; exact Kd.own_blk (Kd.R_ne HO_8.out BK465.out (by decide)))) _).trans (((cell_far (p := ⟨gb465, _, none⟩) (by first | exact Kd.own_blk (Kd.R_ne HO_8.out BK465.out (by decide)) | (rw [add_block]; exact Kd.own_blk (Kd.R_ne HO_8.out BK465.out (by decide))) | (show (Addr.add _ _).block ≠ _; rw [add_block]; exact Kd.own_blk (Kd.R_ne HO_8.out BK465.out (by decide))) | (dsimp only; exact Kd.own_blk (Kd.R_ne HO_8.out BK465.out (by decide)))) _).trans (((cell_far (p := ⟨gb465, _, none⟩) (by first | exact Kd.own_blk (Kd.R_ne HO_8.out BK465.out (by decide)) | (rw [add_block]; exact Kd.own_blk (Kd.R_ne HO_8.out BK465.out (by decide))) | (show (Addr.add _ _).block ≠ _; rw [add_block]; exact Kd.own_blk (Kd.R_ne HO_8.out BK465.out (by decide))) | (dsimp only; exact Kd.own_blk (Kd.R_ne HO_8.out BK465.out (by decide)))) _).trans (((cell_far (p := ⟨gb465, _, none⟩) (by first | exact Kd.own_blk (Kd.R_ne HO_8.out BK465.out (by decide)) | (rw [add_block]; exact Kd.own_blk (Kd.R_ne HO_8.out BK465.out (by decide))) | (show (Addr.add _ _).block ≠ _; rw [add_block]; exact Kd.own_blk (Kd.R_ne HO_8.out BK465.out (by decide))) | (dsimp only; exact Kd.own_blk (Kd.R_ne HO_8.out BK465.out (by decide)))) _).trans (hHeld.2.2.2.2.2.2.2.2.2.2.2.2.1)))))))))))) ((cell_far (p := ⟨gb465, _, none⟩) (by first | exact Kd.own_blk (Kd.R_ne HO_8.out BK465.out (by decide)) | (rw [add_block]; exact Kd.own_blk (Kd.R_ne HO_8.out BK465.out (by decide))) | (show (Addr.add _ _).block ≠ _; rw [add_block]; exact Kd.own_blk (Kd.R_ne HO_8.out BK465.out (by decide))) | (dsimp only; exact Kd.own_blk (Kd.R_ne HO_8.out BK465.out (by decide)))) _).trans (((cell_far (p := ⟨gb465, _, none⟩) (by first | exact Kd.own_blk (Kd.R_ne HO_8.out BK465.out (by decide)) | (rw [add_block]; exact Kd.own_blk (Kd.R_ne HO_8.out BK465.out (by decide))) | (show (Addr.add _ _).block ≠ _; rw [add_block]; exact Kd.own_blk (Kd.R_ne HO_8.out BK465.out (by decide))) | (dsimp only; exact Kd.own_blk (Kd.R_ne HO_8.out BK465.out (by decide)))) _).trans (((cell_far (p := ⟨gb465, _, none⟩) (by first | exact Kd.own_blk (Kd.R_ne HO_8.out BK465.out (by decide)) | (rw [add_block]; exact Kd.own_blk (Kd.R_ne HO_8.out BK465.out (by decide))) | (show (Addr.add _ _).block ≠ _; rw [add_block]; exact Kd.own_blk (Kd.R_ne HO_8.out BK465.out (by decide))) | (dsimp only; exact Kd.own_blk (Kd.R_ne HO_8.out BK465.out (by decide)))) _).trans (((cell_far (p := ⟨gb465, _, none⟩) (by first | exact Kd.own_blk (Kd.R_ne HO_8.out BK465.out (by decide)) | (rw [add_block]; exact Kd.own_blk (Kd.R_ne HO_8.out BK465.out (by decide))) | (show (Addr.add _ _).block ≠ _; rw [add_block]; exact Kd.own_blk (Kd.R_ne HO_8.out BK465.out (by decide))) | (dsimp only; exact Kd.own_blk (Kd.R_ne HO_8.out BK465.out (by decide)))) _).trans (((cell_far (p := ⟨gb465, _, none⟩) (by first | exact Kd.own_blk (Kd.R_ne HO_8.out BK465.out (by decide)) | (rw [add_block]; exact Kd.own_blk (Kd.R_ne HO_8.out BK465.out (by decide))) | (show (Addr.add _ _).block ≠ _; rw [add_block]; exact Kd.own_blk (Kd.R_ne HO_8.out BK465.out (by decide))) | (dsimp only; exact Kd.own_blk (Kd.R_ne HO_8.out BK465.out (by decide)))) _).trans (((cell_far (p := ⟨gb465, _, none⟩) (by first | exact Kd.own_blk (Kd.R_ne HO_8.out BK465.out (by decide)) | (rw [add_block]; exact Kd.own_blk (Kd.R_ne HO_8.out BK465.out (by decide))) | (show (Addr.add _ _).block ≠ _; rw [add_block]; exact Kd.own_blk (Kd.R_ne HO_8.out BK465.out (by decide))) | (dsimp only; exact Kd.own_blk (Kd.R_ne HO_8.out BK465.out (by decide)))) _).trans (hHeld.2.2.2.2.2.2.2.2.2.2.2.2.2.1)))))))))))) ((cell_far (p := ⟨gb465, _, none⟩) (by first | exact Kd.own_blk (Kd.R_ne HO_8.out BK465.out (by decide)) | (rw [add_block]; exact Kd.own_blk (Kd.R_ne HO_8.out BK465.out (by decide))) | (show (Addr.add _ _).block ≠ _; rw [add_block]; exact Kd.own_blk (Kd.R_ne HO_8.out BK465.out (by decide))) | (dsimp only; exact Kd.own_blk (Kd.R_ne HO_8.out BK465.out (by decide)))) _).trans (((cell_far (p := ⟨gb465, _, none⟩) (by first | exact Kd.own_blk (Kd.R_ne HO_8.out BK465.out (by decide)) | (rw [add_block]; exact Kd.own_blk (Kd.R_ne HO_8.out BK465.out (by decide))) | (show (Addr.add _ _).block ≠ _; rw [add_block]; exact Kd.own_blk (Kd.R_ne HO_8.out BK465.out (by decide))) | (dsimp only; exact Kd.own_blk (Kd.R_ne HO_8.out BK465.out (by decide)))) _).trans (((cell_far (p := ⟨gb465, _, none⟩) (by first | exact Kd.own_blk (Kd.R_ne HO_8.out BK465.out (by decide)) | (rw [add_block]; exact Kd.own_blk (Kd.R_ne HO_8.out BK465.out (by decide))) | (show (Addr.add _ _).block ≠ _; rw [add_block]; exact Kd.own_blk (Kd.R_ne HO_8.out BK465.out (by decide))) | (dsimp only; exact Kd.own_blk (Kd.R_ne HO_8.out BK465.out (by decide)))) _).trans (((cell_far (p := ⟨gb465, _, none⟩) (by first | exact Kd.own_blk (Kd.R_ne HO_8.out BK465.out (by decide)) | (rw [add_block]; exact Kd.own_blk (Kd.R_ne HO_8.out BK465.out (by decide))) | (show (Addr.add _ _).block ≠ _; rw [add_block]; exact Kd.own_blk (Kd.R_ne HO_8.out BK465.out (by decide))) | (dsimp only; exact Kd.own_blk (Kd.R_ne HO_8.out BK465.out (by decide)))) _).trans (((cell_far (p := ⟨gb465, _, none⟩) (by first | exact Kd.own_blk (Kd.R_ne HO_8.out BK465.out (by decide)) | (rw [add_block]; exact Kd.own_blk (Kd.R_ne HO_8.out BK465.out (by decide))) | (show (Addr.add _ _).block ≠ _; rw [add_block]; exact Kd.own_blk (Kd.R_ne HO_8.out BK465.out (by decide))) | (dsimp only; exact Kd.own_blk (Kd.R_ne HO_8.out BK465.out (by decide)))) _).trans (((cell_far (p := ⟨gb465, _, none⟩) (by first | exact Kd.own_blk (Kd.R_ne HO_8.out BK465.out (by decide)) | (rw [add_block]; exact Kd.own_blk (Kd.R_ne HO_8.out BK465.out (by decide))) | (show (Addr.add _ _).block ≠ _; rw [add_block]; exact Kd.own_blk (Kd.R_ne HO_8.out BK465.out (by decide))) | (dsimp only; exact Kd.own_blk (Kd.R_ne HO_8.out BK465.out (by decide)))) _).trans (hHeld.2.2.2.2.2.2.2.2.2.2.2.2.2.2.1)))))))))))) ((cell_far (p := ⟨gb465, _, none⟩) (by first | exact Kd.own_blk (Kd.R_ne HO_8.out BK465.out (by decide)) | (rw [add_block]; exact Kd.own_blk (Kd.R_ne HO_8.out BK465.out (by decide))) | (show (Addr.add _ _).block ≠ _; rw [add_block]; exact Kd.own_blk (Kd.R_ne HO_8.out BK465.out (by decide))) | (dsimp only; exact Kd.own_blk (Kd.R_ne HO_8.out BK465.out (by decide)))) _).trans (((cell_far (p := ⟨gb465, _, none⟩) (by first | exact Kd.own_blk (Kd.R_ne HO_8.out BK465.out (by decide)) | (rw [add_block]; exact Kd.own_blk (Kd.R_ne HO_8.out BK465.out (by decide))) | (show (Addr.add _ _).block ≠ _; rw [add_block]; exact Kd.own_blk (Kd.R_ne HO_8.out BK465.out (by decide))) | (dsimp only; exact Kd.own_blk (Kd.R_ne HO_8.out BK465.out (by decide)))) _).trans (((cell_far (p := ⟨gb465, _, none⟩) (by first | exact Kd.own_blk (Kd.R_ne HO_8.out BK465.out (by decide)) | (rw [add_block]; exact Kd.own_blk (Kd.R_ne HO_8.out BK465.out (by decide))) | (show (Addr.add _ _).block ≠ _; rw [add_block]; exact Kd.own_blk (Kd.R_ne HO_8.out BK465.out (by decide))) | (dsimp only; exact Kd.own_blk (Kd.R_ne HO_8.out BK465.out (by decide)))) _).trans (((cell_far (p := ⟨gb465, _, none⟩) (by first | exact Kd.own_blk (Kd.R_ne HO_8.out BK465.out (by decide)) | (rw [add_block]; exact Kd.own_blk (Kd.R_ne HO_8.out BK465.out (by decide))) | (show (Addr.add _ _).block ≠ _; rw [add_block]; exact Kd.own_blk (Kd.R_ne HO_8.out BK465.out (by decide))) | (dsimp only; exact Kd.own_blk (Kd.R_ne HO_8.out BK465.out (by decide)))) _).trans (((cell_far (p := ⟨gb465, _, none⟩) (by first | exact Kd.own_blk (Kd.R_ne HO_8.out BK465.out (by decide)) | (rw [add_block]; exact Kd.own_blk (Kd.R_ne HO_8.out BK465.out (by decide))) | (show (Addr.add _ _).block ≠ _; rw [add_block]; exact Kd.own_blk (Kd.R_ne HO_8.out BK465.out (by decide))) | (dsimp only; exact Kd.own_blk (Kd.R_ne HO_8.out BK465.out (by decide)))) _).trans (((cell_far (p := ⟨gb465, _, none⟩) (by first | exact Kd.own_blk (Kd.R_ne HO_8.out BK465.out (by decide)) | (rw [add_block]; exact Kd.own_blk (Kd.R_ne HO_8.out BK465.out (by decide))) | (show (Addr.add _ _).block ≠ _; rw [add_block]; exact Kd.own_blk (Kd.R_ne HO_8.out BK465.out (by decide))) | (dsimp only; exact Kd.own_blk (Kd.R_ne HO_8.out BK465.out (by decide)))) _).trans (hHeld.2.2.2.2.2.2.2.2.2.2.2.2.2.2.2)))))))))))))) (fun hHeld => ?_)
                    clear hK K
                    refine pv_' 17 17 (on_ 18 0) rfl rfl HT_ ?_
                    refine done_ (done_of HT_.out (by kernel_rfl)) ?_
                    go_upto_region 23 with (fail)
                    go_cut [162] (fun v162 wc => ∃ (kq : Nat) (x162_43 : Bool), v162 = .bool x162_43 ∧ Aside0 (laws_FnFrames.j5 kq t441 t442 t446 t452 x15_5 x162_43 = some r) ∧ Aside0 (kq ≤ k5) ∧ Aside0 (Kd.R k37 37 wc w.heap.size (fun k_ => some k_ ≠ (v448 : Value).ownBlock ∧ some k_ ≠ (v454 : Value).ownBlock) (.slice (some ad456) t442.length co45) t442) ∧ Aside0 (Kd.R k37 37 wc w.heap.size (fun k_ => some k_ ≠ ((.slice (some ad456) t442.length co45) : Value).ownBlock ∧ some k_ ≠ (v454 : Value).ownBlock) v448 t446) ∧ Aside0 (Kd.R k37 37 wc w.heap.size (fun k_ => some k_ ≠ ((.slice (some ad456) t442.length co45) : Value).ownBlock ∧ some k_ ≠ (v448 : Value).ownBlock) v454 t452) ∧ Aside0 (wc.heap[gb465]? = some (.cells #[.int .i64 t458, .int .i64 t459, .string t460, .string t461, .int .i64 t462, .int .i64 t463] 33 (0, 0))) ∧ Aside0 (Below w.heap.size w wc))
                    case first =>
                     have H := HC44.out
                     clear HC44
                     by_cases c56 : x15_5 < (t446.length : Int)
                     ·rw [if_pos c56] at H
                      have c56b0 : decide (x15_5 < (t446.length : Int)) = true := decide_eq_true c56
                      clear c56
                      (first | rw [c56b0] | (simp only [i64_w, i32_w]; rw [c56b0]) | skip)
                      by_cases c57 : (!(((rd_T37 t442 x15_5).f0) == ((rd_T37 t446 x15_5).f0)) || (!(((rd_T37 t442 x15_5).f1) == ((rd_T37 t446 x15_5).f1)) || ((!(((rd_T37 t442 x15_5).f2.f0) == ((rd_T37 t446 x15_5).f2.f0)) || (!(((rd_T37 t442 x15_5).f2.f1) == ((rd_T37 t446 x15_5).f2.f1)) || (!((((rd_T37 t442 x15_5).f2.f2).toList) == (((rd_T37 t446 x15_5).f2.f2).toList)) || (!((((rd_T37 t442 x15_5).f2.f3).toList) == (((rd_T37 t446 x15_5).f2.f3).toList)) || (!(((rd_T37 t442 x15_5).f2.f4) == ((rd_T37 t446 x15_5).f2.f4)) || (!(((rd_T37 t442 x15_5).f2.f5) == ((rd_T37 t446 x15_5).f2.f5))))))))))) = true
                      ·rw [if_pos c57] at H
                       have c57b0 : (!(((rd_T37 t442 x15_5).f0) == ((rd_T37 t446 x15_5).f0)) || (!(((rd_T37 t442 x15_5).f1) == ((rd_T37 t446 x15_5).f1)) || ((!(((rd_T37 t442 x15_5).f2.f0) == ((rd_T37 t446 x15_5).f2.f0)) || (!(((rd_T37 t442 x15_5).f2.f1) == ((rd_T37 t446 x15_5).f2.f1)) || (!((((rd_T37 t442 x15_5).f2.f2).toList) == (((rd_T37 t446 x15_5).f2.f2).toList)) || (!((((rd_T37 t442 x15_5).f2.f3).toList) == (((rd_T37 t446 x15_5).f2.f3).toList)) || (!(((rd_T37 t442 x15_5).f2.f4) == ((rd_T37 t446 x15_5).f2.f4)) || (!(((rd_T37 t442 x15_5).f2.f5) == ((rd_T37 t446 x15_5).f2.f5))))))))))) = true := c57
                       clear c57
                       have H' := Aside0.mk H
                       clear H
                       try go_wp2
                       generalize hW_ : ((((((w49.setCell ⟨gb465, 0, none⟩ (.int .i64 t458)).setCell ⟨gb465, 1, none⟩ (.int .i64 t459)).setCell ⟨gb465, 2, none⟩ (.string t460)).setCell ⟨gb465, 3, none⟩ (.string t461)).setCell ⟨gb465, 4, none⟩ (.int .i64 t462)).setCell ⟨gb465, 5, none⟩ (.int .i64 t463)) = w58
                       replace HO_8 := ur_ (fun k_ => some k_ ≠ (v448 : Value).ownBlock ∧ some k_ ≠ (v454 : Value).ownBlock) HO_8 BK465 hW_
                       replace HO_10 := ur_ (fun k_ => some k_ ≠ (.slice (some ad456) t442.length co45 : Value).ownBlock ∧ some k_ ≠ (v454 : Value).ownBlock) HO_10 BK465 hW_
                       replace HO_13 := ur_ (fun k_ => some k_ ≠ (.slice (some ad456) t442.length co45 : Value).ownBlock ∧ some k_ ≠ (v448 : Value).ownBlock) HO_13 BK465 hW_
                       replace BK465 := up_ #[.int .i64 t458, .int .i64 t459, .string t460, .string t461, .int .i64 t462, .int .i64 t463] BK465 hW_
                       replace HB := us_ hW_ (hs_ HB GE465)
                       clear hW_
                       replace HO_8 := rd_ HO_8
                       replace HO_10 := rd_ HO_10
                       replace HO_13 := rd_ HO_13
                       replace BK465 := bd_ BK465
                       replace HB := hd_ HB
                       have p466 : 0 ≤ (x15_5 : Int) := of_decide_eq_true as_
                       have q466 : x15_5 < (t442.length : Int) := of_decide_eq_true as_
                       obtain ⟨ad466, e466, hx466_0, hx466_1, hx466_2, hx466_3, hx466_4, hx466_5, hx466_6, hx466_7⟩ := at_T37 (Kd.R_reads' HO_8.out).2.2 x15_5 p466 q466
                       obtain rfl : ad456 = ad466 := (by injection e466)
                       replace p466 := eq_true p466
                       replace q466 := eq_true q466
                       obtain ⟨Ao60, co60, eo60⟩ := Kd.R_slice HO_10.out
                       (first | subst eo60 | (injection eo60 with f1_ f2_ f3_; have f4_ := f1_.symm; have f5_ := f3_.symm; clear f1_ f2_ f3_; subst f4_; subst f5_))
                       have p467 : 0 ≤ (x15_5 : Int) := of_decide_eq_true as_
                       have q467 : x15_5 < (t446.length : Int) := of_decide_eq_true as_
                       obtain ⟨ad467, e467, hx467_0, hx467_1, hx467_2, hx467_3, hx467_4, hx467_5, hx467_6, hx467_7⟩ := at_T37 (Kd.R_reads' HO_10.out).2.2 x15_5 p467 q467
                       cases e467
                       replace p467 := eq_true p467
                       replace q467 := eq_true q467
                       refine start_ (n := 39) (S := e8_ (ad456.add ((x15_5).toNat * 8)) (.int .i64 ((rd_T37 t442 x15_5).f0)) (.int .i64 ((rd_T37 t442 x15_5).f1)) (.int .i64 ((rd_T37 t442 x15_5).f2.f0)) (.int .i64 ((rd_T37 t442 x15_5).f2.f1)) (.string ((rd_T37 t442 x15_5).f2.f2)) (.string ((rd_T37 t442 x15_5).f2.f3)) (.int .i64 ((rd_T37 t442 x15_5).f2.f4)) (.int .i64 ((rd_T37 t442 x15_5).f2.f5)) (e8e_ (ad467.add ((x15_5).toNat * 8)) (.int .i64 ((rd_T37 t446 x15_5).f0)) (.int .i64 ((rd_T37 t446 x15_5).f1)) (.int .i64 ((rd_T37 t446 x15_5).f2.f0)) (.int .i64 ((rd_T37 t446 x15_5).f2.f1)) (.string ((rd_T37 t446 x15_5).f2.f2)) (.string ((rd_T37 t446 x15_5).f2.f3)) (.int .i64 ((rd_T37 t446 x15_5).f2.f4)) (.int .i64 ((rd_T37 t446 x15_5).f2.f5)))) (ds := []) (on_ 0 39) (by kernel_rfl) rfl rfl (q8_ hx466_0 hx466_1 hx466_2 hx466_3 hx466_4 hx466_5 hx466_6 hx466_7 (q8e_ hx467_0 hx467_1 hx467_2 hx467_3 hx467_4 hx467_5 hx467_6 hx467_7)) (fun hHeld => ?_); refine with_tabW laws_FnFrames.tab23 laws_FnFrames.bits23 (fun HT_ HW_ => ?_)
                       generalize w58.drew = w59 at HO_8 HO_10 HO_13 BK465 HB hx466_0 hx466_1 hx466_2 hx466_3 hx466_4 hx466_5 hx466_6 hx466_7 hx467_0 hx467_1 hx467_2 hx467_3 hx467_4 hx467_5 hx467_6 hx467_7 hHeld ⊢
                       refine pv_' 0 124 (on_ 1 38) rfl rfl HT_ ?_
                       refine pv_' 1 125 (on_ 2 37) rfl rfl HT_ ?_
                       refine pv_' 2 126 (on_ 3 36) rfl rfl HT_ ?_
                       refine pv_' 4 128 #[i',i',i',o',i',o',o',o',o',o',o',o',o',o',o',o',o',o',o',o',o',o',o',o',o',o',o',o',o',o',o',o',o',o',o',o',o',o',o'] rfl rfl HT_ ?_
                       refine pv_' 5 129 #[i',i',i',o',i',i',o',o',o',o',o',o',o',o',o',o',o',o',o',o',o',o',o',o',o',o',o',o',o',o',o',o',o',o',o',o',o',o',o'] rfl rfl HT_ ?_
                       refine pv_' 6 130 #[i',i',i',o',i',i',i',o',o',o',o',o',o',o',o',o',o',o',o',o',o',o',o',o',o',o',o',o',o',o',o',o',o',o',o',o',o',o',o'] rfl rfl HT_ ?_
                       refine take_ (i := 3) (N := some 127) (v := ?_) (a' := ?_) (on_ 7 32) rfl rfl (take_ofW HT_.out HW_.out (by kernel_rfl)) (fun _ _ _ h => h) (Or.inl ⟨by rfl, ?_⟩) hHeld ?_ ?_
                       rotate_left
                       ·rintro w' ⟨s0, s1, s2, s3, s4, s5, s6, s7, s8, s9, s10, s11, s12, s13, s14, s15⟩
                        go_simp
                        with_reducible rfl
                       rotate_left
                       ·simp only [Act.put, la_, lz_, ls_, i64_w, i32_w]
                        rfl
                       refine take_ (i := 7) (N := some 131) (v := ?_) (a' := ?_) (on_ 8 31) rfl rfl (take_ofW HT_.out HW_.out (by kernel_rfl)) (fun _ _ _ h => h) (Or.inl ⟨by rfl, ?_⟩) hHeld ?_ ?_
                       rotate_left
                       ·rintro w' ⟨s0, s1, s2, s3, s4, s5, s6, s7, s8, s9, s10, s11, s12, s13, s14, s15⟩
                        go_simp
                        with_reducible rfl
                       rotate_left
                       ·simp only [Act.put, la_, lz_, ls_, i64_w, i32_w]
                        rfl
                       refine pv_' 8 132 (on_ 9 30) rfl rfl HT_ ?_
                       refine pv_' 9 133 (on_ 10 29) rfl rfl HT_ ?_
                       refine pun_' 10 134 (on_ 11 28) rfl rfl HT_ ?_
                       refine pun_' 11 135 (on_ 12 27) rfl rfl HT_ ?_
                       refine pv_' 12 136 (on_ 13 26) rfl rfl HT_ ?_
                       refine pv_' 13 137 (on_ 14 25) rfl rfl HT_ ?_
                       refine pun_' 14 138 (on_ 15 24) rfl rfl HT_ ?_
                       refine pun_' 15 139 (on_ 16 23) rfl rfl HT_ ?_
                       refine pun_' 16 140 (on_ 17 22) rfl rfl HT_ ?_
                       refine pun_' 17 141 (on_ 18 21) rfl rfl HT_ ?_
                       refine pun_' 18 142 (on_ 19 20) rfl rfl HT_ ?_
                       refine pun_' 19 143 (on_ 20 19) rfl rfl HT_ ?_
                       refine pun_' 20 144 (on_ 21 18) rfl rfl HT_ ?_
                       refine pv_' 21 145 (on_ 22 17) rfl rfl HT_ ?_
                       refine pv_' 22 146 (on_ 23 16) rfl rfl HT_ ?_
                       refine pun_' 23 147 (on_ 24 15) rfl rfl HT_ ?_
                       refine pun_' 24 148 (on_ 25 14) rfl rfl HT_ ?_
                       refine pun_' 25 149 (on_ 26 13) rfl rfl HT_ ?_
                       refine pun_' 26 150 (on_ 27 12) rfl rfl HT_ ?_
                       refine pun_' 27 151 (on_ 28 11) rfl rfl HT_ ?_
                       refine pun_' 28 152 (on_ 29 10) rfl rfl HT_ ?_
                       refine pun_' 29 153 (on_ 30 9) rfl rfl HT_ ?_
                       refine pun_' 30 154 (on_ 31 8) rfl rfl HT_ ?_
                       refine pun_' 31 155 (on_ 32 7) rfl rfl HT_ ?_
                       refine pun_' 32 156 (on_ 33 6) rfl rfl HT_ ?_
                       refine pun_' 33 157 (on_ 34 5) rfl rfl HT_ ?_
                       refine pun_' 34 158 (on_ 35 4) rfl rfl HT_ ?_
                       refine pun_' 35 159 (on_ 36 3) rfl rfl HT_ ?_
                       refine pun_' 36 160 (on_ 37 2) rfl rfl HT_ ?_
                       refine pun_' 37 161 (on_ 38 1) rfl rfl HT_ ?_
                       refine pv_' 38 162 (on_ 39 0) rfl rfl HT_ ?_
                       refine done_ (done_of HT_.out (by kernel_rfl)) ?_
                       try go_wp2
                       go_meet
                       case rel => exact ⟨_, (true), rs_, H', ⟨by have := HJ7.out; have := HJ18.out; have := HJ26.out; have := HJ34.out; have := HK5.out; first | exact Nat.le_refl _ | exact Nat.le_of_succ_le this | omega⟩, ⟨rr_ HO_8⟩, ⟨rr_ HO_10⟩, ⟨rr_ HO_13⟩, ⟨bk_ BK465⟩, ⟨hs_ HB GE465⟩⟩
                      ·rw [if_neg c57] at H
                       have c57b0 : (!(((rd_T37 t442 x15_5).f0) == ((rd_T37 t446 x15_5).f0)) || (!(((rd_T37 t442 x15_5).f1) == ((rd_T37 t446 x15_5).f1)) || ((!(((rd_T37 t442 x15_5).f2.f0) == ((rd_T37 t446 x15_5).f2.f0)) || (!(((rd_T37 t442 x15_5).f2.f1) == ((rd_T37 t446 x15_5).f2.f1)) || (!((((rd_T37 t442 x15_5).f2.f2).toList) == (((rd_T37 t446 x15_5).f2.f2).toList)) || (!((((rd_T37 t442 x15_5).f2.f3).toList) == (((rd_T37 t446 x15_5).f2.f3).toList)) || (!(((rd_T37 t442 x15_5).f2.f4) == ((rd_T37 t446 x15_5).f2.f4)) || (!(((rd_T37 t442 x15_5).f2.f5) == ((rd_T37 t446 x15_5).f2.f5))))))))))) = false := by simpa using c57
                       clear c57
                       by_cases c61 : t464 = true
                       ·subst c61
                        have H1 : (if (!(t458 == ((rd_T37 t442 x15_5).f2.f0)) || (!(t459 == ((rd_T37 t442 x15_5).f2.f1)) || (!(t460.toList == (((rd_T37 t442 x15_5).f2.f2).toList)) || (!(t461.toList == (((rd_T37 t442 x15_5).f2.f3).toList)) || (!(t462 == ((rd_T37 t442 x15_5).f2.f4)) || (!(t463 == ((rd_T37 t442 x15_5).f2.f5)))))))) = true then (laws_FnFrames.j5 k5 t441 t442 t446 t452 x15_5 true) else (if x15_5 < (t452.length : Int) then (laws_FnFrames.j5 k5 t441 t442 t446 t452 x15_5 (!(((rd_T37 t452 x15_5).f0) == ((rd_T37 t442 x15_5).f0)) || (!(((rd_T37 t452 x15_5).f1) == ((rd_T37 t442 x15_5).f1)) || ((!(((rd_T37 t452 x15_5).f2.f0) == ((rd_T37 t442 x15_5).f2.f0)) || (!(((rd_T37 t452 x15_5).f2.f1) == ((rd_T37 t442 x15_5).f2.f1)) || (!((((rd_T37 t452 x15_5).f2.f2).toList) == (((rd_T37 t442 x15_5).f2.f2).toList)) || (!((((rd_T37 t452 x15_5).f2.f3).toList) == (((rd_T37 t442 x15_5).f2.f3).toList)) || (!(((rd_T37 t452 x15_5).f2.f4) == ((rd_T37 t442 x15_5).f2.f4)) || (!(((rd_T37 t452 x15_5).f2.f5) == ((rd_T37 t442 x15_5).f2.f5)))))))))))) else (laws_FnFrames.j5 k5 t441 t442 t446 t452 x15_5 false))) = some r := by rw [if_pos rfl] at H; exact H
                        clear H
                        have H := H1
                        clear H1
                        by_cases c62 : (!(t458 == ((rd_T37 t442 x15_5).f2.f0)) || (!(t459 == ((rd_T37 t442 x15_5).f2.f1)) || (!(t460.toList == (((rd_T37 t442 x15_5).f2.f2).toList)) || (!(t461.toList == (((rd_T37 t442 x15_5).f2.f3).toList)) || (!(t462 == ((rd_T37 t442 x15_5).f2.f4)) || (!(t463 == ((rd_T37 t442 x15_5).f2.f5)))))))) = true
                        ·rw [if_pos c62] at H
                         have c62b0 : (!(t458 == ((rd_T37 t442 x15_5).f2.f0)) || (!(t459 == ((rd_T37 t442 x15_5).f2.f1)) || (!(t460.toList == (((rd_T37 t442 x15_5).f2.f2).toList)) || (!(t461.toList == (((rd_T37 t442 x15_5).f2.f3).toList)) || (!(t462 == ((rd_T37 t442 x15_5).f2.f4)) || (!(t463 == ((rd_T37 t442 x15_5).f2.f5)))))))) = true := c62
                         clear c62
                         have H' := Aside0.mk H
                         clear H
                         try go_wp2
                         generalize hW_ : ((((((w49.setCell ⟨gb465, 0, none⟩ (.int .i64 t458)).setCell ⟨gb465, 1, none⟩ (.int .i64 t459)).setCell ⟨gb465, 2, none⟩ (.string t460)).setCell ⟨gb465, 3, none⟩ (.string t461)).setCell ⟨gb465, 4, none⟩ (.int .i64 t462)).setCell ⟨gb465, 5, none⟩ (.int .i64 t463)) = w63
                         replace HO_8 := ur_ (fun k_ => some k_ ≠ (v448 : Value).ownBlock ∧ some k_ ≠ (v454 : Value).ownBlock) HO_8 BK465 hW_
                         replace HO_10 := ur_ (fun k_ => some k_ ≠ (.slice (some ad456) t442.length co45 : Value).ownBlock ∧ some k_ ≠ (v454 : Value).ownBlock) HO_10 BK465 hW_
                         replace HO_13 := ur_ (fun k_ => some k_ ≠ (.slice (some ad456) t442.length co45 : Value).ownBlock ∧ some k_ ≠ (v448 : Value).ownBlock) HO_13 BK465 hW_
                         replace BK465 := up_ #[.int .i64 t458, .int .i64 t459, .string t460, .string t461, .int .i64 t462, .int .i64 t463] BK465 hW_
                         replace HB := us_ hW_ (hs_ HB GE465)
                         clear hW_
                         replace HO_8 := rd_ HO_8
                         replace HO_10 := rd_ HO_10
                         replace HO_13 := rd_ HO_13
                         replace BK465 := bd_ BK465
                         replace HB := hd_ HB
                         have p466 : 0 ≤ (x15_5 : Int) := of_decide_eq_true as_
                         have q466 : x15_5 < (t442.length : Int) := of_decide_eq_true as_
                         obtain ⟨ad466, e466, hx466_0, hx466_1, hx466_2, hx466_3, hx466_4, hx466_5, hx466_6, hx466_7⟩ := at_T37 (Kd.R_reads' HO_8.out).2.2 x15_5 p466 q466
                         obtain rfl : ad456 = ad466 := (by injection e466)
                         replace p466 := eq_true p466
                         replace q466 := eq_true q466
                         obtain ⟨Ao65, co65, eo65⟩ := Kd.R_slice HO_10.out
                         (first | subst eo65 | (injection eo65 with f1_ f2_ f3_; have f4_ := f1_.symm; have f5_ := f3_.symm; clear f1_ f2_ f3_; subst f4_; subst f5_))
                         have p467 : 0 ≤ (x15_5 : Int) := of_decide_eq_true as_
                         have q467 : x15_5 < (t446.length : Int) := of_decide_eq_true as_
                         obtain ⟨ad467, e467, hx467_0, hx467_1, hx467_2, hx467_3, hx467_4, hx467_5, hx467_6, hx467_7⟩ := at_T37 (Kd.R_reads' HO_10.out).2.2 x15_5 p467 q467
                         cases e467
                         replace p467 := eq_true p467
                         replace q467 := eq_true q467
                         have p468 : 0 ≤ (x15_5 : Int) := of_decide_eq_true as_
                         have q468 : x15_5 < (t442.length : Int) := of_decide_eq_true as_
                         obtain ⟨ad468, e468, hx468_0, hx468_1, hx468_2, hx468_3, hx468_4, hx468_5, hx468_6, hx468_7⟩ := at_T37 (Kd.R_reads' HO_8.out).2.2 x15_5 p468 q468
                         obtain rfl : ad456 = ad468 := (by injection e468)
                         replace p468 := eq_true p468
                         replace q468 := eq_true q468
                         refine start_ (n := 39) (S := k6_ gb465 (.int .i64 t458) (.int .i64 t459) (.string t460) (.string t461) (.int .i64 t462) (.int .i64 t463) (e8_ (ad456.add ((x15_5).toNat * 8)) (.int .i64 ((rd_T37 t442 x15_5).f0)) (.int .i64 ((rd_T37 t442 x15_5).f1)) (.int .i64 ((rd_T37 t442 x15_5).f2.f0)) (.int .i64 ((rd_T37 t442 x15_5).f2.f1)) (.string ((rd_T37 t442 x15_5).f2.f2)) (.string ((rd_T37 t442 x15_5).f2.f3)) (.int .i64 ((rd_T37 t442 x15_5).f2.f4)) (.int .i64 ((rd_T37 t442 x15_5).f2.f5)) (e8_ (ad467.add ((x15_5).toNat * 8)) (.int .i64 ((rd_T37 t446 x15_5).f0)) (.int .i64 ((rd_T37 t446 x15_5).f1)) (.int .i64 ((rd_T37 t446 x15_5).f2.f0)) (.int .i64 ((rd_T37 t446 x15_5).f2.f1)) (.string ((rd_T37 t446 x15_5).f2.f2)) (.string ((rd_T37 t446 x15_5).f2.f3)) (.int .i64 ((rd_T37 t446 x15_5).f2.f4)) (.int .i64 ((rd_T37 t446 x15_5).f2.f5)) (e8e_ (ad456.add ((x15_5).toNat * 8)) (.int .i64 ((rd_T37 t442 x15_5).f0)) (.int .i64 ((rd_T37 t442 x15_5).f1)) (.int .i64 ((rd_T37 t442 x15_5).f2.f0)) (.int .i64 ((rd_T37 t442 x15_5).f2.f1)) (.string ((rd_T37 t442 x15_5).f2.f2)) (.string ((rd_T37 t442 x15_5).f2.f3)) (.int .i64 ((rd_T37 t442 x15_5).f2.f4)) (.int .i64 ((rd_T37 t442 x15_5).f2.f5)))))) (ds := []) (on_ 0 39) (by kernel_rfl) rfl rfl (p6_ BK465 (q8_ hx466_0 hx466_1 hx466_2 hx466_3 hx466_4 hx466_5 hx466_6 hx466_7 (q8_ hx467_0 hx467_1 hx467_2 hx467_3 hx467_4 hx467_5 hx467_6 hx467_7 (q8e_ hx468_0 hx468_1 hx468_2 hx468_3 hx468_4 hx468_5 hx468_6 hx468_7)))) (fun hHeld => ?_); refine with_tabW laws_FnFrames.tab23 laws_FnFrames.bits23 (fun HT_ HW_ => ?_)
                         generalize w63.drew = w64 at HO_8 HO_10 HO_13 BK465 HB hx466_0 hx466_1 hx466_2 hx466_3 hx466_4 hx466_5 hx466_6 hx466_7 hx467_0 hx467_1 hx467_2 hx467_3 hx467_4 hx467_5 hx467_6 hx467_7 hx468_0 hx468_1 hx468_2 hx468_3 hx468_4 hx468_5 hx468_6 hx468_7 hHeld ⊢
                         refine pv_' 0 124 (on_ 1 38) rfl rfl HT_ ?_
                         refine pv_' 1 125 (on_ 2 37) rfl rfl HT_ ?_
                         refine pv_' 2 126 (on_ 3 36) rfl rfl HT_ ?_
                         refine pv_' 4 128 #[i',i',i',o',i',o',o',o',o',o',o',o',o',o',o',o',o',o',o',o',o',o',o',o',o',o',o',o',o',o',o',o',o',o',o',o',o',o',o'] rfl rfl HT_ ?_
                         refine pv_' 5 129 #[i',i',i',o',i',i',o',o',o',o',o',o',o',o',o',o',o',o',o',o',o',o',o',o',o',o',o',o',o',o',o',o',o',o',o',o',o',o',o'] rfl rfl HT_ ?_
                         refine pv_' 6 130 #[i',i',i',o',i',i',i',o',o',o',o',o',o',o',o',o',o',o',o',o',o',o',o',o',o',o',o',o',o',o',o',o',o',o',o',o',o',o',o'] rfl rfl HT_ ?_
                         refine take_ (i := 3) (N := some 127) (v := ?_) (a' := ?_) (on_ 7 32) rfl rfl (take_ofW HT_.out HW_.out (by kernel_rfl)) (fun _ _ _ h => h) (Or.inl ⟨by rfl, ?_⟩) hHeld ?_ ?_
                         rotate_left
                         ·rintro w' ⟨s0, s1, s2, s3, s4, s5, s6, s7, s8, s9, s10, s11, s12, s13, s14, s15, s16, s17, s18, s19, s20, s21, s22, s23, s24, s25, s26, s27, s28, s29⟩
                          go_simp
                          with_reducible rfl
                         rotate_left
                         ·simp only [Act.put, la_, lz_, ls_, i64_w, i32_w]
                          rfl
                         refine take_ (i := 7) (N := some 131) (v := ?_) (a' := ?_) (on_ 8 31) rfl rfl (take_ofW HT_.out HW_.out (by kernel_rfl)) (fun _ _ _ h => h) (Or.inl ⟨by rfl, ?_⟩) hHeld ?_ ?_
                         rotate_left
                         ·rintro w' ⟨s0, s1, s2, s3, s4, s5, s6, s7, s8, s9, s10, s11, s12, s13, s14, s15, s16, s17, s18, s19, s20, s21, s22, s23, s24, s25, s26, s27, s28, s29⟩
                          go_simp
                          with_reducible rfl
                         rotate_left
                         ·simp only [Act.put, la_, lz_, ls_, i64_w, i32_w]
                          rfl
                         refine pv_' 8 132 (on_ 9 30) rfl rfl HT_ ?_
                         refine pv_' 9 133 (on_ 10 29) rfl rfl HT_ ?_
                         refine pv_' 10 134 (on_ 11 28) rfl rfl HT_ ?_
                         refine pv_' 11 135 (on_ 12 27) rfl rfl HT_ ?_
                         refine pv_' 12 136 (on_ 13 26) rfl rfl HT_ ?_
                         refine pv_' 13 137 (on_ 14 25) rfl rfl HT_ ?_
                         refine pv_' 15 139 #[i',i',i',i',i',i',i',i',i',i',i',i',i',i',o',i',o',o',o',o',o',o',o',o',o',o',o',o',o',o',o',o',o',o',o',o',o',o',o'] rfl rfl HT_ ?_
                         refine pv_' 16 140 #[i',i',i',i',i',i',i',i',i',i',i',i',i',i',o',i',i',o',o',o',o',o',o',o',o',o',o',o',o',o',o',o',o',o',o',o',o',o',o'] rfl rfl HT_ ?_
                         refine pv_' 17 141 #[i',i',i',i',i',i',i',i',i',i',i',i',i',i',o',i',i',i',o',o',o',o',o',o',o',o',o',o',o',o',o',o',o',o',o',o',o',o',o'] rfl rfl HT_ ?_
                         refine pv_' 18 142 #[i',i',i',i',i',i',i',i',i',i',i',i',i',i',o',i',i',i',i',o',o',o',o',o',o',o',o',o',o',o',o',o',o',o',o',o',o',o',o'] rfl rfl HT_ ?_
                         refine take_ (i := 14) (N := some 138) (v := ?_) (a' := ?_) (on_ 19 20) rfl rfl (take_ofW HT_.out HW_.out (by kernel_rfl)) (fun _ _ _ h => h) (Or.inl ⟨by rfl, ?_⟩) hHeld ?_ ?_
                         rotate_left
                         ·rintro w' ⟨s0, s1, s2, s3, s4, s5, s6, s7, s8, s9, s10, s11, s12, s13, s14, s15, s16, s17, s18, s19, s20, s21, s22, s23, s24, s25, s26, s27, s28, s29⟩
                          go_simp
                          with_reducible rfl
                         rotate_left
                         ·simp only [Act.put, la_, lz_, ls_, i64_w, i32_w]
                          rfl
                         refine take_ (i := 19) (N := some 143) (v := ?_) (a' := ?_) (on_ 20 19) rfl rfl (take_ofW HT_.out HW_.out (by kernel_rfl)) (fun _ _ _ h => h) (Or.inl ⟨by rfl, ?_⟩) hHeld ?_ ?_
                         rotate_left
                         ·rintro w' ⟨s0, s1, s2, s3, s4, s5, s6, s7, s8, s9, s10, s11, s12, s13, s14, s15, s16, s17, s18, s19, s20, s21, s22, s23, s24, s25, s26, s27, s28, s29⟩
                          go_simp
                          with_reducible rfl
                         rotate_left
                         ·simp only [Act.put, la_, lz_, ls_, i64_w, i32_w]
                          rfl
                         refine pv_' 20 144 (on_ 21 18) rfl rfl HT_ ?_
                         refine pv_' 21 145 (on_ 22 17) rfl rfl HT_ ?_
                         refine pv_' 22 146 (on_ 23 16) rfl rfl HT_ ?_
                         refine pun_' 23 147 (on_ 24 15) rfl rfl HT_ ?_
                         refine pun_' 24 148 (on_ 25 14) rfl rfl HT_ ?_
                         refine pun_' 25 149 (on_ 26 13) rfl rfl HT_ ?_
                         refine pun_' 26 150 (on_ 27 12) rfl rfl HT_ ?_
                         refine pun_' 27 151 (on_ 28 11) rfl rfl HT_ ?_
                         refine pun_' 28 152 (on_ 29 10) rfl rfl HT_ ?_
                         refine pun_' 29 153 (on_ 30 9) rfl rfl HT_ ?_
                         refine pun_' 30 154 (on_ 31 8) rfl rfl HT_ ?_
                         refine pun_' 31 155 (on_ 32 7) rfl rfl HT_ ?_
                         refine pun_' 32 156 (on_ 33 6) rfl rfl HT_ ?_
                         refine pun_' 33 157 (on_ 34 5) rfl rfl HT_ ?_
                         refine pun_' 34 158 (on_ 35 4) rfl rfl HT_ ?_
                         refine pun_' 35 159 (on_ 36 3) rfl rfl HT_ ?_
                         refine pun_' 36 160 (on_ 37 2) rfl rfl HT_ ?_
                         refine pun_' 37 161 (on_ 38 1) rfl rfl HT_ ?_
                         refine pv_' 38 162 (on_ 39 0) rfl rfl HT_ ?_
                         refine done_ (done_of HT_.out (by kernel_rfl)) ?_
                         try go_wp2
                         go_meet
                         case rel => exact ⟨_, (true), rs_, H', ⟨by have := HJ7.out; have := HJ18.out; have := HJ26.out; have := HJ34.out; have := HK5.out; first | exact Nat.le_refl _ | exact Nat.le_of_succ_le this | omega⟩, ⟨rr_ HO_8⟩, ⟨rr_ HO_10⟩, ⟨rr_ HO_13⟩, ⟨bk_ BK465⟩, ⟨hs_ HB GE465⟩⟩
                        ·rw [if_neg c62] at H
                         have c62b0 : (!(t458 == ((rd_T37 t442 x15_5).f2.f0)) || (!(t459 == ((rd_T37 t442 x15_5).f2.f1)) || (!(t460.toList == (((rd_T37 t442 x15_5).f2.f2).toList)) || (!(t461.toList == (((rd_T37 t442 x15_5).f2.f3).toList)) || (!(t462 == ((rd_T37 t442 x15_5).f2.f4)) || (!(t463 == ((rd_T37 t442 x15_5).f2.f5)))))))) = false := by simpa using c62
                         clear c62
                         by_cases c66 : x15_5 < (t452.length : Int)
                         ·rw [if_pos c66] at H
                          have c66b0 : decide (x15_5 < (t452.length : Int)) = true := decide_eq_true c66
                          clear c66
                          have H' := Aside0.mk H
                          clear H
                          try go_wp2
                          generalize hW_ : ((((((w49.setCell ⟨gb465, 0, none⟩ (.int .i64 t458)).setCell ⟨gb465, 1, none⟩ (.int .i64 t459)).setCell ⟨gb465, 2, none⟩ (.string t460)).setCell ⟨gb465, 3, none⟩ (.string t461)).setCell ⟨gb465, 4, none⟩ (.int .i64 t462)).setCell ⟨gb465, 5, none⟩ (.int .i64 t463)) = w67
                          replace HO_8 := ur_ (fun k_ => some k_ ≠ (v448 : Value).ownBlock ∧ some k_ ≠ (v454 : Value).ownBlock) HO_8 BK465 hW_
                          replace HO_10 := ur_ (fun k_ => some k_ ≠ (.slice (some ad456) t442.length co45 : Value).ownBlock ∧ some k_ ≠ (v454 : Value).ownBlock) HO_10 BK465 hW_
                          replace HO_13 := ur_ (fun k_ => some k_ ≠ (.slice (some ad456) t442.length co45 : Value).ownBlock ∧ some k_ ≠ (v448 : Value).ownBlock) HO_13 BK465 hW_
                          replace BK465 := up_ #[.int .i64 t458, .int .i64 t459, .string t460, .string t461, .int .i64 t462, .int .i64 t463] BK465 hW_
                          replace HB := us_ hW_ (hs_ HB GE465)
                          clear hW_
                          replace HO_8 := rd_ HO_8
                          replace HO_10 := rd_ HO_10
                          replace HO_13 := rd_ HO_13
                          replace BK465 := bd_ BK465
                          replace HB := hd_ HB
                          have p466 : 0 ≤ (x15_5 : Int) := of_decide_eq_true as_
                          have q466 : x15_5 < (t442.length : Int) := of_decide_eq_true as_
                          obtain ⟨ad466, e466, hx466_0, hx466_1, hx466_2, hx466_3, hx466_4, hx466_5, hx466_6, hx466_7⟩ := at_T37 (Kd.R_reads' HO_8.out).2.2 x15_5 p466 q466
                          obtain rfl : ad456 = ad466 := (by injection e466)
                          replace p466 := eq_true p466
                          replace q466 := eq_true q466
                          obtain ⟨Ao69, co69, eo69⟩ := Kd.R_slice HO_10.out
                          (first | subst eo69 | (injection eo69 with f1_ f2_ f3_; have f4_ := f1_.symm; have f5_ := f3_.symm; clear f1_ f2_ f3_; subst f4_; subst f5_))
                          have p467 : 0 ≤ (x15_5 : Int) := of_decide_eq_true as_
                          have q467 : x15_5 < (t446.length : Int) := of_decide_eq_true as_
                          obtain ⟨ad467, e467, hx467_0, hx467_1, hx467_2, hx467_3, hx467_4, hx467_5, hx467_6, hx467_7⟩ := at_T37 (Kd.R_reads' HO_10.out).2.2 x15_5 p467 q467
                          cases e467
                          replace p467 := eq_true p467
                          replace q467 := eq_true q467
                          have p468 : 0 ≤ (x15_5 : Int) := of_decide_eq_true as_
                          have q468 : x15_5 < (t442.length : Int) := of_decide_eq_true as_
                          obtain ⟨ad468, e468, hx468_0, hx468_1, hx468_2, hx468_3, hx468_4, hx468_5, hx468_6, hx468_7⟩ := at_T37 (Kd.R_reads' HO_8.out).2.2 x15_5 p468 q468
                          obtain rfl : ad456 = ad468 := (by injection e468)
                          replace p468 := eq_true p468
                          replace q468 := eq_true q468
                          obtain ⟨Ao70, co70, eo70⟩ := Kd.R_slice HO_13.out
                          (first | subst eo70 | (injection eo70 with f1_ f2_ f3_; have f4_ := f1_.symm; have f5_ := f3_.symm; clear f1_ f2_ f3_; subst f4_; subst f5_))
                          have p469 : 0 ≤ (x15_5 : Int) := of_decide_eq_true as_
                          have q469 : x15_5 < (t452.length : Int) := of_decide_eq_true as_
                          obtain ⟨ad469, e469, hx469_0, hx469_1, hx469_2, hx469_3, hx469_4, hx469_5, hx469_6, hx469_7⟩ := at_T37 (Kd.R_reads' HO_13.out).2.2 x15_5 p469 q469
                          cases e469
                          replace p469 := eq_true p469
                          replace q469 := eq_true q469
                          have p470 : 0 ≤ (x15_5 : Int) := of_decide_eq_true as_
                          have q470 : x15_5 < (t442.length : Int) := of_decide_eq_true as_
                          obtain ⟨ad470, e470, hx470_0, hx470_1, hx470_2, hx470_3, hx470_4, hx470_5, hx470_6, hx470_7⟩ := at_T37 (Kd.R_reads' HO_8.out).2.2 x15_5 p470 q470
                          obtain rfl : ad456 = ad470 := (by injection e470)
                          replace p470 := eq_true p470
                          replace q470 := eq_true q470
                          refine start_ (n := 39) (S := k6_ gb465 (.int .i64 t458) (.int .i64 t459) (.string t460) (.string t461) (.int .i64 t462) (.int .i64 t463) (e8_ (ad456.add ((x15_5).toNat * 8)) (.int .i64 ((rd_T37 t442 x15_5).f0)) (.int .i64 ((rd_T37 t442 x15_5).f1)) (.int .i64 ((rd_T37 t442 x15_5).f2.f0)) (.int .i64 ((rd_T37 t442 x15_5).f2.f1)) (.string ((rd_T37 t442 x15_5).f2.f2)) (.string ((rd_T37 t442 x15_5).f2.f3)) (.int .i64 ((rd_T37 t442 x15_5).f2.f4)) (.int .i64 ((rd_T37 t442 x15_5).f2.f5)) (e8_ (ad467.add ((x15_5).toNat * 8)) (.int .i64 ((rd_T37 t446 x15_5).f0)) (.int .i64 ((rd_T37 t446 x15_5).f1)) (.int .i64 ((rd_T37 t446 x15_5).f2.f0)) (.int .i64 ((rd_T37 t446 x15_5).f2.f1)) (.string ((rd_T37 t446 x15_5).f2.f2)) (.string ((rd_T37 t446 x15_5).f2.f3)) (.int .i64 ((rd_T37 t446 x15_5).f2.f4)) (.int .i64 ((rd_T37 t446 x15_5).f2.f5)) (e8_ (ad456.add ((x15_5).toNat * 8)) (.int .i64 ((rd_T37 t442 x15_5).f0)) (.int .i64 ((rd_T37 t442 x15_5).f1)) (.int .i64 ((rd_T37 t442 x15_5).f2.f0)) (.int .i64 ((rd_T37 t442 x15_5).f2.f1)) (.string ((rd_T37 t442 x15_5).f2.f2)) (.string ((rd_T37 t442 x15_5).f2.f3)) (.int .i64 ((rd_T37 t442 x15_5).f2.f4)) (.int .i64 ((rd_T37 t442 x15_5).f2.f5)) (e8_ (ad469.add ((x15_5).toNat * 8)) (.int .i64 ((rd_T37 t452 x15_5).f0)) (.int .i64 ((rd_T37 t452 x15_5).f1)) (.int .i64 ((rd_T37 t452 x15_5).f2.f0)) (.int .i64 ((rd_T37 t452 x15_5).f2.f1)) (.string ((rd_T37 t452 x15_5).f2.f2)) (.string ((rd_T37 t452 x15_5).f2.f3)) (.int .i64 ((rd_T37 t452 x15_5).f2.f4)) (.int .i64 ((rd_T37 t452 x15_5).f2.f5)) (e8e_ (ad456.add ((x15_5).toNat * 8)) (.int .i64 ((rd_T37 t442 x15_5).f0)) (.int .i64 ((rd_T37 t442 x15_5).f1)) (.int .i64 ((rd_T37 t442 x15_5).f2.f0)) (.int .i64 ((rd_T37 t442 x15_5).f2.f1)) (.string ((rd_T37 t442 x15_5).f2.f2)) (.string ((rd_T37 t442 x15_5).f2.f3)) (.int .i64 ((rd_T37 t442 x15_5).f2.f4)) (.int .i64 ((rd_T37 t442 x15_5).f2.f5)))))))) (ds := []) (on_ 0 39) (by kernel_rfl) rfl rfl (p6_ BK465 (q8_ hx466_0 hx466_1 hx466_2 hx466_3 hx466_4 hx466_5 hx466_6 hx466_7 (q8_ hx467_0 hx467_1 hx467_2 hx467_3 hx467_4 hx467_5 hx467_6 hx467_7 (q8_ hx468_0 hx468_1 hx468_2 hx468_3 hx468_4 hx468_5 hx468_6 hx468_7 (q8_ hx469_0 hx469_1 hx469_2 hx469_3 hx469_4 hx469_5 hx469_6 hx469_7 (q8e_ hx470_0 hx470_1 hx470_2 hx470_3 hx470_4 hx470_5 hx470_6 hx470_7)))))) (fun hHeld => ?_); refine with_tabW laws_FnFrames.tab23 laws_FnFrames.bits23 (fun HT_ HW_ => ?_)
                          generalize w67.drew = w68 at HO_8 HO_10 HO_13 BK465 HB hx466_0 hx466_1 hx466_2 hx466_3 hx466_4 hx466_5 hx466_6 hx466_7 hx467_0 hx467_1 hx467_2 hx467_3 hx467_4 hx467_5 hx467_6 hx467_7 hx468_0 hx468_1 hx468_2 hx468_3 hx468_4 hx468_5 hx468_6 hx468_7 hx469_0 hx469_1 hx469_2 hx469_3 hx469_4 hx469_5 hx469_6 hx469_7 hx470_0 hx470_1 hx470_2 hx470_3 hx470_4 hx470_5 hx470_6 hx470_7 hHeld ⊢
                          refine pv_' 0 124 (on_ 1 38) rfl rfl HT_ ?_
                          refine pv_' 1 125 (on_ 2 37) rfl rfl HT_ ?_
                          refine pv_' 2 126 (on_ 3 36) rfl rfl HT_ ?_
                          refine pv_' 4 128 #[i',i',i',o',i',o',o',o',o',o',o',o',o',o',o',o',o',o',o',o',o',o',o',o',o',o',o',o',o',o',o',o',o',o',o',o',o',o',o'] rfl rfl HT_ ?_
                          refine pv_' 5 129 #[i',i',i',o',i',i',o',o',o',o',o',o',o',o',o',o',o',o',o',o',o',o',o',o',o',o',o',o',o',o',o',o',o',o',o',o',o',o',o'] rfl rfl HT_ ?_
                          refine pv_' 6 130 #[i',i',i',o',i',i',i',o',o',o',o',o',o',o',o',o',o',o',o',o',o',o',o',o',o',o',o',o',o',o',o',o',o',o',o',o',o',o',o'] rfl rfl HT_ ?_
                          refine take_ (i := 3) (N := some 127) (v := ?_) (a' := ?_) (on_ 7 32) rfl rfl (take_ofW HT_.out HW_.out (by kernel_rfl)) (fun _ _ _ h => h) (Or.inl ⟨by rfl, ?_⟩) hHeld ?_ ?_
                          rotate_left
                          ·rintro w' ⟨s0, s1, s2, s3, s4, s5, s6, s7, s8, s9, s10, s11, s12, s13, s14, s15, s16, s17, s18, s19, s20, s21, s22, s23, s24, s25, s26, s27, s28, s29, s30, s31, s32, s33, s34, s35, s36, s37, s38, s39, s40, s41, s42, s43, s44, s45⟩
                           go_simp
                           with_reducible rfl
                          rotate_left
                          ·simp only [Act.put, la_, lz_, ls_, i64_w, i32_w]
                           rfl
                          refine take_ (i := 7) (N := some 131) (v := ?_) (a' := ?_) (on_ 8 31) rfl rfl (take_ofW HT_.out HW_.out (by kernel_rfl)) (fun _ _ _ h => h) (Or.inl ⟨by rfl, ?_⟩) hHeld ?_ ?_
                          rotate_left
                          ·rintro w' ⟨s0, s1, s2, s3, s4, s5, s6, s7, s8, s9, s10, s11, s12, s13, s14, s15, s16, s17, s18, s19, s20, s21, s22, s23, s24, s25, s26, s27, s28, s29, s30, s31, s32, s33, s34, s35, s36, s37, s38, s39, s40, s41, s42, s43, s44, s45⟩
                           go_simp
                           with_reducible rfl
                          rotate_left
                          ·simp only [Act.put, la_, lz_, ls_, i64_w, i32_w]
                           rfl
                          refine pv_' 8 132 (on_ 9 30) rfl rfl HT_ ?_
                          refine pv_' 9 133 (on_ 10 29) rfl rfl HT_ ?_
                          refine pv_' 10 134 (on_ 11 28) rfl rfl HT_ ?_
                          refine pv_' 11 135 (on_ 12 27) rfl rfl HT_ ?_
                          refine pv_' 12 136 (on_ 13 26) rfl rfl HT_ ?_
                          refine pv_' 13 137 (on_ 14 25) rfl rfl HT_ ?_
                          refine pv_' 15 139 #[i',i',i',i',i',i',i',i',i',i',i',i',i',i',o',i',o',o',o',o',o',o',o',o',o',o',o',o',o',o',o',o',o',o',o',o',o',o',o'] rfl rfl HT_ ?_
                          refine pv_' 16 140 #[i',i',i',i',i',i',i',i',i',i',i',i',i',i',o',i',i',o',o',o',o',o',o',o',o',o',o',o',o',o',o',o',o',o',o',o',o',o',o'] rfl rfl HT_ ?_
                          refine pv_' 17 141 #[i',i',i',i',i',i',i',i',i',i',i',i',i',i',o',i',i',i',o',o',o',o',o',o',o',o',o',o',o',o',o',o',o',o',o',o',o',o',o'] rfl rfl HT_ ?_
                          refine pv_' 18 142 #[i',i',i',i',i',i',i',i',i',i',i',i',i',i',o',i',i',i',i',o',o',o',o',o',o',o',o',o',o',o',o',o',o',o',o',o',o',o',o'] rfl rfl HT_ ?_
                          refine take_ (i := 14) (N := some 138) (v := ?_) (a' := ?_) (on_ 19 20) rfl rfl (take_ofW HT_.out HW_.out (by kernel_rfl)) (fun _ _ _ h => h) (Or.inl ⟨by rfl, ?_⟩) hHeld ?_ ?_
                          rotate_left
                          ·rintro w' ⟨s0, s1, s2, s3, s4, s5, s6, s7, s8, s9, s10, s11, s12, s13, s14, s15, s16, s17, s18, s19, s20, s21, s22, s23, s24, s25, s26, s27, s28, s29, s30, s31, s32, s33, s34, s35, s36, s37, s38, s39, s40, s41, s42, s43, s44, s45⟩
                           go_simp
                           with_reducible rfl
                          rotate_left
                          ·simp only [Act.put, la_, lz_, ls_, i64_w, i32_w]
                           rfl
                          refine take_ (i := 19) (N := some 143) (v := ?_) (a' := ?_) (on_ 20 19) rfl rfl (take_ofW HT_.out HW_.out (by kernel_rfl)) (fun _ _ _ h => h) (Or.inl ⟨by rfl, ?_⟩) hHeld ?_ ?_
                          rotate_left
                          ·rintro w' ⟨s0, s1, s2, s3, s4, s5, s6, s7, s8, s9, s10, s11, s12, s13, s14, s15, s16, s17, s18, s19, s20, s21, s22, s23, s24, s25, s26, s27, s28, s29, s30, s31, s32, s33, s34, s35, s36, s37, s38, s39, s40, s41, s42, s43, s44, s45⟩
                           go_simp
                           with_reducible rfl
                          rotate_left
                          ·simp only [Act.put, la_, lz_, ls_, i64_w, i32_w]
                           rfl
                          refine pv_' 20 144 (on_ 21 18) rfl rfl HT_ ?_
                          refine pv_' 21 145 (on_ 22 17) rfl rfl HT_ ?_
                          refine pv_' 22 146 (on_ 23 16) rfl rfl HT_ ?_
                          refine pv_' 23 147 (on_ 24 15) rfl rfl HT_ ?_
                          refine pv_' 24 148 (on_ 25 14) rfl rfl HT_ ?_
                          refine pv_' 25 149 (on_ 26 13) rfl rfl HT_ ?_
                          refine pv_' 26 150 (on_ 27 12) rfl rfl HT_ ?_
                          refine pv_' 27 151 (on_ 28 11) rfl rfl HT_ ?_
                          refine pv_' 28 152 (on_ 29 10) rfl rfl HT_ ?_
                          refine pv_' 29 153 (on_ 30 9) rfl rfl HT_ ?_
                          refine pv_' 30 154 (on_ 31 8) rfl rfl HT_ ?_
                          refine pv_' 32 156 #[i',i',i',i',i',i',i',i',i',i',i',i',i',i',i',i',i',i',i',i',i',i',i',i',i',i',i',i',i',i',i',o',i',o',o',o',o',o',o'] rfl rfl HT_ ?_
                          refine pv_' 33 157 #[i',i',i',i',i',i',i',i',i',i',i',i',i',i',i',i',i',i',i',i',i',i',i',i',i',i',i',i',i',i',i',o',i',i',o',o',o',o',o'] rfl rfl HT_ ?_
                          refine pv_' 34 158 #[i',i',i',i',i',i',i',i',i',i',i',i',i',i',i',i',i',i',i',i',i',i',i',i',i',i',i',i',i',i',i',o',i',i',i',o',o',o',o'] rfl rfl HT_ ?_
                          refine take_ (i := 31) (N := some 155) (v := ?_) (a' := ?_) (on_ 35 4) rfl rfl (take_ofW HT_.out HW_.out (by kernel_rfl)) (fun _ _ _ h => h) (Or.inl ⟨by rfl, ?_⟩) hHeld ?_ ?_
                          rotate_left
                          ·rintro w' ⟨s0, s1, s2, s3, s4, s5, s6, s7, s8, s9, s10, s11, s12, s13, s14, s15, s16, s17, s18, s19, s20, s21, s22, s23, s24, s25, s26, s27, s28, s29, s30, s31, s32, s33, s34, s35, s36, s37, s38, s39, s40, s41, s42, s43, s44, s45⟩
                           go_simp
                           with_reducible rfl
                          rotate_left
                          ·simp only [Act.put, la_, lz_, ls_, i64_w, i32_w]
                           rfl
                          refine take_ (i := 35) (N := some 159) (v := ?_) (a' := ?_) (on_ 36 3) rfl rfl (take_ofW HT_.out HW_.out (by kernel_rfl)) (fun _ _ _ h => h) (Or.inl ⟨by rfl, ?_⟩) hHeld ?_ ?_
                          rotate_left
                          ·rintro w' ⟨s0, s1, s2, s3, s4, s5, s6, s7, s8, s9, s10, s11, s12, s13, s14, s15, s16, s17, s18, s19, s20, s21, s22, s23, s24, s25, s26, s27, s28, s29, s30, s31, s32, s33, s34, s35, s36, s37, s38, s39, s40, s41, s42, s43, s44, s45⟩
                           go_simp
                           with_reducible rfl
                          rotate_left
                          ·simp only [Act.put, la_, lz_, ls_, i64_w, i32_w]
                           rfl
                          refine pv_' 36 160 (on_ 37 2) rfl rfl HT_ ?_
                          refine pv_' 37 161 (on_ 38 1) rfl rfl HT_ ?_
                          refine pv_' 38 162 (on_ 39 0) rfl rfl HT_ ?_
                          refine done_ (done_of HT_.out (by kernel_rfl)) ?_
                          try go_wp2
                          go_meet
                          case rel => exact ⟨_, ((!(((rd_T37 t452 x15_5).f0) == ((rd_T37 t442 x15_5).f0)) || (!(((rd_T37 t452 x15_5).f1) == ((rd_T37 t442 x15_5).f1)) || ((!(((rd_T37 t452 x15_5).f2.f0) == ((rd_T37 t442 x15_5).f2.f0)) || (!(((rd_T37 t452 x15_5).f2.f1) == ((rd_T37 t442 x15_5).f2.f1)) || (!((((rd_T37 t452 x15_5).f2.f2).toList) == (((rd_T37 t442 x15_5).f2.f2).toList)) || (!((((rd_T37 t452 x15_5).f2.f3).toList) == (((rd_T37 t442 x15_5).f2.f3).toList)) || (!(((rd_T37 t452 x15_5).f2.f4) == ((rd_T37 t442 x15_5).f2.f4)) || (!(((rd_T37 t452 x15_5).f2.f5) == ((rd_T37 t442 x15_5).f2.f5)))))))))))), rs_, H', ⟨by have := HJ7.out; have := HJ18.out; have := HJ26.out; have := HJ34.out; have := HK5.out; first | exact Nat.le_refl _ | exact Nat.le_of_succ_le this | omega⟩, ⟨rr_ HO_8⟩, ⟨rr_ HO_10⟩, ⟨rr_ HO_13⟩, ⟨bk_ BK465⟩, ⟨hs_ HB GE465⟩⟩
                         ·rw [if_neg c66] at H
                          have c66b0 : decide (x15_5 < (t452.length : Int)) = false := decide_eq_false c66
                          clear c66
                          have H' := Aside0.mk H
                          clear H
                          try go_wp2
                          generalize hW_ : ((((((w49.setCell ⟨gb465, 0, none⟩ (.int .i64 t458)).setCell ⟨gb465, 1, none⟩ (.int .i64 t459)).setCell ⟨gb465, 2, none⟩ (.string t460)).setCell ⟨gb465, 3, none⟩ (.string t461)).setCell ⟨gb465, 4, none⟩ (.int .i64 t462)).setCell ⟨gb465, 5, none⟩ (.int .i64 t463)) = w71
                          replace HO_8 := ur_ (fun k_ => some k_ ≠ (v448 : Value).ownBlock ∧ some k_ ≠ (v454 : Value).ownBlock) HO_8 BK465 hW_
                          replace HO_10 := ur_ (fun k_ => some k_ ≠ (.slice (some ad456) t442.length co45 : Value).ownBlock ∧ some k_ ≠ (v454 : Value).ownBlock) HO_10 BK465 hW_
                          replace HO_13 := ur_ (fun k_ => some k_ ≠ (.slice (some ad456) t442.length co45 : Value).ownBlock ∧ some k_ ≠ (v448 : Value).ownBlock) HO_13 BK465 hW_
                          replace BK465 := up_ #[.int .i64 t458, .int .i64 t459, .string t460, .string t461, .int .i64 t462, .int .i64 t463] BK465 hW_
                          replace HB := us_ hW_ (hs_ HB GE465)
                          clear hW_
                          replace HO_8 := rd_ HO_8
                          replace HO_10 := rd_ HO_10
                          replace HO_13 := rd_ HO_13
                          replace BK465 := bd_ BK465
                          replace HB := hd_ HB
                          have p466 : 0 ≤ (x15_5 : Int) := of_decide_eq_true as_
                          have q466 : x15_5 < (t442.length : Int) := of_decide_eq_true as_
                          obtain ⟨ad466, e466, hx466_0, hx466_1, hx466_2, hx466_3, hx466_4, hx466_5, hx466_6, hx466_7⟩ := at_T37 (Kd.R_reads' HO_8.out).2.2 x15_5 p466 q466
                          obtain rfl : ad456 = ad466 := (by injection e466)
                          replace p466 := eq_true p466
                          replace q466 := eq_true q466
                          obtain ⟨Ao73, co73, eo73⟩ := Kd.R_slice HO_10.out
                          (first | subst eo73 | (injection eo73 with f1_ f2_ f3_; have f4_ := f1_.symm; have f5_ := f3_.symm; clear f1_ f2_ f3_; subst f4_; subst f5_))
                          have p467 : 0 ≤ (x15_5 : Int) := of_decide_eq_true as_
                          have q467 : x15_5 < (t446.length : Int) := of_decide_eq_true as_
                          obtain ⟨ad467, e467, hx467_0, hx467_1, hx467_2, hx467_3, hx467_4, hx467_5, hx467_6, hx467_7⟩ := at_T37 (Kd.R_reads' HO_10.out).2.2 x15_5 p467 q467
                          cases e467
                          replace p467 := eq_true p467
                          replace q467 := eq_true q467
                          have p468 : 0 ≤ (x15_5 : Int) := of_decide_eq_true as_
                          have q468 : x15_5 < (t442.length : Int) := of_decide_eq_true as_
                          obtain ⟨ad468, e468, hx468_0, hx468_1, hx468_2, hx468_3, hx468_4, hx468_5, hx468_6, hx468_7⟩ := at_T37 (Kd.R_reads' HO_8.out).2.2 x15_5 p468 q468
                          obtain rfl : ad456 = ad468 := (by injection e468)
                          replace p468 := eq_true p468
                          replace q468 := eq_true q468
                          obtain ⟨Ao74, co74, eo74⟩ := Kd.R_slice HO_13.out
                          (first | subst eo74 | (injection eo74 with f1_ f2_ f3_; have f4_ := f1_.symm; have f5_ := f3_.symm; clear f1_ f2_ f3_; subst f4_; subst f5_))
                          refine start_ (n := 39) (S := k6_ gb465 (.int .i64 t458) (.int .i64 t459) (.string t460) (.string t461) (.int .i64 t462) (.int .i64 t463) (e8_ (ad456.add ((x15_5).toNat * 8)) (.int .i64 ((rd_T37 t442 x15_5).f0)) (.int .i64 ((rd_T37 t442 x15_5).f1)) (.int .i64 ((rd_T37 t442 x15_5).f2.f0)) (.int .i64 ((rd_T37 t442 x15_5).f2.f1)) (.string ((rd_T37 t442 x15_5).f2.f2)) (.string ((rd_T37 t442 x15_5).f2.f3)) (.int .i64 ((rd_T37 t442 x15_5).f2.f4)) (.int .i64 ((rd_T37 t442 x15_5).f2.f5)) (e8_ (ad467.add ((x15_5).toNat * 8)) (.int .i64 ((rd_T37 t446 x15_5).f0)) (.int .i64 ((rd_T37 t446 x15_5).f1)) (.int .i64 ((rd_T37 t446 x15_5).f2.f0)) (.int .i64 ((rd_T37 t446 x15_5).f2.f1)) (.string ((rd_T37 t446 x15_5).f2.f2)) (.string ((rd_T37 t446 x15_5).f2.f3)) (.int .i64 ((rd_T37 t446 x15_5).f2.f4)) (.int .i64 ((rd_T37 t446 x15_5).f2.f5)) (e8e_ (ad456.add ((x15_5).toNat * 8)) (.int .i64 ((rd_T37 t442 x15_5).f0)) (.int .i64 ((rd_T37 t442 x15_5).f1)) (.int .i64 ((rd_T37 t442 x15_5).f2.f0)) (.int .i64 ((rd_T37 t442 x15_5).f2.f1)) (.string ((rd_T37 t442 x15_5).f2.f2)) (.string ((rd_T37 t442 x15_5).f2.f3)) (.int .i64 ((rd_T37 t442 x15_5).f2.f4)) (.int .i64 ((rd_T37 t442 x15_5).f2.f5)))))) (ds := []) (on_ 0 39) (by kernel_rfl) rfl rfl (p6_ BK465 (q8_ hx466_0 hx466_1 hx466_2 hx466_3 hx466_4 hx466_5 hx466_6 hx466_7 (q8_ hx467_0 hx467_1 hx467_2 hx467_3 hx467_4 hx467_5 hx467_6 hx467_7 (q8e_ hx468_0 hx468_1 hx468_2 hx468_3 hx468_4 hx468_5 hx468_6 hx468_7)))) (fun hHeld => ?_); refine with_tabW laws_FnFrames.tab23 laws_FnFrames.bits23 (fun HT_ HW_ => ?_)
                          generalize w71.drew = w72 at HO_8 HO_10 HO_13 BK465 HB hx466_0 hx466_1 hx466_2 hx466_3 hx466_4 hx466_5 hx466_6 hx466_7 hx467_0 hx467_1 hx467_2 hx467_3 hx467_4 hx467_5 hx467_6 hx467_7 hx468_0 hx468_1 hx468_2 hx468_3 hx468_4 hx468_5 hx468_6 hx468_7 hHeld ⊢
                          refine pv_' 0 124 (on_ 1 38) rfl rfl HT_ ?_
                          refine pv_' 1 125 (on_ 2 37) rfl rfl HT_ ?_
                          refine pv_' 2 126 (on_ 3 36) rfl rfl HT_ ?_
                          refine pv_' 4 128 #[i',i',i',o',i',o',o',o',o',o',o',o',o',o',o',o',o',o',o',o',o',o',o',o',o',o',o',o',o',o',o',o',o',o',o',o',o',o',o'] rfl rfl HT_ ?_
                          refine pv_' 5 129 #[i',i',i',o',i',i',o',o',o',o',o',o',o',o',o',o',o',o',o',o',o',o',o',o',o',o',o',o',o',o',o',o',o',o',o',o',o',o',o'] rfl rfl HT_ ?_
                          refine pv_' 6 130 #[i',i',i',o',i',i',i',o',o',o',o',o',o',o',o',o',o',o',o',o',o',o',o',o',o',o',o',o',o',o',o',o',o',o',o',o',o',o',o'] rfl rfl HT_ ?_
                          refine take_ (i := 3) (N := some 127) (v := ?_) (a' := ?_) (on_ 7 32) rfl rfl (take_ofW HT_.out HW_.out (by kernel_rfl)) (fun _ _ _ h => h) (Or.inl ⟨by rfl, ?_⟩) hHeld ?_ ?_
                          rotate_left
                          ·rintro w' ⟨s0, s1, s2, s3, s4, s5, s6, s7, s8, s9, s10, s11, s12, s13, s14, s15, s16, s17, s18, s19, s20, s21, s22, s23, s24, s25, s26, s27, s28, s29⟩
                           go_simp
                           with_reducible rfl
                          rotate_left
                          ·simp only [Act.put, la_, lz_, ls_, i64_w, i32_w]
                           rfl
                          refine take_ (i := 7) (N := some 131) (v := ?_) (a' := ?_) (on_ 8 31) rfl rfl (take_ofW HT_.out HW_.out (by kernel_rfl)) (fun _ _ _ h => h) (Or.inl ⟨by rfl, ?_⟩) hHeld ?_ ?_
                          rotate_left
                          ·rintro w' ⟨s0, s1, s2, s3, s4, s5, s6, s7, s8, s9, s10, s11, s12, s13, s14, s15, s16, s17, s18, s19, s20, s21, s22, s23, s24, s25, s26, s27, s28, s29⟩
                           go_simp
                           with_reducible rfl
                          rotate_left
                          ·simp only [Act.put, la_, lz_, ls_, i64_w, i32_w]
                           rfl
                          refine pv_' 8 132 (on_ 9 30) rfl rfl HT_ ?_
                          refine pv_' 9 133 (on_ 10 29) rfl rfl HT_ ?_
                          refine pv_' 10 134 (on_ 11 28) rfl rfl HT_ ?_
                          refine pv_' 11 135 (on_ 12 27) rfl rfl HT_ ?_
                          refine pv_' 12 136 (on_ 13 26) rfl rfl HT_ ?_
                          refine pv_' 13 137 (on_ 14 25) rfl rfl HT_ ?_
                          refine pv_' 15 139 #[i',i',i',i',i',i',i',i',i',i',i',i',i',i',o',i',o',o',o',o',o',o',o',o',o',o',o',o',o',o',o',o',o',o',o',o',o',o',o'] rfl rfl HT_ ?_
                          refine pv_' 16 140 #[i',i',i',i',i',i',i',i',i',i',i',i',i',i',o',i',i',o',o',o',o',o',o',o',o',o',o',o',o',o',o',o',o',o',o',o',o',o',o'] rfl rfl HT_ ?_
                          refine pv_' 17 141 #[i',i',i',i',i',i',i',i',i',i',i',i',i',i',o',i',i',i',o',o',o',o',o',o',o',o',o',o',o',o',o',o',o',o',o',o',o',o',o'] rfl rfl HT_ ?_
                          refine pv_' 18 142 #[i',i',i',i',i',i',i',i',i',i',i',i',i',i',o',i',i',i',i',o',o',o',o',o',o',o',o',o',o',o',o',o',o',o',o',o',o',o',o'] rfl rfl HT_ ?_
                          refine take_ (i := 14) (N := some 138) (v := ?_) (a' := ?_) (on_ 19 20) rfl rfl (take_ofW HT_.out HW_.out (by kernel_rfl)) (fun _ _ _ h => h) (Or.inl ⟨by rfl, ?_⟩) hHeld ?_ ?_
                          rotate_left
                          ·rintro w' ⟨s0, s1, s2, s3, s4, s5, s6, s7, s8, s9, s10, s11, s12, s13, s14, s15, s16, s17, s18, s19, s20, s21, s22, s23, s24, s25, s26, s27, s28, s29⟩
                           go_simp
                           with_reducible rfl
                          rotate_left
                          ·simp only [Act.put, la_, lz_, ls_, i64_w, i32_w]
                           rfl
                          refine take_ (i := 19) (N := some 143) (v := ?_) (a' := ?_) (on_ 20 19) rfl rfl (take_ofW HT_.out HW_.out (by kernel_rfl)) (fun _ _ _ h => h) (Or.inl ⟨by rfl, ?_⟩) hHeld ?_ ?_
                          rotate_left
                          ·rintro w' ⟨s0, s1, s2, s3, s4, s5, s6, s7, s8, s9, s10, s11, s12, s13, s14, s15, s16, s17, s18, s19, s20, s21, s22, s23, s24, s25, s26, s27, s28, s29⟩
                           go_simp
                           with_reducible rfl
                          rotate_left
                          ·simp only [Act.put, la_, lz_, ls_, i64_w, i32_w]
                           rfl
                          refine pv_' 20 144 (on_ 21 18) rfl rfl HT_ ?_
                          refine pv_' 21 145 (on_ 22 17) rfl rfl HT_ ?_
                          refine pv_' 22 146 (on_ 23 16) rfl rfl HT_ ?_
                          refine pv_' 23 147 (on_ 24 15) rfl rfl HT_ ?_
                          refine pv_' 24 148 (on_ 25 14) rfl rfl HT_ ?_
                          refine pv_' 25 149 (on_ 26 13) rfl rfl HT_ ?_
                          refine pv_' 26 150 (on_ 27 12) rfl rfl HT_ ?_
                          refine pv_' 27 151 (on_ 28 11) rfl rfl HT_ ?_
                          refine pun_' 28 152 (on_ 29 10) rfl rfl HT_ ?_
                          refine pun_' 29 153 (on_ 30 9) rfl rfl HT_ ?_
                          refine pun_' 30 154 (on_ 31 8) rfl rfl HT_ ?_
                          refine pun_' 31 155 (on_ 32 7) rfl rfl HT_ ?_
                          refine pun_' 32 156 (on_ 33 6) rfl rfl HT_ ?_
                          refine pun_' 33 157 (on_ 34 5) rfl rfl HT_ ?_
                          refine pun_' 34 158 (on_ 35 4) rfl rfl HT_ ?_
                          refine pun_' 35 159 (on_ 36 3) rfl rfl HT_ ?_
                          refine pun_' 36 160 (on_ 37 2) rfl rfl HT_ ?_
                          refine pv_' 37 161 (on_ 38 1) rfl rfl HT_ ?_
                          refine pv_' 38 162 (on_ 39 0) rfl rfl HT_ ?_
                          refine done_ (done_of HT_.out (by kernel_rfl)) ?_
                          try go_wp2
                          go_meet
                          case rel => exact ⟨_, (false), rs_, H', ⟨by have := HJ7.out; have := HJ18.out; have := HJ26.out; have := HJ34.out; have := HK5.out; first | exact Nat.le_refl _ | exact Nat.le_of_succ_le this | omega⟩, ⟨rr_ HO_8⟩, ⟨rr_ HO_10⟩, ⟨rr_ HO_13⟩, ⟨bk_ BK465⟩, ⟨hs_ HB GE465⟩⟩
                       ·replace c61 := Bool.eq_false_iff.mpr c61
                        subst c61
                        have H1 : (laws_FnFrames.j5 k5 t441 t442 t446 t452 x15_5 true) = some r := by rw [if_neg (show ¬ (false = true) by decide)] at H; exact H
                        clear H
                        have H := H1
                        clear H1
                        have H' := Aside0.mk H
                        clear H
                        try go_wp2
                        generalize hW_ : ((((((w49.setCell ⟨gb465, 0, none⟩ (.int .i64 t458)).setCell ⟨gb465, 1, none⟩ (.int .i64 t459)).setCell ⟨gb465, 2, none⟩ (.string t460)).setCell ⟨gb465, 3, none⟩ (.string t461)).setCell ⟨gb465, 4, none⟩ (.int .i64 t462)).setCell ⟨gb465, 5, none⟩ (.int .i64 t463)) = w75
                        replace HO_8 := ur_ (fun k_ => some k_ ≠ (v448 : Value).ownBlock ∧ some k_ ≠ (v454 : Value).ownBlock) HO_8 BK465 hW_
                        replace HO_10 := ur_ (fun k_ => some k_ ≠ (.slice (some ad456) t442.length co45 : Value).ownBlock ∧ some k_ ≠ (v454 : Value).ownBlock) HO_10 BK465 hW_
                        replace HO_13 := ur_ (fun k_ => some k_ ≠ (.slice (some ad456) t442.length co45 : Value).ownBlock ∧ some k_ ≠ (v448 : Value).ownBlock) HO_13 BK465 hW_
                        replace BK465 := up_ #[.int .i64 t458, .int .i64 t459, .string t460, .string t461, .int .i64 t462, .int .i64 t463] BK465 hW_
                        replace HB := us_ hW_ (hs_ HB GE465)
                        clear hW_
                        replace HO_8 := rd_ HO_8
                        replace HO_10 := rd_ HO_10
                        replace HO_13 := rd_ HO_13
                        replace BK465 := bd_ BK465
                        replace HB := hd_ HB
                        have p466 : 0 ≤ (x15_5 : Int) := of_decide_eq_true as_
                        have q466 : x15_5 < (t442.length : Int) := of_decide_eq_true as_
                        obtain ⟨ad466, e466, hx466_0, hx466_1, hx466_2, hx466_3, hx466_4, hx466_5, hx466_6, hx466_7⟩ := at_T37 (Kd.R_reads' HO_8.out).2.2 x15_5 p466 q466
                        obtain rfl : ad456 = ad466 := (by injection e466)
                        replace p466 := eq_true p466
                        replace q466 := eq_true q466
                        obtain ⟨Ao77, co77, eo77⟩ := Kd.R_slice HO_10.out
                        (first | subst eo77 | (injection eo77 with f1_ f2_ f3_; have f4_ := f1_.symm; have f5_ := f3_.symm; clear f1_ f2_ f3_; subst f4_; subst f5_))
                        have p467 : 0 ≤ (x15_5 : Int) := of_decide_eq_true as_
                        have q467 : x15_5 < (t446.length : Int) := of_decide_eq_true as_
                        obtain ⟨ad467, e467, hx467_0, hx467_1, hx467_2, hx467_3, hx467_4, hx467_5, hx467_6, hx467_7⟩ := at_T37 (Kd.R_reads' HO_10.out).2.2 x15_5 p467 q467
                        cases e467
                        replace p467 := eq_true p467
                        replace q467 := eq_true q467
                        refine start_ (n := 39) (S := e8_ (ad456.add ((x15_5).toNat * 8)) (.int .i64 ((rd_T37 t442 x15_5).f0)) (.int .i64 ((rd_T37 t442 x15_5).f1)) (.int .i64 ((rd_T37 t442 x15_5).f2.f0)) (.int .i64 ((rd_T37 t442 x15_5).f2.f1)) (.string ((rd_T37 t442 x15_5).f2.f2)) (.string ((rd_T37 t442 x15_5).f2.f3)) (.int .i64 ((rd_T37 t442 x15_5).f2.f4)) (.int .i64 ((rd_T37 t442 x15_5).f2.f5)) (e8e_ (ad467.add ((x15_5).toNat * 8)) (.int .i64 ((rd_T37 t446 x15_5).f0)) (.int .i64 ((rd_T37 t446 x15_5).f1)) (.int .i64 ((rd_T37 t446 x15_5).f2.f0)) (.int .i64 ((rd_T37 t446 x15_5).f2.f1)) (.string ((rd_T37 t446 x15_5).f2.f2)) (.string ((rd_T37 t446 x15_5).f2.f3)) (.int .i64 ((rd_T37 t446 x15_5).f2.f4)) (.int .i64 ((rd_T37 t446 x15_5).f2.f5)))) (ds := []) (on_ 0 39) (by kernel_rfl) rfl rfl (q8_ hx466_0 hx466_1 hx466_2 hx466_3 hx466_4 hx466_5 hx466_6 hx466_7 (q8e_ hx467_0 hx467_1 hx467_2 hx467_3 hx467_4 hx467_5 hx467_6 hx467_7)) (fun hHeld => ?_); refine with_tabW laws_FnFrames.tab23 laws_FnFrames.bits23 (fun HT_ HW_ => ?_)
                        generalize w75.drew = w76 at HO_8 HO_10 HO_13 BK465 HB hx466_0 hx466_1 hx466_2 hx466_3 hx466_4 hx466_5 hx466_6 hx466_7 hx467_0 hx467_1 hx467_2 hx467_3 hx467_4 hx467_5 hx467_6 hx467_7 hHeld ⊢
                        refine pv_' 0 124 (on_ 1 38) rfl rfl HT_ ?_
                        refine pv_' 1 125 (on_ 2 37) rfl rfl HT_ ?_
                        refine pv_' 2 126 (on_ 3 36) rfl rfl HT_ ?_
                        refine pv_' 4 128 #[i',i',i',o',i',o',o',o',o',o',o',o',o',o',o',o',o',o',o',o',o',o',o',o',o',o',o',o',o',o',o',o',o',o',o',o',o',o',o'] rfl rfl HT_ ?_
                        refine pv_' 5 129 #[i',i',i',o',i',i',o',o',o',o',o',o',o',o',o',o',o',o',o',o',o',o',o',o',o',o',o',o',o',o',o',o',o',o',o',o',o',o',o'] rfl rfl HT_ ?_
                        refine pv_' 6 130 #[i',i',i',o',i',i',i',o',o',o',o',o',o',o',o',o',o',o',o',o',o',o',o',o',o',o',o',o',o',o',o',o',o',o',o',o',o',o',o'] rfl rfl HT_ ?_
                        refine take_ (i := 3) (N := some 127) (v := ?_) (a' := ?_) (on_ 7 32) rfl rfl (take_ofW HT_.out HW_.out (by kernel_rfl)) (fun _ _ _ h => h) (Or.inl ⟨by rfl, ?_⟩) hHeld ?_ ?_
                        rotate_left
                        ·rintro w' ⟨s0, s1, s2, s3, s4, s5, s6, s7, s8, s9, s10, s11, s12, s13, s14, s15⟩
                         go_simp
                         with_reducible rfl
                        rotate_left
                        ·simp only [Act.put, la_, lz_, ls_, i64_w, i32_w]
                         rfl
                        refine take_ (i := 7) (N := some 131) (v := ?_) (a' := ?_) (on_ 8 31) rfl rfl (take_ofW HT_.out HW_.out (by kernel_rfl)) (fun _ _ _ h => h) (Or.inl ⟨by rfl, ?_⟩) hHeld ?_ ?_
                        rotate_left
                        ·rintro w' ⟨s0, s1, s2, s3, s4, s5, s6, s7, s8, s9, s10, s11, s12, s13, s14, s15⟩
                         go_simp
                         with_reducible rfl
                        rotate_left
                        ·simp only [Act.put, la_, lz_, ls_, i64_w, i32_w]
                         rfl
                        refine pv_' 8 132 (on_ 9 30) rfl rfl HT_ ?_
                        refine pv_' 9 133 (on_ 10 29) rfl rfl HT_ ?_
                        refine pv_' 10 134 (on_ 11 28) rfl rfl HT_ ?_
                        refine pv_' 11 135 (on_ 12 27) rfl rfl HT_ ?_
                        refine pv_' 12 136 (on_ 13 26) rfl rfl HT_ ?_
                        refine pv_' 13 137 (on_ 14 25) rfl rfl HT_ ?_
                        refine pun_' 14 138 (on_ 15 24) rfl rfl HT_ ?_
                        refine pun_' 15 139 (on_ 16 23) rfl rfl HT_ ?_
                        refine pun_' 16 140 (on_ 17 22) rfl rfl HT_ ?_
                        refine pun_' 17 141 (on_ 18 21) rfl rfl HT_ ?_
                        refine pun_' 18 142 (on_ 19 20) rfl rfl HT_ ?_
                        refine pun_' 19 143 (on_ 20 19) rfl rfl HT_ ?_
                        refine pun_' 20 144 (on_ 21 18) rfl rfl HT_ ?_
                        refine pv_' 21 145 (on_ 22 17) rfl rfl HT_ ?_
                        refine pv_' 22 146 (on_ 23 16) rfl rfl HT_ ?_
                        refine pun_' 23 147 (on_ 24 15) rfl rfl HT_ ?_
                        refine pun_' 24 148 (on_ 25 14) rfl rfl HT_ ?_
                        refine pun_' 25 149 (on_ 26 13) rfl rfl HT_ ?_
                        refine pun_' 26 150 (on_ 27 12) rfl rfl HT_ ?_
                        refine pun_' 27 151 (on_ 28 11) rfl rfl HT_ ?_
                        refine pun_' 28 152 (on_ 29 10) rfl rfl HT_ ?_
                        refine pun_' 29 153 (on_ 30 9) rfl rfl HT_ ?_
                        refine pun_' 30 154 (on_ 31 8) rfl rfl HT_ ?_
                        refine pun_' 31 155 (on_ 32 7) rfl rfl HT_ ?_
                        refine pun_' 32 156 (on_ 33 6) rfl rfl HT_ ?_
                        refine pun_' 33 157 (on_ 34 5) rfl rfl HT_ ?_
                        refine pun_' 34 158 (on_ 35 4) rfl rfl HT_ ?_
                        refine pun_' 35 159 (on_ 36 3) rfl rfl HT_ ?_
                        refine pun_' 36 160 (on_ 37 2) rfl rfl HT_ ?_
                        refine pun_' 37 161 (on_ 38 1) rfl rfl HT_ ?_
                        refine pv_' 38 162 (on_ 39 0) rfl rfl HT_ ?_
                        refine done_ (done_of HT_.out (by kernel_rfl)) ?_
                        try go_wp2
                        go_meet
                        case rel => exact ⟨_, (true), rs_, H', ⟨by have := HJ7.out; have := HJ18.out; have := HJ26.out; have := HJ34.out; have := HK5.out; first | exact Nat.le_refl _ | exact Nat.le_of_succ_le this | omega⟩, ⟨rr_ HO_8⟩, ⟨rr_ HO_10⟩, ⟨rr_ HO_13⟩, ⟨bk_ BK465⟩, ⟨hs_ HB GE465⟩⟩
                     ·rw [if_neg c56] at H
                      exact absurd H (by simp)
                    case rest =>
                     clear HC44
                     try clear p2
                     try clear p4
                     try clear q4
                     try clear hx4
                     try clear c5
                     try clear c6
                     try clear p46
                     try clear q46
                     try clear hx46
                     try clear c56
                     try clear c61
                     try clear hx466_0
                     try clear hx466_1
                     try clear hx466_2
                     try clear hx466_3
                     try clear hx466_4
                     try clear hx466_5
                     try clear hx466_6
                     try clear hx466_7
                     try clear hx467_0
                     try clear hx467_1
                     try clear hx467_2
                     try clear hx467_3
                     try clear hx467_4
                     try clear hx467_5
                     try clear hx467_6
                     try clear hx467_7
                     try clear hx468_0
                     try clear hx468_1
                     try clear hx468_2
                     try clear hx468_3
                     try clear hx468_4
                     try clear hx468_5
                     try clear hx468_6
                     try clear hx468_7
                     try clear p466
                     try clear p467
                     try clear p468
                     try clear q466
                     try clear q467
                     try clear q468
                     obtain ⟨kq, x162_43, rfl, HA, HJ43, HO_8, HO_10, HO_13, BK465, HB⟩ := hcut
                     cases kq with
                     | zero => exact absurd HA.out (by simp [laws_FnFrames.j5])
                     | succ kj43 =>
                      have H := HA.out
                      clear HA
                      simp only [laws_FnFrames.j5] at H
                      by_cases c78 : x162_43 = true
                      ·subst c78
                       have H1 : (some false) = some r := by rw [if_pos rfl] at H; exact H
                       clear H
                       have H := H1
                       clear H1
                       exact absurd ((Option.some.inj H).trans HRT.out) (by decide)
                      ·replace c78 := Bool.eq_false_iff.mpr c78
                       subst c78
                       have H1 : (laws_FnFrames.l0 kj43 t441 t442 t446 t452 (wrap64 (x15_5 + 1))) = some r := by rw [if_neg (show ¬ (false = true) by decide)] at H; exact H
                       clear H
                       have H := H1
                       clear H1
                       have H' := Aside0.mk H
                       clear H
                       go_wp2
                       go_roundg kj43
                       case measure => have := HJ7.out; have := HJ18.out; have := HJ26.out; have := HJ34.out; have := HK5.out; have := HJ43.out; omega
                       case rel => exact ⟨(wrap64 (x15_5 + 1)), rs_, H', ⟨by have := HJ7.out; have := HJ18.out; have := HJ26.out; have := HJ34.out; have := HK5.out; have := HJ43.out; omega⟩, ⟨rr_ HO_8⟩, ⟨rr_ HO_10⟩, ⟨rr_ HO_13⟩, ⟨hs_ HB GE465⟩⟩
                   ·rw [if_neg c42] at H
                    exact absurd H (by simp)
                  ·rw [if_neg c41] at H
                   have c41b0 : decide (x15_5 < (t442.length : Int)) = false := decide_eq_false c41
                   clear c41
                   obtain rfl := Option.some.inj H
                   obtain ⟨Ao79, co79, eo79⟩ := Kd.R_slice HO_8.out
                   subst eo79
                   go_wp2
                   go_ret
                   exact ⟨re_, hb_ HB⟩
            ·rw [if_neg c33] at H
             exact absurd H (by simp)
           ·rw [if_neg c32] at H
            exact absurd H (by simp)
  ·rw [if_neg c6] at H
   exact absurd H (by simp)

/-- THE ONE PURE STATEMENT of laws_FnFrames: yours. -/
def laws_FnFrames.Pure : Prop := ∀ (l0 : List Int), l0.length ≤ maxLen → l0.length * 1 ≤ 140737488351232 → (∀ x ∈ l0, (Lit.int .u8 x).wf = true) → ∃ k, laws_FnFrames.f k l0 = some true
theorem laws_FnFrames.walk (P : laws_FnFrames.Pure) (a0 : Option Addr) (len0 cap0 : Nat) (z0 : List Int) (w : World) (w0 : (a0 = none ∧ len0 = 0 ∧ cap0 = 0 ∧ z0 = []) ∨ ∃ x, a0 = some x ∧ len0 ≤ cap0 ∧ cap0 ≤ maxLen ∧ z0.length = cap0 ∧ (∀ i, i < z0.length → w.cell? (x.add i) = some (.int .u8 (z0.getD i 0))) ∧ ∀ n ∈ z0, (Lit.int .u8 n).wf = true) (y0 : len0 * 1 ≤ 140737488351232) :
  Calls Try.prog 3 #[.slice a0 len0 cap0] w fun e w' => e = .returned (.bool true) ∧ Below w.heap.size w w' := by
 obtain ⟨l0, rfl, hr0, hm0, hw0, hc0⟩ := ReadsInt.ofRowC w0
 obtain ⟨k, h⟩ := P l0 hm0 y0 hw0
 refine (laws_FnFrames.calls k _ _ l0 true w (Kd.C_of_reads (d := (0 : Int)) (h1 := fun _ => rfl) hr0) hc0 rfl h).mono ?_
 rintro e w' ⟨rfl, hd⟩
 exact ⟨rfl, hd⟩

end Go.Proofs.Ytnjmehiploelnaa.PFnFrames
