-- Laid by a program of this session, a copy of the kit's printer with additions (wip/patch_print.py): myhead. Lean checks it.
import Derived.Test.YtnmileaeadhiaaaDoorPFnNumbersx0
import Derived.Test.YtnmileaeadhiaaaDoorPFnNumbersx1
import Derived.Test.YtnmileaeadhiaaaDoorPFnNumbersx2
import Derived.Test.YtnmileaeadhiaaaDoorPFnNumbersx3
import Derived.Test.YtnmileaeadhiaaaDoorPFnNumbersx4
import Derived.Test.YtnmileaeadhiaaaDoorPFnNumbersx5
namespace Go.Proofs.YtnmileaeadhiaaaDoor.PFnNumbers
open Go.RowKit Go.Proofs.YtnmileaeadhiaaaDoorW.PrintWords Go.Proofs.YtnmileaeadhiaaaDoorW.PrintLast Go.Proofs.YtnmileaeadhiaaaDoorW.PrintMore
attribute [local go_sem] max2_int min2_int max_two min_two max_three min_three max_four min_four   -- for this text's walks alone
set_option linter.unusedVariables false
set_option linter.unusedSimpArgs false

/-! ### laws_FnNumbers: function 3 -/
mutual
def laws_FnNumbers.j0 : Nat → List Int → Int → ByteArray → Bool → Option (Bool)
 | 0, _, _, _, _ => none
 | k + 1, x0, x3, x4, x55 => if x55 = true then (some false) else ((impl_Fixed.f k x3 7).bind fun t258 => (if t258.size + x4.size ≤ 9223372036854775807 then ((impl_ReadFixed.f k (t258 ++ x4) 7).bind fun bt259 => (if t258.toList = ([] : List UInt8) then (if x3 < 0 then (laws_FnNumbers.j1 k x0 x3 x4 ((t258.toList == ([] : List UInt8)) != true)) else (laws_FnNumbers.j1 k x0 x3 x4 ((t258.toList == ([] : List UInt8)) != (decide (x3 ≥ 72057594037927936))))) else (if bt259.2 = true then (if bt259.1 = x3 then (if (t258.size : Int) = 7 then (if x3 < 0 then (laws_FnNumbers.j1 k x0 x3 x4 ((t258.toList == ([] : List UInt8)) != true)) else (laws_FnNumbers.j1 k x0 x3 x4 ((t258.toList == ([] : List UInt8)) != (decide (x3 ≥ 72057594037927936))))) else (laws_FnNumbers.j1 k x0 x3 x4 true)) else (laws_FnNumbers.j1 k x0 x3 x4 true)) else (laws_FnNumbers.j1 k x0 x3 x4 true)))) else (none)))
def laws_FnNumbers.j1 : Nat → List Int → Int → ByteArray → Bool → Option (Bool)
 | 0, _, _, _, _ => none
 | k + 1, x0, x3, x4, x91 => if x91 = true then (some false) else ((impl_Dec.f x3).bind fun t261 => ((impl_ReadDec.f t261).bind fun bt262 => (if x3 > (-1000000000) then (if (bt262.2 != (decide (x3 < 1000000000))) = true then (laws_FnNumbers.j2 k x0 x4 true) else (if bt262.2 = true then (laws_FnNumbers.j2 k x0 x4 (bt262.1 != x3)) else (laws_FnNumbers.j2 k x0 x4 false))) else (if (bt262.2 != false) = true then (laws_FnNumbers.j2 k x0 x4 true) else (if bt262.2 = true then (laws_FnNumbers.j2 k x0 x4 (bt262.1 != x3)) else (laws_FnNumbers.j2 k x0 x4 false))))))
def laws_FnNumbers.j2 : Nat → List Int → ByteArray → Bool → Option (Bool)
 | 0, _, _, _ => none
 | k + 1, x0, x4, x113 => if x113 = true then (some false) else ((impl_Hex.f k x4).bind fun t264 => ((impl_Unhex.f k t264).bind fun bt265 => ((spec_DrawReadVar.f k x0).bind fun t267 => ((impl_ReadVar.f k t267).bind fun bt268 => (if bt265.2 = true then (if bt265.1.toList = x4.toList then (if bt268.2 = 0 then (some true) else (if bt268.2 > 0 then ((spec_DrawReadVar.f k x0).bind fun t270 => (if bt268.2 ≤ (t270.size : Int) then ((impl_Var.f k bt268.1).bind fun t271 => ((spec_DrawReadVar.f k x0).bind fun t272 => (if 0 ≤ bt268.2 then (if bt268.2 ≤ (t272.size : Int) then (some (t271.toList == (t272.extract 0 (bt268.2 : Int).toNat).toList)) else (none)) else (none)))) else (some false))) else (some false))) else (some false)) else (some false))))))
end
def laws_FnNumbers.f (k : Nat) (l0 : List Int) : Option (Bool) := (laws_big.f l0).bind fun t252 => (if t252 = true then (some true) else ((spec_DrawVar.f k l0).bind fun t253 => ((spec_DrawHex.f k l0).bind fun t254 => ((impl_Var.f k t253).bind fun t255 => (if t255.size + t254.size ≤ 9223372036854775807 then ((impl_ReadVar.f k (t255 ++ t254)).bind fun bt256 => (if t253 ≥ 0 then (if ((t255.toList != ([] : List UInt8)) != (decide (t253 ≤ 562949953421311))) = true then (laws_FnNumbers.j0 k l0 t253 t254 true) else (if t255.toList = ([] : List UInt8) then (laws_FnNumbers.j0 k l0 t253 t254 false) else (if bt256.1 = t253 then (laws_FnNumbers.j0 k l0 t253 t254 (bt256.2 != (t255.size : Int))) else (laws_FnNumbers.j0 k l0 t253 t254 true)))) else (if ((t255.toList != ([] : List UInt8)) != false) = true then (laws_FnNumbers.j0 k l0 t253 t254 true) else (if t255.toList = ([] : List UInt8) then (laws_FnNumbers.j0 k l0 t253 t254 false) else (if bt256.1 = t253 then (laws_FnNumbers.j0 k l0 t253 t254 (bt256.2 != (t255.size : Int))) else (laws_FnNumbers.j0 k l0 t253 t254 true)))))) else (none))))))
theorem laws_FnNumbers.mono_l : ∀ k, (∀ y0 y1 y2 y3, LeO (laws_FnNumbers.j0 k y0 y1 y2 y3) (laws_FnNumbers.j0 (k + 1) y0 y1 y2 y3)) ∧ (∀ y0 y1 y2 y3, LeO (laws_FnNumbers.j1 k y0 y1 y2 y3) (laws_FnNumbers.j1 (k + 1) y0 y1 y2 y3)) ∧ (∀ y0 y1 y2, LeO (laws_FnNumbers.j2 k y0 y1 y2) (laws_FnNumbers.j2 (k + 1) y0 y1 y2))
 | 0 => ⟨fun _ _ _ _ r h => by simp [laws_FnNumbers.j0] at h, fun _ _ _ _ r h => by simp [laws_FnNumbers.j1] at h, fun _ _ _ r h => by simp [laws_FnNumbers.j2] at h⟩
 | k + 1 => by
  obtain ⟨ih0, ih1, ih2⟩ := laws_FnNumbers.mono_l k
  refine ⟨?_, ?_, ?_⟩
  ·intro y0 y1 y2 y3
   unfold laws_FnNumbers.j0
   repeat' first | (with_reducible first | exact ih0 .. | exact ih1 .. | exact ih2 .. | exact impl_Fixed.mono .. | exact impl_Hex.mono .. | exact impl_ReadFixed.mono .. | exact impl_ReadVar.mono .. | exact impl_Unhex.mono .. | exact impl_Var.mono .. | exact spec_DrawHex.mono .. | exact spec_DrawReadVar.mono .. | exact spec_DrawVar.mono .. | exact LeO.refl .. | exact LeO.none .. | refine LeO.ite ?_ ?_ | refine LeO.bind ?_ (fun _ => ?_)) | exact ih0 .. | exact ih1 .. | exact ih2 .. | exact impl_Fixed.mono .. | exact impl_Hex.mono .. | exact impl_ReadFixed.mono .. | exact impl_ReadVar.mono .. | exact impl_Unhex.mono .. | exact impl_Var.mono .. | exact spec_DrawHex.mono .. | exact spec_DrawReadVar.mono .. | exact spec_DrawVar.mono .. | exact LeO.none .. | refine LeO.ite ?_ ?_ | refine LeO.bind ?_ (fun _ => ?_)
  ·intro y0 y1 y2 y3
   unfold laws_FnNumbers.j1
   repeat' first | (with_reducible first | exact ih0 .. | exact ih1 .. | exact ih2 .. | exact impl_Fixed.mono .. | exact impl_Hex.mono .. | exact impl_ReadFixed.mono .. | exact impl_ReadVar.mono .. | exact impl_Unhex.mono .. | exact impl_Var.mono .. | exact spec_DrawHex.mono .. | exact spec_DrawReadVar.mono .. | exact spec_DrawVar.mono .. | exact LeO.refl .. | exact LeO.none .. | refine LeO.ite ?_ ?_ | refine LeO.bind ?_ (fun _ => ?_)) | exact ih0 .. | exact ih1 .. | exact ih2 .. | exact impl_Fixed.mono .. | exact impl_Hex.mono .. | exact impl_ReadFixed.mono .. | exact impl_ReadVar.mono .. | exact impl_Unhex.mono .. | exact impl_Var.mono .. | exact spec_DrawHex.mono .. | exact spec_DrawReadVar.mono .. | exact spec_DrawVar.mono .. | exact LeO.none .. | refine LeO.ite ?_ ?_ | refine LeO.bind ?_ (fun _ => ?_)
  ·intro y0 y1 y2
   unfold laws_FnNumbers.j2
   repeat' first | (with_reducible first | exact ih0 .. | exact ih1 .. | exact ih2 .. | exact impl_Fixed.mono .. | exact impl_Hex.mono .. | exact impl_ReadFixed.mono .. | exact impl_ReadVar.mono .. | exact impl_Unhex.mono .. | exact impl_Var.mono .. | exact spec_DrawHex.mono .. | exact spec_DrawReadVar.mono .. | exact spec_DrawVar.mono .. | exact LeO.refl .. | exact LeO.none .. | refine LeO.ite ?_ ?_ | refine LeO.bind ?_ (fun _ => ?_)) | exact ih0 .. | exact ih1 .. | exact ih2 .. | exact impl_Fixed.mono .. | exact impl_Hex.mono .. | exact impl_ReadFixed.mono .. | exact impl_ReadVar.mono .. | exact impl_Unhex.mono .. | exact impl_Var.mono .. | exact spec_DrawHex.mono .. | exact spec_DrawReadVar.mono .. | exact spec_DrawVar.mono .. | exact LeO.none .. | refine LeO.ite ?_ ?_ | refine LeO.bind ?_ (fun _ => ?_)
theorem laws_FnNumbers.mono : ∀ a0 k, LeO (laws_FnNumbers.f k a0) (laws_FnNumbers.f (k + 1) a0) := by
 intro a0 k
 obtain ⟨ih0, ih1, ih2⟩ := laws_FnNumbers.mono_l k
 unfold laws_FnNumbers.f
 repeat' first | (with_reducible first | exact ih0 .. | exact ih1 .. | exact ih2 .. | exact impl_Fixed.mono .. | exact impl_Hex.mono .. | exact impl_ReadFixed.mono .. | exact impl_ReadVar.mono .. | exact impl_Unhex.mono .. | exact impl_Var.mono .. | exact spec_DrawHex.mono .. | exact spec_DrawReadVar.mono .. | exact spec_DrawVar.mono .. | exact LeO.refl .. | exact LeO.none .. | refine LeO.ite ?_ ?_ | refine LeO.bind ?_ (fun _ => ?_)) | exact ih0 .. | exact ih1 .. | exact ih2 .. | exact impl_Fixed.mono .. | exact impl_Hex.mono .. | exact impl_ReadFixed.mono .. | exact impl_ReadVar.mono .. | exact impl_Unhex.mono .. | exact impl_Var.mono .. | exact spec_DrawHex.mono .. | exact spec_DrawReadVar.mono .. | exact spec_DrawVar.mono .. | exact LeO.none .. | refine LeO.ite ?_ ?_ | refine LeO.bind ?_ (fun _ => ?_)
set_option maxHeartbeats 80000000 in
set_option maxRecDepth 100000 in
theorem laws_FnNumbers.calls (k : Nat) (A0 : Option Addr) (c0 : Nat) (l0 : List Int) (r : Bool) (w : World) (HTab : Tabs w) (hr0 : Kd.C (Kd.int .u8) w A0 l0.length l0) (hc0 : l0.length ≤ c0) (hrt : r = true) (h : laws_FnNumbers.f k l0 = some r) :
  Calls Tryd.prog 3 #[.slice A0 l0.length c0] w fun e w' => e = .returned (.bool r) ∧ Below w.heap.size w w' := by
 have HRT := Aside0.mk hrt
 clear hrt
 have HR0 := Aside0.mk hr0
 have HC0 := Aside0.mk hc0
 clear hr0 hc0
 have HB := Aside0.mk (Below.refl w.heap.size w)
 have H : ((laws_big.f l0).bind fun t252 => (if t252 = true then (some true) else ((spec_DrawVar.f k l0).bind fun t253 => ((spec_DrawHex.f k l0).bind fun t254 => ((impl_Var.f k t253).bind fun t255 => (if t255.size + t254.size ≤ 9223372036854775807 then ((impl_ReadVar.f k (t255 ++ t254)).bind fun bt256 => (if t253 ≥ 0 then (if ((t255.toList != ([] : List UInt8)) != (decide (t253 ≤ 562949953421311))) = true then (laws_FnNumbers.j0 k l0 t253 t254 true) else (if t255.toList = ([] : List UInt8) then (laws_FnNumbers.j0 k l0 t253 t254 false) else (if bt256.1 = t253 then (laws_FnNumbers.j0 k l0 t253 t254 (bt256.2 != (t255.size : Int))) else (laws_FnNumbers.j0 k l0 t253 t254 true)))) else (if ((t255.toList != ([] : List UInt8)) != false) = true then (laws_FnNumbers.j0 k l0 t253 t254 true) else (if t255.toList = ([] : List UInt8) then (laws_FnNumbers.j0 k l0 t253 t254 false) else (if bt256.1 = t253 then (laws_FnNumbers.j0 k l0 t253 t254 (bt256.2 != (t255.size : Int))) else (laws_FnNumbers.j0 k l0 t253 t254 true)))))) else (none))))))) = some r := h
 clear h
 replace H := Option.bind_eq_some_iff.mp H
 obtain ⟨t252, A20, H⟩ := H
 replace H : (if t252 = true then (some true) else ((spec_DrawVar.f k l0).bind fun t253 => ((spec_DrawHex.f k l0).bind fun t254 => ((impl_Var.f k t253).bind fun t255 => (if t255.size + t254.size ≤ 9223372036854775807 then ((impl_ReadVar.f k (t255 ++ t254)).bind fun bt256 => (if t253 ≥ 0 then (if ((t255.toList != ([] : List UInt8)) != (decide (t253 ≤ 562949953421311))) = true then (laws_FnNumbers.j0 k l0 t253 t254 true) else (if t255.toList = ([] : List UInt8) then (laws_FnNumbers.j0 k l0 t253 t254 false) else (if bt256.1 = t253 then (laws_FnNumbers.j0 k l0 t253 t254 (bt256.2 != (t255.size : Int))) else (laws_FnNumbers.j0 k l0 t253 t254 true)))) else (if ((t255.toList != ([] : List UInt8)) != false) = true then (laws_FnNumbers.j0 k l0 t253 t254 true) else (if t255.toList = ([] : List UInt8) then (laws_FnNumbers.j0 k l0 t253 t254 false) else (if bt256.1 = t253 then (laws_FnNumbers.j0 k l0 t253 t254 (bt256.2 != (t255.size : Int))) else (laws_FnNumbers.j0 k l0 t253 t254 true)))))) else (none)))))) = some r := H
 have A2 := Aside0.mk A20
 clear A20
 by_cases c3 : t252 = true
 ·subst c3
  have H1 : (some true) = some r := by rw [if_pos rfl] at H; exact H
  clear H
  have H := H1
  clear H1
  obtain rfl := Option.some.inj H
  go_enter Tryd.func3, Tryd.ntmps3
  go_wp2_with (first | ((with_reducible refine gate_callee (f := 4) rfl ?_); refine goesL_ (some 18) rfl rfl Tryd.func4 (by kernel_rfl) rfl #[.slice A0 l0.length c0] rfl ar_ ?_; (with_reducible refine (laws_big.calls _ _ l0 true _ ?side1 ?side2 A2.out).mono ?_); (case side1 => repeat (first | exact HR0.out | (with_reducible refine Kd.C_alloc ?_ _) | (with_reducible refine Kd.C_drewN ?_ _) | (with_reducible refine Kd.C_drew ?_))); (case side2 => exact HC0.out); rintro e w' ⟨rfl, ⟨nd, rfl⟩⟩; refine ⟨_, rfl, ?_⟩))
  go_ret
  exact ⟨re_, hb_ HB⟩
 ·replace c3 := Bool.eq_false_iff.mpr c3
  subst c3
  have H1 : ((spec_DrawVar.f k l0).bind fun t253 => ((spec_DrawHex.f k l0).bind fun t254 => ((impl_Var.f k t253).bind fun t255 => (if t255.size + t254.size ≤ 9223372036854775807 then ((impl_ReadVar.f k (t255 ++ t254)).bind fun bt256 => (if t253 ≥ 0 then (if ((t255.toList != ([] : List UInt8)) != (decide (t253 ≤ 562949953421311))) = true then (laws_FnNumbers.j0 k l0 t253 t254 true) else (if t255.toList = ([] : List UInt8) then (laws_FnNumbers.j0 k l0 t253 t254 false) else (if bt256.1 = t253 then (laws_FnNumbers.j0 k l0 t253 t254 (bt256.2 != (t255.size : Int))) else (laws_FnNumbers.j0 k l0 t253 t254 true)))) else (if ((t255.toList != ([] : List UInt8)) != false) = true then (laws_FnNumbers.j0 k l0 t253 t254 true) else (if t255.toList = ([] : List UInt8) then (laws_FnNumbers.j0 k l0 t253 t254 false) else (if bt256.1 = t253 then (laws_FnNumbers.j0 k l0 t253 t254 (bt256.2 != (t255.size : Int))) else (laws_FnNumbers.j0 k l0 t253 t254 true)))))) else (none))))) = some r := by rw [if_neg (show ¬ (false = true) by decide)] at H; exact H
  clear H
  have H := H1
  clear H1
  replace H := Option.bind_eq_some_iff.mp H
  obtain ⟨t253, A40, H⟩ := H
  replace H : ((spec_DrawHex.f k l0).bind fun t254 => ((impl_Var.f k t253).bind fun t255 => (if t255.size + t254.size ≤ 9223372036854775807 then ((impl_ReadVar.f k (t255 ++ t254)).bind fun bt256 => (if t253 ≥ 0 then (if ((t255.toList != ([] : List UInt8)) != (decide (t253 ≤ 562949953421311))) = true then (laws_FnNumbers.j0 k l0 t253 t254 true) else (if t255.toList = ([] : List UInt8) then (laws_FnNumbers.j0 k l0 t253 t254 false) else (if bt256.1 = t253 then (laws_FnNumbers.j0 k l0 t253 t254 (bt256.2 != (t255.size : Int))) else (laws_FnNumbers.j0 k l0 t253 t254 true)))) else (if ((t255.toList != ([] : List UInt8)) != false) = true then (laws_FnNumbers.j0 k l0 t253 t254 true) else (if t255.toList = ([] : List UInt8) then (laws_FnNumbers.j0 k l0 t253 t254 false) else (if bt256.1 = t253 then (laws_FnNumbers.j0 k l0 t253 t254 (bt256.2 != (t255.size : Int))) else (laws_FnNumbers.j0 k l0 t253 t254 true)))))) else (none)))) = some r := H
  have A4 := Aside0.mk A40
  clear A40
  replace H := Option.bind_eq_some_iff.mp H
  obtain ⟨t254, A50, H⟩ := H
  replace H : ((impl_Var.f k t253).bind fun t255 => (if t255.size + t254.size ≤ 9223372036854775807 then ((impl_ReadVar.f k (t255 ++ t254)).bind fun bt256 => (if t253 ≥ 0 then (if ((t255.toList != ([] : List UInt8)) != (decide (t253 ≤ 562949953421311))) = true then (laws_FnNumbers.j0 k l0 t253 t254 true) else (if t255.toList = ([] : List UInt8) then (laws_FnNumbers.j0 k l0 t253 t254 false) else (if bt256.1 = t253 then (laws_FnNumbers.j0 k l0 t253 t254 (bt256.2 != (t255.size : Int))) else (laws_FnNumbers.j0 k l0 t253 t254 true)))) else (if ((t255.toList != ([] : List UInt8)) != false) = true then (laws_FnNumbers.j0 k l0 t253 t254 true) else (if t255.toList = ([] : List UInt8) then (laws_FnNumbers.j0 k l0 t253 t254 false) else (if bt256.1 = t253 then (laws_FnNumbers.j0 k l0 t253 t254 (bt256.2 != (t255.size : Int))) else (laws_FnNumbers.j0 k l0 t253 t254 true)))))) else (none))) = some r := H
  have A5 := Aside0.mk A50
  clear A50
  replace H := Option.bind_eq_some_iff.mp H
  obtain ⟨t255, A60, H⟩ := H
  replace H : (if t255.size + t254.size ≤ 9223372036854775807 then ((impl_ReadVar.f k (t255 ++ t254)).bind fun bt256 => (if t253 ≥ 0 then (if ((t255.toList != ([] : List UInt8)) != (decide (t253 ≤ 562949953421311))) = true then (laws_FnNumbers.j0 k l0 t253 t254 true) else (if t255.toList = ([] : List UInt8) then (laws_FnNumbers.j0 k l0 t253 t254 false) else (if bt256.1 = t253 then (laws_FnNumbers.j0 k l0 t253 t254 (bt256.2 != (t255.size : Int))) else (laws_FnNumbers.j0 k l0 t253 t254 true)))) else (if ((t255.toList != ([] : List UInt8)) != false) = true then (laws_FnNumbers.j0 k l0 t253 t254 true) else (if t255.toList = ([] : List UInt8) then (laws_FnNumbers.j0 k l0 t253 t254 false) else (if bt256.1 = t253 then (laws_FnNumbers.j0 k l0 t253 t254 (bt256.2 != (t255.size : Int))) else (laws_FnNumbers.j0 k l0 t253 t254 true)))))) else (none)) = some r := H
  have A6 := Aside0.mk A60
  clear A60
  by_cases c7 : t255.size + t254.size ≤ 9223372036854775807
  ·rw [if_pos c7] at H
   have c7b0 := eq_true c7
   have c7b1 : decide (t255.size + t254.size ≤ 9223372036854775807) = true := decide_eq_true c7
   try have c7b2 : (9223372036854775807 < t255.size + t254.size) = False := eq_false (Nat.not_lt.2 c7)
   (try (have c7b3 := c7b2; simp only [ByteArray.size_append] at c7b3))
   replace H := Option.bind_eq_some_iff.mp H
   obtain ⟨⟨t256, t257⟩, A80, H⟩ := H
   replace H : (if t253 ≥ 0 then (if ((t255.toList != ([] : List UInt8)) != (decide (t253 ≤ 562949953421311))) = true then (laws_FnNumbers.j0 k l0 t253 t254 true) else (if t255.toList = ([] : List UInt8) then (laws_FnNumbers.j0 k l0 t253 t254 false) else (if t256 = t253 then (laws_FnNumbers.j0 k l0 t253 t254 (t257 != (t255.size : Int))) else (laws_FnNumbers.j0 k l0 t253 t254 true)))) else (if ((t255.toList != ([] : List UInt8)) != false) = true then (laws_FnNumbers.j0 k l0 t253 t254 true) else (if t255.toList = ([] : List UInt8) then (laws_FnNumbers.j0 k l0 t253 t254 false) else (if t256 = t253 then (laws_FnNumbers.j0 k l0 t253 t254 (t257 != (t255.size : Int))) else (laws_FnNumbers.j0 k l0 t253 t254 true))))) = some r := H
   have A8 := Aside0.mk A80
   clear A80
   have HC9 := Aside0.mk H
   clear H
   go_enter Tryd.func3, Tryd.ntmps3
   go_upto_region 7 with (first | ((with_reducible refine gate_callee (f := 4) rfl ?_); refine goesL_ (some 18) rfl rfl Tryd.func4 (by kernel_rfl) rfl #[.slice A0 l0.length c0] rfl ar_ ?_; (with_reducible refine (laws_big.calls _ _ l0 false _ ?side1 ?side2 A2.out).mono ?_); (case side1 => repeat (first | exact HR0.out | (with_reducible refine Kd.C_alloc ?_ _) | (with_reducible refine Kd.C_drewN ?_ _) | (with_reducible refine Kd.C_drew ?_))); (case side2 => exact HC0.out); rintro e w' ⟨rfl, ⟨nd, rfl⟩⟩; refine ⟨_, rfl, ?_⟩) | ((with_reducible refine gate_callee (f := 5) rfl ?_); refine goesL_ (some 20) rfl rfl Tryd.func5 (by kernel_rfl) rfl #[.slice A0 l0.length c0] rfl ar_ ?_; (with_reducible refine (spec_DrawVar.calls k _ _ l0 t253 _ ?side1 ?side2 A4.out).mono ?_); (case side1 => repeat (first | exact HR0.out | (with_reducible refine Kd.C_alloc ?_ _) | (with_reducible refine Kd.C_drewN ?_ _) | (with_reducible refine Kd.C_drew ?_))); (case side2 => exact HC0.out); rintro e w10 ⟨rfl, hb⟩; refine ⟨_, rfl, ?_⟩; replace HB := bs_ HB hb; (try clear hb); (try clear hb2); (try clear hk); (try clear hi)) | ((with_reducible refine gate_callee (f := 6) rfl ?_); refine goesL_ (some 22) rfl rfl Tryd.func6 (by kernel_rfl) rfl #[.slice A0 l0.length c0] rfl ar_ ?_; (with_reducible refine (spec_DrawHex.calls k _ _ l0 t254 _ ?side1 ?side2 A5.out).mono ?_); (case side1 => repeat (first | exact (Kd.C_below HR0.out HB.out) | (with_reducible refine Kd.C_alloc ?_ _) | (with_reducible refine Kd.C_drewN ?_ _) | (with_reducible refine Kd.C_drew ?_))); (case side2 => exact HC0.out); rintro e w11 ⟨rfl, hb⟩; refine ⟨_, rfl, ?_⟩; replace HB := bs_ HB hb; (try clear hb); (try clear hb2); (try clear hk); (try clear hi)) | ((with_reducible refine gate_callee (f := 7) rfl ?_); refine goesL_ (some 24) rfl rfl Tryd.func7 (by kernel_rfl) rfl #[.int .i64 t253] rfl ar_ ?_; (with_reducible refine (impl_Var.calls k t253 t255 _ A6.out).mono ?_); rintro e w12 ⟨rfl, hb⟩; refine ⟨_, rfl, ?_⟩; replace HB := bs_ HB hb; (try clear hb); (try clear hb2); (try clear hk); (try clear hi)) | ((with_reducible refine gate_callee (f := 8) rfl ?_); refine goesL_ (some 29) rfl rfl Tryd.func8 (by kernel_rfl) rfl #[.string (t255 ++ t254)] rfl ar_ ?_; (with_reducible refine (impl_ReadVar.calls k (t255 ++ t254) t256 t257 _ A8.out).mono ?_); rintro e w' ⟨rfl, ⟨nd, rfl⟩⟩; refine ⟨_, rfl, ?_⟩))
   (try simp only [Act.put, la_, lz_, ls_])
   go_cut [55] (fun v55 wc => ∃ (kq : Nat) (x55_8 : Bool), v55 = .bool x55_8 ∧ Aside0 (laws_FnNumbers.j0 kq l0 t253 t254 x55_8 = some r) ∧ Aside0 (kq ≤ k) ∧ Aside0 (Below w.heap.size w wc))
   case first =>
    have H := HC9.out
    clear HC9
    by_cases c13 : t253 ≥ 0
    ·rw [if_pos c13] at H
     have c13b0 : decide (0 ≤ t253) = true := decide_eq_true c13
     clear c13
     (first | rw [c13b0] | (simp only [i64_w, i32_w]; rw [c13b0]) | skip)
     by_cases c14 : ((t255.toList != ([] : List UInt8)) != (decide (t253 ≤ 562949953421311))) = true
     ·rw [if_pos c14] at H
      have c14b0 : ((t255.toList != ([] : List UInt8)) != (decide (t253 ≤ 562949953421311))) = true := c14
      (try (have c14b5 : (t255.toList.isEmpty = !(decide (t253 ≤ 562949953421311))) = False := by have h_ := c14b0; revert h_; generalize t255.toList = l_; generalize (decide (t253 ≤ 562949953421311)) = D_; cases l_ <;> cases D_ <;> simp))
      (try (have c14b1 : decide ((t255.toList != ([] : List UInt8)) = (decide (t253 ≤ 562949953421311))) = false := by simpa using c14))
      (try (have c14b2 : ((t255.toList != ([] : List UInt8)) == (decide (t253 ≤ 562949953421311))) = false := by simpa using c14))
      (try (have c14b3 : ¬ ((t255.toList != ([] : List UInt8)) = (decide (t253 ≤ 562949953421311))) := by simpa using c14))
      clear c14
      have H' := Aside0.mk H
      clear H
      go_wp2
      go_meet
      case rel => exact ⟨_, (true), rs_, H', ⟨by first | exact Nat.le_refl _ | exact Nat.le_of_succ_le this | omega⟩, ⟨hb_ HB⟩⟩
     ·rw [if_neg c14] at H
      have c14b0 : ((t255.toList != ([] : List UInt8)) != (decide (t253 ≤ 562949953421311))) = false := by simpa using c14
      (try (have c14b5 : (t255.toList.isEmpty = !(decide (t253 ≤ 562949953421311))) = True := by have h_ := c14b0; revert h_; generalize t255.toList = l_; generalize (decide (t253 ≤ 562949953421311)) = D_; cases l_ <;> cases D_ <;> simp))
      (try (have c14b1 : decide ((t255.toList != ([] : List UInt8)) = (decide (t253 ≤ 562949953421311))) = true := by simpa using c14))
      (try (have c14b2 : ((t255.toList != ([] : List UInt8)) == (decide (t253 ≤ 562949953421311))) = true := by simpa using c14))
      clear c14
      by_cases c15 : t255.toList = ([] : List UInt8)
      ·rw [if_pos c15] at H
       have c15b0 : (t255.toList == ([] : List UInt8)) = true := beq_iff_eq.mpr c15
       have c15b1 : (t255.toList != ([] : List UInt8)) = false := bne_eq_false_iff_eq.mpr c15
       have c15b6 : (decide (t253 ≤ 562949953421311)) = false := by have h_ := c14b0; rw [c15b1] at h_; simpa using h_
       have c15b5 : (t253 ≤ 562949953421311) = False := eq_false (of_decide_eq_false c15b6)
       have c15b4 : (562949953421311 < t253) = True := eq_true (by have h_ := of_decide_eq_false c15b6; omega)
       clear c15
       have H' := Aside0.mk H
       clear H
       go_wp2
       go_meet
       case rel => exact ⟨_, (false), rs_, H', ⟨by first | exact Nat.le_refl _ | exact Nat.le_of_succ_le this | omega⟩, ⟨hb_ HB⟩⟩
      ·rw [if_neg c15] at H
       have c15b0 : (t255.toList == ([] : List UInt8)) = false := beq_eq_false_iff_ne.mpr c15
       have c15b1 : (t255.toList != ([] : List UInt8)) = true := bne_iff_ne.mpr c15
       have c15b6 : (decide (t253 ≤ 562949953421311)) = true := by have h_ := c14b0; rw [c15b1] at h_; simpa using h_
       have c15b5 : (t253 ≤ 562949953421311) = True := eq_true (of_decide_eq_true c15b6)
       have c15b4 : (562949953421311 < t253) = False := eq_false (by have h_ := of_decide_eq_true c15b6; omega)
       by_cases c16 : t256 = t253
       ·rw [if_pos c16] at H
        have c16b0 : (t256 == t253) = true := beq_iff_eq.mpr c16
        have c16b1 : (t256 != t253) = false := bne_eq_false_iff_eq.mpr c16
        clear c16
        have H' := Aside0.mk H
        clear H
        go_wp2
        go_meet
        case rel => exact ⟨_, ((t257 != (t255.size : Int))), rs_, H', ⟨by first | exact Nat.le_refl _ | exact Nat.le_of_succ_le this | omega⟩, ⟨hb_ HB⟩⟩
       ·rw [if_neg c16] at H
        have c16b0 : (t256 == t253) = false := beq_eq_false_iff_ne.mpr c16
        have c16b1 : (t256 != t253) = true := bne_iff_ne.mpr c16
        have H' := Aside0.mk H
        clear H
        go_wp2
        go_meet
        case rel => exact ⟨_, (true), rs_, H', ⟨by first | exact Nat.le_refl _ | exact Nat.le_of_succ_le this | omega⟩, ⟨hb_ HB⟩⟩
    ·rw [if_neg c13] at H
     have c13b0 : decide (0 ≤ t253) = false := decide_eq_false c13
     clear c13
     (first | rw [c13b0] | (simp only [i64_w, i32_w]; rw [c13b0]) | skip)
     by_cases c17 : ((t255.toList != ([] : List UInt8)) != false) = true
     ·rw [if_pos c17] at H
      have c17b0 : ((t255.toList != ([] : List UInt8)) != false) = true := c17
      (try (have c17b5 : t255.toList.isEmpty = false := by have h_ := c17b0; revert h_; generalize t255.toList = l_; cases l_ <;> simp))
      (try (have c17b1 : decide ((t255.toList != ([] : List UInt8)) = false) = false := by simpa using c17))
      (try (have c17b2 : ((t255.toList != ([] : List UInt8)) == false) = false := by simpa using c17))
      (try (have c17b3 : ¬ ((t255.toList != ([] : List UInt8)) = false) := by simpa using c17))
      clear c17
      have H' := Aside0.mk H
      clear H
      go_wp2
      go_meet
      case rel => exact ⟨_, (true), rs_, H', ⟨by first | exact Nat.le_refl _ | exact Nat.le_of_succ_le this | omega⟩, ⟨hb_ HB⟩⟩
     ·rw [if_neg c17] at H
      have c17b0 : ((t255.toList != ([] : List UInt8)) != false) = false := by simpa using c17
      (try (have c17b5 : t255.toList.isEmpty = true := by have h_ := c17b0; revert h_; generalize t255.toList = l_; cases l_ <;> simp))
      (try (have c17b1 : decide ((t255.toList != ([] : List UInt8)) = false) = true := by simpa using c17))
      (try (have c17b2 : ((t255.toList != ([] : List UInt8)) == false) = true := by simpa using c17))
      clear c17
      by_cases c18 : t255.toList = ([] : List UInt8)
      ·rw [if_pos c18] at H
       have c18b0 : (t255.toList == ([] : List UInt8)) = true := beq_iff_eq.mpr c18
       have c18b1 : (t255.toList != ([] : List UInt8)) = false := bne_eq_false_iff_eq.mpr c18
       clear c18
       have H' := Aside0.mk H
       clear H
       go_wp2
       go_meet
       case rel => exact ⟨_, (false), rs_, H', ⟨by first | exact Nat.le_refl _ | exact Nat.le_of_succ_le this | omega⟩, ⟨hb_ HB⟩⟩
      ·exact absurd (by have h_ := c17b0; revert h_; generalize t255.toList = l_; cases l_ <;> simp) c18
   case rest =>
    clear HC9
    try clear c1
    try clear p2
    try clear c3
    try clear c4
    try clear c5
    try clear c6
    try clear c7
    try clear c7b0
    try clear c7b1
    try clear c7b2
    try clear c8
    try clear c13
    try clear c13b0
    try clear c14
    try clear c14b0
    try clear c14b1
    try clear c14b2
    try clear c15
    try clear c15b0
    try clear c15b1
    try clear c16
    try clear c16b0
    try clear c16b1
    try clear c17
    try clear c17b0
    try clear c17b1
    try clear c17b2
    try clear c18
    try clear c18b0
    try clear c18b1
    try clear c19
    try clear c19b0
    try clear c19b1
    obtain ⟨kq, x55_8, rfl, HA, HJ8, HB⟩ := hcut
    cases kq with
    | zero => exact absurd HA.out (by simp [laws_FnNumbers.j0])
    | succ kj8 =>
     have H := HA.out
     clear HA
     simp only [laws_FnNumbers.j0] at H
     by_cases c20 : x55_8 = true
     ·subst c20
      have H1 : (some false) = some r := by rw [if_pos rfl] at H; exact H
      clear H
      have H := H1
      clear H1
      exact absurd ((Option.some.inj H).trans HRT.out) (by decide)
     ·replace c20 := Bool.eq_false_iff.mpr c20
      subst c20
      have H1 : ((impl_Fixed.f kj8 t253 7).bind fun t258 => (if t258.size + t254.size ≤ 9223372036854775807 then ((impl_ReadFixed.f kj8 (t258 ++ t254) 7).bind fun bt259 => (if t258.toList = ([] : List UInt8) then (if t253 < 0 then (laws_FnNumbers.j1 kj8 l0 t253 t254 ((t258.toList == ([] : List UInt8)) != true)) else (laws_FnNumbers.j1 kj8 l0 t253 t254 ((t258.toList == ([] : List UInt8)) != (decide (t253 ≥ 72057594037927936))))) else (if bt259.2 = true then (if bt259.1 = t253 then (if (t258.size : Int) = 7 then (if t253 < 0 then (laws_FnNumbers.j1 kj8 l0 t253 t254 ((t258.toList == ([] : List UInt8)) != true)) else (laws_FnNumbers.j1 kj8 l0 t253 t254 ((t258.toList == ([] : List UInt8)) != (decide (t253 ≥ 72057594037927936))))) else (laws_FnNumbers.j1 kj8 l0 t253 t254 true)) else (laws_FnNumbers.j1 kj8 l0 t253 t254 true)) else (laws_FnNumbers.j1 kj8 l0 t253 t254 true)))) else (none))) = some r := by rw [if_neg (show ¬ (false = true) by decide)] at H; exact H
      clear H
      have H := H1
      clear H1
      replace H := Option.bind_eq_some_iff.mp H
      obtain ⟨t258, A210, H⟩ := H
      replace H : (if t258.size + t254.size ≤ 9223372036854775807 then ((impl_ReadFixed.f kj8 (t258 ++ t254) 7).bind fun bt259 => (if t258.toList = ([] : List UInt8) then (if t253 < 0 then (laws_FnNumbers.j1 kj8 l0 t253 t254 ((t258.toList == ([] : List UInt8)) != true)) else (laws_FnNumbers.j1 kj8 l0 t253 t254 ((t258.toList == ([] : List UInt8)) != (decide (t253 ≥ 72057594037927936))))) else (if bt259.2 = true then (if bt259.1 = t253 then (if (t258.size : Int) = 7 then (if t253 < 0 then (laws_FnNumbers.j1 kj8 l0 t253 t254 ((t258.toList == ([] : List UInt8)) != true)) else (laws_FnNumbers.j1 kj8 l0 t253 t254 ((t258.toList == ([] : List UInt8)) != (decide (t253 ≥ 72057594037927936))))) else (laws_FnNumbers.j1 kj8 l0 t253 t254 true)) else (laws_FnNumbers.j1 kj8 l0 t253 t254 true)) else (laws_FnNumbers.j1 kj8 l0 t253 t254 true)))) else (none)) = some r := H
      have A21 := Aside0.mk A210
      clear A210
      by_cases c22 : t258.size + t254.size ≤ 9223372036854775807
      ·rw [if_pos c22] at H
       have c22b0 := eq_true c22
       have c22b1 : decide (t258.size + t254.size ≤ 9223372036854775807) = true := decide_eq_true c22
       try have c22b2 : (9223372036854775807 < t258.size + t254.size) = False := eq_false (Nat.not_lt.2 c22)
       (try (have c22b3 := c22b2; simp only [ByteArray.size_append] at c22b3))
       replace H := Option.bind_eq_some_iff.mp H
       obtain ⟨⟨t259, t260⟩, A230, H⟩ := H
       replace H : (if t258.toList = ([] : List UInt8) then (if t253 < 0 then (laws_FnNumbers.j1 kj8 l0 t253 t254 ((t258.toList == ([] : List UInt8)) != true)) else (laws_FnNumbers.j1 kj8 l0 t253 t254 ((t258.toList == ([] : List UInt8)) != (decide (t253 ≥ 72057594037927936))))) else (if t260 = true then (if t259 = t253 then (if (t258.size : Int) = 7 then (if t253 < 0 then (laws_FnNumbers.j1 kj8 l0 t253 t254 ((t258.toList == ([] : List UInt8)) != true)) else (laws_FnNumbers.j1 kj8 l0 t253 t254 ((t258.toList == ([] : List UInt8)) != (decide (t253 ≥ 72057594037927936))))) else (laws_FnNumbers.j1 kj8 l0 t253 t254 true)) else (laws_FnNumbers.j1 kj8 l0 t253 t254 true)) else (laws_FnNumbers.j1 kj8 l0 t253 t254 true))) = some r := H
       have A23 := Aside0.mk A230
       clear A230
       have HC24 := Aside0.mk H
       clear H
       go_upto_region 11 with (first | ((with_reducible refine gate_callee (f := 9) rfl ?_); refine goesL_ (some 57) rfl rfl Tryd.func9 (by kernel_rfl) rfl #[.int .i64 t253, .int .i64 7] rfl ar_ ?_; (with_reducible refine (impl_Fixed.calls kj8 t253 7 t258 _ A21.out).mono ?_); rintro e w25 ⟨rfl, hb⟩; refine ⟨_, rfl, ?_⟩; replace HB := bs_ HB hb; (try clear hb); (try clear hb2); (try clear hk); (try clear hi)) | ((with_reducible refine gate_callee (f := 10) rfl ?_); refine goesL_ (some 62) rfl rfl Tryd.func10 (by kernel_rfl) rfl #[.string (t258 ++ t254), .int .i64 7] rfl ar_ ?_; (with_reducible refine (impl_ReadFixed.calls kj8 (t258 ++ t254) 7 t259 t260 _ A23.out).mono ?_); rintro e w' ⟨rfl, ⟨nd, rfl⟩⟩; refine ⟨_, rfl, ?_⟩))
       (try simp only [Act.put, la_, lz_, ls_])
       go_cut [91] (fun v91 wc => ∃ (kq : Nat) (x91_23 : Bool), v91 = .bool x91_23 ∧ Aside0 (laws_FnNumbers.j1 kq l0 t253 t254 x91_23 = some r) ∧ Aside0 (kq ≤ kj8) ∧ Aside0 (Below w.heap.size w wc))
       case first =>
        have H := HC24.out
        clear HC24
        by_cases c26 : t258.toList = ([] : List UInt8)
        ·rw [if_pos c26] at H
         have c26b0 : (t258.toList == ([] : List UInt8)) = true := beq_iff_eq.mpr c26
         have c26b1 : (t258.toList != ([] : List UInt8)) = false := bne_eq_false_iff_eq.mpr c26
         clear c26
         (first | rw [c26b0] | (simp only [i64_w, i32_w]; rw [c26b0]) | skip)
         by_cases c27 : t253 < 0
         ·rw [if_pos c27] at H
          have c27b0 : decide (t253 < 0) = true := decide_eq_true c27
          clear c27
          have H' := Aside0.mk H
          clear H
          go_wp2
          go_meet
          case rel => exact ⟨_, (((t258.toList == ([] : List UInt8)) != true)), rs_, H', ⟨by have := HJ8.out; first | exact Nat.le_refl _ | exact Nat.le_of_succ_le this | omega⟩, ⟨hb_ HB⟩⟩
         ·rw [if_neg c27] at H
          have c27b0 : decide (t253 < 0) = false := decide_eq_false c27
          clear c27
          have H' := Aside0.mk H
          clear H
          go_wp2
          go_meet
          case rel => exact ⟨_, (((t258.toList == ([] : List UInt8)) != (decide (t253 ≥ 72057594037927936)))), rs_, H', ⟨by have := HJ8.out; first | exact Nat.le_refl _ | exact Nat.le_of_succ_le this | omega⟩, ⟨hb_ HB⟩⟩
        ·rw [if_neg c26] at H
         have c26b0 : (t258.toList == ([] : List UInt8)) = false := beq_eq_false_iff_ne.mpr c26
         have c26b1 : (t258.toList != ([] : List UInt8)) = true := bne_iff_ne.mpr c26
         (first | rw [c26b0] | (simp only [i64_w, i32_w]; rw [c26b0]) | skip)
         by_cases c28 : t260 = true
         ·subst c28
          have H1 : (if t259 = t253 then (if (t258.size : Int) = 7 then (if t253 < 0 then (laws_FnNumbers.j1 kj8 l0 t253 t254 ((t258.toList == ([] : List UInt8)) != true)) else (laws_FnNumbers.j1 kj8 l0 t253 t254 ((t258.toList == ([] : List UInt8)) != (decide (t253 ≥ 72057594037927936))))) else (laws_FnNumbers.j1 kj8 l0 t253 t254 true)) else (laws_FnNumbers.j1 kj8 l0 t253 t254 true)) = some r := by rw [if_pos rfl] at H; exact H
          clear H
          have H := H1
          clear H1
          by_cases c29 : t259 = t253
          ·rw [if_pos c29] at H
           have c29b0 : (t259 == t253) = true := beq_iff_eq.mpr c29
           have c29b1 : (t259 != t253) = false := bne_eq_false_iff_eq.mpr c29
           clear c29
           by_cases c30 : (t258.size : Int) = 7
           ·rw [if_pos c30] at H
            have c30b0 : ((t258.size : Int) == 7) = true := beq_iff_eq.mpr c30
            have c30b1 : ((t258.size : Int) != 7) = false := bne_eq_false_iff_eq.mpr c30
            clear c30
            by_cases c31 : t253 < 0
            ·rw [if_pos c31] at H
             have c31b0 : decide (t253 < 0) = true := decide_eq_true c31
             clear c31
             have H' := Aside0.mk H
             clear H
             go_wp2
             go_meet
             case rel => exact ⟨_, (((t258.toList == ([] : List UInt8)) != true)), rs_, H', ⟨by have := HJ8.out; first | exact Nat.le_refl _ | exact Nat.le_of_succ_le this | omega⟩, ⟨hb_ HB⟩⟩
            ·rw [if_neg c31] at H
             have c31b0 : decide (t253 < 0) = false := decide_eq_false c31
             clear c31
             have H' := Aside0.mk H
             clear H
             go_wp2
             go_meet
             case rel => exact ⟨_, (((t258.toList == ([] : List UInt8)) != (decide (t253 ≥ 72057594037927936)))), rs_, H', ⟨by have := HJ8.out; first | exact Nat.le_refl _ | exact Nat.le_of_succ_le this | omega⟩, ⟨hb_ HB⟩⟩
           ·rw [if_neg c30] at H
            have c30b0 : ((t258.size : Int) == 7) = false := beq_eq_false_iff_ne.mpr c30
            have c30b1 : ((t258.size : Int) != 7) = true := bne_iff_ne.mpr c30
            have H' := Aside0.mk H
            clear H
            go_wp2
            go_meet
            case rel => exact ⟨_, (true), rs_, H', ⟨by have := HJ8.out; first | exact Nat.le_refl _ | exact Nat.le_of_succ_le this | omega⟩, ⟨hb_ HB⟩⟩
          ·rw [if_neg c29] at H
           have c29b0 : (t259 == t253) = false := beq_eq_false_iff_ne.mpr c29
           have c29b1 : (t259 != t253) = true := bne_iff_ne.mpr c29
           have H' := Aside0.mk H
           clear H
           go_wp2
           go_meet
           case rel => exact ⟨_, (true), rs_, H', ⟨by have := HJ8.out; first | exact Nat.le_refl _ | exact Nat.le_of_succ_le this | omega⟩, ⟨hb_ HB⟩⟩
         ·replace c28 := Bool.eq_false_iff.mpr c28
          subst c28
          have H1 : (laws_FnNumbers.j1 kj8 l0 t253 t254 true) = some r := by rw [if_neg (show ¬ (false = true) by decide)] at H; exact H
          clear H
          have H := H1
          clear H1
          have H' := Aside0.mk H
          clear H
          go_wp2
          go_meet
          case rel => exact ⟨_, (true), rs_, H', ⟨by have := HJ8.out; first | exact Nat.le_refl _ | exact Nat.le_of_succ_le this | omega⟩, ⟨hb_ HB⟩⟩
       case rest =>
        clear HC24
        try clear c1
        try clear c2
        try clear p2
        try clear c3
        try clear c4
        try clear c5
        try clear c6
        try clear c7
        try clear c7b0
        try clear c7b1
        try clear c7b2
        try clear c8
        try clear c9
        try clear c10
        try clear c13
        try clear c13b0
        try clear c14
        try clear c14b0
        try clear c14b1
        try clear c14b2
        try clear c15
        try clear c15b0
        try clear c15b1
        try clear c16
        try clear c16b0
        try clear c16b1
        try clear c17
        try clear c17b0
        try clear c17b1
        try clear c17b2
        try clear c18
        try clear c18b0
        try clear c18b1
        try clear c19
        try clear c19b0
        try clear c19b1
        try clear c20
        try clear c22
        try clear c22b0
        try clear c22b1
        try clear c22b2
        try clear c26
        try clear c26b0
        try clear c26b1
        try clear c27
        try clear c27b0
        try clear c28
        try clear c29
        try clear c29b0
        try clear c29b1
        try clear c30
        try clear c30b0
        try clear c30b1
        try clear c31
        try clear c31b0
        try clear p2
        obtain ⟨kq, x91_23, rfl, HA, HJ23, HB⟩ := hcut
        cases kq with
        | zero => exact absurd HA.out (by simp [laws_FnNumbers.j1])
        | succ kj23 =>
         have H := HA.out
         clear HA
         simp only [laws_FnNumbers.j1] at H
         by_cases c32 : x91_23 = true
         ·subst c32
          have H1 : (some false) = some r := by rw [if_pos rfl] at H; exact H
          clear H
          have H := H1
          clear H1
          exact absurd ((Option.some.inj H).trans HRT.out) (by decide)
         ·replace c32 := Bool.eq_false_iff.mpr c32
          subst c32
          have H1 : ((impl_Dec.f t253).bind fun t261 => ((impl_ReadDec.f t261).bind fun bt262 => (if t253 > (-1000000000) then (if (bt262.2 != (decide (t253 < 1000000000))) = true then (laws_FnNumbers.j2 kj23 l0 t254 true) else (if bt262.2 = true then (laws_FnNumbers.j2 kj23 l0 t254 (bt262.1 != t253)) else (laws_FnNumbers.j2 kj23 l0 t254 false))) else (if (bt262.2 != false) = true then (laws_FnNumbers.j2 kj23 l0 t254 true) else (if bt262.2 = true then (laws_FnNumbers.j2 kj23 l0 t254 (bt262.1 != t253)) else (laws_FnNumbers.j2 kj23 l0 t254 false)))))) = some r := by rw [if_neg (show ¬ (false = true) by decide)] at H; exact H
          clear H
          have H := H1
          clear H1
          replace H := Option.bind_eq_some_iff.mp H
          obtain ⟨t261, A330, H⟩ := H
          replace H : ((impl_ReadDec.f t261).bind fun bt262 => (if t253 > (-1000000000) then (if (bt262.2 != (decide (t253 < 1000000000))) = true then (laws_FnNumbers.j2 kj23 l0 t254 true) else (if bt262.2 = true then (laws_FnNumbers.j2 kj23 l0 t254 (bt262.1 != t253)) else (laws_FnNumbers.j2 kj23 l0 t254 false))) else (if (bt262.2 != false) = true then (laws_FnNumbers.j2 kj23 l0 t254 true) else (if bt262.2 = true then (laws_FnNumbers.j2 kj23 l0 t254 (bt262.1 != t253)) else (laws_FnNumbers.j2 kj23 l0 t254 false))))) = some r := H
          have A33 := Aside0.mk A330
          clear A330
          replace H := Option.bind_eq_some_iff.mp H
          obtain ⟨⟨t262, t263⟩, A340, H⟩ := H
          replace H : (if t253 > (-1000000000) then (if (t263 != (decide (t253 < 1000000000))) = true then (laws_FnNumbers.j2 kj23 l0 t254 true) else (if t263 = true then (laws_FnNumbers.j2 kj23 l0 t254 (t262 != t253)) else (laws_FnNumbers.j2 kj23 l0 t254 false))) else (if (t263 != false) = true then (laws_FnNumbers.j2 kj23 l0 t254 true) else (if t263 = true then (laws_FnNumbers.j2 kj23 l0 t254 (t262 != t253)) else (laws_FnNumbers.j2 kj23 l0 t254 false)))) = some r := H
          have A34 := Aside0.mk A340
          clear A340
          have HC35 := Aside0.mk H
          clear H
          go_upto_region 14 with (first | ((with_reducible refine gate_callee (f := 12) rfl ?_); refine goesL_ (some 94) rfl rfl Tryd.func12 (by kernel_rfl) rfl #[.int .i64 t253] rfl ar_ ?_; (with_reducible refine (impl_Dec.calls t253 t261 _ (HTab.below (hb_ HB)) A33.out).mono ?_); rintro e w36 ⟨rfl, hb⟩; refine ⟨_, rfl, ?_⟩; replace HB := bs_ HB hb; (try clear hb); (try clear hb2); (try clear hk); (try clear hi)) | ((with_reducible refine gate_callee (f := 11) rfl ?_); refine goesL_ (some 95) rfl rfl Tryd.func11 (by kernel_rfl) rfl #[.string t261] rfl ar_ ?_; (with_reducible refine (impl_ReadDec.calls t261 t262 t263 _ (HTab.below (hb_ HB)) A34.out).mono ?_); rintro e w37 ⟨rfl, hb⟩; refine ⟨_, rfl, ?_⟩; replace HB := bs_ HB hb; (try clear hb); (try clear hb2); (try clear hk); (try clear hi)))
          (try simp only [Act.put, la_, lz_, ls_])
          go_cut [113] (fun v113 wc => ∃ (kq : Nat) (x113_34 : Bool), v113 = .bool x113_34 ∧ Aside0 (laws_FnNumbers.j2 kq l0 t254 x113_34 = some r) ∧ Aside0 (kq ≤ kj23) ∧ Aside0 (Below w.heap.size w wc))
          case first =>
           have H := HC35.out
           clear HC35
           by_cases c38 : t253 > (-1000000000)
           ·rw [if_pos c38] at H
            have c38b0 : decide ((-1000000000) < t253) = true := decide_eq_true c38
            clear c38
            (first | rw [c38b0] | (simp only [i64_w, i32_w]; rw [c38b0]) | skip)
            by_cases c39 : (t263 != (decide (t253 < 1000000000))) = true
            ·rw [if_pos c39] at H
             have c39b0 : (t263 != (decide (t253 < 1000000000))) = true := c39
             (try (have c39b1 : decide (t263 = (decide (t253 < 1000000000))) = false := by simpa using c39))
             (try (have c39b2 : (t263 == (decide (t253 < 1000000000))) = false := by simpa using c39))
             (try (have c39b3 : ¬ (t263 = (decide (t253 < 1000000000))) := by simpa using c39))
             clear c39
             have H' := Aside0.mk H
             clear H
             go_wp2
             go_meet
             case rel => exact ⟨_, (true), rs_, H', ⟨by have := HJ8.out; have := HJ23.out; first | exact Nat.le_refl _ | exact Nat.le_of_succ_le this | omega⟩, ⟨hb_ HB⟩⟩
            ·rw [if_neg c39] at H
             have c39b0 : (t263 != (decide (t253 < 1000000000))) = false := by simpa using c39
             (try (have c39b1 : decide (t263 = (decide (t253 < 1000000000))) = true := by simpa using c39))
             (try (have c39b2 : (t263 == (decide (t253 < 1000000000))) = true := by simpa using c39))
             clear c39
             by_cases c40 : t263 = true
             ·subst c40
              have H1 : (laws_FnNumbers.j2 kj23 l0 t254 (t262 != t253)) = some r := by rw [if_pos rfl] at H; exact H
              clear H
              have H := H1
              clear H1
              have H' := Aside0.mk H
              clear H
              go_wp2
              go_meet
              case rel => exact ⟨_, ((t262 != t253)), rs_, H', ⟨by have := HJ8.out; have := HJ23.out; first | exact Nat.le_refl _ | exact Nat.le_of_succ_le this | omega⟩, ⟨hb_ HB⟩⟩
             ·replace c40 := Bool.eq_false_iff.mpr c40
              subst c40
              have H1 : (laws_FnNumbers.j2 kj23 l0 t254 false) = some r := by rw [if_neg (show ¬ (false = true) by decide)] at H; exact H
              clear H
              have H := H1
              clear H1
              have H' := Aside0.mk H
              clear H
              go_wp2
              go_meet
              case rel => exact ⟨_, (false), rs_, H', ⟨by have := HJ8.out; have := HJ23.out; first | exact Nat.le_refl _ | exact Nat.le_of_succ_le this | omega⟩, ⟨hb_ HB⟩⟩
           ·rw [if_neg c38] at H
            have c38b0 : decide ((-1000000000) < t253) = false := decide_eq_false c38
            clear c38
            (first | rw [c38b0] | (simp only [i64_w, i32_w]; rw [c38b0]) | skip)
            by_cases c41 : (t263 != false) = true
            ·rw [if_pos c41] at H
             have c41b0 : (t263 != false) = true := c41
             (try (have c41b1 : decide (t263 = false) = false := by simpa using c41))
             (try (have c41b2 : (t263 == false) = false := by simpa using c41))
             (try (have c41b3 : ¬ (t263 = false) := by simpa using c41))
             clear c41
             have H' := Aside0.mk H
             clear H
             go_wp2
             go_meet
             case rel => exact ⟨_, (true), rs_, H', ⟨by have := HJ8.out; have := HJ23.out; first | exact Nat.le_refl _ | exact Nat.le_of_succ_le this | omega⟩, ⟨hb_ HB⟩⟩
            ·rw [if_neg c41] at H
             have c41b0 : (t263 != false) = false := by simpa using c41
             (try (have c41b1 : decide (t263 = false) = true := by simpa using c41))
             (try (have c41b2 : (t263 == false) = true := by simpa using c41))
             clear c41
             by_cases c42 : t263 = true
             ·subst c42
              have H1 : (laws_FnNumbers.j2 kj23 l0 t254 (t262 != t253)) = some r := by rw [if_pos rfl] at H; exact H
              clear H
              have H := H1
              clear H1
              have H' := Aside0.mk H
              clear H
              go_wp2
              go_meet
              case rel => exact ⟨_, ((t262 != t253)), rs_, H', ⟨by have := HJ8.out; have := HJ23.out; first | exact Nat.le_refl _ | exact Nat.le_of_succ_le this | omega⟩, ⟨hb_ HB⟩⟩
             ·replace c42 := Bool.eq_false_iff.mpr c42
              subst c42
              have H1 : (laws_FnNumbers.j2 kj23 l0 t254 false) = some r := by rw [if_neg (show ¬ (false = true) by decide)] at H; exact H
              clear H
              have H := H1
              clear H1
              have H' := Aside0.mk H
              clear H
              go_wp2
              go_meet
              case rel => exact ⟨_, (false), rs_, H', ⟨by have := HJ8.out; have := HJ23.out; first | exact Nat.le_refl _ | exact Nat.le_of_succ_le this | omega⟩, ⟨hb_ HB⟩⟩
          case rest =>
           clear HC35
           try clear c1
           try clear c2
           try clear p2
           try clear c3
           try clear c4
           try clear c5
           try clear c6
           try clear c7
           try clear c7b0
           try clear c7b1
           try clear c7b2
           try clear c8
           try clear c9
           try clear c10
           try clear c11
           try clear c12
           try clear c13
           try clear c13b0
           try clear c14
           try clear c14b0
           try clear c14b1
           try clear c14b2
           try clear c15
           try clear c15b0
           try clear c15b1
           try clear c16
           try clear c16b0
           try clear c16b1
           try clear c17
           try clear c17b0
           try clear c17b1
           try clear c17b2
           try clear c18
           try clear c18b0
           try clear c18b1
           try clear c19
           try clear c19b0
           try clear c19b1
           try clear c20
           try clear c22
           try clear c22b0
           try clear c22b1
           try clear c22b2
           try clear c26
           try clear c26b0
           try clear c26b1
           try clear c27
           try clear c27b0
           try clear c28
           try clear c29
           try clear c29b0
           try clear c29b1
           try clear c30
           try clear c30b0
           try clear c30b1
           try clear c31
           try clear c31b0
           try clear c32
           try clear c38
           try clear c38b0
           try clear c39
           try clear c39b0
           try clear c39b1
           try clear c39b2
           try clear c40
           try clear c41
           try clear c41b0
           try clear c41b1
           try clear c41b2
           try clear c42
           try clear p2
           obtain ⟨kq, x113_34, rfl, HA, HJ34, HB⟩ := hcut
           cases kq with
           | zero => exact absurd HA.out (by simp [laws_FnNumbers.j2])
           | succ kj34 =>
            have H := HA.out
            clear HA
            simp only [laws_FnNumbers.j2] at H
            by_cases c43 : x113_34 = true
            ·subst c43
             have H1 : (some false) = some r := by rw [if_pos rfl] at H; exact H
             clear H
             have H := H1
             clear H1
             exact absurd ((Option.some.inj H).trans HRT.out) (by decide)
            ·replace c43 := Bool.eq_false_iff.mpr c43
             subst c43
             have H1 : ((impl_Hex.f kj34 t254).bind fun t264 => ((impl_Unhex.f kj34 t264).bind fun bt265 => ((spec_DrawReadVar.f kj34 l0).bind fun t267 => ((impl_ReadVar.f kj34 t267).bind fun bt268 => (if bt265.2 = true then (if bt265.1.toList = t254.toList then (if bt268.2 = 0 then (some true) else (if bt268.2 > 0 then ((spec_DrawReadVar.f kj34 l0).bind fun t270 => (if bt268.2 ≤ (t270.size : Int) then ((impl_Var.f kj34 bt268.1).bind fun t271 => ((spec_DrawReadVar.f kj34 l0).bind fun t272 => (if 0 ≤ bt268.2 then (if bt268.2 ≤ (t272.size : Int) then (some (t271.toList == (t272.extract 0 (bt268.2 : Int).toNat).toList)) else (none)) else (none)))) else (some false))) else (some false))) else (some false)) else (some false)))))) = some r := by rw [if_neg (show ¬ (false = true) by decide)] at H; exact H
             clear H
             have H := H1
             clear H1
             replace H := Option.bind_eq_some_iff.mp H
             obtain ⟨t264, A440, H⟩ := H
             replace H : ((impl_Unhex.f kj34 t264).bind fun bt265 => ((spec_DrawReadVar.f kj34 l0).bind fun t267 => ((impl_ReadVar.f kj34 t267).bind fun bt268 => (if bt265.2 = true then (if bt265.1.toList = t254.toList then (if bt268.2 = 0 then (some true) else (if bt268.2 > 0 then ((spec_DrawReadVar.f kj34 l0).bind fun t270 => (if bt268.2 ≤ (t270.size : Int) then ((impl_Var.f kj34 bt268.1).bind fun t271 => ((spec_DrawReadVar.f kj34 l0).bind fun t272 => (if 0 ≤ bt268.2 then (if bt268.2 ≤ (t272.size : Int) then (some (t271.toList == (t272.extract 0 (bt268.2 : Int).toNat).toList)) else (none)) else (none)))) else (some false))) else (some false))) else (some false)) else (some false))))) = some r := H
             have A44 := Aside0.mk A440
             clear A440
             replace H := Option.bind_eq_some_iff.mp H
             obtain ⟨⟨t265, t266⟩, A450, H⟩ := H
             replace H : ((spec_DrawReadVar.f kj34 l0).bind fun t267 => ((impl_ReadVar.f kj34 t267).bind fun bt268 => (if t266 = true then (if t265.toList = t254.toList then (if bt268.2 = 0 then (some true) else (if bt268.2 > 0 then ((spec_DrawReadVar.f kj34 l0).bind fun t270 => (if bt268.2 ≤ (t270.size : Int) then ((impl_Var.f kj34 bt268.1).bind fun t271 => ((spec_DrawReadVar.f kj34 l0).bind fun t272 => (if 0 ≤ bt268.2 then (if bt268.2 ≤ (t272.size : Int) then (some (t271.toList == (t272.extract 0 (bt268.2 : Int).toNat).toList)) else (none)) else (none)))) else (some false))) else (some false))) else (some false)) else (some false)))) = some r := H
             have A45 := Aside0.mk A450
             clear A450
             replace H := Option.bind_eq_some_iff.mp H
             obtain ⟨t267, A460, H⟩ := H
             replace H : ((impl_ReadVar.f kj34 t267).bind fun bt268 => (if t266 = true then (if t265.toList = t254.toList then (if bt268.2 = 0 then (some true) else (if bt268.2 > 0 then ((spec_DrawReadVar.f kj34 l0).bind fun t270 => (if bt268.2 ≤ (t270.size : Int) then ((impl_Var.f kj34 bt268.1).bind fun t271 => ((spec_DrawReadVar.f kj34 l0).bind fun t272 => (if 0 ≤ bt268.2 then (if bt268.2 ≤ (t272.size : Int) then (some (t271.toList == (t272.extract 0 (bt268.2 : Int).toNat).toList)) else (none)) else (none)))) else (some false))) else (some false))) else (some false)) else (some false))) = some r := H
             have A46 := Aside0.mk A460
             clear A460
             replace H := Option.bind_eq_some_iff.mp H
             obtain ⟨⟨t268, t269⟩, A470, H⟩ := H
             replace H : (if t266 = true then (if t265.toList = t254.toList then (if t269 = 0 then (some true) else (if t269 > 0 then ((spec_DrawReadVar.f kj34 l0).bind fun t270 => (if t269 ≤ (t270.size : Int) then ((impl_Var.f kj34 t268).bind fun t271 => ((spec_DrawReadVar.f kj34 l0).bind fun t272 => (if 0 ≤ t269 then (if t269 ≤ (t272.size : Int) then (some (t271.toList == (t272.extract 0 (t269 : Int).toNat).toList)) else (none)) else (none)))) else (some false))) else (some false))) else (some false)) else (some false)) = some r := H
             have A47 := Aside0.mk A470
             clear A470
             by_cases c48 : t266 = true
             ·subst c48
              have H1 : (if t265.toList = t254.toList then (if t269 = 0 then (some true) else (if t269 > 0 then ((spec_DrawReadVar.f kj34 l0).bind fun t270 => (if t269 ≤ (t270.size : Int) then ((impl_Var.f kj34 t268).bind fun t271 => ((spec_DrawReadVar.f kj34 l0).bind fun t272 => (if 0 ≤ t269 then (if t269 ≤ (t272.size : Int) then (some (t271.toList == (t272.extract 0 (t269 : Int).toNat).toList)) else (none)) else (none)))) else (some false))) else (some false))) else (some false)) = some r := by rw [if_pos rfl] at H; exact H
              clear H
              have H := H1
              clear H1
              by_cases c49 : t265.toList = t254.toList
              ·rw [if_pos c49] at H
               have c49b0 : (t265.toList == t254.toList) = true := beq_iff_eq.mpr c49
               have c49b1 : (t265.toList != t254.toList) = false := bne_eq_false_iff_eq.mpr c49
               clear c49
               by_cases c50 : t269 = 0
               ·rw [if_pos c50] at H
                have c50b0 : (t269 == 0) = true := beq_iff_eq.mpr c50
                have c50b1 : (t269 != 0) = false := bne_eq_false_iff_eq.mpr c50
                clear c50
                obtain rfl := Option.some.inj H
                go_wp2_with (first | ((with_reducible refine gate_callee (f := 14) rfl ?_); refine goesL_ (some 116) rfl rfl Tryd.func14 (by kernel_rfl) rfl #[.string t254] rfl ar_ ?_; (with_reducible refine (impl_Hex.calls kj34 t254 t264 _ A44.out).mono ?_); rintro e w51 ⟨rfl, hb⟩; refine ⟨_, rfl, ?_⟩; replace HB := bs_ HB hb; (try clear hb); (try clear hb2); (try clear hk); (try clear hi)) | ((with_reducible refine gate_callee (f := 13) rfl ?_); refine goesL_ (some 117) rfl rfl Tryd.func13 (by kernel_rfl) rfl #[.string t264] rfl ar_ ?_; (with_reducible refine (impl_Unhex.calls kj34 t264 t265 true _ A45.out).mono ?_); rintro e w52 ⟨rfl, hb⟩; refine ⟨_, rfl, ?_⟩; replace HB := bs_ HB hb; (try clear hb); (try clear hb2); (try clear hk); (try clear hi)) | ((with_reducible refine gate_callee (f := 15) rfl ?_); refine goesL_ (some 122) rfl rfl Tryd.func15 (by kernel_rfl) rfl #[.slice A0 l0.length c0] rfl ar_ ?_; (with_reducible refine (spec_DrawReadVar.calls kj34 _ _ l0 t267 _ ?side1 ?side2 A46.out).mono ?_); (case side1 => repeat (first | exact (Kd.C_below HR0.out HB.out) | (with_reducible refine Kd.C_alloc ?_ _) | (with_reducible refine Kd.C_drewN ?_ _) | (with_reducible refine Kd.C_drew ?_))); (case side2 => exact HC0.out); rintro e w53 ⟨rfl, hb⟩; refine ⟨_, rfl, ?_⟩; replace HB := bs_ HB hb; (try clear hb); (try clear hb2); (try clear hk); (try clear hi)) | ((with_reducible refine gate_callee (f := 8) rfl ?_); refine goesL_ (some 123) rfl rfl Tryd.func8 (by kernel_rfl) rfl #[.string t267] rfl ar_ ?_; (with_reducible refine (impl_ReadVar.calls kj34 t267 t268 t269 _ A47.out).mono ?_); rintro e w' ⟨rfl, ⟨nd, rfl⟩⟩; refine ⟨_, rfl, ?_⟩))
                go_ret
                exact ⟨re_, hb_ HB⟩
               ·rw [if_neg c50] at H
                have c50b0 : (t269 == 0) = false := beq_eq_false_iff_ne.mpr c50
                have c50b1 : (t269 != 0) = true := bne_iff_ne.mpr c50
                by_cases c54 : t269 > 0
                ·rw [if_pos c54] at H
                 have c54b0 : decide (0 < t269) = true := decide_eq_true c54
                 clear c54
                 replace H := Option.bind_eq_some_iff.mp H
                 obtain ⟨t270, A550, H⟩ := H
                 replace H : (if t269 ≤ (t270.size : Int) then ((impl_Var.f kj34 t268).bind fun t271 => ((spec_DrawReadVar.f kj34 l0).bind fun t272 => (if 0 ≤ t269 then (if t269 ≤ (t272.size : Int) then (some (t271.toList == (t272.extract 0 (t269 : Int).toNat).toList)) else (none)) else (none)))) else (some false)) = some r := H
                 have A55 := Aside0.mk A550
                 clear A550
                 by_cases c56 : t269 ≤ (t270.size : Int)
                 ·rw [if_pos c56] at H
                  have c56b0 : decide (t269 ≤ (t270.size : Int)) = true := decide_eq_true c56
                  clear c56
                  replace H := Option.bind_eq_some_iff.mp H
                  obtain ⟨t271, A570, H⟩ := H
                  replace H : ((spec_DrawReadVar.f kj34 l0).bind fun t272 => (if 0 ≤ t269 then (if t269 ≤ (t272.size : Int) then (some (t271.toList == (t272.extract 0 (t269 : Int).toNat).toList)) else (none)) else (none))) = some r := H
                  have A57 := Aside0.mk A570
                  clear A570
                  replace H := Option.bind_eq_some_iff.mp H
                  obtain ⟨t272, A580, H⟩ := H
                  replace H : (if 0 ≤ t269 then (if t269 ≤ (t272.size : Int) then (some (t271.toList == (t272.extract 0 (t269 : Int).toNat).toList)) else (none)) else (none)) = some r := H
                  have A58 := Aside0.mk A580
                  clear A580
                  by_cases c59 : 0 ≤ t269
                  ·rw [if_pos c59] at H
                   have c59b0 := eq_true c59
                   have c59b1 : decide (0 ≤ t269) = true := decide_eq_true c59
                   clear c59
                   by_cases c60 : t269 ≤ (t272.size : Int)
                   ·rw [if_pos c60] at H
                    have c60b0 := eq_true c60
                    have c60b1 : decide (t269 ≤ (t272.size : Int)) = true := decide_eq_true c60
                    clear c60
                    obtain rfl := Option.some.inj H
                    have c56b9 := eq_true (of_decide_eq_true c56b0)
                    have E_ := Aside0.mk (Option.some.inj (A55.out.symm.trans A58.out))
                    go_wp2_with (first | ((with_reducible refine gate_callee (f := 14) rfl ?_); refine goesL_ (some 116) rfl rfl Tryd.func14 (by kernel_rfl) rfl #[.string t254] rfl ar_ ?_; (with_reducible refine (impl_Hex.calls kj34 t254 t264 _ A44.out).mono ?_); rintro e w61 ⟨rfl, hb⟩; refine ⟨_, rfl, ?_⟩; replace HB := bs_ HB hb; (try clear hb); (try clear hb2); (try clear hk); (try clear hi)) | ((with_reducible refine gate_callee (f := 13) rfl ?_); refine goesL_ (some 117) rfl rfl Tryd.func13 (by kernel_rfl) rfl #[.string t264] rfl ar_ ?_; (with_reducible refine (impl_Unhex.calls kj34 t264 t265 true _ A45.out).mono ?_); rintro e w62 ⟨rfl, hb⟩; refine ⟨_, rfl, ?_⟩; replace HB := bs_ HB hb; (try clear hb); (try clear hb2); (try clear hk); (try clear hi)) | ((with_reducible refine gate_callee (f := 15) rfl ?_); refine goesL_ (some 122) rfl rfl Tryd.func15 (by kernel_rfl) rfl #[.slice A0 l0.length c0] rfl ar_ ?_; (with_reducible refine (spec_DrawReadVar.calls kj34 _ _ l0 t267 _ ?side1 ?side2 A46.out).mono ?_); (case side1 => repeat (first | exact (Kd.C_below HR0.out HB.out) | (with_reducible refine Kd.C_alloc ?_ _) | (with_reducible refine Kd.C_drewN ?_ _) | (with_reducible refine Kd.C_drew ?_))); (case side2 => exact HC0.out); rintro e w63 ⟨rfl, hb⟩; refine ⟨_, rfl, ?_⟩; replace HB := bs_ HB hb; (try clear hb); (try clear hb2); (try clear hk); (try clear hi)) | ((with_reducible refine gate_callee (f := 8) rfl ?_); refine goesL_ (some 123) rfl rfl Tryd.func8 (by kernel_rfl) rfl #[.string t267] rfl ar_ ?_; (with_reducible refine (impl_ReadVar.calls kj34 t267 t268 t269 _ A47.out).mono ?_); rintro e w' ⟨rfl, ⟨nd, rfl⟩⟩; refine ⟨_, rfl, ?_⟩) | (go_at_call 15; (with_reducible refine (spec_DrawReadVar.calls kj34 _ _ l0 t270 _ ?side1 ?side2 A55.out).mono ?_); (case side1 => repeat (first | exact (Kd.C_below HR0.out (hb_ HB)) | (with_reducible refine Kd.C_alloc ?_ _) | (with_reducible refine Kd.C_drewN ?_ _) | (with_reducible refine Kd.C_drew ?_))); (case side2 => exact HC0.out); rintro e w64 ⟨rfl, hb⟩; replace HB := bs_ HB hb; (try clear hb); (try clear hb2); (try clear hk); (try clear hi)) | (go_at_call 7; (with_reducible refine (impl_Var.calls kj34 t268 t271 _ A57.out).mono ?_); rintro e w65 ⟨rfl, hb⟩; replace HB := bs_ HB hb; (try clear hb); (try clear hb2); (try clear hk); (try clear hi)) | (go_at_call 15; (with_reducible refine (spec_DrawReadVar.calls kj34 _ _ l0 t272 _ ?side1 ?side2 A58.out).mono ?_); (case side1 => repeat (first | exact (Kd.C_below HR0.out HB.out) | (with_reducible refine Kd.C_alloc ?_ _) | (with_reducible refine Kd.C_drewN ?_ _) | (with_reducible refine Kd.C_drew ?_))); (case side2 => exact HC0.out); rintro e w66 ⟨rfl, hb⟩; replace HB := bs_ HB hb; (try clear hb); (try clear hb2); (try clear hk); (try clear hi)))
                    go_ret
                    have E2_ := E_.out
                    clear E_
                    subst E2_
                    exact ⟨re_, hb_ HB⟩
                   ·rw [if_neg c60] at H
                    exact absurd H (by simp)
                  ·rw [if_neg c59] at H
                   exact absurd H (by simp)
                 ·rw [if_neg c56] at H
                  have c56b0 : decide (t269 ≤ (t270.size : Int)) = false := decide_eq_false c56
                  clear c56
                  exact absurd ((Option.some.inj H).trans HRT.out) (by decide)
                ·rw [if_neg c54] at H
                 have c54b0 : decide (0 < t269) = false := decide_eq_false c54
                 clear c54
                 exact absurd ((Option.some.inj H).trans HRT.out) (by decide)
              ·rw [if_neg c49] at H
               have c49b0 : (t265.toList == t254.toList) = false := beq_eq_false_iff_ne.mpr c49
               have c49b1 : (t265.toList != t254.toList) = true := bne_iff_ne.mpr c49
               exact absurd ((Option.some.inj H).trans HRT.out) (by decide)
             ·replace c48 := Bool.eq_false_iff.mpr c48
              subst c48
              have H1 : (some false) = some r := by rw [if_neg (show ¬ (false = true) by decide)] at H; exact H
              clear H
              have H := H1
              clear H1
              exact absurd ((Option.some.inj H).trans HRT.out) (by decide)
      ·rw [if_neg c22] at H
       exact absurd H (by simp)
  ·rw [if_neg c7] at H
   exact absurd H (by simp)

/-- THE ONE PURE STATEMENT of laws_FnNumbers: yours. -/
def laws_FnNumbers.Pure : Prop := ∀ (l0 : List Int), l0.length ≤ maxLen → l0.length * 1 ≤ 140737488351232 → (∀ x ∈ l0, (Lit.int .u8 x).wf = true) → ∃ k, laws_FnNumbers.f k l0 = some true
theorem laws_FnNumbers.walk (P : laws_FnNumbers.Pure) (a0 : Option Addr) (len0 cap0 : Nat) (z0 : List Int) (w : World) (HTab : Tabs w) (w0 : (a0 = none ∧ len0 = 0 ∧ cap0 = 0 ∧ z0 = []) ∨ ∃ x, a0 = some x ∧ len0 ≤ cap0 ∧ cap0 ≤ maxLen ∧ z0.length = cap0 ∧ (∀ i, i < z0.length → w.cell? (x.add i) = some (.int .u8 (z0.getD i 0))) ∧ ∀ n ∈ z0, (Lit.int .u8 n).wf = true) (y0 : len0 * 1 ≤ 140737488351232) :
  Calls Tryd.prog 3 #[.slice a0 len0 cap0] w fun e w' => e = .returned (.bool true) ∧ Below w.heap.size w w' := by
 obtain ⟨l0, rfl, hr0, hm0, hw0, hc0⟩ := ReadsInt.ofRowC w0
 obtain ⟨k, h⟩ := P l0 hm0 y0 hw0
 refine (laws_FnNumbers.calls k _ _ l0 true w HTab (Kd.C_of_reads (d := (0 : Int)) (h1 := fun _ => rfl) hr0) hc0 rfl h).mono ?_
 rintro e w' ⟨rfl, hd⟩
 exact ⟨rfl, hd⟩

end Go.Proofs.YtnmileaeadhiaaaDoor.PFnNumbers
