-- Laid by a program of this session, a copy of the kit's printer with additions (wip/patch_print.py): myhead. Lean checks it.
import Derived.Test.YtigbekefjbfopaaPFnPowerx0
import Derived.Test.YtigbekefjbfopaaPFnPowerx4
import Derived.Test.YtigbekefjbfopaaPFnPowerx6
import Derived.Test.YtigbekefjbfopaaPFnPowerx13
import Derived.Test.YtigbekefjbfopaaPFnPowerx14
namespace Go.Proofs.Ytigbekefjbfopaa.PFnPower
open Go.RowKit Go.Proofs.YtigbekefjbfopaaW.PrintWords Go.Proofs.YtigbekefjbfopaaW.PrintLast Go.Proofs.YtigbekefjbfopaaW.PrintMore
attribute [local go_sem] max2_int min2_int max_two min_two max_three min_three max_four min_four   -- for this text's walks alone
set_option linter.unusedVariables false
set_option linter.unusedSimpArgs false

/-! ### laws_FnPower: function 4 -/
mutual
def laws_FnPower.j0 : Nat → List Int → Bool → List (S45) → Int → Int → Bool → List (S45) → Int → Int → Bool → Option (Bool)
 | 0, _, _, _, _, _, _, _, _, _, _ => none
 | k + 1, x4, x55, x500000, x500001, x500002, x500003, x507000, x507001, x507002, x507003 => if x55 = true then (some false) else (laws_FnPower.l0 k x4 0 x500000 x500001 x500002 x500003 x507000 x507001 x507002 x507003)
def laws_FnPower.l0 : Nat → List Int → Int → List (S45) → Int → Int → Bool → List (S45) → Int → Int → Bool → Option (Bool)
 | 0, _, _, _, _, _, _, _, _, _, _ => none
 | k + 1, x4, x6, x500000, x500001, x500002, x500003, x507000, x507001, x507002, x507003 => if x6 < (x507000.length : Int) then (if 0 ≤ x6 then (if x6 < (x500000.length : Int) then (if ((rd_T45 x500000 x6).f0).toList = ((rd_T45 x507000 x6).f0).toList then (if (((rd_T45 x507000 x6).f1).size : Int) < ((rd_T45 x500000 x6).f2) then (laws_FnPower.j2 k x4 x6 true x500000 x500001 x500002 x500003 x507000 x507001 x507002 x507003) else ((laws_begins.f ((rd_T45 x507000 x6).f1) ((rd_T45 x500000 x6).f1)).bind fun t516 => (laws_FnPower.j2 k x4 x6 (!t516) x500000 x500001 x500002 x500003 x507000 x507001 x507002 x507003))) else (laws_FnPower.j2 k x4 x6 true x500000 x500001 x500002 x500003 x507000 x507001 x507002 x507003)) else (none)) else (none)) else ((impl_Power.f k x507000 x507001 x507002 x507003 x4).bind fun bt517 => ((spec_SameDisk.f k bt517.1 bt517.2.1 bt517.2.2.1 bt517.2.2.2 x507000 x507001 x507002 x507003).bind fun t523 => (if t523 = true then ((impl_Used.f k x507000 x507001 x507002 x507003).bind fun t524 => ((impl_Used.f k x500000 x500001 x500002 x500003).bind fun t525 => (if t524 ≤ t525 then ((impl_Used.f k x500000 x500001 x500002 x500003).bind fun t526 => ((impl_Used.f k x507000 x507001 x507002 x507003).bind fun t527 => ((impl_Volatile.f k x500000 x500001 x500002 x500003).bind fun t528 => (some (decide ((wrap64 (t526 - t527)) ≤ t528)))))) else (some false)))) else (some false))))
def laws_FnPower.j2 : Nat → List Int → Int → Bool → List (S45) → Int → Int → Bool → List (S45) → Int → Int → Bool → Option (Bool)
 | 0, _, _, _, _, _, _, _, _, _, _, _ => none
 | k + 1, x4, x6, x93, x500000, x500001, x500002, x500003, x507000, x507001, x507002, x507003 => if x93 = true then (some false) else (laws_FnPower.l0 k x4 (wrap64 (x6 + 1)) x500000 x500001 x500002 x500003 x507000 x507001 x507002 x507003)
end
def laws_FnPower.f (k : Nat) (l0 : List Int) : Option (Bool) := (laws_big.f l0).bind fun t489 => (if t489 = true then (some true) else ((spec_DrawPower.f k l0).bind fun bt490 => ((impl_Power.f k bt490.1 bt490.2.1 bt490.2.2.1 bt490.2.2.2.1 bt490.2.2.2.2).bind fun bt500 => ((spec_DiskOk.f k bt490.1 bt490.2.1 bt490.2.2.1 bt490.2.2.2.1).bind fun t507 => (if t507 = true then (if (bt500.1.length : Int) = (bt490.1.length : Int) then ((spec_DiskOk.f k bt500.1 bt500.2.1 bt500.2.2.1 bt500.2.2.2).bind fun t509 => (if t509 = true then ((impl_Volatile.f k bt500.1 bt500.2.1 bt500.2.2.1 bt500.2.2.2).bind fun t510 => (if t510 = 0 then ((impl_Settled.f k bt500.1 bt500.2.1 bt500.2.2.1 bt500.2.2.2).bind fun t511 => (if t511 = true then (if bt500.2.2.2 = true then (laws_FnPower.j0 k bt490.2.2.2.2 true bt490.1 bt490.2.1 bt490.2.2.1 bt490.2.2.2.1 bt500.1 bt500.2.1 bt500.2.2.1 bt500.2.2.2) else (laws_FnPower.j0 k bt490.2.2.2.2 (bt500.2.2.1 != (-1)) bt490.1 bt490.2.1 bt490.2.2.1 bt490.2.2.2.1 bt500.1 bt500.2.1 bt500.2.2.1 bt500.2.2.2)) else (laws_FnPower.j0 k bt490.2.2.2.2 true bt490.1 bt490.2.1 bt490.2.2.1 bt490.2.2.2.1 bt500.1 bt500.2.1 bt500.2.2.1 bt500.2.2.2))) else (laws_FnPower.j0 k bt490.2.2.2.2 true bt490.1 bt490.2.1 bt490.2.2.1 bt490.2.2.2.1 bt500.1 bt500.2.1 bt500.2.2.1 bt500.2.2.2))) else (laws_FnPower.j0 k bt490.2.2.2.2 true bt490.1 bt490.2.1 bt490.2.2.1 bt490.2.2.2.1 bt500.1 bt500.2.1 bt500.2.2.1 bt500.2.2.2))) else (laws_FnPower.j0 k bt490.2.2.2.2 true bt490.1 bt490.2.1 bt490.2.2.1 bt490.2.2.2.1 bt500.1 bt500.2.1 bt500.2.2.1 bt500.2.2.2)) else ((spec_SameDisk.f k bt500.1 bt500.2.1 bt500.2.2.1 bt500.2.2.2 bt490.1 bt490.2.1 bt490.2.2.1 bt490.2.2.2.1).bind fun t508 => (some t508)))))))
theorem laws_FnPower.mono_l : ∀ k, (∀ y0 y1 y2 y3 y4 y5 y6 y7 y8 y9, LeO (laws_FnPower.j0 k y0 y1 y2 y3 y4 y5 y6 y7 y8 y9) (laws_FnPower.j0 (k + 1) y0 y1 y2 y3 y4 y5 y6 y7 y8 y9)) ∧ (∀ y0 y1 y2 y3 y4 y5 y6 y7 y8 y9, LeO (laws_FnPower.l0 k y0 y1 y2 y3 y4 y5 y6 y7 y8 y9) (laws_FnPower.l0 (k + 1) y0 y1 y2 y3 y4 y5 y6 y7 y8 y9)) ∧ (∀ y0 y1 y2 y3 y4 y5 y6 y7 y8 y9 y10, LeO (laws_FnPower.j2 k y0 y1 y2 y3 y4 y5 y6 y7 y8 y9 y10) (laws_FnPower.j2 (k + 1) y0 y1 y2 y3 y4 y5 y6 y7 y8 y9 y10))
 | 0 => ⟨fun _ _ _ _ _ _ _ _ _ _ r h => by simp [laws_FnPower.j0] at h, fun _ _ _ _ _ _ _ _ _ _ r h => by simp [laws_FnPower.l0] at h, fun _ _ _ _ _ _ _ _ _ _ _ r h => by simp [laws_FnPower.j2] at h⟩
 | k + 1 => by
  obtain ⟨ih0, ih1, ih2⟩ := laws_FnPower.mono_l k
  refine ⟨?_, ?_, ?_⟩
  ·intro y0 y1 y2 y3 y4 y5 y6 y7 y8 y9
   unfold laws_FnPower.j0
   repeat' first | (with_reducible first | exact ih0 .. | exact ih1 .. | exact ih2 .. | exact impl_Power.mono .. | exact impl_Settled.mono .. | exact impl_Used.mono .. | exact impl_Volatile.mono .. | exact spec_DiskOk.mono .. | exact spec_DrawPower.mono .. | exact spec_SameDisk.mono .. | exact LeO.refl .. | exact LeO.none .. | refine LeO.ite ?_ ?_ | refine LeO.bind ?_ (fun _ => ?_)) | exact ih0 .. | exact ih1 .. | exact ih2 .. | exact impl_Power.mono .. | exact impl_Settled.mono .. | exact impl_Used.mono .. | exact impl_Volatile.mono .. | exact spec_DiskOk.mono .. | exact spec_DrawPower.mono .. | exact spec_SameDisk.mono .. | exact LeO.none .. | refine LeO.ite ?_ ?_ | refine LeO.bind ?_ (fun _ => ?_)
  ·intro y0 y1 y2 y3 y4 y5 y6 y7 y8 y9
   unfold laws_FnPower.l0
   repeat' first | (with_reducible first | exact ih0 .. | exact ih1 .. | exact ih2 .. | exact impl_Power.mono .. | exact impl_Settled.mono .. | exact impl_Used.mono .. | exact impl_Volatile.mono .. | exact spec_DiskOk.mono .. | exact spec_DrawPower.mono .. | exact spec_SameDisk.mono .. | exact LeO.refl .. | exact LeO.none .. | refine LeO.ite ?_ ?_ | refine LeO.bind ?_ (fun _ => ?_)) | exact ih0 .. | exact ih1 .. | exact ih2 .. | exact impl_Power.mono .. | exact impl_Settled.mono .. | exact impl_Used.mono .. | exact impl_Volatile.mono .. | exact spec_DiskOk.mono .. | exact spec_DrawPower.mono .. | exact spec_SameDisk.mono .. | exact LeO.none .. | refine LeO.ite ?_ ?_ | refine LeO.bind ?_ (fun _ => ?_)
  ·intro y0 y1 y2 y3 y4 y5 y6 y7 y8 y9 y10
   unfold laws_FnPower.j2
   repeat' first | (with_reducible first | exact ih0 .. | exact ih1 .. | exact ih2 .. | exact impl_Power.mono .. | exact impl_Settled.mono .. | exact impl_Used.mono .. | exact impl_Volatile.mono .. | exact spec_DiskOk.mono .. | exact spec_DrawPower.mono .. | exact spec_SameDisk.mono .. | exact LeO.refl .. | exact LeO.none .. | refine LeO.ite ?_ ?_ | refine LeO.bind ?_ (fun _ => ?_)) | exact ih0 .. | exact ih1 .. | exact ih2 .. | exact impl_Power.mono .. | exact impl_Settled.mono .. | exact impl_Used.mono .. | exact impl_Volatile.mono .. | exact spec_DiskOk.mono .. | exact spec_DrawPower.mono .. | exact spec_SameDisk.mono .. | exact LeO.none .. | refine LeO.ite ?_ ?_ | refine LeO.bind ?_ (fun _ => ?_)
theorem laws_FnPower.mono : ∀ a0 k, LeO (laws_FnPower.f k a0) (laws_FnPower.f (k + 1) a0) := by
 intro a0 k
 obtain ⟨ih0, ih1, ih2⟩ := laws_FnPower.mono_l k
 unfold laws_FnPower.f
 repeat' first | (with_reducible first | exact ih0 .. | exact ih1 .. | exact ih2 .. | exact impl_Power.mono .. | exact impl_Settled.mono .. | exact impl_Used.mono .. | exact impl_Volatile.mono .. | exact spec_DiskOk.mono .. | exact spec_DrawPower.mono .. | exact spec_SameDisk.mono .. | exact LeO.refl .. | exact LeO.none .. | refine LeO.ite ?_ ?_ | refine LeO.bind ?_ (fun _ => ?_)) | exact ih0 .. | exact ih1 .. | exact ih2 .. | exact impl_Power.mono .. | exact impl_Settled.mono .. | exact impl_Used.mono .. | exact impl_Volatile.mono .. | exact spec_DiskOk.mono .. | exact spec_DrawPower.mono .. | exact spec_SameDisk.mono .. | exact LeO.none .. | refine LeO.ite ?_ ?_ | refine LeO.bind ?_ (fun _ => ?_)
def laws_FnPower.T16 : Bool × List (List Nat × List Nat) := (true, [([], []), ([], []), ([0, 1], [0, 1]), ([], []), ([2, 3, 2], [2, 3]), ([4, 4], [4]), ([5], [5]), ([6, 5, 5], [5, 6]), ([5], [5]), ([8, 7, 5], [5, 8]), ([7, 9, 5], [5, 7, 9]), ([5, 10], [5, 10]), ([11, 9], [11]), ([12], [12]), ([13, 12, 12], [12, 13]), ([12], [12]), ([15, 14, 12], [12, 15]), ([14, 16, 12], [12, 14, 16]), ([12], [12]), ([18, 16, 12], [12, 18]), ([17, 19, 12], [12, 17, 19]), ([12, 20], [12, 20]), ([21, 19, 0, 1, 2, 3, 4, 5, 6, 7, 8, 9, 10, 11, 12, 13, 14, 15, 16, 17, 18, 19, 20, 21], [21])])
def laws_FnPower.B16 : List Nat := [0, 0, 3, 0, 15, 31, 63, 127, 63, 511, 1023, 2047, 4095, 8191, 16383, 8191, 65535, 131071, 8191, 393215, 1048575, 2097151, 4194303]
theorem laws_FnPower.tab16 : rtab .any (opsOf Try.f4 16) = laws_FnPower.T16 := by kernel_rfl
theorem laws_FnPower.bits16 : waitsOk laws_FnPower.T16.2 laws_FnPower.B16 = true := by kernel_rfl
set_option maxHeartbeats 80000000 in
set_option maxRecDepth 100000 in
theorem laws_FnPower.calls (k : Nat) (A0 : Option Addr) (c0 : Nat) (l0 : List Int) (r : Bool) (w : World) (hr0 : Kd.C (Kd.int .u8) w A0 l0.length l0) (hc0 : l0.length ≤ c0) (hrt : r = true) (h : laws_FnPower.f k l0 = some r) :
  Calls Try.prog 4 #[.slice A0 l0.length c0] w fun e w' => e = .returned (.bool r) ∧ Below w.heap.size w w' := by
 have hu29 := Try.underlying29
 have hu45 := Try.underlying45
 have HRT := Aside0.mk hrt
 clear hrt
 have HR0 := Aside0.mk hr0
 have HC0 := Aside0.mk hc0
 clear hr0 hc0
 have HB := Aside0.mk (Below.refl w.heap.size w)
 have H : ((laws_big.f l0).bind fun t489 => (if t489 = true then (some true) else ((spec_DrawPower.f k l0).bind fun bt490 => ((impl_Power.f k bt490.1 bt490.2.1 bt490.2.2.1 bt490.2.2.2.1 bt490.2.2.2.2).bind fun bt500 => ((spec_DiskOk.f k bt490.1 bt490.2.1 bt490.2.2.1 bt490.2.2.2.1).bind fun t507 => (if t507 = true then (if (bt500.1.length : Int) = (bt490.1.length : Int) then ((spec_DiskOk.f k bt500.1 bt500.2.1 bt500.2.2.1 bt500.2.2.2).bind fun t509 => (if t509 = true then ((impl_Volatile.f k bt500.1 bt500.2.1 bt500.2.2.1 bt500.2.2.2).bind fun t510 => (if t510 = 0 then ((impl_Settled.f k bt500.1 bt500.2.1 bt500.2.2.1 bt500.2.2.2).bind fun t511 => (if t511 = true then (if bt500.2.2.2 = true then (laws_FnPower.j0 k bt490.2.2.2.2 true bt490.1 bt490.2.1 bt490.2.2.1 bt490.2.2.2.1 bt500.1 bt500.2.1 bt500.2.2.1 bt500.2.2.2) else (laws_FnPower.j0 k bt490.2.2.2.2 (bt500.2.2.1 != (-1)) bt490.1 bt490.2.1 bt490.2.2.1 bt490.2.2.2.1 bt500.1 bt500.2.1 bt500.2.2.1 bt500.2.2.2)) else (laws_FnPower.j0 k bt490.2.2.2.2 true bt490.1 bt490.2.1 bt490.2.2.1 bt490.2.2.2.1 bt500.1 bt500.2.1 bt500.2.2.1 bt500.2.2.2))) else (laws_FnPower.j0 k bt490.2.2.2.2 true bt490.1 bt490.2.1 bt490.2.2.1 bt490.2.2.2.1 bt500.1 bt500.2.1 bt500.2.2.1 bt500.2.2.2))) else (laws_FnPower.j0 k bt490.2.2.2.2 true bt490.1 bt490.2.1 bt490.2.2.1 bt490.2.2.2.1 bt500.1 bt500.2.1 bt500.2.2.1 bt500.2.2.2))) else (laws_FnPower.j0 k bt490.2.2.2.2 true bt490.1 bt490.2.1 bt490.2.2.1 bt490.2.2.2.1 bt500.1 bt500.2.1 bt500.2.2.1 bt500.2.2.2)) else ((spec_SameDisk.f k bt500.1 bt500.2.1 bt500.2.2.1 bt500.2.2.2 bt490.1 bt490.2.1 bt490.2.2.1 bt490.2.2.2.1).bind fun t508 => (some t508)))))))) = some r := h
 clear h
 replace H := Option.bind_eq_some_iff.mp H
 obtain ⟨t489, A20, H⟩ := H
 replace H : (if t489 = true then (some true) else ((spec_DrawPower.f k l0).bind fun bt490 => ((impl_Power.f k bt490.1 bt490.2.1 bt490.2.2.1 bt490.2.2.2.1 bt490.2.2.2.2).bind fun bt500 => ((spec_DiskOk.f k bt490.1 bt490.2.1 bt490.2.2.1 bt490.2.2.2.1).bind fun t507 => (if t507 = true then (if (bt500.1.length : Int) = (bt490.1.length : Int) then ((spec_DiskOk.f k bt500.1 bt500.2.1 bt500.2.2.1 bt500.2.2.2).bind fun t509 => (if t509 = true then ((impl_Volatile.f k bt500.1 bt500.2.1 bt500.2.2.1 bt500.2.2.2).bind fun t510 => (if t510 = 0 then ((impl_Settled.f k bt500.1 bt500.2.1 bt500.2.2.1 bt500.2.2.2).bind fun t511 => (if t511 = true then (if bt500.2.2.2 = true then (laws_FnPower.j0 k bt490.2.2.2.2 true bt490.1 bt490.2.1 bt490.2.2.1 bt490.2.2.2.1 bt500.1 bt500.2.1 bt500.2.2.1 bt500.2.2.2) else (laws_FnPower.j0 k bt490.2.2.2.2 (bt500.2.2.1 != (-1)) bt490.1 bt490.2.1 bt490.2.2.1 bt490.2.2.2.1 bt500.1 bt500.2.1 bt500.2.2.1 bt500.2.2.2)) else (laws_FnPower.j0 k bt490.2.2.2.2 true bt490.1 bt490.2.1 bt490.2.2.1 bt490.2.2.2.1 bt500.1 bt500.2.1 bt500.2.2.1 bt500.2.2.2))) else (laws_FnPower.j0 k bt490.2.2.2.2 true bt490.1 bt490.2.1 bt490.2.2.1 bt490.2.2.2.1 bt500.1 bt500.2.1 bt500.2.2.1 bt500.2.2.2))) else (laws_FnPower.j0 k bt490.2.2.2.2 true bt490.1 bt490.2.1 bt490.2.2.1 bt490.2.2.2.1 bt500.1 bt500.2.1 bt500.2.2.1 bt500.2.2.2))) else (laws_FnPower.j0 k bt490.2.2.2.2 true bt490.1 bt490.2.1 bt490.2.2.1 bt490.2.2.2.1 bt500.1 bt500.2.1 bt500.2.2.1 bt500.2.2.2)) else ((spec_SameDisk.f k bt500.1 bt500.2.1 bt500.2.2.1 bt500.2.2.2 bt490.1 bt490.2.1 bt490.2.2.1 bt490.2.2.2.1).bind fun t508 => (some t508))))))) = some r := H
 have A2 := Aside0.mk A20
 clear A20
 by_cases c3 : t489 = true
 ·subst c3
  have H1 : (some true) = some r := by rw [if_pos rfl] at H; exact H
  clear H
  have H := H1
  clear H1
  obtain rfl := Option.some.inj H
  go_enter Try.func4, Try.ntmps4
  go_wp2_with (first | ((with_reducible refine gate_callee (f := 16) rfl ?_); refine goesL_ (some 10) rfl rfl Try.func16 (by kernel_rfl) rfl #[.slice A0 l0.length c0] rfl ar_ ?_; (with_reducible refine (laws_big.calls _ _ l0 true _ ?side1 ?side2 A2.out).mono ?_); (case side1 => repeat (first | exact HR0.out | (with_reducible refine Kd.C_alloc ?_ _) | (with_reducible refine Kd.C_drewN ?_ _) | (with_reducible refine Kd.C_drew ?_))); (case side2 => exact HC0.out); rintro e w' ⟨rfl, ⟨nd, rfl⟩⟩; refine ⟨_, rfl, ?_⟩))
  go_ret
  exact ⟨re_, hb_ HB⟩
 ·replace c3 := Bool.eq_false_iff.mpr c3
  subst c3
  have H1 : ((spec_DrawPower.f k l0).bind fun bt490 => ((impl_Power.f k bt490.1 bt490.2.1 bt490.2.2.1 bt490.2.2.2.1 bt490.2.2.2.2).bind fun bt500 => ((spec_DiskOk.f k bt490.1 bt490.2.1 bt490.2.2.1 bt490.2.2.2.1).bind fun t507 => (if t507 = true then (if (bt500.1.length : Int) = (bt490.1.length : Int) then ((spec_DiskOk.f k bt500.1 bt500.2.1 bt500.2.2.1 bt500.2.2.2).bind fun t509 => (if t509 = true then ((impl_Volatile.f k bt500.1 bt500.2.1 bt500.2.2.1 bt500.2.2.2).bind fun t510 => (if t510 = 0 then ((impl_Settled.f k bt500.1 bt500.2.1 bt500.2.2.1 bt500.2.2.2).bind fun t511 => (if t511 = true then (if bt500.2.2.2 = true then (laws_FnPower.j0 k bt490.2.2.2.2 true bt490.1 bt490.2.1 bt490.2.2.1 bt490.2.2.2.1 bt500.1 bt500.2.1 bt500.2.2.1 bt500.2.2.2) else (laws_FnPower.j0 k bt490.2.2.2.2 (bt500.2.2.1 != (-1)) bt490.1 bt490.2.1 bt490.2.2.1 bt490.2.2.2.1 bt500.1 bt500.2.1 bt500.2.2.1 bt500.2.2.2)) else (laws_FnPower.j0 k bt490.2.2.2.2 true bt490.1 bt490.2.1 bt490.2.2.1 bt490.2.2.2.1 bt500.1 bt500.2.1 bt500.2.2.1 bt500.2.2.2))) else (laws_FnPower.j0 k bt490.2.2.2.2 true bt490.1 bt490.2.1 bt490.2.2.1 bt490.2.2.2.1 bt500.1 bt500.2.1 bt500.2.2.1 bt500.2.2.2))) else (laws_FnPower.j0 k bt490.2.2.2.2 true bt490.1 bt490.2.1 bt490.2.2.1 bt490.2.2.2.1 bt500.1 bt500.2.1 bt500.2.2.1 bt500.2.2.2))) else (laws_FnPower.j0 k bt490.2.2.2.2 true bt490.1 bt490.2.1 bt490.2.2.1 bt490.2.2.2.1 bt500.1 bt500.2.1 bt500.2.2.1 bt500.2.2.2)) else ((spec_SameDisk.f k bt500.1 bt500.2.1 bt500.2.2.1 bt500.2.2.2 bt490.1 bt490.2.1 bt490.2.2.1 bt490.2.2.2.1).bind fun t508 => (some t508)))))) = some r := by rw [if_neg (show ¬ (false = true) by decide)] at H; exact H
  clear H
  have H := H1
  clear H1
  replace H := Option.bind_eq_some_iff.mp H
  obtain ⟨⟨t490, t493, t494, t495, t496⟩, A40, H⟩ := H
  replace H : ((impl_Power.f k t490 t493 t494 t495 t496).bind fun bt500 => ((spec_DiskOk.f k t490 t493 t494 t495).bind fun t507 => (if t507 = true then (if (bt500.1.length : Int) = (t490.length : Int) then ((spec_DiskOk.f k bt500.1 bt500.2.1 bt500.2.2.1 bt500.2.2.2).bind fun t509 => (if t509 = true then ((impl_Volatile.f k bt500.1 bt500.2.1 bt500.2.2.1 bt500.2.2.2).bind fun t510 => (if t510 = 0 then ((impl_Settled.f k bt500.1 bt500.2.1 bt500.2.2.1 bt500.2.2.2).bind fun t511 => (if t511 = true then (if bt500.2.2.2 = true then (laws_FnPower.j0 k t496 true t490 t493 t494 t495 bt500.1 bt500.2.1 bt500.2.2.1 bt500.2.2.2) else (laws_FnPower.j0 k t496 (bt500.2.2.1 != (-1)) t490 t493 t494 t495 bt500.1 bt500.2.1 bt500.2.2.1 bt500.2.2.2)) else (laws_FnPower.j0 k t496 true t490 t493 t494 t495 bt500.1 bt500.2.1 bt500.2.2.1 bt500.2.2.2))) else (laws_FnPower.j0 k t496 true t490 t493 t494 t495 bt500.1 bt500.2.1 bt500.2.2.1 bt500.2.2.2))) else (laws_FnPower.j0 k t496 true t490 t493 t494 t495 bt500.1 bt500.2.1 bt500.2.2.1 bt500.2.2.2))) else (laws_FnPower.j0 k t496 true t490 t493 t494 t495 bt500.1 bt500.2.1 bt500.2.2.1 bt500.2.2.2)) else ((spec_SameDisk.f k bt500.1 bt500.2.1 bt500.2.2.1 bt500.2.2.2 t490 t493 t494 t495).bind fun t508 => (some t508))))) = some r := H
  have A4 := Aside0.mk A40
  clear A40
  replace H := Option.bind_eq_some_iff.mp H
  obtain ⟨⟨t500, t503, t504, t505⟩, A50, H⟩ := H
  replace H : ((spec_DiskOk.f k t490 t493 t494 t495).bind fun t507 => (if t507 = true then (if (t500.length : Int) = (t490.length : Int) then ((spec_DiskOk.f k t500 t503 t504 t505).bind fun t509 => (if t509 = true then ((impl_Volatile.f k t500 t503 t504 t505).bind fun t510 => (if t510 = 0 then ((impl_Settled.f k t500 t503 t504 t505).bind fun t511 => (if t511 = true then (if t505 = true then (laws_FnPower.j0 k t496 true t490 t493 t494 t495 t500 t503 t504 t505) else (laws_FnPower.j0 k t496 (t504 != (-1)) t490 t493 t494 t495 t500 t503 t504 t505)) else (laws_FnPower.j0 k t496 true t490 t493 t494 t495 t500 t503 t504 t505))) else (laws_FnPower.j0 k t496 true t490 t493 t494 t495 t500 t503 t504 t505))) else (laws_FnPower.j0 k t496 true t490 t493 t494 t495 t500 t503 t504 t505))) else (laws_FnPower.j0 k t496 true t490 t493 t494 t495 t500 t503 t504 t505)) else ((spec_SameDisk.f k t500 t503 t504 t505 t490 t493 t494 t495).bind fun t508 => (some t508)))) = some r := H
  have A5 := Aside0.mk A50
  clear A50
  replace H := Option.bind_eq_some_iff.mp H
  obtain ⟨t507, A60, H⟩ := H
  replace H : (if t507 = true then (if (t500.length : Int) = (t490.length : Int) then ((spec_DiskOk.f k t500 t503 t504 t505).bind fun t509 => (if t509 = true then ((impl_Volatile.f k t500 t503 t504 t505).bind fun t510 => (if t510 = 0 then ((impl_Settled.f k t500 t503 t504 t505).bind fun t511 => (if t511 = true then (if t505 = true then (laws_FnPower.j0 k t496 true t490 t493 t494 t495 t500 t503 t504 t505) else (laws_FnPower.j0 k t496 (t504 != (-1)) t490 t493 t494 t495 t500 t503 t504 t505)) else (laws_FnPower.j0 k t496 true t490 t493 t494 t495 t500 t503 t504 t505))) else (laws_FnPower.j0 k t496 true t490 t493 t494 t495 t500 t503 t504 t505))) else (laws_FnPower.j0 k t496 true t490 t493 t494 t495 t500 t503 t504 t505))) else (laws_FnPower.j0 k t496 true t490 t493 t494 t495 t500 t503 t504 t505)) else ((spec_SameDisk.f k t500 t503 t504 t505 t490 t493 t494 t495).bind fun t508 => (some t508))) = some r := H
  have A6 := Aside0.mk A60
  clear A60
  by_cases c7 : t507 = true
  ·subst c7
   have H1 : (if (t500.length : Int) = (t490.length : Int) then ((spec_DiskOk.f k t500 t503 t504 t505).bind fun t509 => (if t509 = true then ((impl_Volatile.f k t500 t503 t504 t505).bind fun t510 => (if t510 = 0 then ((impl_Settled.f k t500 t503 t504 t505).bind fun t511 => (if t511 = true then (if t505 = true then (laws_FnPower.j0 k t496 true t490 t493 t494 t495 t500 t503 t504 t505) else (laws_FnPower.j0 k t496 (t504 != (-1)) t490 t493 t494 t495 t500 t503 t504 t505)) else (laws_FnPower.j0 k t496 true t490 t493 t494 t495 t500 t503 t504 t505))) else (laws_FnPower.j0 k t496 true t490 t493 t494 t495 t500 t503 t504 t505))) else (laws_FnPower.j0 k t496 true t490 t493 t494 t495 t500 t503 t504 t505))) else (laws_FnPower.j0 k t496 true t490 t493 t494 t495 t500 t503 t504 t505)) = some r := by rw [if_pos rfl] at H; exact H
   clear H
   have H := H1
   clear H1
   have HC8 := Aside0.mk H
   clear H
   go_enter Try.func4, Try.ntmps4
   go_upto_region 7 with (first | ((with_reducible refine gate_callee (f := 16) rfl ?_); refine goesL_ (some 10) rfl rfl Try.func16 (by kernel_rfl) rfl #[.slice A0 l0.length c0] rfl ar_ ?_; (with_reducible refine (laws_big.calls _ _ l0 false _ ?side1 ?side2 A2.out).mono ?_); (case side1 => repeat (first | exact HR0.out | (with_reducible refine Kd.C_alloc ?_ _) | (with_reducible refine Kd.C_drewN ?_ _) | (with_reducible refine Kd.C_drew ?_))); (case side2 => exact HC0.out); rintro e w' ⟨rfl, ⟨nd, rfl⟩⟩; refine ⟨_, rfl, ?_⟩) | ((with_reducible refine gate_callee (f := 17) rfl ?_); refine goesL_ (some 13) rfl rfl Try.func17 (by kernel_rfl) rfl #[.slice A0 l0.length c0] rfl ar_ ?_; (with_reducible refine (spec_DrawPower.calls k _ _ l0 t490 t493 t494 t495 t496 _ ?side1 ?side2 A4.out).mono ?_); (case side1 => repeat (first | exact HR0.out | (with_reducible refine Kd.C_alloc ?_ _) | (with_reducible refine Kd.C_drewN ?_ _) | (with_reducible refine Kd.C_drew ?_))); (case side2 => exact HC0.out); rintro e w9 ⟨v491, v497, rfl, ho0, ho1, hb⟩; refine ⟨_, rfl, ?_⟩; have HO492 := Aside0.mk (Kd.R_lower ho0 (below_size (hb_ HB))); have HO498 := Aside0.mk (Kd.R_lower ho1 (below_size (hb_ HB))); replace HB := bs_ HB hb; (try clear hb); (try clear hb2); (try clear hk); (try clear hi); (try clear ho0); (try clear ho1)) | ((with_reducible refine gate_dst (N := 3) rfl ?_); (try (refine gate_guard (by rfl) ?_; dsimp only)); refine box_event ?hg (N := 3) ?hd (cs := #[.slice none 0 0, .int .i64 0, .int .i64 0, .bool false]) (t := 29) ?hr ?_; (case hd => rfl); (case hg => rfl); (case hr => first | (go_simp; done) | (go_simp; rfl)); intro gb499 hg w10 hbox hb; replace HO492 := rb_ HO492 hb; replace HO498 := rb_ HO498 hb; have BK499 := Aside0.mk (hbox); have GW499 := ge_ hg (hb_ HB); have GE499 := ge_ hg (hb_ HB); replace HB := bs_ HB hb; clear hb hbox hg; obtain ⟨Ao11, co11, eo11⟩ := Kd.R_slice HO492.out; subst eo11; obtain ⟨hcz12_0, hcz12_1, hcz12_2, hcz12_3, hfz12_0, hfz12_1, hfz12_2, hfz12_3⟩ := bc4_ BK499; obtain ⟨Ao13, co13, eo13⟩ := Kd.R_slice HO498.out; subst eo13) | ((with_reducible refine gate_callee (f := 10) rfl ?_); refine goesL_ (some 18) rfl rfl Try.func10 (by kernel_rfl) rfl #[.agg #[.slice Ao11 t490.length co11, .int .i64 t493, .int .i64 t494, .bool t495], .slice Ao13 t496.length co13] rfl ar_ ?_; (with_reducible refine (impl_Power.calls k _ _ t490 t493 t494 t495 _ _ t496 t500 t503 t504 t505 _ ?side1 ?side2 ?side3 ?side4 A5.out).mono ?_); (case side1 => refine (Kd.R_reads' (e := 45) (base := w.heap.size) (ok := fun k_ => True) (n := t490.length) (c := co11) ?_).2.2; exact (by (with_reducible repeat (first | apply Kd.R_alloc | apply Kd.R_drewN | apply Kd.R_drew)); exact (Kd.R_mono (Kd.R_far (p := ⟨gb499, 3, none⟩) (Kd.R_far (p := ⟨gb499, 2, none⟩) (Kd.R_far (p := ⟨gb499, 1, none⟩) (Kd.R_far (p := ⟨gb499, 0, none⟩) (Kd.R_types HO492.out BK499.out (by decide)) (fun _ hk => hk.2) (.slice Ao11 t490.length co11)) (fun _ hk => hk.2) (.int .i64 t493)) (fun _ hk => hk.2) (.int .i64 t494)) (fun _ hk => hk.2) (.bool t495)) (fun _ h_ => h_.1)))); (case side2 => exact (Kd.R_reads' HO492.out).2.1); (case side3 => refine (Kd.R_reads' (e := 3) (base := w.heap.size) (ok := fun k_ => True) (n := t496.length) (c := co13) ?_).2.2; exact (by (with_reducible repeat (first | apply Kd.R_alloc | apply Kd.R_drewN | apply Kd.R_drew)); exact (Kd.R_mono (Kd.R_far (p := ⟨gb499, 3, none⟩) (Kd.R_far (p := ⟨gb499, 2, none⟩) (Kd.R_far (p := ⟨gb499, 1, none⟩) (Kd.R_far (p := ⟨gb499, 0, none⟩) (Kd.R_types HO498.out BK499.out (by decide)) (fun _ hk => hk.2) (.slice Ao11 t490.length co11)) (fun _ hk => hk.2) (.int .i64 t493)) (fun _ hk => hk.2) (.int .i64 t494)) (fun _ hk => hk.2) (.bool t495)) (fun _ h_ => h_.1)))); (case side4 => exact (Kd.R_reads' HO498.out).2.1); rintro e w14 ⟨v501, rfl, ho0, hb⟩; refine ⟨_, rfl, ?_⟩; replace HO498 := rfb_ HO498 BK499 hb; have HO502 := Aside0.mk (Kd.R_lower (Kd.R_new' ho0 (Kd.R_lt (by (with_reducible repeat (first | apply Kd.R_alloc | apply Kd.R_drewN | apply Kd.R_drew)); exact (Kd.R_mono (Kd.R_far (p := ⟨gb499, 3, none⟩) (Kd.R_far (p := ⟨gb499, 2, none⟩) (Kd.R_far (p := ⟨gb499, 1, none⟩) (Kd.R_far (p := ⟨gb499, 0, none⟩) (Kd.R_types HO492.out BK499.out (by decide)) (fun _ hk => hk.2) (.slice Ao11 t490.length co11)) (fun _ hk => hk.2) (.int .i64 t493)) (fun _ hk => hk.2) (.int .i64 t494)) (fun _ hk => hk.2) (.bool t495)) (fun _ h_ => h_.1))))) (below_size (hs_ HB GE499))); replace HO492 := Aside0.mk (Kd.R_elder' (by (with_reducible repeat (first | apply Kd.R_alloc | apply Kd.R_drewN | apply Kd.R_drew)); exact (Kd.R_mono (Kd.R_far (p := ⟨gb499, 3, none⟩) (Kd.R_far (p := ⟨gb499, 2, none⟩) (Kd.R_far (p := ⟨gb499, 1, none⟩) (Kd.R_far (p := ⟨gb499, 0, none⟩) (Kd.R_types HO492.out BK499.out (by decide)) (fun _ hk => hk.2) (.slice Ao11 t490.length co11)) (fun _ hk => hk.2) (.int .i64 t493)) (fun _ hk => hk.2) (.int .i64 t494)) (fun _ hk => hk.2) (.bool t495)) (fun _ h_ => h_.1))) (Kd.R_base ho0) hb); replace BK499 := bp_ #[.slice Ao11 t490.length co11, .int .i64 t493, .int .i64 t494, .bool t495] BK499 hb; replace HB := bt_ HB GE499 hb; (try clear hb); (try clear hb2); (try clear hk); (try clear hi); (try clear ho0)) | ((with_reducible refine gate_dst (N := 5) rfl ?_); (try (refine gate_guard (by rfl) ?_; dsimp only)); refine box_event ?hg (N := 5) ?hd (cs := #[.slice none 0 0, .int .i64 0, .int .i64 0, .bool false]) (t := 29) ?hr ?_; (case hd => rfl); (case hg => rfl); (case hr => first | (go_simp; done) | (go_simp; rfl)); intro gb506 hg w15 hbox hb; replace HO492 := rb_ HO492 hb; replace HO498 := rb_ HO498 hb; replace HO502 := rb_ HO502 hb; have BK506 := Aside0.mk (hbox); have GW506 := ge_ hg (hs_ HB GE499); have GE506 := ge_ hg (hs_ HB GE499); replace HB := bt_ HB GE499 hb; have NB499_506 := nl_ BK499 hg; have NB506_499 := ng_ BK499 hg; replace BK499 := bb_ BK499 hb; clear hb hbox hg; obtain ⟨Ao16, co16, eo16⟩ := Kd.R_slice HO502.out; subst eo16; have hnb17 := NB506_499.out; have hnc17 := NB499_506.out; obtain ⟨hcz18_0, hcz18_1, hcz18_2, hcz18_3, hfz18_0, hfz18_1, hfz18_2, hfz18_3⟩ := bc4_ BK506; obtain ⟨hcz19_0, hcz19_1, hcz19_2, hcz19_3, hfz19_0, hfz19_1, hfz19_2, hfz19_3⟩ := bc4_ BK499) | ((with_reducible refine gate_callee (f := 18) rfl ?_); refine goesL_ (some 20) rfl rfl Try.func18 (by kernel_rfl) rfl #[.agg #[.slice Ao11 t490.length co11, .int .i64 t493, .int .i64 t494, .bool t495]] rfl ar_ ?_; (with_reducible refine (spec_DiskOk.calls k _ _ t490 t493 t494 t495 true _ ?side1 ?side2 A6.out).mono ?_); (case side1 => refine (Kd.R_reads' (e := 45) (base := w.heap.size) (ok := fun k_ => (True ∧ some k_ ≠ (.slice Ao16 t500.length co16 : Value).ownBlock)) (n := t490.length) (c := co11) ?_).2.2; exact (by (with_reducible repeat (first | apply Kd.R_alloc | apply Kd.R_drewN | apply Kd.R_drew)); exact (Kd.R_mono (Kd.R_far (p := ⟨gb506, 3, none⟩) (Kd.R_far (p := ⟨gb506, 2, none⟩) (Kd.R_far (p := ⟨gb506, 1, none⟩) (Kd.R_far (p := ⟨gb506, 0, none⟩) (Kd.R_types HO492.out BK506.out (by decide)) (fun _ hk => hk.2) (.slice Ao16 t500.length co16)) (fun _ hk => hk.2) (.int .i64 t503)) (fun _ hk => hk.2) (.int .i64 t504)) (fun _ hk => hk.2) (.bool t505)) (fun _ h_ => h_.1)))); (case side2 => exact (Kd.R_reads' HO492.out).2.1); rintro e w20 ⟨rfl, hb⟩; refine ⟨_, rfl, ?_⟩; replace HO492 := rfb_ HO492 BK506 hb; replace HO498 := rfb_ HO498 BK506 hb; replace HO502 := rfb_ HO502 BK506 hb; replace BK499 := bf_ BK499 NB499_506 hb; replace BK506 := bp_ #[.slice Ao16 t500.length co16, .int .i64 t503, .int .i64 t504, .bool t505] BK506 hb; replace HB := bu_ HB GE499 GE506 hb; (try clear hb); (try clear hb2); (try clear hk); (try clear hi)))
   (try simp only [Act.put, la_, lz_, ls_])
   go_cut [55] (fun v55 wc => ∃ (kq : Nat) (x55_7 : Bool), v55 = .bool x55_7 ∧ Aside0 (laws_FnPower.j0 kq t496 x55_7 t490 t493 t494 t495 t500 t503 t504 t505 = some r) ∧ Aside0 (kq ≤ k) ∧ Aside0 (Kd.R (Kd.int .i64) 3 wc w.heap.size (fun _ => True) (.slice Ao13 t496.length co13) t496) ∧ Aside0 (Kd.R k45 45 wc w.heap.size (fun k_ => some k_ ≠ ((.slice Ao16 t500.length co16) : Value).ownBlock) (.slice Ao11 t490.length co11) t490) ∧ Aside0 (Kd.R k45 45 wc w.heap.size (fun k_ => some k_ ≠ ((.slice Ao11 t490.length co11) : Value).ownBlock) (.slice Ao16 t500.length co16) t500) ∧ Aside0 (wc.heap[gb499]? = some (.cells #[(.slice Ao11 t490.length co11), .int .i64 t493, .int .i64 t494, .bool t495] 29 (0, 0))) ∧ Aside0 (wc.heap[gb506]? = some (.cells #[(.slice Ao16 t500.length co16), .int .i64 t503, .int .i64 t504, .bool t505] 29 (0, 0))) ∧ Aside0 (Below w.heap.size w wc))
   case first =>
    have H := HC8.out
    clear HC8
    by_cases c21 : (t500.length : Int) = (t490.length : Int)
    ·rw [if_pos c21] at H
     have c21b0 : ((t500.length : Int) == (t490.length : Int)) = true := beq_iff_eq.mpr c21
     have c21b1 : ((t500.length : Int) != (t490.length : Int)) = false := bne_eq_false_iff_eq.mpr c21
     have c21b2 : (t500.length == t490.length) = true := by first | simpa using c21 | (simp at c21 ⊢; omega)
     clear c21
     (first | rw [c21b0] | (simp only [i64_w, i32_w]; rw [c21b0]) | skip)
     replace H := Option.bind_eq_some_iff.mp H
     obtain ⟨t509, A220, H⟩ := H
     replace H : (if t509 = true then ((impl_Volatile.f k t500 t503 t504 t505).bind fun t510 => (if t510 = 0 then ((impl_Settled.f k t500 t503 t504 t505).bind fun t511 => (if t511 = true then (if t505 = true then (laws_FnPower.j0 k t496 true t490 t493 t494 t495 t500 t503 t504 t505) else (laws_FnPower.j0 k t496 (t504 != (-1)) t490 t493 t494 t495 t500 t503 t504 t505)) else (laws_FnPower.j0 k t496 true t490 t493 t494 t495 t500 t503 t504 t505))) else (laws_FnPower.j0 k t496 true t490 t493 t494 t495 t500 t503 t504 t505))) else (laws_FnPower.j0 k t496 true t490 t493 t494 t495 t500 t503 t504 t505)) = some r := H
     have A22 := Aside0.mk A220
     clear A220
     by_cases c23 : t509 = true
     ·subst c23
      have H1 : ((impl_Volatile.f k t500 t503 t504 t505).bind fun t510 => (if t510 = 0 then ((impl_Settled.f k t500 t503 t504 t505).bind fun t511 => (if t511 = true then (if t505 = true then (laws_FnPower.j0 k t496 true t490 t493 t494 t495 t500 t503 t504 t505) else (laws_FnPower.j0 k t496 (t504 != (-1)) t490 t493 t494 t495 t500 t503 t504 t505)) else (laws_FnPower.j0 k t496 true t490 t493 t494 t495 t500 t503 t504 t505))) else (laws_FnPower.j0 k t496 true t490 t493 t494 t495 t500 t503 t504 t505))) = some r := by rw [if_pos rfl] at H; exact H
      clear H
      have H := H1
      clear H1
      replace H := Option.bind_eq_some_iff.mp H
      obtain ⟨t510, A240, H⟩ := H
      replace H : (if t510 = 0 then ((impl_Settled.f k t500 t503 t504 t505).bind fun t511 => (if t511 = true then (if t505 = true then (laws_FnPower.j0 k t496 true t490 t493 t494 t495 t500 t503 t504 t505) else (laws_FnPower.j0 k t496 (t504 != (-1)) t490 t493 t494 t495 t500 t503 t504 t505)) else (laws_FnPower.j0 k t496 true t490 t493 t494 t495 t500 t503 t504 t505))) else (laws_FnPower.j0 k t496 true t490 t493 t494 t495 t500 t503 t504 t505)) = some r := H
      have A24 := Aside0.mk A240
      clear A240
      by_cases c25 : t510 = 0
      ·rw [if_pos c25] at H
       have c25b0 : (t510 == 0) = true := beq_iff_eq.mpr c25
       have c25b1 : (t510 != 0) = false := bne_eq_false_iff_eq.mpr c25
       clear c25
       replace H := Option.bind_eq_some_iff.mp H
       obtain ⟨t511, A260, H⟩ := H
       replace H : (if t511 = true then (if t505 = true then (laws_FnPower.j0 k t496 true t490 t493 t494 t495 t500 t503 t504 t505) else (laws_FnPower.j0 k t496 (t504 != (-1)) t490 t493 t494 t495 t500 t503 t504 t505)) else (laws_FnPower.j0 k t496 true t490 t493 t494 t495 t500 t503 t504 t505)) = some r := H
       have A26 := Aside0.mk A260
       clear A260
       by_cases c27 : t511 = true
       ·subst c27
        have H1 : (if t505 = true then (laws_FnPower.j0 k t496 true t490 t493 t494 t495 t500 t503 t504 t505) else (laws_FnPower.j0 k t496 (t504 != (-1)) t490 t493 t494 t495 t500 t503 t504 t505)) = some r := by rw [if_pos rfl] at H; exact H
        clear H
        have H := H1
        clear H1
        by_cases c28 : t505 = true
        ·subst c28
         have H1 : (laws_FnPower.j0 k t496 true t490 t493 t494 t495 t500 t503 t504 true) = some r := by rw [if_pos rfl] at H; exact H
         clear H
         have H := H1
         clear H1
         have H' := Aside0.mk H
         clear H
         have hnb29 := NB506_499.out
         have hnc29 := NB499_506.out
         obtain ⟨hcz30_0, hcz30_1, hcz30_2, hcz30_3, hfz30_0, hfz30_1, hfz30_2, hfz30_3⟩ := bc4_ BK506
         obtain ⟨hcz31_0, hcz31_1, hcz31_2, hcz31_3, hfz31_0, hfz31_1, hfz31_2, hfz31_3⟩ := bc4_ BK499
         go_wp2_with (first | (go_at_call 18; (with_reducible refine (spec_DiskOk.calls k _ _ t500 t503 t504 true true _ ?side1 ?side2 A22.out).mono ?_); (case side1 => repeat (first | exact (Kd.R_reads' HO502.out).2.2 | (with_reducible refine Kd.C_alloc ?_ _) | (with_reducible refine Kd.C_drewN ?_ _) | (with_reducible refine Kd.C_drew ?_))); (case side2 => exact (Kd.R_reads' HO502.out).2.1); rintro e w32 ⟨rfl, hb⟩; replace HO492 := rb_ HO492 hb; replace HO498 := rb_ HO498 hb; replace HO502 := rb_ HO502 hb; replace BK499 := bb_ BK499 hb; replace BK506 := bb_ BK506 hb; replace HB := bu_ HB GE499 GE506 hb; (try clear hb); (try clear hb2); (try clear hk); (try clear hi); obtain ⟨hcz33_0, hcz33_1, hcz33_2, hcz33_3, hfz33_0, hfz33_1, hfz33_2, hfz33_3⟩ := bc4_ BK506) | (go_at_call 20; (with_reducible refine (impl_Volatile.calls k _ _ t500 t503 t504 true t510 _ ?side1 ?side2 A24.out).mono ?_); (case side1 => repeat (first | exact (Kd.R_reads' HO502.out).2.2 | (with_reducible refine Kd.C_alloc ?_ _) | (with_reducible refine Kd.C_drewN ?_ _) | (with_reducible refine Kd.C_drew ?_))); (case side2 => exact (Kd.R_reads' HO502.out).2.1); rintro e w34 ⟨rfl, hb⟩; replace HO492 := rb_ HO492 hb; replace HO498 := rb_ HO498 hb; replace HO502 := rb_ HO502 hb; replace BK499 := bb_ BK499 hb; replace BK506 := bb_ BK506 hb; replace HB := bu_ HB GE499 GE506 hb; (try clear hb); (try clear hb2); (try clear hk); (try clear hi); obtain ⟨hcz35_0, hcz35_1, hcz35_2, hcz35_3, hfz35_0, hfz35_1, hfz35_2, hfz35_3⟩ := bc4_ BK506) | (go_at_call 21; (with_reducible refine (impl_Settled.calls k _ _ t500 t503 t504 true true _ ?side1 ?side2 A26.out).mono ?_); (case side1 => repeat (first | exact (Kd.R_reads' HO502.out).2.2 | (with_reducible refine Kd.C_alloc ?_ _) | (with_reducible refine Kd.C_drewN ?_ _) | (with_reducible refine Kd.C_drew ?_))); (case side2 => exact (Kd.R_reads' HO502.out).2.1); rintro e w36 ⟨rfl, hb⟩; replace HO492 := rb_ HO492 hb; replace HO498 := rb_ HO498 hb; replace HO502 := rb_ HO502 hb; replace BK499 := bb_ BK499 hb; replace BK506 := bb_ BK506 hb; replace HB := bu_ HB GE499 GE506 hb; (try clear hb); (try clear hb2); (try clear hk); (try clear hi); obtain ⟨hcz37_0, hcz37_1, hcz37_2, hcz37_3, hfz37_0, hfz37_1, hfz37_2, hfz37_3⟩ := bc4_ BK506))
         go_meet
         case rel => exact ⟨_, (true), rs_, H', ⟨by first | exact Nat.le_refl _ | exact Nat.le_of_succ_le this | omega⟩, ⟨rr_ HO498⟩, ⟨by (with_reducible repeat (first | apply Kd.R_alloc | apply Kd.R_drewN | apply Kd.R_drew)); exact Kd.R_mono HO492.out (fun _ hk => hk.2)⟩, ⟨by (with_reducible repeat (first | apply Kd.R_alloc | apply Kd.R_drewN | apply Kd.R_drew)); exact Kd.R_mono HO502.out (fun _ hk => hk.2)⟩, ⟨bk_ BK499⟩, ⟨bk_ BK506⟩, ⟨by repeat (first | (with_reducible first | exact HB.out | apply below_alloc | apply pw_below_drewN | apply below_drew1 | refine below_set ?_ GE499.out | refine below_set ?_ GE506.out) | exact HB.out)⟩⟩
        ·replace c28 := Bool.eq_false_iff.mpr c28
         subst c28
         have H1 : (laws_FnPower.j0 k t496 (t504 != (-1)) t490 t493 t494 t495 t500 t503 t504 false) = some r := by rw [if_neg (show ¬ (false = true) by decide)] at H; exact H
         clear H
         have H := H1
         clear H1
         have H' := Aside0.mk H
         clear H
         have hnb38 := NB506_499.out
         have hnc38 := NB499_506.out
         obtain ⟨hcz39_0, hcz39_1, hcz39_2, hcz39_3, hfz39_0, hfz39_1, hfz39_2, hfz39_3⟩ := bc4_ BK506
         obtain ⟨hcz40_0, hcz40_1, hcz40_2, hcz40_3, hfz40_0, hfz40_1, hfz40_2, hfz40_3⟩ := bc4_ BK499
         go_wp2_with (first | (go_at_call 18; (with_reducible refine (spec_DiskOk.calls k _ _ t500 t503 t504 false true _ ?side1 ?side2 A22.out).mono ?_); (case side1 => repeat (first | exact (Kd.R_reads' HO502.out).2.2 | (with_reducible refine Kd.C_alloc ?_ _) | (with_reducible refine Kd.C_drewN ?_ _) | (with_reducible refine Kd.C_drew ?_))); (case side2 => exact (Kd.R_reads' HO502.out).2.1); rintro e w41 ⟨rfl, hb⟩; replace HO492 := rb_ HO492 hb; replace HO498 := rb_ HO498 hb; replace HO502 := rb_ HO502 hb; replace BK499 := bb_ BK499 hb; replace BK506 := bb_ BK506 hb; replace HB := bu_ HB GE499 GE506 hb; (try clear hb); (try clear hb2); (try clear hk); (try clear hi); obtain ⟨hcz42_0, hcz42_1, hcz42_2, hcz42_3, hfz42_0, hfz42_1, hfz42_2, hfz42_3⟩ := bc4_ BK506) | (go_at_call 20; (with_reducible refine (impl_Volatile.calls k _ _ t500 t503 t504 false t510 _ ?side1 ?side2 A24.out).mono ?_); (case side1 => repeat (first | exact (Kd.R_reads' HO502.out).2.2 | (with_reducible refine Kd.C_alloc ?_ _) | (with_reducible refine Kd.C_drewN ?_ _) | (with_reducible refine Kd.C_drew ?_))); (case side2 => exact (Kd.R_reads' HO502.out).2.1); rintro e w43 ⟨rfl, hb⟩; replace HO492 := rb_ HO492 hb; replace HO498 := rb_ HO498 hb; replace HO502 := rb_ HO502 hb; replace BK499 := bb_ BK499 hb; replace BK506 := bb_ BK506 hb; replace HB := bu_ HB GE499 GE506 hb; (try clear hb); (try clear hb2); (try clear hk); (try clear hi); obtain ⟨hcz44_0, hcz44_1, hcz44_2, hcz44_3, hfz44_0, hfz44_1, hfz44_2, hfz44_3⟩ := bc4_ BK506) | (go_at_call 21; (with_reducible refine (impl_Settled.calls k _ _ t500 t503 t504 false true _ ?side1 ?side2 A26.out).mono ?_); (case side1 => repeat (first | exact (Kd.R_reads' HO502.out).2.2 | (with_reducible refine Kd.C_alloc ?_ _) | (with_reducible refine Kd.C_drewN ?_ _) | (with_reducible refine Kd.C_drew ?_))); (case side2 => exact (Kd.R_reads' HO502.out).2.1); rintro e w45 ⟨rfl, hb⟩; replace HO492 := rb_ HO492 hb; replace HO498 := rb_ HO498 hb; replace HO502 := rb_ HO502 hb; replace BK499 := bb_ BK499 hb; replace BK506 := bb_ BK506 hb; replace HB := bu_ HB GE499 GE506 hb; (try clear hb); (try clear hb2); (try clear hk); (try clear hi); obtain ⟨hcz46_0, hcz46_1, hcz46_2, hcz46_3, hfz46_0, hfz46_1, hfz46_2, hfz46_3⟩ := bc4_ BK506))
         go_meet
         case rel => exact ⟨_, ((t504 != (-1))), rs_, H', ⟨by first | exact Nat.le_refl _ | exact Nat.le_of_succ_le this | omega⟩, ⟨rr_ HO498⟩, ⟨by (with_reducible repeat (first | apply Kd.R_alloc | apply Kd.R_drewN | apply Kd.R_drew)); exact Kd.R_mono HO492.out (fun _ hk => hk.2)⟩, ⟨by (with_reducible repeat (first | apply Kd.R_alloc | apply Kd.R_drewN | apply Kd.R_drew)); exact Kd.R_mono HO502.out (fun _ hk => hk.2)⟩, ⟨bk_ BK499⟩, ⟨bk_ BK506⟩, ⟨by repeat (first | (with_reducible first | exact HB.out | apply below_alloc | apply pw_below_drewN | apply below_drew1 | refine below_set ?_ GE499.out | refine below_set ?_ GE506.out) | exact HB.out)⟩⟩
       ·replace c27 := Bool.eq_false_iff.mpr c27
        subst c27
        have H1 : (laws_FnPower.j0 k t496 true t490 t493 t494 t495 t500 t503 t504 t505) = some r := by rw [if_neg (show ¬ (false = true) by decide)] at H; exact H
        clear H
        have H := H1
        clear H1
        have H' := Aside0.mk H
        clear H
        have hnb47 := NB506_499.out
        have hnc47 := NB499_506.out
        obtain ⟨hcz48_0, hcz48_1, hcz48_2, hcz48_3, hfz48_0, hfz48_1, hfz48_2, hfz48_3⟩ := bc4_ BK506
        obtain ⟨hcz49_0, hcz49_1, hcz49_2, hcz49_3, hfz49_0, hfz49_1, hfz49_2, hfz49_3⟩ := bc4_ BK499
        go_wp2_with (first | (go_at_call 18; (with_reducible refine (spec_DiskOk.calls k _ _ t500 t503 t504 t505 true _ ?side1 ?side2 A22.out).mono ?_); (case side1 => repeat (first | exact (Kd.R_reads' HO502.out).2.2 | (with_reducible refine Kd.C_alloc ?_ _) | (with_reducible refine Kd.C_drewN ?_ _) | (with_reducible refine Kd.C_drew ?_))); (case side2 => exact (Kd.R_reads' HO502.out).2.1); rintro e w50 ⟨rfl, hb⟩; replace HO492 := rb_ HO492 hb; replace HO498 := rb_ HO498 hb; replace HO502 := rb_ HO502 hb; replace BK499 := bb_ BK499 hb; replace BK506 := bb_ BK506 hb; replace HB := bu_ HB GE499 GE506 hb; (try clear hb); (try clear hb2); (try clear hk); (try clear hi); obtain ⟨hcz51_0, hcz51_1, hcz51_2, hcz51_3, hfz51_0, hfz51_1, hfz51_2, hfz51_3⟩ := bc4_ BK506) | (go_at_call 20; (with_reducible refine (impl_Volatile.calls k _ _ t500 t503 t504 t505 t510 _ ?side1 ?side2 A24.out).mono ?_); (case side1 => repeat (first | exact (Kd.R_reads' HO502.out).2.2 | (with_reducible refine Kd.C_alloc ?_ _) | (with_reducible refine Kd.C_drewN ?_ _) | (with_reducible refine Kd.C_drew ?_))); (case side2 => exact (Kd.R_reads' HO502.out).2.1); rintro e w52 ⟨rfl, hb⟩; replace HO492 := rb_ HO492 hb; replace HO498 := rb_ HO498 hb; replace HO502 := rb_ HO502 hb; replace BK499 := bb_ BK499 hb; replace BK506 := bb_ BK506 hb; replace HB := bu_ HB GE499 GE506 hb; (try clear hb); (try clear hb2); (try clear hk); (try clear hi); obtain ⟨hcz53_0, hcz53_1, hcz53_2, hcz53_3, hfz53_0, hfz53_1, hfz53_2, hfz53_3⟩ := bc4_ BK506) | (go_at_call 21; (with_reducible refine (impl_Settled.calls k _ _ t500 t503 t504 t505 false _ ?side1 ?side2 A26.out).mono ?_); (case side1 => repeat (first | exact (Kd.R_reads' HO502.out).2.2 | (with_reducible refine Kd.C_alloc ?_ _) | (with_reducible refine Kd.C_drewN ?_ _) | (with_reducible refine Kd.C_drew ?_))); (case side2 => exact (Kd.R_reads' HO502.out).2.1); rintro e w54 ⟨rfl, hb⟩; replace HO492 := rb_ HO492 hb; replace HO498 := rb_ HO498 hb; replace HO502 := rb_ HO502 hb; replace BK499 := bb_ BK499 hb; replace BK506 := bb_ BK506 hb; replace HB := bu_ HB GE499 GE506 hb; (try clear hb); (try clear hb2); (try clear hk); (try clear hi)))
        go_meet
        case rel => exact ⟨_, (true), rs_, H', ⟨by first | exact Nat.le_refl _ | exact Nat.le_of_succ_le this | omega⟩, ⟨rr_ HO498⟩, ⟨by (with_reducible repeat (first | apply Kd.R_alloc | apply Kd.R_drewN | apply Kd.R_drew)); exact Kd.R_mono HO492.out (fun _ hk => hk.2)⟩, ⟨by (with_reducible repeat (first | apply Kd.R_alloc | apply Kd.R_drewN | apply Kd.R_drew)); exact Kd.R_mono HO502.out (fun _ hk => hk.2)⟩, ⟨bk_ BK499⟩, ⟨bk_ BK506⟩, ⟨by repeat (first | (with_reducible first | exact HB.out | apply below_alloc | apply pw_below_drewN | apply below_drew1 | refine below_set ?_ GE499.out | refine below_set ?_ GE506.out) | exact HB.out)⟩⟩
      ·rw [if_neg c25] at H
       have c25b0 : (t510 == 0) = false := beq_eq_false_iff_ne.mpr c25
       have c25b1 : (t510 != 0) = true := bne_iff_ne.mpr c25
       have H' := Aside0.mk H
       clear H
       have hnb55 := NB506_499.out
       have hnc55 := NB499_506.out
       obtain ⟨hcz56_0, hcz56_1, hcz56_2, hcz56_3, hfz56_0, hfz56_1, hfz56_2, hfz56_3⟩ := bc4_ BK506
       obtain ⟨hcz57_0, hcz57_1, hcz57_2, hcz57_3, hfz57_0, hfz57_1, hfz57_2, hfz57_3⟩ := bc4_ BK499
       go_wp2_with (first | (go_at_call 18; (with_reducible refine (spec_DiskOk.calls k _ _ t500 t503 t504 t505 true _ ?side1 ?side2 A22.out).mono ?_); (case side1 => repeat (first | exact (Kd.R_reads' HO502.out).2.2 | (with_reducible refine Kd.C_alloc ?_ _) | (with_reducible refine Kd.C_drewN ?_ _) | (with_reducible refine Kd.C_drew ?_))); (case side2 => exact (Kd.R_reads' HO502.out).2.1); rintro e w58 ⟨rfl, hb⟩; replace HO492 := rb_ HO492 hb; replace HO498 := rb_ HO498 hb; replace HO502 := rb_ HO502 hb; replace BK499 := bb_ BK499 hb; replace BK506 := bb_ BK506 hb; replace HB := bu_ HB GE499 GE506 hb; (try clear hb); (try clear hb2); (try clear hk); (try clear hi); obtain ⟨hcz59_0, hcz59_1, hcz59_2, hcz59_3, hfz59_0, hfz59_1, hfz59_2, hfz59_3⟩ := bc4_ BK506) | (go_at_call 20; (with_reducible refine (impl_Volatile.calls k _ _ t500 t503 t504 t505 t510 _ ?side1 ?side2 A24.out).mono ?_); (case side1 => repeat (first | exact (Kd.R_reads' HO502.out).2.2 | (with_reducible refine Kd.C_alloc ?_ _) | (with_reducible refine Kd.C_drewN ?_ _) | (with_reducible refine Kd.C_drew ?_))); (case side2 => exact (Kd.R_reads' HO502.out).2.1); rintro e w60 ⟨rfl, hb⟩; replace HO492 := rb_ HO492 hb; replace HO498 := rb_ HO498 hb; replace HO502 := rb_ HO502 hb; replace BK499 := bb_ BK499 hb; replace BK506 := bb_ BK506 hb; replace HB := bu_ HB GE499 GE506 hb; (try clear hb); (try clear hb2); (try clear hk); (try clear hi)))
       go_meet
       case rel => exact ⟨_, (true), rs_, H', ⟨by first | exact Nat.le_refl _ | exact Nat.le_of_succ_le this | omega⟩, ⟨rr_ HO498⟩, ⟨by (with_reducible repeat (first | apply Kd.R_alloc | apply Kd.R_drewN | apply Kd.R_drew)); exact Kd.R_mono HO492.out (fun _ hk => hk.2)⟩, ⟨by (with_reducible repeat (first | apply Kd.R_alloc | apply Kd.R_drewN | apply Kd.R_drew)); exact Kd.R_mono HO502.out (fun _ hk => hk.2)⟩, ⟨bk_ BK499⟩, ⟨bk_ BK506⟩, ⟨by repeat (first | (with_reducible first | exact HB.out | apply below_alloc | apply pw_below_drewN | apply below_drew1 | refine below_set ?_ GE499.out | refine below_set ?_ GE506.out) | exact HB.out)⟩⟩
     ·replace c23 := Bool.eq_false_iff.mpr c23
      subst c23
      have H1 : (laws_FnPower.j0 k t496 true t490 t493 t494 t495 t500 t503 t504 t505) = some r := by rw [if_neg (show ¬ (false = true) by decide)] at H; exact H
      clear H
      have H := H1
      clear H1
      have H' := Aside0.mk H
      clear H
      have hnb61 := NB506_499.out
      have hnc61 := NB499_506.out
      obtain ⟨hcz62_0, hcz62_1, hcz62_2, hcz62_3, hfz62_0, hfz62_1, hfz62_2, hfz62_3⟩ := bc4_ BK506
      obtain ⟨hcz63_0, hcz63_1, hcz63_2, hcz63_3, hfz63_0, hfz63_1, hfz63_2, hfz63_3⟩ := bc4_ BK499
      go_wp2_with (first | (go_at_call 18; (with_reducible refine (spec_DiskOk.calls k _ _ t500 t503 t504 t505 false _ ?side1 ?side2 A22.out).mono ?_); (case side1 => repeat (first | exact (Kd.R_reads' HO502.out).2.2 | (with_reducible refine Kd.C_alloc ?_ _) | (with_reducible refine Kd.C_drewN ?_ _) | (with_reducible refine Kd.C_drew ?_))); (case side2 => exact (Kd.R_reads' HO502.out).2.1); rintro e w64 ⟨rfl, hb⟩; replace HO492 := rb_ HO492 hb; replace HO498 := rb_ HO498 hb; replace HO502 := rb_ HO502 hb; replace BK499 := bb_ BK499 hb; replace BK506 := bb_ BK506 hb; replace HB := bu_ HB GE499 GE506 hb; (try clear hb); (try clear hb2); (try clear hk); (try clear hi)))
      go_meet
      case rel => exact ⟨_, (true), rs_, H', ⟨by first | exact Nat.le_refl _ | exact Nat.le_of_succ_le this | omega⟩, ⟨rr_ HO498⟩, ⟨by (with_reducible repeat (first | apply Kd.R_alloc | apply Kd.R_drewN | apply Kd.R_drew)); exact Kd.R_mono HO492.out (fun _ hk => hk.2)⟩, ⟨by (with_reducible repeat (first | apply Kd.R_alloc | apply Kd.R_drewN | apply Kd.R_drew)); exact Kd.R_mono HO502.out (fun _ hk => hk.2)⟩, ⟨bk_ BK499⟩, ⟨bk_ BK506⟩, ⟨by repeat (first | (with_reducible first | exact HB.out | apply below_alloc | apply pw_below_drewN | apply below_drew1 | refine below_set ?_ GE499.out | refine below_set ?_ GE506.out) | exact HB.out)⟩⟩
    ·rw [if_neg c21] at H
     have c21b0 : ((t500.length : Int) == (t490.length : Int)) = false := beq_eq_false_iff_ne.mpr c21
     have c21b1 : ((t500.length : Int) != (t490.length : Int)) = true := bne_iff_ne.mpr c21
     have c21b2 : (t500.length == t490.length) = false := by first | simpa using c21 | (simp at c21 ⊢; omega)
     (first | rw [c21b0] | (simp only [i64_w, i32_w]; rw [c21b0]) | skip)
     have H' := Aside0.mk H
     clear H
     have hnb65 := NB506_499.out
     have hnc65 := NB499_506.out
     obtain ⟨hcz66_0, hcz66_1, hcz66_2, hcz66_3, hfz66_0, hfz66_1, hfz66_2, hfz66_3⟩ := bc4_ BK506
     obtain ⟨hcz67_0, hcz67_1, hcz67_2, hcz67_3, hfz67_0, hfz67_1, hfz67_2, hfz67_3⟩ := bc4_ BK499
     go_wp2
     go_meet
     case rel => exact ⟨_, (true), rs_, H', ⟨by first | exact Nat.le_refl _ | exact Nat.le_of_succ_le this | omega⟩, ⟨rr_ HO498⟩, ⟨by (with_reducible repeat (first | apply Kd.R_alloc | apply Kd.R_drewN | apply Kd.R_drew)); exact Kd.R_mono HO492.out (fun _ hk => hk.2)⟩, ⟨by (with_reducible repeat (first | apply Kd.R_alloc | apply Kd.R_drewN | apply Kd.R_drew)); exact Kd.R_mono HO502.out (fun _ hk => hk.2)⟩, ⟨bk_ BK499⟩, ⟨bk_ BK506⟩, ⟨by repeat (first | (with_reducible first | exact HB.out | apply below_alloc | apply pw_below_drewN | apply below_drew1 | refine below_set ?_ GE499.out | refine below_set ?_ GE506.out) | exact HB.out)⟩⟩
   case rest =>
    clear HC8
    try clear c1
    try clear c2
    try clear p2
    try clear c3
    try clear c4
    try clear c5
    try clear c6
    try clear c7
    try clear c10
    try clear c16
    try clear c17
    try clear c18
    try clear c21
    try clear c21b0
    try clear c21b1
    try clear c21b2
    try clear c23
    try clear c25
    try clear c25b0
    try clear c25b1
    try clear c27
    try clear c28
    try clear c29
    try clear c38
    try clear c47
    try clear c55
    try clear c61
    try clear c65
    try clear hcz12_0 hcz12_1 hcz12_2 hcz12_3 hfz12_0 hfz12_1 hfz12_2 hfz12_3
    try clear hcz18_0 hcz18_1 hcz18_2 hcz18_3 hfz18_0 hfz18_1 hfz18_2 hfz18_3
    try clear hcz19_0 hcz19_1 hcz19_2 hcz19_3 hfz19_0 hfz19_1 hfz19_2 hfz19_3
    try clear hcz30_0 hcz30_1 hcz30_2 hcz30_3 hfz30_0 hfz30_1 hfz30_2 hfz30_3
    try clear hcz31_0 hcz31_1 hcz31_2 hcz31_3 hfz31_0 hfz31_1 hfz31_2 hfz31_3
    try clear hcz33_0 hcz33_1 hcz33_2 hcz33_3 hfz33_0 hfz33_1 hfz33_2 hfz33_3
    try clear hcz35_0 hcz35_1 hcz35_2 hcz35_3 hfz35_0 hfz35_1 hfz35_2 hfz35_3
    try clear hcz37_0 hcz37_1 hcz37_2 hcz37_3 hfz37_0 hfz37_1 hfz37_2 hfz37_3
    try clear hcz39_0 hcz39_1 hcz39_2 hcz39_3 hfz39_0 hfz39_1 hfz39_2 hfz39_3
    try clear hcz40_0 hcz40_1 hcz40_2 hcz40_3 hfz40_0 hfz40_1 hfz40_2 hfz40_3
    try clear hcz42_0 hcz42_1 hcz42_2 hcz42_3 hfz42_0 hfz42_1 hfz42_2 hfz42_3
    try clear hcz44_0 hcz44_1 hcz44_2 hcz44_3 hfz44_0 hfz44_1 hfz44_2 hfz44_3
    try clear hcz46_0 hcz46_1 hcz46_2 hcz46_3 hfz46_0 hfz46_1 hfz46_2 hfz46_3
    try clear hcz48_0 hcz48_1 hcz48_2 hcz48_3 hfz48_0 hfz48_1 hfz48_2 hfz48_3
    try clear hcz49_0 hcz49_1 hcz49_2 hcz49_3 hfz49_0 hfz49_1 hfz49_2 hfz49_3
    try clear hcz51_0 hcz51_1 hcz51_2 hcz51_3 hfz51_0 hfz51_1 hfz51_2 hfz51_3
    try clear hcz53_0 hcz53_1 hcz53_2 hcz53_3 hfz53_0 hfz53_1 hfz53_2 hfz53_3
    try clear hcz56_0 hcz56_1 hcz56_2 hcz56_3 hfz56_0 hfz56_1 hfz56_2 hfz56_3
    try clear hcz57_0 hcz57_1 hcz57_2 hcz57_3 hfz57_0 hfz57_1 hfz57_2 hfz57_3
    try clear hcz59_0 hcz59_1 hcz59_2 hcz59_3 hfz59_0 hfz59_1 hfz59_2 hfz59_3
    try clear hcz62_0 hcz62_1 hcz62_2 hcz62_3 hfz62_0 hfz62_1 hfz62_2 hfz62_3
    try clear hcz63_0 hcz63_1 hcz63_2 hcz63_3 hfz63_0 hfz63_1 hfz63_2 hfz63_3
    try clear hcz66_0 hcz66_1 hcz66_2 hcz66_3 hfz66_0 hfz66_1 hfz66_2 hfz66_3
    try clear hcz67_0 hcz67_1 hcz67_2 hcz67_3 hfz67_0 hfz67_1 hfz67_2 hfz67_3
    obtain ⟨kq, x55_7, rfl, HA, HJ7, HO_4, HO_500000, HO_507000, BK499, BK506, HB⟩ := hcut
    cases kq with
    | zero => exact absurd HA.out (by simp [laws_FnPower.j0])
    | succ kj7 =>
     have H := HA.out
     clear HA
     simp only [laws_FnPower.j0] at H
     by_cases c68 : x55_7 = true
     ·subst c68
      have H1 : (some false) = some r := by rw [if_pos rfl] at H; exact H
      clear H
      have H := H1
      clear H1
      exact absurd ((Option.some.inj H).trans HRT.out) (by decide)
     ·replace c68 := Bool.eq_false_iff.mpr c68
      subst c68
      have H1 : (laws_FnPower.l0 kj7 t496 0 t490 t493 t494 t495 t500 t503 t504 t505) = some r := by rw [if_neg (show ¬ (false = true) by decide)] at H; exact H
      clear H
      have H := H1
      clear H1
      have H' := Aside0.mk H
      clear H
      go_wp2
      go_loopg [6] kj7 (fun kq v6 w' => ∃ (x6_2 : Int), v6 = .int .i64 x6_2 ∧ Aside0 (laws_FnPower.l0 kq t496 x6_2 t490 t493 t494 t495 t500 t503 t504 t505 = some r) ∧ Aside0 (kq ≤ kj7) ∧ Aside0 (Kd.R (Kd.int .i64) 3 w' w.heap.size (fun _ => True) (.slice Ao13 t496.length co13) t496) ∧ Aside0 (Kd.R k45 45 w' w.heap.size (fun k_ => some k_ ≠ ((.slice Ao16 t500.length co16) : Value).ownBlock) (.slice Ao11 t490.length co11) t490) ∧ Aside0 (Kd.R k45 45 w' w.heap.size (fun k_ => some k_ ≠ ((.slice Ao11 t490.length co11) : Value).ownBlock) (.slice Ao16 t500.length co16) t500) ∧ Aside0 (w'.heap[gb499]? = some (.cells #[(.slice Ao11 t490.length co11), .int .i64 t493, .int .i64 t494, .bool t495] 29 (0, 0))) ∧ Aside0 (w'.heap[gb506]? = some (.cells #[(.slice Ao16 t500.length co16), .int .i64 t503, .int .i64 t504, .bool t505] 29 (0, 0))) ∧ Aside0 (Below w.heap.size w w'))
      case atStart => exact ⟨(0), rs_, H', ⟨Nat.le_refl _⟩, ⟨rr_ HO_4⟩, ⟨rr_ HO_500000⟩, ⟨rr_ HO_507000⟩, ⟨bk_ BK499⟩, ⟨bk_ BK506⟩, ⟨by repeat (first | (with_reducible first | exact HB.out | apply below_alloc | apply pw_below_drewN | apply below_drew1 | refine below_set ?_ GE499.out | refine below_set ?_ GE506.out) | exact HB.out)⟩⟩
      case round =>
       clear H'
       try clear c1
       try clear c2
       try clear p2
       try clear c3
       try clear c4
       try clear c5
       try clear c6
       try clear c7
       try clear c10
       try clear c16
       try clear c17
       try clear c18
       try clear c21
       try clear c21b0
       try clear c21b1
       try clear c21b2
       try clear c23
       try clear c25
       try clear c25b0
       try clear c25b1
       try clear c27
       try clear c28
       try clear c29
       try clear c38
       try clear c47
       try clear c55
       try clear c61
       try clear c65
       try clear c68
       try clear hcz12_0 hcz12_1 hcz12_2 hcz12_3 hfz12_0 hfz12_1 hfz12_2 hfz12_3
       try clear hcz18_0 hcz18_1 hcz18_2 hcz18_3 hfz18_0 hfz18_1 hfz18_2 hfz18_3
       try clear hcz19_0 hcz19_1 hcz19_2 hcz19_3 hfz19_0 hfz19_1 hfz19_2 hfz19_3
       try clear hcz30_0 hcz30_1 hcz30_2 hcz30_3 hfz30_0 hfz30_1 hfz30_2 hfz30_3
       try clear hcz31_0 hcz31_1 hcz31_2 hcz31_3 hfz31_0 hfz31_1 hfz31_2 hfz31_3
       try clear hcz33_0 hcz33_1 hcz33_2 hcz33_3 hfz33_0 hfz33_1 hfz33_2 hfz33_3
       try clear hcz35_0 hcz35_1 hcz35_2 hcz35_3 hfz35_0 hfz35_1 hfz35_2 hfz35_3
       try clear hcz37_0 hcz37_1 hcz37_2 hcz37_3 hfz37_0 hfz37_1 hfz37_2 hfz37_3
       try clear hcz39_0 hcz39_1 hcz39_2 hcz39_3 hfz39_0 hfz39_1 hfz39_2 hfz39_3
       try clear hcz40_0 hcz40_1 hcz40_2 hcz40_3 hfz40_0 hfz40_1 hfz40_2 hfz40_3
       try clear hcz42_0 hcz42_1 hcz42_2 hcz42_3 hfz42_0 hfz42_1 hfz42_2 hfz42_3
       try clear hcz44_0 hcz44_1 hcz44_2 hcz44_3 hfz44_0 hfz44_1 hfz44_2 hfz44_3
       try clear hcz46_0 hcz46_1 hcz46_2 hcz46_3 hfz46_0 hfz46_1 hfz46_2 hfz46_3
       try clear hcz48_0 hcz48_1 hcz48_2 hcz48_3 hfz48_0 hfz48_1 hfz48_2 hfz48_3
       try clear hcz49_0 hcz49_1 hcz49_2 hcz49_3 hfz49_0 hfz49_1 hfz49_2 hfz49_3
       try clear hcz51_0 hcz51_1 hcz51_2 hcz51_3 hfz51_0 hfz51_1 hfz51_2 hfz51_3
       try clear hcz53_0 hcz53_1 hcz53_2 hcz53_3 hfz53_0 hfz53_1 hfz53_2 hfz53_3
       try clear hcz56_0 hcz56_1 hcz56_2 hcz56_3 hfz56_0 hfz56_1 hfz56_2 hfz56_3
       try clear hcz57_0 hcz57_1 hcz57_2 hcz57_3 hfz57_0 hfz57_1 hfz57_2 hfz57_3
       try clear hcz59_0 hcz59_1 hcz59_2 hcz59_3 hfz59_0 hfz59_1 hfz59_2 hfz59_3
       try clear hcz62_0 hcz62_1 hcz62_2 hcz62_3 hfz62_0 hfz62_1 hfz62_2 hfz62_3
       try clear hcz63_0 hcz63_1 hcz63_2 hcz63_3 hfz63_0 hfz63_1 hfz63_2 hfz63_3
       try clear hcz66_0 hcz66_1 hcz66_2 hcz66_3 hfz66_0 hfz66_1 hfz66_2 hfz66_3
       try clear hcz67_0 hcz67_1 hcz67_2 hcz67_3 hfz67_0 hfz67_1 hfz67_2 hfz67_3
       try clear p2
       obtain ⟨x6_2, rfl, HA, HK2, HO_4, HO_500000, HO_507000, BK499, BK506, HB⟩ := hrel
       cases gk with
       | zero => exact absurd HA.out (by simp [laws_FnPower.l0])
       | succ k2 =>
        have H := HA.out
        clear HA
        simp only [laws_FnPower.l0] at H
        by_cases c69 : x6_2 < (t500.length : Int)
        ·rw [if_pos c69] at H
         have c69b0 : decide (x6_2 < (t500.length : Int)) = true := decide_eq_true c69
         clear c69
         by_cases c70 : 0 ≤ x6_2
         ·rw [if_pos c70] at H
          have c70b0 : decide (0 ≤ x6_2) = true := decide_eq_true c70
          clear c70
          by_cases c71 : x6_2 < (t490.length : Int)
          ·rw [if_pos c71] at H
           have c71b0 : decide (x6_2 < (t490.length : Int)) = true := decide_eq_true c71
           clear c71
           have HC72 := Aside0.mk H
           clear H
           have hnb73 := NB506_499.out
           have hnc73 := NB499_506.out
           obtain ⟨hcz74_0, hcz74_1, hcz74_2, hcz74_3, hfz74_0, hfz74_1, hfz74_2, hfz74_3⟩ := bc4_ BK506
           obtain ⟨hcz75_0, hcz75_1, hcz75_2, hcz75_3, hfz75_0, hfz75_1, hfz75_2, hfz75_3⟩ := bc4_ BK499
           have p512 : 0 ≤ (x6_2 : Int) := of_decide_eq_true as_
           have q512 : x6_2 < (t490.length : Int) := of_decide_eq_true as_
           obtain ⟨ad512, e512, hx512_0, hx512_1, hx512_2⟩ := at_T45 (Kd.R_reads' HO_500000.out).2.2 x6_2 p512 q512
           cases e512
           replace p512 := eq_true p512
           replace q512 := eq_true q512
           go_upto_region 14 with (first | ((with_reducible refine gate_dst (N := 7) rfl ?_); (try (refine gate_guard (by rfl) ?_; dsimp only)); refine box_event ?hg (N := 7) ?hd (cs := #[.string (⟨#[]⟩ : ByteArray), .string (⟨#[]⟩ : ByteArray), .int .i64 0]) (t := 45) ?hr ?_; (case hd => rfl); (case hg => rfl); (case hr => first | (go_simp; done) | (go_simp; rfl)); intro gb513 hg w76 hbox hb; replace HO_4 := rb_ HO_4 hb; replace HO_500000 := Aside0.mk (Kd.R_below (Kd.R_elderB (rr_ HO_500000) gb513 (Nat.le_of_eq hg.symm)) hb); replace HO_507000 := Aside0.mk (Kd.R_below (Kd.R_elderB (rr_ HO_507000) gb513 (Nat.le_of_eq hg.symm)) hb); have BK513 := Aside0.mk (hbox); have GW513 := ge_ hg (hu_ HB GE499 GE506); have GE513 := ge_ hg (hu_ HB GE499 GE506); replace HB := bu_ HB GE499 GE506 hb; have NB499_513 := nl_ BK499 hg; have NB513_499 := ng_ BK499 hg; replace BK499 := bb_ BK499 hb; have NB506_513 := nl_ BK506 hg; have NB513_506 := ng_ BK506 hg; replace BK506 := bb_ BK506 hb; clear hb hbox hg; have hnb77 := NB513_499.out; have hnc77 := NB499_513.out; have hnb78 := NB513_506.out; have hnc78 := NB506_513.out; obtain ⟨hcz79_0, hcz79_1, hcz79_2, hfz79_0, hfz79_1, hfz79_2⟩ := bc3_ BK513; obtain ⟨hcz80_0, hcz80_1, hcz80_2, hcz80_3, hfz80_0, hfz80_1, hfz80_2, hfz80_3⟩ := bc4_ BK506; have p514 : 0 ≤ (x6_2 : Int) := of_decide_eq_true as_; have q514 : x6_2 < (t500.length : Int) := of_decide_eq_true as_; obtain ⟨ad514, e514, hx514_0, hx514_1, hx514_2⟩ := at_T45 (Kd.R_reads' HO_507000.out).2.2 x6_2 p514 q514; cases e514; have hn514_0 : ad514.block ≠ gb513 := ob_ HO_507000 BK513; have hn514_1 : ad514.block ≠ gb513 := ob_ HO_507000 BK513; have hn514_2 : ad514.block ≠ gb513 := ob_ HO_507000 BK513; replace hx514_0 := (cell_far (p := ⟨gb513, 0, none⟩) (nb_ hn514_0) (.string ((rd_T45 t490 x6_2).f0))).trans hx514_0; replace hx514_1 := (cell_far (p := ⟨gb513, 0, none⟩) (nb_ hn514_0) (.string ((rd_T45 t490 x6_2).f0))).trans hx514_1; replace hx514_2 := (cell_far (p := ⟨gb513, 0, none⟩) (nb_ hn514_0) (.string ((rd_T45 t490 x6_2).f0))).trans hx514_2; replace hx514_0 := (cell_far (p := ⟨gb513, 1, none⟩) (nb_ hn514_1) (.string ((rd_T45 t490 x6_2).f1))).trans hx514_0; replace hx514_1 := (cell_far (p := ⟨gb513, 1, none⟩) (nb_ hn514_1) (.string ((rd_T45 t490 x6_2).f1))).trans hx514_1; replace hx514_2 := (cell_far (p := ⟨gb513, 1, none⟩) (nb_ hn514_1) (.string ((rd_T45 t490 x6_2).f1))).trans hx514_2; replace hx514_0 := (cell_far (p := ⟨gb513, 2, none⟩) (nb_ hn514_2) (.int .i64 ((rd_T45 t490 x6_2).f2))).trans hx514_0; replace hx514_1 := (cell_far (p := ⟨gb513, 2, none⟩) (nb_ hn514_2) (.int .i64 ((rd_T45 t490 x6_2).f2))).trans hx514_1; replace hx514_2 := (cell_far (p := ⟨gb513, 2, none⟩) (nb_ hn514_2) (.int .i64 ((rd_T45 t490 x6_2).f2))).trans hx514_2; clear hn514_0; clear hn514_1; clear hn514_2; replace p514 := eq_true p514; replace q514 := eq_true q514) | ((with_reducible refine gate_dst (N := 8) rfl ?_); (try (refine gate_guard (by rfl) ?_; dsimp only)); refine box_event ?hg (N := 8) ?hd (cs := #[.string (⟨#[]⟩ : ByteArray), .string (⟨#[]⟩ : ByteArray), .int .i64 0]) (t := 45) ?hr ?_; (case hd => rfl); (case hg => rfl); (case hr => first | (go_simp; done) | (go_simp; rfl)); intro gb515 hg w81 hbox hb; replace HO_4 := rfb_ HO_4 BK513 hb; replace HO_500000 := Aside0.mk (Kd.R_below (Kd.R_elderB (by (with_reducible repeat (first | apply Kd.R_alloc | apply Kd.R_drewN | apply Kd.R_drew)); exact (Kd.R_mono (Kd.R_far (p := ⟨gb513, 2, none⟩) (Kd.R_far (p := ⟨gb513, 1, none⟩) (Kd.R_far (p := ⟨gb513, 0, none⟩) (Kd.R_mono HO_500000.out (fun k_ hk => (⟨hk, hk.2⟩ : _ ∧ k_ ≠ gb513))) (fun _ hk => hk.2) (.string ((rd_T45 t490 x6_2).f0))) (fun _ hk => hk.2) (.string ((rd_T45 t490 x6_2).f1))) (fun _ hk => hk.2) (.int .i64 ((rd_T45 t490 x6_2).f2))) (fun _ h_ => h_.1))) gb515 (Nat.le_of_eq hg.symm)) hb); replace HO_507000 := Aside0.mk (Kd.R_below (Kd.R_elderB (by (with_reducible repeat (first | apply Kd.R_alloc | apply Kd.R_drewN | apply Kd.R_drew)); exact (Kd.R_mono (Kd.R_far (p := ⟨gb513, 2, none⟩) (Kd.R_far (p := ⟨gb513, 1, none⟩) (Kd.R_far (p := ⟨gb513, 0, none⟩) (Kd.R_mono HO_507000.out (fun k_ hk => (⟨hk, hk.2⟩ : _ ∧ k_ ≠ gb513))) (fun _ hk => hk.2) (.string ((rd_T45 t490 x6_2).f0))) (fun _ hk => hk.2) (.string ((rd_T45 t490 x6_2).f1))) (fun _ hk => hk.2) (.int .i64 ((rd_T45 t490 x6_2).f2))) (fun _ h_ => h_.1))) gb515 (Nat.le_of_eq hg.symm)) hb); have BK515 := Aside0.mk (hbox); have GW515 := ge_ hg (hv_ HB GE499 GE506 GE513); have GE515 := ge_ hg (hv_ HB GE499 GE506 GE513); replace HB := Aside0.mk (below_step (hv_ HB GE499 GE506 GE513) hb); have NB499_515 := Aside0.mk ((by rw [hg]; exact Nat.ne_of_lt (blk_lt (g := gb499) (o := .cells #[.slice (some ad512) t490.length co11, .int .i64 t493, .int .i64 t494, .bool t495] 29 (0, 0)) (by (with_reducible repeat (first | refine blk_drewN ?_ _ | refine blk_drew ?_ | refine blk_alloc ?_ _)); refine blk_far ?_ NB499_513.out _; (with_reducible repeat (first | refine blk_drewN ?_ _ | refine blk_drew ?_ | refine blk_alloc ?_ _)); refine blk_far ?_ NB499_513.out _; (with_reducible repeat (first | refine blk_drewN ?_ _ | refine blk_drew ?_ | refine blk_alloc ?_ _)); refine blk_far ?_ NB499_513.out _; (with_reducible repeat (first | refine blk_drewN ?_ _ | refine blk_drew ?_ | refine blk_alloc ?_ _)); exact BK499.out)) : gb499 ≠ gb515)); have NB515_499 := Aside0.mk ((by rw [hg]; exact Nat.ne_of_gt (blk_lt (g := gb499) (o := .cells #[.slice (some ad512) t490.length co11, .int .i64 t493, .int .i64 t494, .bool t495] 29 (0, 0)) (by (with_reducible repeat (first | refine blk_drewN ?_ _ | refine blk_drew ?_ | refine blk_alloc ?_ _)); refine blk_far ?_ NB499_513.out _; (with_reducible repeat (first | refine blk_drewN ?_ _ | refine blk_drew ?_ | refine blk_alloc ?_ _)); refine blk_far ?_ NB499_513.out _; (with_reducible repeat (first | refine blk_drewN ?_ _ | refine blk_drew ?_ | refine blk_alloc ?_ _)); refine blk_far ?_ NB499_513.out _; (with_reducible repeat (first | refine blk_drewN ?_ _ | refine blk_drew ?_ | refine blk_alloc ?_ _)); exact BK499.out)) : gb515 ≠ gb499)); replace BK499 := bf_ BK499 NB499_513 hb; have NB506_515 := Aside0.mk ((by rw [hg]; exact Nat.ne_of_lt (blk_lt (g := gb506) (o := .cells #[.slice (some ad514) t500.length co16, .int .i64 t503, .int .i64 t504, .bool t505] 29 (0, 0)) (by (with_reducible repeat (first | refine blk_drewN ?_ _ | refine blk_drew ?_ | refine blk_alloc ?_ _)); refine blk_far ?_ NB506_513.out _; (with_reducible repeat (first | refine blk_drewN ?_ _ | refine blk_drew ?_ | refine blk_alloc ?_ _)); refine blk_far ?_ NB506_513.out _; (with_reducible repeat (first | refine blk_drewN ?_ _ | refine blk_drew ?_ | refine blk_alloc ?_ _)); refine blk_far ?_ NB506_513.out _; (with_reducible repeat (first | refine blk_drewN ?_ _ | refine blk_drew ?_ | refine blk_alloc ?_ _)); exact BK506.out)) : gb506 ≠ gb515)); have NB515_506 := Aside0.mk ((by rw [hg]; exact Nat.ne_of_gt (blk_lt (g := gb506) (o := .cells #[.slice (some ad514) t500.length co16, .int .i64 t503, .int .i64 t504, .bool t505] 29 (0, 0)) (by (with_reducible repeat (first | refine blk_drewN ?_ _ | refine blk_drew ?_ | refine blk_alloc ?_ _)); refine blk_far ?_ NB506_513.out _; (with_reducible repeat (first | refine blk_drewN ?_ _ | refine blk_drew ?_ | refine blk_alloc ?_ _)); refine blk_far ?_ NB506_513.out _; (with_reducible repeat (first | refine blk_drewN ?_ _ | refine blk_drew ?_ | refine blk_alloc ?_ _)); refine blk_far ?_ NB506_513.out _; (with_reducible repeat (first | refine blk_drewN ?_ _ | refine blk_drew ?_ | refine blk_alloc ?_ _)); exact BK506.out)) : gb515 ≠ gb506)); replace BK506 := bf_ BK506 NB506_513 hb; have NB513_515 := Aside0.mk ((by rw [hg]; exact Nat.ne_of_lt (blk_lt (g := gb513) (o := .cells #[.string ((rd_T45 t490 x6_2).f0), .string ((rd_T45 t490 x6_2).f1), .int .i64 ((rd_T45 t490 x6_2).f2)] 45 (0, 0)) (up_ _ BK513 rfl).out) : gb513 ≠ gb515)); have NB515_513 := Aside0.mk ((by rw [hg]; exact Nat.ne_of_gt (blk_lt (g := gb513) (o := .cells #[.string ((rd_T45 t490 x6_2).f0), .string ((rd_T45 t490 x6_2).f1), .int .i64 ((rd_T45 t490 x6_2).f2)] 45 (0, 0)) (up_ _ BK513 rfl).out) : gb515 ≠ gb513)); replace BK513 := bp_ #[.string ((rd_T45 t490 x6_2).f0), .string ((rd_T45 t490 x6_2).f1), .int .i64 ((rd_T45 t490 x6_2).f2)] BK513 hb; clear hb hbox hg; have hnb82 := NB515_499.out; have hnc82 := NB499_515.out; have hnb83 := NB515_506.out; have hnc83 := NB506_515.out; have hnb84 := NB515_513.out; have hnc84 := NB513_515.out; obtain ⟨hcz85_0, hcz85_1, hcz85_2, hfz85_0, hfz85_1, hfz85_2⟩ := bc3_ BK515))
           (try simp only [Act.put, la_, lz_, ls_])
           go_cut [93] (fun v93 wc => ∃ (kq : Nat) (x93_71 : Bool), v93 = .bool x93_71 ∧ Aside0 (laws_FnPower.j2 kq t496 x6_2 x93_71 t490 t493 t494 t495 t500 t503 t504 t505 = some r) ∧ Aside0 (kq ≤ k2) ∧ Aside0 (Kd.R (Kd.int .i64) 3 wc w.heap.size (fun _ => True) (.slice Ao13 t496.length co13) t496) ∧ Aside0 (Kd.R k45 45 wc w.heap.size (fun k_ => some k_ ≠ ((.slice (some ad514) t500.length co16) : Value).ownBlock ∧ k_ ≠ gb513 ∧ k_ ≠ gb515) (.slice (some ad512) t490.length co11) t490) ∧ Aside0 (Kd.R k45 45 wc w.heap.size (fun k_ => some k_ ≠ ((.slice (some ad512) t490.length co11) : Value).ownBlock ∧ k_ ≠ gb513 ∧ k_ ≠ gb515) (.slice (some ad514) t500.length co16) t500) ∧ Aside0 (wc.heap[gb499]? = some (.cells #[(.slice (some ad512) t490.length co11), .int .i64 t493, .int .i64 t494, .bool t495] 29 (0, 0))) ∧ Aside0 (wc.heap[gb506]? = some (.cells #[(.slice (some ad514) t500.length co16), .int .i64 t503, .int .i64 t504, .bool t505] 29 (0, 0))) ∧ Aside0 (wc.heap[gb513]? = some (.cells #[.string ((rd_T45 t490 x6_2).f0), .string ((rd_T45 t490 x6_2).f1), .int .i64 ((rd_T45 t490 x6_2).f2)] 45 (0, 0))) ∧ Aside0 (wc.heap[gb515]? = some (.cells #[.string ((rd_T45 t500 x6_2).f0), .string ((rd_T45 t500 x6_2).f1), .int .i64 ((rd_T45 t500 x6_2).f2)] 45 (0, 0))) ∧ Aside0 (Below w.heap.size w wc))
           case first =>
            have H := HC72.out
            clear HC72
            by_cases c86 : ((rd_T45 t490 x6_2).f0).toList = ((rd_T45 t500 x6_2).f0).toList
            ·rw [if_pos c86] at H
             have c86b0 : (((rd_T45 t490 x6_2).f0).toList == ((rd_T45 t500 x6_2).f0).toList) = true := beq_iff_eq.mpr c86
             have c86b1 : (((rd_T45 t490 x6_2).f0).toList != ((rd_T45 t500 x6_2).f0).toList) = false := bne_eq_false_iff_eq.mpr c86
             clear c86
             (first | rw [c86b0] | (simp only [i64_w, i32_w]; rw [c86b0]) | skip)
             by_cases c87 : (((rd_T45 t500 x6_2).f1).size : Int) < ((rd_T45 t490 x6_2).f2)
             ·rw [if_pos c87] at H
              have c87b0 : decide ((((rd_T45 t500 x6_2).f1).size : Int) < ((rd_T45 t490 x6_2).f2)) = true := decide_eq_true c87
              clear c87
              have H' := Aside0.mk H
              clear H
              have hnb88 := NB513_499.out
              have hnc88 := NB499_513.out
              have hnb89 := NB513_506.out
              have hnc89 := NB506_513.out
              have hnb90 := NB513_515.out
              have hnc90 := NB515_513.out
              obtain ⟨hcz91_0, hcz91_1, hcz91_2, hfz91_0, hfz91_1, hfz91_2⟩ := bc3_ BK513
              have hnb92 := NB515_499.out
              have hnc92 := NB499_515.out
              have hnb93 := NB515_506.out
              have hnc93 := NB506_515.out
              obtain ⟨hcz94_0, hcz94_1, hcz94_2, hfz94_0, hfz94_1, hfz94_2⟩ := bc3_ BK515
              go_wp2
              go_meet
              case rel => exact ⟨_, (true), rs_, H', ⟨by have := HJ7.out; have := HK2.out; first | exact Nat.le_refl _ | exact Nat.le_of_succ_le this | omega⟩, ⟨by (with_reducible repeat (first | apply Kd.R_alloc | apply Kd.R_drewN | apply Kd.R_drew)); exact Kd.R_mono (Kd.R_far (p := ⟨gb515, 2, none⟩) (Kd.R_far (p := ⟨gb515, 1, none⟩) (Kd.R_far (p := ⟨gb515, 0, none⟩) (Kd.R_types HO_4.out BK515.out (by decide)) (fun _ hk => hk.2) (.string ((rd_T45 t500 x6_2).f0))) (fun _ hk => hk.2) (.string ((rd_T45 t500 x6_2).f1))) (fun _ hk => hk.2) (.int .i64 ((rd_T45 t500 x6_2).f2))) (fun _ hk => trivial)⟩, ⟨by (with_reducible repeat (first | apply Kd.R_alloc | apply Kd.R_drewN | apply Kd.R_drew)); exact Kd.R_mono (Kd.R_far (p := ⟨gb515, 2, none⟩) (Kd.R_far (p := ⟨gb515, 1, none⟩) (Kd.R_far (p := ⟨gb515, 0, none⟩) (Kd.R_mono HO_500000.out (fun k_ hk => (⟨hk, hk.2⟩ : _ ∧ k_ ≠ gb515))) (fun _ hk => hk.2) (.string ((rd_T45 t500 x6_2).f0))) (fun _ hk => hk.2) (.string ((rd_T45 t500 x6_2).f1))) (fun _ hk => hk.2) (.int .i64 ((rd_T45 t500 x6_2).f2))) (fun _ hk => ⟨hk.1.1.1, ⟨hk.1.1.2, hk.1.2⟩⟩)⟩, ⟨by (with_reducible repeat (first | apply Kd.R_alloc | apply Kd.R_drewN | apply Kd.R_drew)); exact Kd.R_mono (Kd.R_far (p := ⟨gb515, 2, none⟩) (Kd.R_far (p := ⟨gb515, 1, none⟩) (Kd.R_far (p := ⟨gb515, 0, none⟩) (Kd.R_mono HO_507000.out (fun k_ hk => (⟨hk, hk.2⟩ : _ ∧ k_ ≠ gb515))) (fun _ hk => hk.2) (.string ((rd_T45 t500 x6_2).f0))) (fun _ hk => hk.2) (.string ((rd_T45 t500 x6_2).f1))) (fun _ hk => hk.2) (.int .i64 ((rd_T45 t500 x6_2).f2))) (fun _ hk => ⟨hk.1.1.1, ⟨hk.1.1.2, hk.1.2⟩⟩)⟩, ⟨by (with_reducible repeat (first | refine blk_drewN ?_ _ | refine blk_drew ?_ | refine blk_alloc ?_ _)); refine blk_far ?_ NB499_515.out _; (with_reducible repeat (first | refine blk_drewN ?_ _ | refine blk_drew ?_ | refine blk_alloc ?_ _)); refine blk_far ?_ NB499_515.out _; (with_reducible repeat (first | refine blk_drewN ?_ _ | refine blk_drew ?_ | refine blk_alloc ?_ _)); refine blk_far ?_ NB499_515.out _; (with_reducible repeat (first | refine blk_drewN ?_ _ | refine blk_drew ?_ | refine blk_alloc ?_ _)); exact BK499.out⟩, ⟨by (with_reducible repeat (first | refine blk_drewN ?_ _ | refine blk_drew ?_ | refine blk_alloc ?_ _)); refine blk_far ?_ NB506_515.out _; (with_reducible repeat (first | refine blk_drewN ?_ _ | refine blk_drew ?_ | refine blk_alloc ?_ _)); refine blk_far ?_ NB506_515.out _; (with_reducible repeat (first | refine blk_drewN ?_ _ | refine blk_drew ?_ | refine blk_alloc ?_ _)); refine blk_far ?_ NB506_515.out _; (with_reducible repeat (first | refine blk_drewN ?_ _ | refine blk_drew ?_ | refine blk_alloc ?_ _)); exact BK506.out⟩, ⟨by (with_reducible repeat (first | refine blk_drewN ?_ _ | refine blk_drew ?_ | refine blk_alloc ?_ _)); refine blk_far ?_ NB513_515.out _; (with_reducible repeat (first | refine blk_drewN ?_ _ | refine blk_drew ?_ | refine blk_alloc ?_ _)); refine blk_far ?_ NB513_515.out _; (with_reducible repeat (first | refine blk_drewN ?_ _ | refine blk_drew ?_ | refine blk_alloc ?_ _)); refine blk_far ?_ NB513_515.out _; (with_reducible repeat (first | refine blk_drewN ?_ _ | refine blk_drew ?_ | refine blk_alloc ?_ _)); exact BK513.out⟩, ⟨by (with_reducible repeat (first | refine blk_drewN ?_ _ | refine blk_drew ?_ | refine blk_alloc ?_ _)); refine blk_put (cs := #[.string ((rd_T45 t500 x6_2).f0), .string ((rd_T45 t500 x6_2).f1), .int .i64 0]) ?_ 2 _ rfl; (with_reducible repeat (first | refine blk_drewN ?_ _ | refine blk_drew ?_ | refine blk_alloc ?_ _)); refine blk_put (cs := #[.string ((rd_T45 t500 x6_2).f0), .string (⟨#[]⟩ : ByteArray), .int .i64 0]) ?_ 1 _ rfl; (with_reducible repeat (first | refine blk_drewN ?_ _ | refine blk_drew ?_ | refine blk_alloc ?_ _)); refine blk_put (cs := #[.string (⟨#[]⟩ : ByteArray), .string (⟨#[]⟩ : ByteArray), .int .i64 0]) ?_ 0 _ rfl; (with_reducible repeat (first | refine blk_drewN ?_ _ | refine blk_drew ?_ | refine blk_alloc ?_ _)); exact BK515.out⟩, ⟨by repeat (first | (with_reducible first | exact HB.out | apply below_alloc | apply pw_below_drewN | apply below_drew1 | refine below_set ?_ GE499.out | refine below_set ?_ GE506.out | refine below_set ?_ GE513.out | refine below_set ?_ GE515.out) | exact HB.out)⟩⟩
             ·rw [if_neg c87] at H
              have c87b0 : decide ((((rd_T45 t500 x6_2).f1).size : Int) < ((rd_T45 t490 x6_2).f2)) = false := decide_eq_false c87
              clear c87
              replace H := Option.bind_eq_some_iff.mp H
              obtain ⟨t516, A950, H⟩ := H
              replace H : (laws_FnPower.j2 k2 t496 x6_2 (!t516) t490 t493 t494 t495 t500 t503 t504 t505) = some r := H
              have A95 := Aside0.mk A950
              clear A950
              have H' := Aside0.mk H
              clear H
              have hnb96 := NB513_499.out
              have hnc96 := NB499_513.out
              have hnb97 := NB513_506.out
              have hnc97 := NB506_513.out
              have hnb98 := NB513_515.out
              have hnc98 := NB515_513.out
              obtain ⟨hcz99_0, hcz99_1, hcz99_2, hfz99_0, hfz99_1, hfz99_2⟩ := bc3_ BK513
              have hnb100 := NB515_499.out
              have hnc100 := NB499_515.out
              have hnb101 := NB515_506.out
              have hnc101 := NB506_515.out
              obtain ⟨hcz102_0, hcz102_1, hcz102_2, hfz102_0, hfz102_1, hfz102_2⟩ := bc3_ BK515
              go_wp2_with (first | (go_at_call 22; (with_reducible refine (laws_begins.calls ((rd_T45 t500 x6_2).f1) ((rd_T45 t490 x6_2).f1) t516 _ A95.out).mono ?_); rintro e w' ⟨rfl, ⟨nd, rfl⟩⟩))
              go_meet
              case rel => exact ⟨_, (!t516), rs_, H', ⟨by have := HJ7.out; have := HK2.out; first | exact Nat.le_refl _ | exact Nat.le_of_succ_le this | omega⟩, ⟨by (with_reducible repeat (first | apply Kd.R_alloc | apply Kd.R_drewN | apply Kd.R_drew)); exact Kd.R_mono (Kd.R_far (p := ⟨gb515, 2, none⟩) (Kd.R_far (p := ⟨gb515, 1, none⟩) (Kd.R_far (p := ⟨gb515, 0, none⟩) (Kd.R_types HO_4.out BK515.out (by decide)) (fun _ hk => hk.2) (.string ((rd_T45 t500 x6_2).f0))) (fun _ hk => hk.2) (.string ((rd_T45 t500 x6_2).f1))) (fun _ hk => hk.2) (.int .i64 ((rd_T45 t500 x6_2).f2))) (fun _ hk => trivial)⟩, ⟨by (with_reducible repeat (first | apply Kd.R_alloc | apply Kd.R_drewN | apply Kd.R_drew)); exact Kd.R_mono (Kd.R_far (p := ⟨gb515, 2, none⟩) (Kd.R_far (p := ⟨gb515, 1, none⟩) (Kd.R_far (p := ⟨gb515, 0, none⟩) (Kd.R_mono HO_500000.out (fun k_ hk => (⟨hk, hk.2⟩ : _ ∧ k_ ≠ gb515))) (fun _ hk => hk.2) (.string ((rd_T45 t500 x6_2).f0))) (fun _ hk => hk.2) (.string ((rd_T45 t500 x6_2).f1))) (fun _ hk => hk.2) (.int .i64 ((rd_T45 t500 x6_2).f2))) (fun _ hk => ⟨hk.1.1.1, ⟨hk.1.1.2, hk.1.2⟩⟩)⟩, ⟨by (with_reducible repeat (first | apply Kd.R_alloc | apply Kd.R_drewN | apply Kd.R_drew)); exact Kd.R_mono (Kd.R_far (p := ⟨gb515, 2, none⟩) (Kd.R_far (p := ⟨gb515, 1, none⟩) (Kd.R_far (p := ⟨gb515, 0, none⟩) (Kd.R_mono HO_507000.out (fun k_ hk => (⟨hk, hk.2⟩ : _ ∧ k_ ≠ gb515))) (fun _ hk => hk.2) (.string ((rd_T45 t500 x6_2).f0))) (fun _ hk => hk.2) (.string ((rd_T45 t500 x6_2).f1))) (fun _ hk => hk.2) (.int .i64 ((rd_T45 t500 x6_2).f2))) (fun _ hk => ⟨hk.1.1.1, ⟨hk.1.1.2, hk.1.2⟩⟩)⟩, ⟨by (with_reducible repeat (first | refine blk_drewN ?_ _ | refine blk_drew ?_ | refine blk_alloc ?_ _)); refine blk_far ?_ NB499_515.out _; (with_reducible repeat (first | refine blk_drewN ?_ _ | refine blk_drew ?_ | refine blk_alloc ?_ _)); refine blk_far ?_ NB499_515.out _; (with_reducible repeat (first | refine blk_drewN ?_ _ | refine blk_drew ?_ | refine blk_alloc ?_ _)); refine blk_far ?_ NB499_515.out _; (with_reducible repeat (first | refine blk_drewN ?_ _ | refine blk_drew ?_ | refine blk_alloc ?_ _)); exact BK499.out⟩, ⟨by (with_reducible repeat (first | refine blk_drewN ?_ _ | refine blk_drew ?_ | refine blk_alloc ?_ _)); refine blk_far ?_ NB506_515.out _; (with_reducible repeat (first | refine blk_drewN ?_ _ | refine blk_drew ?_ | refine blk_alloc ?_ _)); refine blk_far ?_ NB506_515.out _; (with_reducible repeat (first | refine blk_drewN ?_ _ | refine blk_drew ?_ | refine blk_alloc ?_ _)); refine blk_far ?_ NB506_515.out _; (with_reducible repeat (first | refine blk_drewN ?_ _ | refine blk_drew ?_ | refine blk_alloc ?_ _)); exact BK506.out⟩, ⟨by (with_reducible repeat (first | refine blk_drewN ?_ _ | refine blk_drew ?_ | refine blk_alloc ?_ _)); refine blk_far ?_ NB513_515.out _; (with_reducible repeat (first | refine blk_drewN ?_ _ | refine blk_drew ?_ | refine blk_alloc ?_ _)); refine blk_far ?_ NB513_515.out _; (with_reducible repeat (first | refine blk_drewN ?_ _ | refine blk_drew ?_ | refine blk_alloc ?_ _)); refine blk_far ?_ NB513_515.out _; (with_reducible repeat (first | refine blk_drewN ?_ _ | refine blk_drew ?_ | refine blk_alloc ?_ _)); exact BK513.out⟩, ⟨by (with_reducible repeat (first | refine blk_drewN ?_ _ | refine blk_drew ?_ | refine blk_alloc ?_ _)); refine blk_put (cs := #[.string ((rd_T45 t500 x6_2).f0), .string ((rd_T45 t500 x6_2).f1), .int .i64 0]) ?_ 2 _ rfl; (with_reducible repeat (first | refine blk_drewN ?_ _ | refine blk_drew ?_ | refine blk_alloc ?_ _)); refine blk_put (cs := #[.string ((rd_T45 t500 x6_2).f0), .string (⟨#[]⟩ : ByteArray), .int .i64 0]) ?_ 1 _ rfl; (with_reducible repeat (first | refine blk_drewN ?_ _ | refine blk_drew ?_ | refine blk_alloc ?_ _)); refine blk_put (cs := #[.string (⟨#[]⟩ : ByteArray), .string (⟨#[]⟩ : ByteArray), .int .i64 0]) ?_ 0 _ rfl; (with_reducible repeat (first | refine blk_drewN ?_ _ | refine blk_drew ?_ | refine blk_alloc ?_ _)); exact BK515.out⟩, ⟨by repeat (first | (with_reducible first | exact HB.out | apply below_alloc | apply pw_below_drewN | apply below_drew1 | refine below_set ?_ GE499.out | refine below_set ?_ GE506.out | refine below_set ?_ GE513.out | refine below_set ?_ GE515.out) | exact HB.out)⟩⟩
            ·rw [if_neg c86] at H
             have c86b0 : (((rd_T45 t490 x6_2).f0).toList == ((rd_T45 t500 x6_2).f0).toList) = false := beq_eq_false_iff_ne.mpr c86
             have c86b1 : (((rd_T45 t490 x6_2).f0).toList != ((rd_T45 t500 x6_2).f0).toList) = true := bne_iff_ne.mpr c86
             (first | rw [c86b0] | (simp only [i64_w, i32_w]; rw [c86b0]) | skip)
             have H' := Aside0.mk H
             clear H
             have hnb103 := NB513_499.out
             have hnc103 := NB499_513.out
             have hnb104 := NB513_506.out
             have hnc104 := NB506_513.out
             have hnb105 := NB513_515.out
             have hnc105 := NB515_513.out
             obtain ⟨hcz106_0, hcz106_1, hcz106_2, hfz106_0, hfz106_1, hfz106_2⟩ := bc3_ BK513
             have hnb107 := NB515_499.out
             have hnc107 := NB499_515.out
             have hnb108 := NB515_506.out
             have hnc108 := NB506_515.out
             obtain ⟨hcz109_0, hcz109_1, hcz109_2, hfz109_0, hfz109_1, hfz109_2⟩ := bc3_ BK515
             go_wp2
             go_meet
             case rel => exact ⟨_, (true), rs_, H', ⟨by have := HJ7.out; have := HK2.out; first | exact Nat.le_refl _ | exact Nat.le_of_succ_le this | omega⟩, ⟨by (with_reducible repeat (first | apply Kd.R_alloc | apply Kd.R_drewN | apply Kd.R_drew)); exact Kd.R_mono (Kd.R_far (p := ⟨gb515, 2, none⟩) (Kd.R_far (p := ⟨gb515, 1, none⟩) (Kd.R_far (p := ⟨gb515, 0, none⟩) (Kd.R_types HO_4.out BK515.out (by decide)) (fun _ hk => hk.2) (.string ((rd_T45 t500 x6_2).f0))) (fun _ hk => hk.2) (.string ((rd_T45 t500 x6_2).f1))) (fun _ hk => hk.2) (.int .i64 ((rd_T45 t500 x6_2).f2))) (fun _ hk => trivial)⟩, ⟨by (with_reducible repeat (first | apply Kd.R_alloc | apply Kd.R_drewN | apply Kd.R_drew)); exact Kd.R_mono (Kd.R_far (p := ⟨gb515, 2, none⟩) (Kd.R_far (p := ⟨gb515, 1, none⟩) (Kd.R_far (p := ⟨gb515, 0, none⟩) (Kd.R_mono HO_500000.out (fun k_ hk => (⟨hk, hk.2⟩ : _ ∧ k_ ≠ gb515))) (fun _ hk => hk.2) (.string ((rd_T45 t500 x6_2).f0))) (fun _ hk => hk.2) (.string ((rd_T45 t500 x6_2).f1))) (fun _ hk => hk.2) (.int .i64 ((rd_T45 t500 x6_2).f2))) (fun _ hk => ⟨hk.1.1.1, ⟨hk.1.1.2, hk.1.2⟩⟩)⟩, ⟨by (with_reducible repeat (first | apply Kd.R_alloc | apply Kd.R_drewN | apply Kd.R_drew)); exact Kd.R_mono (Kd.R_far (p := ⟨gb515, 2, none⟩) (Kd.R_far (p := ⟨gb515, 1, none⟩) (Kd.R_far (p := ⟨gb515, 0, none⟩) (Kd.R_mono HO_507000.out (fun k_ hk => (⟨hk, hk.2⟩ : _ ∧ k_ ≠ gb515))) (fun _ hk => hk.2) (.string ((rd_T45 t500 x6_2).f0))) (fun _ hk => hk.2) (.string ((rd_T45 t500 x6_2).f1))) (fun _ hk => hk.2) (.int .i64 ((rd_T45 t500 x6_2).f2))) (fun _ hk => ⟨hk.1.1.1, ⟨hk.1.1.2, hk.1.2⟩⟩)⟩, ⟨by (with_reducible repeat (first | refine blk_drewN ?_ _ | refine blk_drew ?_ | refine blk_alloc ?_ _)); refine blk_far ?_ NB499_515.out _; (with_reducible repeat (first | refine blk_drewN ?_ _ | refine blk_drew ?_ | refine blk_alloc ?_ _)); refine blk_far ?_ NB499_515.out _; (with_reducible repeat (first | refine blk_drewN ?_ _ | refine blk_drew ?_ | refine blk_alloc ?_ _)); refine blk_far ?_ NB499_515.out _; (with_reducible repeat (first | refine blk_drewN ?_ _ | refine blk_drew ?_ | refine blk_alloc ?_ _)); exact BK499.out⟩, ⟨by (with_reducible repeat (first | refine blk_drewN ?_ _ | refine blk_drew ?_ | refine blk_alloc ?_ _)); refine blk_far ?_ NB506_515.out _; (with_reducible repeat (first | refine blk_drewN ?_ _ | refine blk_drew ?_ | refine blk_alloc ?_ _)); refine blk_far ?_ NB506_515.out _; (with_reducible repeat (first | refine blk_drewN ?_ _ | refine blk_drew ?_ | refine blk_alloc ?_ _)); refine blk_far ?_ NB506_515.out _; (with_reducible repeat (first | refine blk_drewN ?_ _ | refine blk_drew ?_ | refine blk_alloc ?_ _)); exact BK506.out⟩, ⟨by (with_reducible repeat (first | refine blk_drewN ?_ _ | refine blk_drew ?_ | refine blk_alloc ?_ _)); refine blk_far ?_ NB513_515.out _; (with_reducible repeat (first | refine blk_drewN ?_ _ | refine blk_drew ?_ | refine blk_alloc ?_ _)); refine blk_far ?_ NB513_515.out _; (with_reducible repeat (first | refine blk_drewN ?_ _ | refine blk_drew ?_ | refine blk_alloc ?_ _)); refine blk_far ?_ NB513_515.out _; (with_reducible repeat (first | refine blk_drewN ?_ _ | refine blk_drew ?_ | refine blk_alloc ?_ _)); exact BK513.out⟩, ⟨by (with_reducible repeat (first | refine blk_drewN ?_ _ | refine blk_drew ?_ | refine blk_alloc ?_ _)); refine blk_put (cs := #[.string ((rd_T45 t500 x6_2).f0), .string ((rd_T45 t500 x6_2).f1), .int .i64 0]) ?_ 2 _ rfl; (with_reducible repeat (first | refine blk_drewN ?_ _ | refine blk_drew ?_ | refine blk_alloc ?_ _)); refine blk_put (cs := #[.string ((rd_T45 t500 x6_2).f0), .string (⟨#[]⟩ : ByteArray), .int .i64 0]) ?_ 1 _ rfl; (with_reducible repeat (first | refine blk_drewN ?_ _ | refine blk_drew ?_ | refine blk_alloc ?_ _)); refine blk_put (cs := #[.string (⟨#[]⟩ : ByteArray), .string (⟨#[]⟩ : ByteArray), .int .i64 0]) ?_ 0 _ rfl; (with_reducible repeat (first | refine blk_drewN ?_ _ | refine blk_drew ?_ | refine blk_alloc ?_ _)); exact BK515.out⟩, ⟨by repeat (first | (with_reducible first | exact HB.out | apply below_alloc | apply pw_below_drewN | apply below_drew1 | refine below_set ?_ GE499.out | refine below_set ?_ GE506.out | refine below_set ?_ GE513.out | refine below_set ?_ GE515.out) | exact HB.out)⟩⟩
           case rest =>
            clear HC72
            try clear c1
            try clear c2
            try clear p2
            try clear c3
            try clear c4
            try clear c5
            try clear p5
            try clear q5
            try clear hx5
            try clear c6
            try clear c7
            try clear c8
            try clear c9
            try clear c10
            try clear c16
            try clear c17
            try clear c18
            try clear c21
            try clear c21b0
            try clear c21b1
            try clear c21b2
            try clear c23
            try clear c25
            try clear c25b0
            try clear c25b1
            try clear c27
            try clear c28
            try clear c29
            try clear c38
            try clear c47
            try clear p51
            try clear q51
            try clear hx51
            try clear c55
            try clear c61
            try clear c65
            try clear c68
            try clear c69
            try clear c69b0
            try clear c70
            try clear c70b0
            try clear c71
            try clear c71b0
            try clear c73
            try clear c77
            try clear c78
            try clear c82
            try clear c83
            try clear c84
            try clear c86
            try clear c86b0
            try clear c86b1
            try clear c87
            try clear c87b0
            try clear c88
            try clear c89
            try clear c90
            try clear c92
            try clear c93
            try clear c96
            try clear c97
            try clear c98
            try clear c100
            try clear c101
            try clear c103
            try clear c104
            try clear c105
            try clear c107
            try clear c108
            try clear hcz102_0 hcz102_1 hcz102_2 hfz102_0 hfz102_1 hfz102_2
            try clear hcz106_0 hcz106_1 hcz106_2 hfz106_0 hfz106_1 hfz106_2
            try clear hcz109_0 hcz109_1 hcz109_2 hfz109_0 hfz109_1 hfz109_2
            try clear hcz12_0 hcz12_1 hcz12_2 hcz12_3 hfz12_0 hfz12_1 hfz12_2 hfz12_3
            try clear hcz18_0 hcz18_1 hcz18_2 hcz18_3 hfz18_0 hfz18_1 hfz18_2 hfz18_3
            try clear hcz19_0 hcz19_1 hcz19_2 hcz19_3 hfz19_0 hfz19_1 hfz19_2 hfz19_3
            try clear hcz30_0 hcz30_1 hcz30_2 hcz30_3 hfz30_0 hfz30_1 hfz30_2 hfz30_3
            try clear hcz31_0 hcz31_1 hcz31_2 hcz31_3 hfz31_0 hfz31_1 hfz31_2 hfz31_3
            try clear hcz33_0 hcz33_1 hcz33_2 hcz33_3 hfz33_0 hfz33_1 hfz33_2 hfz33_3
            try clear hcz35_0 hcz35_1 hcz35_2 hcz35_3 hfz35_0 hfz35_1 hfz35_2 hfz35_3
            try clear hcz37_0 hcz37_1 hcz37_2 hcz37_3 hfz37_0 hfz37_1 hfz37_2 hfz37_3
            try clear hcz39_0 hcz39_1 hcz39_2 hcz39_3 hfz39_0 hfz39_1 hfz39_2 hfz39_3
            try clear hcz40_0 hcz40_1 hcz40_2 hcz40_3 hfz40_0 hfz40_1 hfz40_2 hfz40_3
            try clear hcz42_0 hcz42_1 hcz42_2 hcz42_3 hfz42_0 hfz42_1 hfz42_2 hfz42_3
            try clear hcz44_0 hcz44_1 hcz44_2 hcz44_3 hfz44_0 hfz44_1 hfz44_2 hfz44_3
            try clear hcz46_0 hcz46_1 hcz46_2 hcz46_3 hfz46_0 hfz46_1 hfz46_2 hfz46_3
            try clear hcz48_0 hcz48_1 hcz48_2 hcz48_3 hfz48_0 hfz48_1 hfz48_2 hfz48_3
            try clear hcz49_0 hcz49_1 hcz49_2 hcz49_3 hfz49_0 hfz49_1 hfz49_2 hfz49_3
            try clear hcz51_0 hcz51_1 hcz51_2 hcz51_3 hfz51_0 hfz51_1 hfz51_2 hfz51_3
            try clear hcz53_0 hcz53_1 hcz53_2 hcz53_3 hfz53_0 hfz53_1 hfz53_2 hfz53_3
            try clear hcz56_0 hcz56_1 hcz56_2 hcz56_3 hfz56_0 hfz56_1 hfz56_2 hfz56_3
            try clear hcz57_0 hcz57_1 hcz57_2 hcz57_3 hfz57_0 hfz57_1 hfz57_2 hfz57_3
            try clear hcz59_0 hcz59_1 hcz59_2 hcz59_3 hfz59_0 hfz59_1 hfz59_2 hfz59_3
            try clear hcz62_0 hcz62_1 hcz62_2 hcz62_3 hfz62_0 hfz62_1 hfz62_2 hfz62_3
            try clear hcz63_0 hcz63_1 hcz63_2 hcz63_3 hfz63_0 hfz63_1 hfz63_2 hfz63_3
            try clear hcz66_0 hcz66_1 hcz66_2 hcz66_3 hfz66_0 hfz66_1 hfz66_2 hfz66_3
            try clear hcz67_0 hcz67_1 hcz67_2 hcz67_3 hfz67_0 hfz67_1 hfz67_2 hfz67_3
            try clear hcz74_0 hcz74_1 hcz74_2 hcz74_3 hfz74_0 hfz74_1 hfz74_2 hfz74_3
            try clear hcz75_0 hcz75_1 hcz75_2 hcz75_3 hfz75_0 hfz75_1 hfz75_2 hfz75_3
            try clear hcz79_0 hcz79_1 hcz79_2 hfz79_0 hfz79_1 hfz79_2
            try clear hcz80_0 hcz80_1 hcz80_2 hcz80_3 hfz80_0 hfz80_1 hfz80_2 hfz80_3
            try clear hcz85_0 hcz85_1 hcz85_2 hfz85_0 hfz85_1 hfz85_2
            try clear hcz91_0 hcz91_1 hcz91_2 hfz91_0 hfz91_1 hfz91_2
            try clear hcz94_0 hcz94_1 hcz94_2 hfz94_0 hfz94_1 hfz94_2
            try clear hcz99_0 hcz99_1 hcz99_2 hfz99_0 hfz99_1 hfz99_2
            try clear hx512_0
            try clear hx512_1
            try clear hx512_2
            try clear hx514_0
            try clear hx514_1
            try clear hx514_2
            try clear p2
            try clear p512
            try clear p514
            try clear q512
            try clear q514
            obtain ⟨kq, x93_71, rfl, HA, HJ71, HO_4, HO_500000, HO_507000, BK499, BK506, BK513, BK515, HB⟩ := hcut
            cases kq with
            | zero => exact absurd HA.out (by simp [laws_FnPower.j2])
            | succ kj71 =>
             have H := HA.out
             clear HA
             simp only [laws_FnPower.j2] at H
             by_cases c110 : x93_71 = true
             ·subst c110
              have H1 : (some false) = some r := by rw [if_pos rfl] at H; exact H
              clear H
              have H := H1
              clear H1
              exact absurd ((Option.some.inj H).trans HRT.out) (by decide)
             ·replace c110 := Bool.eq_false_iff.mpr c110
              subst c110
              have H1 : (laws_FnPower.l0 kj71 t496 (wrap64 (x6_2 + 1)) t490 t493 t494 t495 t500 t503 t504 t505) = some r := by rw [if_neg (show ¬ (false = true) by decide)] at H; exact H
              clear H
              have H := H1
              clear H1
              have H' := Aside0.mk H
              clear H
              go_wp2
              go_roundg kj71
              case measure => have := HJ7.out; have := HK2.out; have := HJ71.out; omega
              case rel => exact ⟨(wrap64 (x6_2 + 1)), rs_, H', ⟨by have := HJ7.out; have := HK2.out; have := HJ71.out; omega⟩, ⟨rr_ HO_4⟩, ⟨by (with_reducible repeat (first | apply Kd.R_alloc | apply Kd.R_drewN | apply Kd.R_drew)); exact Kd.R_mono HO_500000.out (fun _ hk => hk.1)⟩, ⟨by (with_reducible repeat (first | apply Kd.R_alloc | apply Kd.R_drewN | apply Kd.R_drew)); exact Kd.R_mono HO_507000.out (fun _ hk => hk.1)⟩, ⟨bk_ BK499⟩, ⟨bk_ BK506⟩, ⟨by repeat (first | (with_reducible first | exact HB.out | apply below_alloc | apply pw_below_drewN | apply below_drew1 | refine below_set ?_ GE499.out | refine below_set ?_ GE506.out | refine below_set ?_ GE513.out | refine below_set ?_ GE515.out) | exact HB.out)⟩⟩
          ·rw [if_neg c71] at H
           exact absurd H (by simp)
         ·rw [if_neg c70] at H
          exact absurd H (by simp)
        ·rw [if_neg c69] at H
         have c69b0 : decide (x6_2 < (t500.length : Int)) = false := decide_eq_false c69
         clear c69
         replace H := Option.bind_eq_some_iff.mp H
         obtain ⟨⟨t517, t520, t521, t522⟩, A1110, H⟩ := H
         replace H : ((spec_SameDisk.f k2 t517 t520 t521 t522 t500 t503 t504 t505).bind fun t523 => (if t523 = true then ((impl_Used.f k2 t500 t503 t504 t505).bind fun t524 => ((impl_Used.f k2 t490 t493 t494 t495).bind fun t525 => (if t524 ≤ t525 then ((impl_Used.f k2 t490 t493 t494 t495).bind fun t526 => ((impl_Used.f k2 t500 t503 t504 t505).bind fun t527 => ((impl_Volatile.f k2 t490 t493 t494 t495).bind fun t528 => (some (decide ((wrap64 (t526 - t527)) ≤ t528)))))) else (some false)))) else (some false))) = some r := H
         have A111 := Aside0.mk A1110
         clear A1110
         replace H := Option.bind_eq_some_iff.mp H
         obtain ⟨t523, A1120, H⟩ := H
         replace H : (if t523 = true then ((impl_Used.f k2 t500 t503 t504 t505).bind fun t524 => ((impl_Used.f k2 t490 t493 t494 t495).bind fun t525 => (if t524 ≤ t525 then ((impl_Used.f k2 t490 t493 t494 t495).bind fun t526 => ((impl_Used.f k2 t500 t503 t504 t505).bind fun t527 => ((impl_Volatile.f k2 t490 t493 t494 t495).bind fun t528 => (some (decide ((wrap64 (t526 - t527)) ≤ t528)))))) else (some false)))) else (some false)) = some r := H
         have A112 := Aside0.mk A1120
         clear A1120
         by_cases c113 : t523 = true
         ·subst c113
          have H1 : ((impl_Used.f k2 t500 t503 t504 t505).bind fun t524 => ((impl_Used.f k2 t490 t493 t494 t495).bind fun t525 => (if t524 ≤ t525 then ((impl_Used.f k2 t490 t493 t494 t495).bind fun t526 => ((impl_Used.f k2 t500 t503 t504 t505).bind fun t527 => ((impl_Volatile.f k2 t490 t493 t494 t495).bind fun t528 => (some (decide ((wrap64 (t526 - t527)) ≤ t528)))))) else (some false)))) = some r := by rw [if_pos rfl] at H; exact H
          clear H
          have H := H1
          clear H1
          replace H := Option.bind_eq_some_iff.mp H
          obtain ⟨t524, A1140, H⟩ := H
          replace H : ((impl_Used.f k2 t490 t493 t494 t495).bind fun t525 => (if t524 ≤ t525 then ((impl_Used.f k2 t490 t493 t494 t495).bind fun t526 => ((impl_Used.f k2 t500 t503 t504 t505).bind fun t527 => ((impl_Volatile.f k2 t490 t493 t494 t495).bind fun t528 => (some (decide ((wrap64 (t526 - t527)) ≤ t528)))))) else (some false))) = some r := H
          have A114 := Aside0.mk A1140
          clear A1140
          replace H := Option.bind_eq_some_iff.mp H
          obtain ⟨t525, A1150, H⟩ := H
          replace H : (if t524 ≤ t525 then ((impl_Used.f k2 t490 t493 t494 t495).bind fun t526 => ((impl_Used.f k2 t500 t503 t504 t505).bind fun t527 => ((impl_Volatile.f k2 t490 t493 t494 t495).bind fun t528 => (some (decide ((wrap64 (t526 - t527)) ≤ t528)))))) else (some false)) = some r := H
          have A115 := Aside0.mk A1150
          clear A1150
          by_cases c116 : t524 ≤ t525
          ·rw [if_pos c116] at H
           have c116b0 : decide (t524 ≤ t525) = true := decide_eq_true c116
           clear c116
           replace H := Option.bind_eq_some_iff.mp H
           obtain ⟨t526, A1170, H⟩ := H
           replace H : ((impl_Used.f k2 t500 t503 t504 t505).bind fun t527 => ((impl_Volatile.f k2 t490 t493 t494 t495).bind fun t528 => (some (decide ((wrap64 (t526 - t527)) ≤ t528))))) = some r := H
           have A117 := Aside0.mk A1170
           clear A1170
           replace H := Option.bind_eq_some_iff.mp H
           obtain ⟨t527, A1180, H⟩ := H
           replace H : ((impl_Volatile.f k2 t490 t493 t494 t495).bind fun t528 => (some (decide ((wrap64 (t526 - t527)) ≤ t528)))) = some r := H
           have A118 := Aside0.mk A1180
           clear A1180
           replace H := Option.bind_eq_some_iff.mp H
           obtain ⟨t528, A1190, H⟩ := H
           replace H : (some (decide ((wrap64 (t526 - t527)) ≤ t528))) = some r := H
           have A119 := Aside0.mk A1190
           clear A1190
           obtain rfl := Option.some.inj H
           have hnb120 := NB506_499.out
           have hnc120 := NB499_506.out
           obtain ⟨hcz121_0, hcz121_1, hcz121_2, hcz121_3, hfz121_0, hfz121_1, hfz121_2, hfz121_3⟩ := bc4_ BK506
           try go_wp2
           replace HO_4 := rd_ HO_4
           replace HO_500000 := rd_ HO_500000
           replace HO_507000 := rd_ HO_507000
           replace BK499 := bd_ BK499
           replace BK506 := bd_ BK506
           replace HB := hd_ HB
           refine start_ (n := 23) (S := k4_ gb506 (.slice Ao16 t500.length co16) (.int .i64 t503) (.int .i64 t504) (.bool t505) (k4e_ gb499 (.slice Ao11 t490.length co11) (.int .i64 t493) (.int .i64 t494) (.bool t495))) (ds := []) (on_ 0 23) (by kernel_rfl) rfl rfl (p4_ BK506 (p4e_ BK499)) (fun hHeld => ?_); refine with_tabW laws_FnPower.tab16 laws_FnPower.bits16 (fun HT_ HW_ => ?_)
           generalize wr.drew = w122 at HO_4 HO_500000 HO_507000 BK499 BK506 HB hHeld ⊢
           refine pv_' 1 95 #[o',i',o',o',o',o',o',o',o',o',o',o',o',o',o',o',o',o',o',o',o',o',o'] rfl rfl HT_ ?_
           refine take_ (i := 0) (N := some 94) (v := ?_) (a' := ?_) (on_ 2 21) rfl rfl (take_ofW HT_.out HW_.out (by kernel_rfl)) (fun _ _ _ h => h) (Or.inl ⟨by rfl, ?_⟩) hHeld ?_ ?_
           rotate_left
           ·rintro w' ⟨s0, s1, s2, s3, s4, s5, s6, s7⟩
            go_simp
            with_reducible rfl
           rotate_left
           ·simp only [Act.put, la_, lz_, ls_, i64_w, i32_w]
            rfl
           refine take_ (i := 3) (N := some 97) (v := ?_) (a' := ?_) #[i',i',o',i',o',o',o',o',o',o',o',o',o',o',o',o',o',o',o',o',o',o',o'] rfl rfl (take_ofW HT_.out HW_.out (by kernel_rfl)) (fun _ _ _ h => h) (Or.inl ⟨by rfl, ?_⟩) hHeld ?_ ?_
           rotate_left
           ·rintro w' ⟨s0, s1, s2, s3, s4, s5, s6, s7⟩
            go_simp
            with_reducible rfl
           rotate_left
           ·simp only [Act.put, la_, lz_, ls_, i64_w, i32_w]
            rfl
           refine one_ (i := 2) (N := some 96) (on_ 4 19) rfl rfl (one_of HT_.out (by kernel_rfl)) (by decide) (fun K hK => ?_)
           refine goes_ Try.func10 (by kernel_rfl) rfl #[.agg #[.slice Ao16 t500.length co16, .int .i64 t503, .int .i64 t504, .bool t505], .slice Ao13 t496.length co13] (by rfl) rfl rfl ar_ ?_
           with_reducible refine (impl_Power.calls k2 _ _ t500 t503 t504 t505 _ _ t496 t517 t520 t521 t522 _ ?side1 ?side2 ?side3 ?side4 A111.out).mono ?_
           (case side1 => repeat (first | exact (Kd.R_reads' HO_507000.out).2.2 | (with_reducible refine Kd.C_alloc ?_ _) | (with_reducible refine Kd.C_drewN ?_ _) | (with_reducible refine Kd.C_drew ?_)))
           (case side2 => exact (Kd.R_reads' HO_507000.out).2.1)
           (case side3 => repeat (first | exact (Kd.R_reads' HO_4.out).2.2 | (with_reducible refine Kd.C_alloc ?_ _) | (with_reducible refine Kd.C_drewN ?_ _) | (with_reducible refine Kd.C_drew ?_)))
           (case side4 => exact (Kd.R_reads' HO_4.out).2.1)
           rintro e w123 ⟨v518, rfl, ho0, hb⟩
           refine ⟨_, rfl, ?_⟩
           replace HO_4 := rb_ HO_4 hb
           have HO519 := Aside0.mk (Kd.R_lower (Kd.R_new' (Kd.R_new' ho0 (Kd.R_lt (rr_ HO_500000))) (Kd.R_lt (rr_ HO_507000))) (below_size (hu_ HB GE499 GE506)))
           replace HO_500000 := Aside0.mk (Kd.R_elder' (rr_ HO_500000) (Kd.R_base ho0) hb)
           replace HO_507000 := Aside0.mk (Kd.R_elder' (rr_ HO_507000) (Kd.R_base ho0) hb)
           replace BK499 := bb_ BK499 hb
           replace BK506 := bb_ BK506 hb
           replace HB := bu_ HB GE499 GE506 hb
           (try clear hb)
           (try clear hb2)
           (try clear hk)
           (try clear hi)
           (try clear ho0)
           obtain ⟨Ao124, co124, eo124⟩ := Kd.R_slice HO519.out
           (first | subst eo124 | (injection eo124 with f1_ f2_ f3_; have f4_ := f1_.symm; have f5_ := f3_.symm; clear f1_ f2_ f3_; subst f4_; subst f5_))
           refine hK.out _ _ (p4_ BK506 (p4e_ BK499)) (fun hHeld => ?_)
           clear hK K
           refine norm_ (a' := ?_) ?_ ?_
           rotate_left
           ·show Act.put _ (some 96) _ = _
            simp only [Act.put, la_, lz_, ls_, i64_w, i32_w]
            rfl
           refine one_ (i := 4) (N := some 98) (on_ 5 18) rfl rfl (one_of HT_.out (by kernel_rfl)) (by decide) (fun K hK => ?_)
           refine goes_ Try.func19 (by kernel_rfl) rfl #[.agg #[.slice Ao124 t517.length co124, .int .i64 t520, .int .i64 t521, .bool t522], .agg #[.slice Ao16 t500.length co16, .int .i64 t503, .int .i64 t504, .bool t505]] (by rfl) rfl rfl ar_ ?_
           with_reducible refine (spec_SameDisk.calls k2 _ _ t517 t520 t521 t522 _ _ t500 t503 t504 t505 true _ ?side1 ?side2 ?side3 ?side4 A112.out).mono ?_
           (case side1 => repeat (first | exact (Kd.R_reads' HO519.out).2.2 | (with_reducible refine Kd.C_alloc ?_ _) | (with_reducible refine Kd.C_drewN ?_ _) | (with_reducible refine Kd.C_drew ?_)))
           (case side2 => exact (Kd.R_reads' HO519.out).2.1)
           (case side3 => repeat (first | exact (Kd.R_reads' HO_507000.out).2.2 | (with_reducible refine Kd.C_alloc ?_ _) | (with_reducible refine Kd.C_drewN ?_ _) | (with_reducible refine Kd.C_drew ?_)))
           (case side4 => exact (Kd.R_reads' HO_507000.out).2.1)
           rintro e w125 ⟨rfl, hb⟩
           refine ⟨_, rfl, ?_⟩
           replace HO_4 := rb_ HO_4 hb
           replace HO_500000 := rb_ HO_500000 hb
           replace HO_507000 := rb_ HO_507000 hb
           replace HO519 := rb_ HO519 hb
           replace BK499 := bb_ BK499 hb
           replace BK506 := bb_ BK506 hb
           replace HB := bu_ HB GE499 GE506 hb
           (try clear hb)
           (try clear hb2)
           (try clear hk)
           (try clear hi)
           refine hK.out _ _ (p4_ BK506 (p4e_ BK499)) (fun hHeld => ?_)
           clear hK K
           refine norm_ (a' := ?_) ?_ ?_
           rotate_left
           ·show Act.put _ (some 98) _ = _
            simp only [Act.put, la_, lz_, ls_, i64_w, i32_w]
            rfl
           refine pv_' 5 99 (on_ 6 17) rfl rfl HT_ ?_
           refine take_ (i := 6) (N := some 100) (v := ?_) (a' := ?_) (on_ 7 16) rfl rfl (take_ofW HT_.out HW_.out (by kernel_rfl)) (fun _ _ _ h => h) (Or.inl ⟨by rfl, ?_⟩) hHeld ?_ ?_
           rotate_left
           ·rintro w' ⟨s0, s1, s2, s3, s4, s5, s6, s7⟩
            go_simp
            with_reducible rfl
           rotate_left
           ·simp only [Act.put, la_, lz_, ls_, i64_w, i32_w]
            rfl
           refine take_ (i := 8) (N := some 102) (v := ?_) (a' := ?_) #[i',i',i',i',i',i',i',o',i',o',o',o',o',o',o',o',o',o',o',o',o',o',o'] rfl rfl (take_ofW HT_.out HW_.out (by kernel_rfl)) (fun _ _ _ h => h) (Or.inl ⟨by rfl, ?_⟩) hHeld ?_ ?_
           rotate_left
           ·rintro w' ⟨s0, s1, s2, s3, s4, s5, s6, s7⟩
            go_simp
            with_reducible rfl
           rotate_left
           ·simp only [Act.put, la_, lz_, ls_, i64_w, i32_w]
            rfl
           refine one_ (i := 7) (N := some 101) (on_ 9 14) rfl rfl (one_of HT_.out (by kernel_rfl)) (by decide) (fun K hK => ?_)
           refine goes_ Try.func23 (by kernel_rfl) rfl #[.agg #[.slice Ao16 t500.length co16, .int .i64 t503, .int .i64 t504, .bool t505]] (by rfl) rfl rfl ar_ ?_
           with_reducible refine (impl_Used.calls k2 _ _ t500 t503 t504 t505 t524 _ ?side1 ?side2 A114.out).mono ?_
           (case side1 => repeat (first | exact (Kd.R_reads' HO_507000.out).2.2 | (with_reducible refine Kd.C_alloc ?_ _) | (with_reducible refine Kd.C_drewN ?_ _) | (with_reducible refine Kd.C_drew ?_)))
           (case side2 => exact (Kd.R_reads' HO_507000.out).2.1)
           rintro e w126 ⟨rfl, hb⟩
           refine ⟨_, rfl, ?_⟩
           replace HO_4 := rb_ HO_4 hb
           replace HO_500000 := rb_ HO_500000 hb
           replace HO_507000 := rb_ HO_507000 hb
           replace HO519 := rb_ HO519 hb
           replace BK499 := bb_ BK499 hb
           replace BK506 := bb_ BK506 hb
           replace HB := bu_ HB GE499 GE506 hb
           (try clear hb)
           (try clear hb2)
           (try clear hk)
           (try clear hi)
           refine hK.out _ _ (p4_ BK506 (p4e_ BK499)) (fun hHeld => ?_)
           clear hK K
           refine norm_ (a' := ?_) ?_ ?_
           rotate_left
           ·show Act.put _ (some 101) _ = _
            simp only [Act.put, la_, lz_, ls_, i64_w, i32_w]
            rfl
           refine one_ (i := 9) (N := some 103) (on_ 10 13) rfl rfl (one_of HT_.out (by kernel_rfl)) (by decide) (fun K hK => ?_)
           refine goes_ Try.func23 (by kernel_rfl) rfl #[.agg #[.slice Ao11 t490.length co11, .int .i64 t493, .int .i64 t494, .bool t495]] (by rfl) rfl rfl ar_ ?_
           with_reducible refine (impl_Used.calls k2 _ _ t490 t493 t494 t495 t525 _ ?side1 ?side2 A115.out).mono ?_
           (case side1 => repeat (first | exact (Kd.R_reads' HO_500000.out).2.2 | (with_reducible refine Kd.C_alloc ?_ _) | (with_reducible refine Kd.C_drewN ?_ _) | (with_reducible refine Kd.C_drew ?_)))
           (case side2 => exact (Kd.R_reads' HO_500000.out).2.1)
           rintro e w127 ⟨rfl, hb⟩
           refine ⟨_, rfl, ?_⟩
           replace HO_4 := rb_ HO_4 hb
           replace HO_500000 := rb_ HO_500000 hb
           replace HO_507000 := rb_ HO_507000 hb
           replace HO519 := rb_ HO519 hb
           replace BK499 := bb_ BK499 hb
           replace BK506 := bb_ BK506 hb
           replace HB := bu_ HB GE499 GE506 hb
           (try clear hb)
           (try clear hb2)
           (try clear hk)
           (try clear hi)
           refine hK.out _ _ (p4_ BK506 (p4e_ BK499)) (fun hHeld => ?_)
           clear hK K
           refine norm_ (a' := ?_) ?_ ?_
           rotate_left
           ·show Act.put _ (some 103) _ = _
            simp only [Act.put, la_, lz_, ls_, i64_w, i32_w]
            rfl
           refine pv_' 10 104 (on_ 11 12) rfl rfl HT_ ?_
           refine pv_' 11 105 (on_ 12 11) rfl rfl HT_ ?_
           refine pv_' 12 106 (on_ 13 10) rfl rfl HT_ ?_
           refine take_ (i := 13) (N := some 107) (v := ?_) (a' := ?_) (on_ 14 9) rfl rfl (take_ofW HT_.out HW_.out (by kernel_rfl)) (fun _ _ _ h => h) (Or.inl ⟨by rfl, ?_⟩) hHeld ?_ ?_
           rotate_left
           ·rintro w' ⟨s0, s1, s2, s3, s4, s5, s6, s7⟩
            go_simp
            with_reducible rfl
           rotate_left
           ·simp only [Act.put, la_, lz_, ls_, i64_w, i32_w]
            rfl
           refine take_ (i := 15) (N := some 109) (v := ?_) (a' := ?_) #[i',i',i',i',i',i',i',i',i',i',i',i',i',i',o',i',o',o',o',o',o',o',o'] rfl rfl (take_ofW HT_.out HW_.out (by kernel_rfl)) (fun _ _ _ h => h) (Or.inl ⟨by rfl, ?_⟩) hHeld ?_ ?_
           rotate_left
           ·rintro w' ⟨s0, s1, s2, s3, s4, s5, s6, s7⟩
            go_simp
            with_reducible rfl
           rotate_left
           ·simp only [Act.put, la_, lz_, ls_, i64_w, i32_w]
            rfl
           refine take_ (i := 18) (N := some 112) (v := ?_) (a' := ?_) #[i',i',i',i',i',i',i',i',i',i',i',i',i',i',o',i',o',o',i',o',o',o',o'] rfl rfl (take_ofW HT_.out HW_.out (by kernel_rfl)) (fun _ _ _ h => h) (Or.inl ⟨by rfl, ?_⟩) hHeld ?_ ?_
           rotate_left
           ·rintro w' ⟨s0, s1, s2, s3, s4, s5, s6, s7⟩
            go_simp
            with_reducible rfl
           rotate_left
           ·simp only [Act.put, la_, lz_, ls_, i64_w, i32_w]
            rfl
           refine one_ (i := 14) (N := some 108) #[i',i',i',i',i',i',i',i',i',i',i',i',i',i',i',i',o',o',i',o',o',o',o'] rfl rfl (one_of HT_.out (by kernel_rfl)) (by decide) (fun K hK => ?_)
           refine goes_ Try.func23 (by kernel_rfl) rfl #[.agg #[.slice Ao11 t490.length co11, .int .i64 t493, .int .i64 t494, .bool t495]] (by rfl) rfl rfl ar_ ?_
           with_reducible refine (impl_Used.calls k2 _ _ t490 t493 t494 t495 t526 _ ?side1 ?side2 A117.out).mono ?_
           (case side1 => repeat (first | exact (Kd.R_reads' HO_500000.out).2.2 | (with_reducible refine Kd.C_alloc ?_ _) | (with_reducible refine Kd.C_drewN ?_ _) | (with_reducible refine Kd.C_drew ?_)))
           (case side2 => exact (Kd.R_reads' HO_500000.out).2.1)
           rintro e w128 ⟨rfl, hb⟩
           refine ⟨_, rfl, ?_⟩
           replace HO_4 := rb_ HO_4 hb
           replace HO_500000 := rb_ HO_500000 hb
           replace HO_507000 := rb_ HO_507000 hb
           replace HO519 := rb_ HO519 hb
           replace BK499 := bb_ BK499 hb
           replace BK506 := bb_ BK506 hb
           replace HB := bu_ HB GE499 GE506 hb
           (try clear hb)
           (try clear hb2)
           (try clear hk)
           (try clear hi)
           refine hK.out _ _ (p4_ BK506 (p4e_ BK499)) (fun hHeld => ?_)
           clear hK K
           refine norm_ (a' := ?_) ?_ ?_
           rotate_left
           ·show Act.put _ (some 108) _ = _
            simp only [Act.put, la_, lz_, ls_, i64_w, i32_w]
            rfl
           refine one_ (i := 16) (N := some 110) #[i',i',i',i',i',i',i',i',i',i',i',i',i',i',i',i',i',o',i',o',o',o',o'] rfl rfl (one_of HT_.out (by kernel_rfl)) (by decide) (fun K hK => ?_)
           refine goes_ Try.func23 (by kernel_rfl) rfl #[.agg #[.slice Ao16 t500.length co16, .int .i64 t503, .int .i64 t504, .bool t505]] (by rfl) rfl rfl ar_ ?_
           with_reducible refine (impl_Used.calls k2 _ _ t500 t503 t504 t505 t527 _ ?side1 ?side2 A118.out).mono ?_
           (case side1 => repeat (first | exact (Kd.R_reads' HO_507000.out).2.2 | (with_reducible refine Kd.C_alloc ?_ _) | (with_reducible refine Kd.C_drewN ?_ _) | (with_reducible refine Kd.C_drew ?_)))
           (case side2 => exact (Kd.R_reads' HO_507000.out).2.1)
           rintro e w129 ⟨rfl, hb⟩
           refine ⟨_, rfl, ?_⟩
           replace HO_4 := rb_ HO_4 hb
           replace HO_500000 := rb_ HO_500000 hb
           replace HO_507000 := rb_ HO_507000 hb
           replace HO519 := rb_ HO519 hb
           replace BK499 := bb_ BK499 hb
           replace BK506 := bb_ BK506 hb
           replace HB := bu_ HB GE499 GE506 hb
           (try clear hb)
           (try clear hb2)
           (try clear hk)
           (try clear hi)
           refine hK.out _ _ (p4_ BK506 (p4e_ BK499)) (fun hHeld => ?_)
           clear hK K
           refine norm_ (a' := ?_) ?_ ?_
           rotate_left
           ·show Act.put _ (some 110) _ = _
            simp only [Act.put, la_, lz_, ls_, i64_w, i32_w]
            rfl
           refine pv_' 17 111 (on_ 19 4) rfl rfl HT_ ?_
           refine one_ (i := 19) (N := some 113) (on_ 20 3) rfl rfl (one_of HT_.out (by kernel_rfl)) (by decide) (fun K hK => ?_)
           refine goes_ Try.func20 (by kernel_rfl) rfl #[.agg #[.slice Ao11 t490.length co11, .int .i64 t493, .int .i64 t494, .bool t495]] (by rfl) rfl rfl ar_ ?_
           with_reducible refine (impl_Volatile.calls k2 _ _ t490 t493 t494 t495 t528 _ ?side1 ?side2 A119.out).mono ?_
           (case side1 => repeat (first | exact (Kd.R_reads' HO_500000.out).2.2 | (with_reducible refine Kd.C_alloc ?_ _) | (with_reducible refine Kd.C_drewN ?_ _) | (with_reducible refine Kd.C_drew ?_)))
           (case side2 => exact (Kd.R_reads' HO_500000.out).2.1)
           rintro e w130 ⟨rfl, hb⟩
           refine ⟨_, rfl, ?_⟩
           replace HO_4 := rb_ HO_4 hb
           replace HO_500000 := rb_ HO_500000 hb
           replace HO_507000 := rb_ HO_507000 hb
           replace HO519 := rb_ HO519 hb
           replace BK499 := bb_ BK499 hb
           replace BK506 := bb_ BK506 hb
           replace HB := bu_ HB GE499 GE506 hb
           (try clear hb)
           (try clear hb2)
           (try clear hk)
           (try clear hi)
           refine hK.out _ _ (p4_ BK506 (p4e_ BK499)) (fun hHeld => ?_)
           clear hK K
           refine norm_ (a' := ?_) ?_ ?_
           rotate_left
           ·show Act.put _ (some 113) _ = _
            simp only [Act.put, la_, lz_, ls_, i64_w, i32_w]
            rfl
           refine pv_' 20 114 (on_ 21 2) rfl rfl HT_ ?_
           refine pv_' 21 115 (on_ 22 1) rfl rfl HT_ ?_
           refine pv_' 22 2 (on_ 23 0) rfl rfl HT_ ?_
           refine done_ (done_of HT_.out (by kernel_rfl)) ?_
           try go_wp2
           go_ret
           exact ⟨re_, by repeat (first | (with_reducible first | exact HB.out | apply below_alloc | apply pw_below_drewN | apply below_drew1 | refine below_set ?_ GE499.out | refine below_set ?_ GE506.out) | exact HB.out)⟩
          ·rw [if_neg c116] at H
           have c116b0 : decide (t524 ≤ t525) = false := decide_eq_false c116
           clear c116
           exact absurd ((Option.some.inj H).trans HRT.out) (by decide)
         ·replace c113 := Bool.eq_false_iff.mpr c113
          subst c113
          have H1 : (some false) = some r := by rw [if_neg (show ¬ (false = true) by decide)] at H; exact H
          clear H
          have H := H1
          clear H1
          exact absurd ((Option.some.inj H).trans HRT.out) (by decide)
  ·replace c7 := Bool.eq_false_iff.mpr c7
   subst c7
   have H1 : ((spec_SameDisk.f k t500 t503 t504 t505 t490 t493 t494 t495).bind fun t508 => (some t508)) = some r := by rw [if_neg (show ¬ (false = true) by decide)] at H; exact H
   clear H
   have H := H1
   clear H1
   replace H := Option.bind_eq_some_iff.mp H
   obtain ⟨t508, A1310, H⟩ := H
   replace H : (some t508) = some r := H
   have A131 := Aside0.mk A1310
   clear A1310
   obtain rfl := Option.some.inj H
   go_enter Try.func4, Try.ntmps4
   go_wp2_with (first | ((with_reducible refine gate_callee (f := 16) rfl ?_); refine goesL_ (some 10) rfl rfl Try.func16 (by kernel_rfl) rfl #[.slice A0 l0.length c0] rfl ar_ ?_; (with_reducible refine (laws_big.calls _ _ l0 false _ ?side1 ?side2 A2.out).mono ?_); (case side1 => repeat (first | exact HR0.out | (with_reducible refine Kd.C_alloc ?_ _) | (with_reducible refine Kd.C_drewN ?_ _) | (with_reducible refine Kd.C_drew ?_))); (case side2 => exact HC0.out); rintro e w' ⟨rfl, ⟨nd, rfl⟩⟩; refine ⟨_, rfl, ?_⟩) | ((with_reducible refine gate_callee (f := 17) rfl ?_); refine goesL_ (some 13) rfl rfl Try.func17 (by kernel_rfl) rfl #[.slice A0 l0.length c0] rfl ar_ ?_; (with_reducible refine (spec_DrawPower.calls k _ _ l0 t490 t493 t494 t495 t496 _ ?side1 ?side2 A4.out).mono ?_); (case side1 => repeat (first | exact HR0.out | (with_reducible refine Kd.C_alloc ?_ _) | (with_reducible refine Kd.C_drewN ?_ _) | (with_reducible refine Kd.C_drew ?_))); (case side2 => exact HC0.out); rintro e w132 ⟨v491, v497, rfl, ho0, ho1, hb⟩; refine ⟨_, rfl, ?_⟩; have HO492 := Aside0.mk (Kd.R_lower ho0 (below_size (hb_ HB))); have HO498 := Aside0.mk (Kd.R_lower ho1 (below_size (hb_ HB))); replace HB := bs_ HB hb; (try clear hb); (try clear hb2); (try clear hk); (try clear hi); (try clear ho0); (try clear ho1)) | ((with_reducible refine gate_dst (N := 3) rfl ?_); (try (refine gate_guard (by rfl) ?_; dsimp only)); refine box_event ?hg (N := 3) ?hd (cs := #[.slice none 0 0, .int .i64 0, .int .i64 0, .bool false]) (t := 29) ?hr ?_; (case hd => rfl); (case hg => rfl); (case hr => first | (go_simp; done) | (go_simp; rfl)); intro gb499 hg w133 hbox hb; replace HO492 := rb_ HO492 hb; replace HO498 := rb_ HO498 hb; have BK499 := Aside0.mk (hbox); have GW499 := ge_ hg (hb_ HB); have GE499 := ge_ hg (hb_ HB); replace HB := bs_ HB hb; clear hb hbox hg; obtain ⟨Ao134, co134, eo134⟩ := Kd.R_slice HO492.out; subst eo134; obtain ⟨hcz135_0, hcz135_1, hcz135_2, hcz135_3, hfz135_0, hfz135_1, hfz135_2, hfz135_3⟩ := bc4_ BK499; obtain ⟨Ao136, co136, eo136⟩ := Kd.R_slice HO498.out; subst eo136) | ((with_reducible refine gate_callee (f := 10) rfl ?_); refine goesL_ (some 18) rfl rfl Try.func10 (by kernel_rfl) rfl #[.agg #[.slice Ao134 t490.length co134, .int .i64 t493, .int .i64 t494, .bool t495], .slice Ao136 t496.length co136] rfl ar_ ?_; (with_reducible refine (impl_Power.calls k _ _ t490 t493 t494 t495 _ _ t496 t500 t503 t504 t505 _ ?side1 ?side2 ?side3 ?side4 A5.out).mono ?_); (case side1 => refine (Kd.R_reads' (e := 45) (base := w.heap.size) (ok := fun k_ => True) (n := t490.length) (c := co134) ?_).2.2; exact (by (with_reducible repeat (first | apply Kd.R_alloc | apply Kd.R_drewN | apply Kd.R_drew)); exact (Kd.R_mono (Kd.R_far (p := ⟨gb499, 3, none⟩) (Kd.R_far (p := ⟨gb499, 2, none⟩) (Kd.R_far (p := ⟨gb499, 1, none⟩) (Kd.R_far (p := ⟨gb499, 0, none⟩) (Kd.R_types HO492.out BK499.out (by decide)) (fun _ hk => hk.2) (.slice Ao134 t490.length co134)) (fun _ hk => hk.2) (.int .i64 t493)) (fun _ hk => hk.2) (.int .i64 t494)) (fun _ hk => hk.2) (.bool t495)) (fun _ h_ => h_.1)))); (case side2 => exact (Kd.R_reads' HO492.out).2.1); (case side3 => refine (Kd.R_reads' (e := 3) (base := w.heap.size) (ok := fun k_ => True) (n := t496.length) (c := co136) ?_).2.2; exact (by (with_reducible repeat (first | apply Kd.R_alloc | apply Kd.R_drewN | apply Kd.R_drew)); exact (Kd.R_mono (Kd.R_far (p := ⟨gb499, 3, none⟩) (Kd.R_far (p := ⟨gb499, 2, none⟩) (Kd.R_far (p := ⟨gb499, 1, none⟩) (Kd.R_far (p := ⟨gb499, 0, none⟩) (Kd.R_types HO498.out BK499.out (by decide)) (fun _ hk => hk.2) (.slice Ao134 t490.length co134)) (fun _ hk => hk.2) (.int .i64 t493)) (fun _ hk => hk.2) (.int .i64 t494)) (fun _ hk => hk.2) (.bool t495)) (fun _ h_ => h_.1)))); (case side4 => exact (Kd.R_reads' HO498.out).2.1); rintro e w137 ⟨v501, rfl, ho0, hb⟩; refine ⟨_, rfl, ?_⟩; replace HO498 := rfb_ HO498 BK499 hb; have HO502 := Aside0.mk (Kd.R_lower (Kd.R_new' ho0 (Kd.R_lt (by (with_reducible repeat (first | apply Kd.R_alloc | apply Kd.R_drewN | apply Kd.R_drew)); exact (Kd.R_mono (Kd.R_far (p := ⟨gb499, 3, none⟩) (Kd.R_far (p := ⟨gb499, 2, none⟩) (Kd.R_far (p := ⟨gb499, 1, none⟩) (Kd.R_far (p := ⟨gb499, 0, none⟩) (Kd.R_types HO492.out BK499.out (by decide)) (fun _ hk => hk.2) (.slice Ao134 t490.length co134)) (fun _ hk => hk.2) (.int .i64 t493)) (fun _ hk => hk.2) (.int .i64 t494)) (fun _ hk => hk.2) (.bool t495)) (fun _ h_ => h_.1))))) (below_size (hs_ HB GE499))); replace HO492 := Aside0.mk (Kd.R_elder' (by (with_reducible repeat (first | apply Kd.R_alloc | apply Kd.R_drewN | apply Kd.R_drew)); exact (Kd.R_mono (Kd.R_far (p := ⟨gb499, 3, none⟩) (Kd.R_far (p := ⟨gb499, 2, none⟩) (Kd.R_far (p := ⟨gb499, 1, none⟩) (Kd.R_far (p := ⟨gb499, 0, none⟩) (Kd.R_types HO492.out BK499.out (by decide)) (fun _ hk => hk.2) (.slice Ao134 t490.length co134)) (fun _ hk => hk.2) (.int .i64 t493)) (fun _ hk => hk.2) (.int .i64 t494)) (fun _ hk => hk.2) (.bool t495)) (fun _ h_ => h_.1))) (Kd.R_base ho0) hb); replace BK499 := bp_ #[.slice Ao134 t490.length co134, .int .i64 t493, .int .i64 t494, .bool t495] BK499 hb; replace HB := bt_ HB GE499 hb; (try clear hb); (try clear hb2); (try clear hk); (try clear hi); (try clear ho0)) | ((with_reducible refine gate_dst (N := 5) rfl ?_); (try (refine gate_guard (by rfl) ?_; dsimp only)); refine box_event ?hg (N := 5) ?hd (cs := #[.slice none 0 0, .int .i64 0, .int .i64 0, .bool false]) (t := 29) ?hr ?_; (case hd => rfl); (case hg => rfl); (case hr => first | (go_simp; done) | (go_simp; rfl)); intro gb506 hg w138 hbox hb; replace HO492 := rb_ HO492 hb; replace HO498 := rb_ HO498 hb; replace HO502 := rb_ HO502 hb; have BK506 := Aside0.mk (hbox); have GW506 := ge_ hg (hs_ HB GE499); have GE506 := ge_ hg (hs_ HB GE499); replace HB := bt_ HB GE499 hb; have NB499_506 := nl_ BK499 hg; have NB506_499 := ng_ BK499 hg; replace BK499 := bb_ BK499 hb; clear hb hbox hg; obtain ⟨Ao139, co139, eo139⟩ := Kd.R_slice HO502.out; subst eo139; have hnb140 := NB506_499.out; have hnc140 := NB499_506.out; obtain ⟨hcz141_0, hcz141_1, hcz141_2, hcz141_3, hfz141_0, hfz141_1, hfz141_2, hfz141_3⟩ := bc4_ BK506; obtain ⟨hcz142_0, hcz142_1, hcz142_2, hcz142_3, hfz142_0, hfz142_1, hfz142_2, hfz142_3⟩ := bc4_ BK499) | ((with_reducible refine gate_callee (f := 18) rfl ?_); refine goesL_ (some 20) rfl rfl Try.func18 (by kernel_rfl) rfl #[.agg #[.slice Ao134 t490.length co134, .int .i64 t493, .int .i64 t494, .bool t495]] rfl ar_ ?_; (with_reducible refine (spec_DiskOk.calls k _ _ t490 t493 t494 t495 false _ ?side1 ?side2 A6.out).mono ?_); (case side1 => refine (Kd.R_reads' (e := 45) (base := w.heap.size) (ok := fun k_ => (True ∧ some k_ ≠ (.slice Ao139 t500.length co139 : Value).ownBlock)) (n := t490.length) (c := co134) ?_).2.2; exact (by (with_reducible repeat (first | apply Kd.R_alloc | apply Kd.R_drewN | apply Kd.R_drew)); exact (Kd.R_mono (Kd.R_far (p := ⟨gb506, 3, none⟩) (Kd.R_far (p := ⟨gb506, 2, none⟩) (Kd.R_far (p := ⟨gb506, 1, none⟩) (Kd.R_far (p := ⟨gb506, 0, none⟩) (Kd.R_types HO492.out BK506.out (by decide)) (fun _ hk => hk.2) (.slice Ao139 t500.length co139)) (fun _ hk => hk.2) (.int .i64 t503)) (fun _ hk => hk.2) (.int .i64 t504)) (fun _ hk => hk.2) (.bool t505)) (fun _ h_ => h_.1)))); (case side2 => exact (Kd.R_reads' HO492.out).2.1); rintro e w143 ⟨rfl, hb⟩; refine ⟨_, rfl, ?_⟩; replace HO492 := rfb_ HO492 BK506 hb; replace HO498 := rfb_ HO498 BK506 hb; replace HO502 := rfb_ HO502 BK506 hb; replace BK499 := bf_ BK499 NB499_506 hb; replace BK506 := bp_ #[.slice Ao139 t500.length co139, .int .i64 t503, .int .i64 t504, .bool t505] BK506 hb; replace HB := bu_ HB GE499 GE506 hb; (try clear hb); (try clear hb2); (try clear hk); (try clear hi); obtain ⟨hcz144_0, hcz144_1, hcz144_2, hcz144_3, hfz144_0, hfz144_1, hfz144_2, hfz144_3⟩ := bc4_ BK506; obtain ⟨hcz145_0, hcz145_1, hcz145_2, hcz145_3, hfz145_0, hfz145_1, hfz145_2, hfz145_3⟩ := bc4_ BK499) | ((with_reducible refine gate_callee (f := 19) rfl ?_); refine goesL_ (some 24) rfl rfl Try.func19 (by kernel_rfl) rfl #[.agg #[.slice Ao139 t500.length co139, .int .i64 t503, .int .i64 t504, .bool t505], .agg #[.slice Ao134 t490.length co134, .int .i64 t493, .int .i64 t494, .bool t495]] rfl ar_ ?_; (with_reducible refine (spec_SameDisk.calls k _ _ t500 t503 t504 t505 _ _ t490 t493 t494 t495 t508 _ ?side1 ?side2 ?side3 ?side4 A131.out).mono ?_); (case side1 => repeat (first | exact (Kd.R_reads' HO502.out).2.2 | (with_reducible refine Kd.C_alloc ?_ _) | (with_reducible refine Kd.C_drewN ?_ _) | (with_reducible refine Kd.C_drew ?_))); (case side2 => exact (Kd.R_reads' HO502.out).2.1); (case side3 => repeat (first | exact (Kd.R_reads' HO492.out).2.2 | (with_reducible refine Kd.C_alloc ?_ _) | (with_reducible refine Kd.C_drewN ?_ _) | (with_reducible refine Kd.C_drew ?_))); (case side4 => exact (Kd.R_reads' HO492.out).2.1); rintro e w146 ⟨rfl, hb⟩; refine ⟨_, rfl, ?_⟩; replace HO492 := rb_ HO492 hb; replace HO498 := rb_ HO498 hb; replace HO502 := rb_ HO502 hb; replace BK499 := bb_ BK499 hb; replace BK506 := bb_ BK506 hb; replace HB := bu_ HB GE499 GE506 hb; (try clear hb); (try clear hb2); (try clear hk); (try clear hi)))
   go_ret
   exact ⟨re_, by repeat (first | (with_reducible first | exact HB.out | apply below_alloc | apply pw_below_drewN | apply below_drew1 | refine below_set ?_ GE499.out | refine below_set ?_ GE506.out) | exact HB.out)⟩

/-- THE ONE PURE STATEMENT of laws_FnPower: yours. -/
def laws_FnPower.Pure : Prop := ∀ (l0 : List Int), l0.length ≤ maxLen → l0.length * 1 ≤ 140737488351232 → (∀ x ∈ l0, (Lit.int .u8 x).wf = true) → ∃ k, laws_FnPower.f k l0 = some true
theorem laws_FnPower.walk (P : laws_FnPower.Pure) (a0 : Option Addr) (len0 cap0 : Nat) (z0 : List Int) (w : World) (w0 : (a0 = none ∧ len0 = 0 ∧ cap0 = 0 ∧ z0 = []) ∨ ∃ x, a0 = some x ∧ len0 ≤ cap0 ∧ cap0 ≤ maxLen ∧ z0.length = cap0 ∧ (∀ i, i < z0.length → w.cell? (x.add i) = some (.int .u8 (z0.getD i 0))) ∧ ∀ n ∈ z0, (Lit.int .u8 n).wf = true) (y0 : len0 * 1 ≤ 140737488351232) :
  Calls Try.prog 4 #[.slice a0 len0 cap0] w fun e w' => e = .returned (.bool true) ∧ Below w.heap.size w w' := by
 obtain ⟨l0, rfl, hr0, hm0, hw0, hc0⟩ := ReadsInt.ofRowC w0
 obtain ⟨k, h⟩ := P l0 hm0 y0 hw0
 refine (laws_FnPower.calls k _ _ l0 true w (Kd.C_of_reads (d := (0 : Int)) (h1 := fun _ => rfl) hr0) hc0 rfl h).mono ?_
 rintro e w' ⟨rfl, hd⟩
 exact ⟨rfl, hd⟩

end Go.Proofs.Ytigbekefjbfopaa.PFnPower
