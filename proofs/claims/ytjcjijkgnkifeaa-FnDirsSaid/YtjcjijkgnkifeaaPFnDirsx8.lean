-- Laid by a program of this session, a copy of the kit's printer with additions (wip/patch_print.py): myhead. Lean checks it.
import Derived.Test.YtjcjijkgnkifeaaPFnDirsx0
import Derived.Test.YtjcjijkgnkifeaaPFnDirsx1
import Derived.Test.YtjcjijkgnkifeaaPFnDirsx2
import Derived.Test.YtjcjijkgnkifeaaPFnDirsx3
import Derived.Test.YtjcjijkgnkifeaaPFnDirsx4
import Derived.Test.YtjcjijkgnkifeaaPFnDirsx5
import Derived.Test.YtjcjijkgnkifeaaPFnDirsx6
import Derived.Test.YtjcjijkgnkifeaaPFnDirsx7
namespace Go.Proofs.Ytjcjijkgnkifeaa.PFnDirs
open Go.RowKit Go.Proofs.YtjcjijkgnkifeaaW.PrintWords Go.Proofs.YtjcjijkgnkifeaaW.PrintLast Go.Proofs.YtjcjijkgnkifeaaW.PrintMore
theorem bl_swq30672 : ∀ x y : List UInt8, (Op.bytesLess x y || x == y) = !(Op.bytesLess y x)
 | [], [] => by simp [Op.bytesLess]
 | [], _ :: _ => by simp [Op.bytesLess]
 | _ :: _, [] => by simp [Op.bytesLess]
 | a :: x, b :: y => by
  have ih := bl_swq30672 x y
  by_cases e : a = b
  ·subst e
   simp only [Op.bytesLess, List.cons_beq_cons, BEq.rfl, Bool.true_and, UInt8.lt_irrefl, decide_false, Bool.false_or]
   exact ih
  ·have e' : ¬ b = a := fun h => e h.symm
   have h1 : (a == b) = false := by simpa using e
   have h2 : (b == a) = false := by simpa using e'
   simp only [Op.bytesLess, List.cons_beq_cons, h1, h2, Bool.false_and, Bool.or_false]
   by_cases l : a < b
   ·have : ¬ b < a := fun h => UInt8.lt_asymm h l
    simp [l, this]
   ·have : b < a := UInt8.lt_of_le_of_ne (UInt8.not_lt.1 l) e'
    simp [l, this]
theorem bl_leqq30672 (t : TypeId) (a b : ByteArray) : binOp .leq t (.string a) (.string b) = pure (.bool (!(Op.bytesLess b.toList a.toList))) := by simp only [binOp, Op.stringOp, bl_swq30672]
theorem bl_gtrq30672 (t : TypeId) (a b : ByteArray) : binOp .gtr t (.string a) (.string b) = pure (.bool (Op.bytesLess b.toList a.toList)) := by simp only [binOp, Op.stringOp, bl_swq30672, Bool.not_not]
theorem bl_geqq30672 (t : TypeId) (a b : ByteArray) : binOp .geq t (.string a) (.string b) = pure (.bool (!(Op.bytesLess a.toList b.toList))) := by simp only [binOp, Op.stringOp]
attribute [local go_sem] bl_leqq30672 bl_gtrq30672 bl_geqq30672
attribute [local go_sem] max2_int min2_int max_two min_two max_three min_three max_four min_four   -- for this text's walks alone
set_option linter.unusedVariables false
set_option linter.unusedSimpArgs false

attribute [local go_sem high] eqA29
/-! ### laws_FnDirs: function 4 -/
mutual
def laws_FnDirs.j0 : Nat → List (S29) → List (S29) → List (S29) → Bool → ByteArray → Int → Int → Int → Int → Option (Bool)
 | 0, _, _, _, _, _, _, _, _, _ => none
 | k + 1, x3, x5, x6, x71, x322000, x322001, x322002, x322003, x322004 => if x71 = true then (some false) else (laws_FnDirs.l0 k x3 x5 x6 0 x322000 x322001 x322002 x322003 x322004)
def laws_FnDirs.l0 : Nat → List (S29) → List (S29) → List (S29) → Int → ByteArray → Int → Int → Int → Int → Option (Bool)
 | 0, _, _, _, _, _, _, _, _, _ => none
 | k + 1, x3, x5, x6, x11, x322000, x322001, x322002, x322003, x322004 => if x11 < (x3.length : Int) then (if 0 ≤ x11 then ((impl_DirGet.f k x5 ((rd_T29 x3 x11).f0)).bind fun bt345 => ((impl_DirGet.f k x6 ((rd_T29 x3 x11).f0)).bind fun bt353 => (if ((rd_T29 x3 x11).f0).toList = x322000.toList then (laws_FnDirs.j2 k x3 x5 x6 x11 false x322000 x322001 x322002 x322003 x322004) else (if bt345.2.2.2.2.2 = true then (if (!(bt345.1.toList == (((rd_T29 x3 x11).f0).toList)) || (!(bt345.2.1 == ((rd_T29 x3 x11).f1)) || (!(bt345.2.2.1 == ((rd_T29 x3 x11).f2)) || (!(bt345.2.2.2.1 == ((rd_T29 x3 x11).f3)) || (!(bt345.2.2.2.2.1 == ((rd_T29 x3 x11).f4))))))) = true then (laws_FnDirs.j2 k x3 x5 x6 x11 true x322000 x322001 x322002 x322003 x322004) else (if bt353.2.2.2.2.2 = true then (laws_FnDirs.j2 k x3 x5 x6 x11 (!(bt353.1.toList == (((rd_T29 x3 x11).f0).toList)) || (!(bt353.2.1 == ((rd_T29 x3 x11).f1)) || (!(bt353.2.2.1 == ((rd_T29 x3 x11).f2)) || (!(bt353.2.2.2.1 == ((rd_T29 x3 x11).f3)) || (!(bt353.2.2.2.2.1 == ((rd_T29 x3 x11).f4))))))) x322000 x322001 x322002 x322003 x322004) else (laws_FnDirs.j2 k x3 x5 x6 x11 true x322000 x322001 x322002 x322003 x322004))) else (laws_FnDirs.j2 k x3 x5 x6 x11 true x322000 x322001 x322002 x322003 x322004))))) else (none)) else ((impl_DirKeys.f k x5).bind fun t363 => (laws_FnDirs.l1 k x5 t363 1 x322000 x322001 x322002 x322003 x322004))
def laws_FnDirs.j2 : Nat → List (S29) → List (S29) → List (S29) → Int → Bool → ByteArray → Int → Int → Int → Int → Option (Bool)
 | 0, _, _, _, _, _, _, _, _, _, _ => none
 | k + 1, x3, x5, x6, x11, x129, x322000, x322001, x322002, x322003, x322004 => if x129 = true then (some false) else (laws_FnDirs.l0 k x3 x5 x6 (wrap64 (x11 + 1)) x322000 x322001 x322002 x322003 x322004)
def laws_FnDirs.l1 : Nat → List (S29) → List ByteArray → Int → ByteArray → Int → Int → Int → Int → Option (Bool)
 | 0, _, _, _, _, _, _, _, _ => none
 | k + 1, x5, x16, x17, x322000, x322001, x322002, x322003, x322004 => if x17 < (x16.length : Int) then (if 0 ≤ x17 then (if 0 ≤ (wrap64 (x17 - 1)) then (if (wrap64 (x17 - 1)) < (x16.length : Int) then (if ((Op.bytesLess ((rdOf ByteArray.empty x16 (wrap64 (x17 - 1))).toList) ((rdOf ByteArray.empty x16 x17).toList)) = true) then (laws_FnDirs.l1 k x5 x16 (wrap64 (x17 + 1)) x322000 x322001 x322002 x322003 x322004) else (some false)) else (none)) else (none)) else (none)) else (if (x16.length : Int) = (x5.length : Int) then ((impl_DirPut.f k x5 x322000 x322001 x322002 x322003 x322004).bind fun t368 => ((impl_SameDir.f k t368 x5).bind fun t371 => (some t371))) else (some false))
end
def laws_FnDirs.f (k : Nat) (l0 : List Int) : Option (Bool) := (laws_big.f l0).bind fun t312 => (if t312 = true then (some true) else ((spec_DrawDirPut.f k l0).bind fun bt313 => ((spec_DirOk.f k bt313.1).bind fun t322 => (if t322 = true then ((impl_DirPut.f k bt313.1 bt313.2.1 bt313.2.2.1 bt313.2.2.2.1 bt313.2.2.2.2.1 bt313.2.2.2.2.2).bind fun t323 => ((impl_DirDrop.f k t323 bt313.2.1).bind fun t326 => ((impl_DirGet.f k t323 bt313.2.1).bind fun bt329 => ((impl_DirGet.f k t326 bt313.2.1).bind fun bt336 => (if bt329.2.2.2.2.2 = true then (if (!(bt329.1.toList == bt313.2.1.toList) || (!(bt329.2.1 == bt313.2.2.1) || (!(bt329.2.2.1 == bt313.2.2.2.1) || (!(bt329.2.2.2.1 == bt313.2.2.2.2.1) || (!(bt329.2.2.2.2.1 == bt313.2.2.2.2.2)))))) = true then (laws_FnDirs.j0 k bt313.1 t323 t326 true bt313.2.1 bt313.2.2.1 bt313.2.2.2.1 bt313.2.2.2.2.1 bt313.2.2.2.2.2) else (if bt336.2.2.2.2.2 = true then (laws_FnDirs.j0 k bt313.1 t323 t326 true bt313.2.1 bt313.2.2.1 bt313.2.2.2.1 bt313.2.2.2.2.1 bt313.2.2.2.2.2) else ((spec_DirOk.f k t326).bind fun t343 => (if t343 = true then (laws_FnDirs.j0 k bt313.1 t323 t326 ((t323.length : Int) != (wrap64 ((t326.length : Int) + 1))) bt313.2.1 bt313.2.2.1 bt313.2.2.2.1 bt313.2.2.2.2.1 bt313.2.2.2.2.2) else (laws_FnDirs.j0 k bt313.1 t323 t326 true bt313.2.1 bt313.2.2.1 bt313.2.2.2.1 bt313.2.2.2.2.1 bt313.2.2.2.2.2))))) else (laws_FnDirs.j0 k bt313.1 t323 t326 true bt313.2.1 bt313.2.2.1 bt313.2.2.2.1 bt313.2.2.2.2.1 bt313.2.2.2.2.2)))))) else (some true)))))
theorem laws_FnDirs.mono_l : ∀ k, (∀ y0 y1 y2 y3 y4 y5 y6 y7 y8, LeO (laws_FnDirs.j0 k y0 y1 y2 y3 y4 y5 y6 y7 y8) (laws_FnDirs.j0 (k + 1) y0 y1 y2 y3 y4 y5 y6 y7 y8)) ∧ (∀ y0 y1 y2 y3 y4 y5 y6 y7 y8, LeO (laws_FnDirs.l0 k y0 y1 y2 y3 y4 y5 y6 y7 y8) (laws_FnDirs.l0 (k + 1) y0 y1 y2 y3 y4 y5 y6 y7 y8)) ∧ (∀ y0 y1 y2 y3 y4 y5 y6 y7 y8 y9, LeO (laws_FnDirs.j2 k y0 y1 y2 y3 y4 y5 y6 y7 y8 y9) (laws_FnDirs.j2 (k + 1) y0 y1 y2 y3 y4 y5 y6 y7 y8 y9)) ∧ (∀ y0 y1 y2 y3 y4 y5 y6 y7, LeO (laws_FnDirs.l1 k y0 y1 y2 y3 y4 y5 y6 y7) (laws_FnDirs.l1 (k + 1) y0 y1 y2 y3 y4 y5 y6 y7))
 | 0 => ⟨fun _ _ _ _ _ _ _ _ _ r h => by simp [laws_FnDirs.j0] at h, fun _ _ _ _ _ _ _ _ _ r h => by simp [laws_FnDirs.l0] at h, fun _ _ _ _ _ _ _ _ _ _ r h => by simp [laws_FnDirs.j2] at h, fun _ _ _ _ _ _ _ _ r h => by simp [laws_FnDirs.l1] at h⟩
 | k + 1 => by
  obtain ⟨ih0, ih1, ih2, ih3⟩ := laws_FnDirs.mono_l k
  refine ⟨?_, ?_, ?_, ?_⟩
  ·intro y0 y1 y2 y3 y4 y5 y6 y7 y8
   unfold laws_FnDirs.j0
   repeat' first | (with_reducible first | exact ih0 .. | exact ih1 .. | exact ih2 .. | exact ih3 .. | exact impl_DirDrop.mono .. | exact impl_DirGet.mono .. | exact impl_DirKeys.mono .. | exact impl_DirPut.mono .. | exact impl_SameDir.mono .. | exact spec_DirOk.mono .. | exact spec_DrawDirPut.mono .. | exact LeO.refl .. | exact LeO.none .. | refine LeO.ite ?_ ?_ | refine LeO.bind ?_ (fun _ => ?_)) | exact ih0 .. | exact ih1 .. | exact ih2 .. | exact ih3 .. | exact impl_DirDrop.mono .. | exact impl_DirGet.mono .. | exact impl_DirKeys.mono .. | exact impl_DirPut.mono .. | exact impl_SameDir.mono .. | exact spec_DirOk.mono .. | exact spec_DrawDirPut.mono .. | exact LeO.none .. | refine LeO.ite ?_ ?_ | refine LeO.bind ?_ (fun _ => ?_)
  ·intro y0 y1 y2 y3 y4 y5 y6 y7 y8
   unfold laws_FnDirs.l0
   repeat' first | (with_reducible first | exact ih0 .. | exact ih1 .. | exact ih2 .. | exact ih3 .. | exact impl_DirDrop.mono .. | exact impl_DirGet.mono .. | exact impl_DirKeys.mono .. | exact impl_DirPut.mono .. | exact impl_SameDir.mono .. | exact spec_DirOk.mono .. | exact spec_DrawDirPut.mono .. | exact LeO.refl .. | exact LeO.none .. | refine LeO.ite ?_ ?_ | refine LeO.bind ?_ (fun _ => ?_)) | exact ih0 .. | exact ih1 .. | exact ih2 .. | exact ih3 .. | exact impl_DirDrop.mono .. | exact impl_DirGet.mono .. | exact impl_DirKeys.mono .. | exact impl_DirPut.mono .. | exact impl_SameDir.mono .. | exact spec_DirOk.mono .. | exact spec_DrawDirPut.mono .. | exact LeO.none .. | refine LeO.ite ?_ ?_ | refine LeO.bind ?_ (fun _ => ?_)
  ·intro y0 y1 y2 y3 y4 y5 y6 y7 y8 y9
   unfold laws_FnDirs.j2
   repeat' first | (with_reducible first | exact ih0 .. | exact ih1 .. | exact ih2 .. | exact ih3 .. | exact impl_DirDrop.mono .. | exact impl_DirGet.mono .. | exact impl_DirKeys.mono .. | exact impl_DirPut.mono .. | exact impl_SameDir.mono .. | exact spec_DirOk.mono .. | exact spec_DrawDirPut.mono .. | exact LeO.refl .. | exact LeO.none .. | refine LeO.ite ?_ ?_ | refine LeO.bind ?_ (fun _ => ?_)) | exact ih0 .. | exact ih1 .. | exact ih2 .. | exact ih3 .. | exact impl_DirDrop.mono .. | exact impl_DirGet.mono .. | exact impl_DirKeys.mono .. | exact impl_DirPut.mono .. | exact impl_SameDir.mono .. | exact spec_DirOk.mono .. | exact spec_DrawDirPut.mono .. | exact LeO.none .. | refine LeO.ite ?_ ?_ | refine LeO.bind ?_ (fun _ => ?_)
  ·intro y0 y1 y2 y3 y4 y5 y6 y7
   unfold laws_FnDirs.l1
   repeat' first | (with_reducible first | exact ih0 .. | exact ih1 .. | exact ih2 .. | exact ih3 .. | exact impl_DirDrop.mono .. | exact impl_DirGet.mono .. | exact impl_DirKeys.mono .. | exact impl_DirPut.mono .. | exact impl_SameDir.mono .. | exact spec_DirOk.mono .. | exact spec_DrawDirPut.mono .. | exact LeO.refl .. | exact LeO.none .. | refine LeO.ite ?_ ?_ | refine LeO.bind ?_ (fun _ => ?_)) | exact ih0 .. | exact ih1 .. | exact ih2 .. | exact ih3 .. | exact impl_DirDrop.mono .. | exact impl_DirGet.mono .. | exact impl_DirKeys.mono .. | exact impl_DirPut.mono .. | exact impl_SameDir.mono .. | exact spec_DirOk.mono .. | exact spec_DrawDirPut.mono .. | exact LeO.none .. | refine LeO.ite ?_ ?_ | refine LeO.bind ?_ (fun _ => ?_)
theorem laws_FnDirs.mono : ∀ a0 k, LeO (laws_FnDirs.f k a0) (laws_FnDirs.f (k + 1) a0) := by
 intro a0 k
 obtain ⟨ih0, ih1, ih2, ih3⟩ := laws_FnDirs.mono_l k
 unfold laws_FnDirs.f
 repeat' first | (with_reducible first | exact ih0 .. | exact ih1 .. | exact ih2 .. | exact ih3 .. | exact impl_DirDrop.mono .. | exact impl_DirGet.mono .. | exact impl_DirKeys.mono .. | exact impl_DirPut.mono .. | exact impl_SameDir.mono .. | exact spec_DirOk.mono .. | exact spec_DrawDirPut.mono .. | exact LeO.refl .. | exact LeO.none .. | refine LeO.ite ?_ ?_ | refine LeO.bind ?_ (fun _ => ?_)) | exact ih0 .. | exact ih1 .. | exact ih2 .. | exact ih3 .. | exact impl_DirDrop.mono .. | exact impl_DirGet.mono .. | exact impl_DirKeys.mono .. | exact impl_DirPut.mono .. | exact impl_SameDir.mono .. | exact spec_DirOk.mono .. | exact spec_DrawDirPut.mono .. | exact LeO.none .. | refine LeO.ite ?_ ?_ | refine LeO.bind ?_ (fun _ => ?_)
set_option maxHeartbeats 80000000 in
set_option maxRecDepth 100000 in
theorem laws_FnDirs.calls (k : Nat) (A0 : Option Addr) (c0 : Nat) (l0 : List Int) (r : Bool) (w : World) (hr0 : Kd.C (Kd.int .u8) w A0 l0.length l0) (hc0 : l0.length ≤ c0) (hrt : r = true) (h : laws_FnDirs.f k l0 = some r) :
  Calls Try.prog 4 #[.slice A0 l0.length c0] w fun e w' => e = .returned (.bool r) ∧ Below w.heap.size w w' := by
 have hu29 := Try.underlying29
 have HRT := Aside0.mk hrt
 clear hrt
 have HR0 := Aside0.mk hr0
 have HC0 := Aside0.mk hc0
 clear hr0 hc0
 have HB := Aside0.mk (Below.refl w.heap.size w)
 have H : ((laws_big.f l0).bind fun t312 => (if t312 = true then (some true) else ((spec_DrawDirPut.f k l0).bind fun bt313 => ((spec_DirOk.f k bt313.1).bind fun t322 => (if t322 = true then ((impl_DirPut.f k bt313.1 bt313.2.1 bt313.2.2.1 bt313.2.2.2.1 bt313.2.2.2.2.1 bt313.2.2.2.2.2).bind fun t323 => ((impl_DirDrop.f k t323 bt313.2.1).bind fun t326 => ((impl_DirGet.f k t323 bt313.2.1).bind fun bt329 => ((impl_DirGet.f k t326 bt313.2.1).bind fun bt336 => (if bt329.2.2.2.2.2 = true then (if (!(bt329.1.toList == bt313.2.1.toList) || (!(bt329.2.1 == bt313.2.2.1) || (!(bt329.2.2.1 == bt313.2.2.2.1) || (!(bt329.2.2.2.1 == bt313.2.2.2.2.1) || (!(bt329.2.2.2.2.1 == bt313.2.2.2.2.2)))))) = true then (laws_FnDirs.j0 k bt313.1 t323 t326 true bt313.2.1 bt313.2.2.1 bt313.2.2.2.1 bt313.2.2.2.2.1 bt313.2.2.2.2.2) else (if bt336.2.2.2.2.2 = true then (laws_FnDirs.j0 k bt313.1 t323 t326 true bt313.2.1 bt313.2.2.1 bt313.2.2.2.1 bt313.2.2.2.2.1 bt313.2.2.2.2.2) else ((spec_DirOk.f k t326).bind fun t343 => (if t343 = true then (laws_FnDirs.j0 k bt313.1 t323 t326 ((t323.length : Int) != (wrap64 ((t326.length : Int) + 1))) bt313.2.1 bt313.2.2.1 bt313.2.2.2.1 bt313.2.2.2.2.1 bt313.2.2.2.2.2) else (laws_FnDirs.j0 k bt313.1 t323 t326 true bt313.2.1 bt313.2.2.1 bt313.2.2.2.1 bt313.2.2.2.2.1 bt313.2.2.2.2.2))))) else (laws_FnDirs.j0 k bt313.1 t323 t326 true bt313.2.1 bt313.2.2.1 bt313.2.2.2.1 bt313.2.2.2.2.1 bt313.2.2.2.2.2)))))) else (some true)))))) = some r := h
 clear h
 replace H := Option.bind_eq_some_iff.mp H
 obtain ⟨t312, A20, H⟩ := H
 replace H : (if t312 = true then (some true) else ((spec_DrawDirPut.f k l0).bind fun bt313 => ((spec_DirOk.f k bt313.1).bind fun t322 => (if t322 = true then ((impl_DirPut.f k bt313.1 bt313.2.1 bt313.2.2.1 bt313.2.2.2.1 bt313.2.2.2.2.1 bt313.2.2.2.2.2).bind fun t323 => ((impl_DirDrop.f k t323 bt313.2.1).bind fun t326 => ((impl_DirGet.f k t323 bt313.2.1).bind fun bt329 => ((impl_DirGet.f k t326 bt313.2.1).bind fun bt336 => (if bt329.2.2.2.2.2 = true then (if (!(bt329.1.toList == bt313.2.1.toList) || (!(bt329.2.1 == bt313.2.2.1) || (!(bt329.2.2.1 == bt313.2.2.2.1) || (!(bt329.2.2.2.1 == bt313.2.2.2.2.1) || (!(bt329.2.2.2.2.1 == bt313.2.2.2.2.2)))))) = true then (laws_FnDirs.j0 k bt313.1 t323 t326 true bt313.2.1 bt313.2.2.1 bt313.2.2.2.1 bt313.2.2.2.2.1 bt313.2.2.2.2.2) else (if bt336.2.2.2.2.2 = true then (laws_FnDirs.j0 k bt313.1 t323 t326 true bt313.2.1 bt313.2.2.1 bt313.2.2.2.1 bt313.2.2.2.2.1 bt313.2.2.2.2.2) else ((spec_DirOk.f k t326).bind fun t343 => (if t343 = true then (laws_FnDirs.j0 k bt313.1 t323 t326 ((t323.length : Int) != (wrap64 ((t326.length : Int) + 1))) bt313.2.1 bt313.2.2.1 bt313.2.2.2.1 bt313.2.2.2.2.1 bt313.2.2.2.2.2) else (laws_FnDirs.j0 k bt313.1 t323 t326 true bt313.2.1 bt313.2.2.1 bt313.2.2.2.1 bt313.2.2.2.2.1 bt313.2.2.2.2.2))))) else (laws_FnDirs.j0 k bt313.1 t323 t326 true bt313.2.1 bt313.2.2.1 bt313.2.2.2.1 bt313.2.2.2.2.1 bt313.2.2.2.2.2)))))) else (some true))))) = some r := H
 have A2 := Aside0.mk A20
 clear A20
 by_cases c3 : t312 = true
 ·subst c3
  have H1 : (some true) = some r := by rw [if_pos rfl] at H; exact H
  clear H
  have H := H1
  clear H1
  obtain rfl := Option.some.inj H
  go_enter Try.func4, Try.ntmps4
  go_wp2_with (first | (go_at_call 5; (with_reducible refine (laws_big.calls _ _ l0 true _ ?side1 ?side2 A2.out).mono ?_); (case side1 => repeat (first | exact HR0.out | (with_reducible refine Kd.C_alloc ?_ _) | (with_reducible refine Kd.C_drewN ?_ _) | (with_reducible refine Kd.C_drew ?_))); (case side2 => exact HC0.out); rintro e w' ⟨rfl, ⟨nd, rfl⟩⟩; (try first | exact ⟨rfl, _, World.drewN_drewN _ _ _⟩ | exact ⟨rfl, _, Eq.trans (World.drewN_drewN _ _ _) (congrArg (World.drewN _) (Nat.add_assoc _ _ _))⟩)))
  repeat (go_quiet (first | (go_at_call 5; (with_reducible refine (laws_big.calls _ _ l0 true _ ?side1 ?side2 A2.out).mono ?_); (case side1 => repeat (first | exact HR0.out | (with_reducible refine Kd.C_alloc ?_ _) | (with_reducible refine Kd.C_drewN ?_ _) | (with_reducible refine Kd.C_drew ?_))); (case side2 => exact HC0.out); rintro e w' ⟨rfl, ⟨nd, rfl⟩⟩; (try first | exact ⟨rfl, _, World.drewN_drewN _ _ _⟩ | exact ⟨rfl, _, Eq.trans (World.drewN_drewN _ _ _) (congrArg (World.drewN _) (Nat.add_assoc _ _ _))⟩))); try go_wp2_with (first | (go_at_call 5; (with_reducible refine (laws_big.calls _ _ l0 true _ ?side1 ?side2 A2.out).mono ?_); (case side1 => repeat (first | exact HR0.out | (with_reducible refine Kd.C_alloc ?_ _) | (with_reducible refine Kd.C_drewN ?_ _) | (with_reducible refine Kd.C_drew ?_))); (case side2 => exact HC0.out); rintro e w' ⟨rfl, ⟨nd, rfl⟩⟩; (try first | exact ⟨rfl, _, World.drewN_drewN _ _ _⟩ | exact ⟨rfl, _, Eq.trans (World.drewN_drewN _ _ _) (congrArg (World.drewN _) (Nat.add_assoc _ _ _))⟩))))
  go_ret
  exact ⟨re_, hb_ HB⟩
 ·replace c3 := Bool.eq_false_iff.mpr c3
  subst c3
  have H1 : ((spec_DrawDirPut.f k l0).bind fun bt313 => ((spec_DirOk.f k bt313.1).bind fun t322 => (if t322 = true then ((impl_DirPut.f k bt313.1 bt313.2.1 bt313.2.2.1 bt313.2.2.2.1 bt313.2.2.2.2.1 bt313.2.2.2.2.2).bind fun t323 => ((impl_DirDrop.f k t323 bt313.2.1).bind fun t326 => ((impl_DirGet.f k t323 bt313.2.1).bind fun bt329 => ((impl_DirGet.f k t326 bt313.2.1).bind fun bt336 => (if bt329.2.2.2.2.2 = true then (if (!(bt329.1.toList == bt313.2.1.toList) || (!(bt329.2.1 == bt313.2.2.1) || (!(bt329.2.2.1 == bt313.2.2.2.1) || (!(bt329.2.2.2.1 == bt313.2.2.2.2.1) || (!(bt329.2.2.2.2.1 == bt313.2.2.2.2.2)))))) = true then (laws_FnDirs.j0 k bt313.1 t323 t326 true bt313.2.1 bt313.2.2.1 bt313.2.2.2.1 bt313.2.2.2.2.1 bt313.2.2.2.2.2) else (if bt336.2.2.2.2.2 = true then (laws_FnDirs.j0 k bt313.1 t323 t326 true bt313.2.1 bt313.2.2.1 bt313.2.2.2.1 bt313.2.2.2.2.1 bt313.2.2.2.2.2) else ((spec_DirOk.f k t326).bind fun t343 => (if t343 = true then (laws_FnDirs.j0 k bt313.1 t323 t326 ((t323.length : Int) != (wrap64 ((t326.length : Int) + 1))) bt313.2.1 bt313.2.2.1 bt313.2.2.2.1 bt313.2.2.2.2.1 bt313.2.2.2.2.2) else (laws_FnDirs.j0 k bt313.1 t323 t326 true bt313.2.1 bt313.2.2.1 bt313.2.2.2.1 bt313.2.2.2.2.1 bt313.2.2.2.2.2))))) else (laws_FnDirs.j0 k bt313.1 t323 t326 true bt313.2.1 bt313.2.2.1 bt313.2.2.2.1 bt313.2.2.2.2.1 bt313.2.2.2.2.2)))))) else (some true)))) = some r := by rw [if_neg (show ¬ (false = true) by decide)] at H; exact H
  clear H
  have H := H1
  clear H1
  replace H := Option.bind_eq_some_iff.mp H
  obtain ⟨⟨t313, t316, t317, t318, t319, t320⟩, A40, H⟩ := H
  replace H : ((spec_DirOk.f k t313).bind fun t322 => (if t322 = true then ((impl_DirPut.f k t313 t316 t317 t318 t319 t320).bind fun t323 => ((impl_DirDrop.f k t323 t316).bind fun t326 => ((impl_DirGet.f k t323 t316).bind fun bt329 => ((impl_DirGet.f k t326 t316).bind fun bt336 => (if bt329.2.2.2.2.2 = true then (if (!(bt329.1.toList == t316.toList) || (!(bt329.2.1 == t317) || (!(bt329.2.2.1 == t318) || (!(bt329.2.2.2.1 == t319) || (!(bt329.2.2.2.2.1 == t320)))))) = true then (laws_FnDirs.j0 k t313 t323 t326 true t316 t317 t318 t319 t320) else (if bt336.2.2.2.2.2 = true then (laws_FnDirs.j0 k t313 t323 t326 true t316 t317 t318 t319 t320) else ((spec_DirOk.f k t326).bind fun t343 => (if t343 = true then (laws_FnDirs.j0 k t313 t323 t326 ((t323.length : Int) != (wrap64 ((t326.length : Int) + 1))) t316 t317 t318 t319 t320) else (laws_FnDirs.j0 k t313 t323 t326 true t316 t317 t318 t319 t320))))) else (laws_FnDirs.j0 k t313 t323 t326 true t316 t317 t318 t319 t320)))))) else (some true))) = some r := H
  have A4 := Aside0.mk A40
  clear A40
  replace H := Option.bind_eq_some_iff.mp H
  obtain ⟨t322, A50, H⟩ := H
  replace H : (if t322 = true then ((impl_DirPut.f k t313 t316 t317 t318 t319 t320).bind fun t323 => ((impl_DirDrop.f k t323 t316).bind fun t326 => ((impl_DirGet.f k t323 t316).bind fun bt329 => ((impl_DirGet.f k t326 t316).bind fun bt336 => (if bt329.2.2.2.2.2 = true then (if (!(bt329.1.toList == t316.toList) || (!(bt329.2.1 == t317) || (!(bt329.2.2.1 == t318) || (!(bt329.2.2.2.1 == t319) || (!(bt329.2.2.2.2.1 == t320)))))) = true then (laws_FnDirs.j0 k t313 t323 t326 true t316 t317 t318 t319 t320) else (if bt336.2.2.2.2.2 = true then (laws_FnDirs.j0 k t313 t323 t326 true t316 t317 t318 t319 t320) else ((spec_DirOk.f k t326).bind fun t343 => (if t343 = true then (laws_FnDirs.j0 k t313 t323 t326 ((t323.length : Int) != (wrap64 ((t326.length : Int) + 1))) t316 t317 t318 t319 t320) else (laws_FnDirs.j0 k t313 t323 t326 true t316 t317 t318 t319 t320))))) else (laws_FnDirs.j0 k t313 t323 t326 true t316 t317 t318 t319 t320)))))) else (some true)) = some r := H
  have A5 := Aside0.mk A50
  clear A50
  by_cases c6 : t322 = true
  ·subst c6
   have H1 : ((impl_DirPut.f k t313 t316 t317 t318 t319 t320).bind fun t323 => ((impl_DirDrop.f k t323 t316).bind fun t326 => ((impl_DirGet.f k t323 t316).bind fun bt329 => ((impl_DirGet.f k t326 t316).bind fun bt336 => (if bt329.2.2.2.2.2 = true then (if (!(bt329.1.toList == t316.toList) || (!(bt329.2.1 == t317) || (!(bt329.2.2.1 == t318) || (!(bt329.2.2.2.1 == t319) || (!(bt329.2.2.2.2.1 == t320)))))) = true then (laws_FnDirs.j0 k t313 t323 t326 true t316 t317 t318 t319 t320) else (if bt336.2.2.2.2.2 = true then (laws_FnDirs.j0 k t313 t323 t326 true t316 t317 t318 t319 t320) else ((spec_DirOk.f k t326).bind fun t343 => (if t343 = true then (laws_FnDirs.j0 k t313 t323 t326 ((t323.length : Int) != (wrap64 ((t326.length : Int) + 1))) t316 t317 t318 t319 t320) else (laws_FnDirs.j0 k t313 t323 t326 true t316 t317 t318 t319 t320))))) else (laws_FnDirs.j0 k t313 t323 t326 true t316 t317 t318 t319 t320)))))) = some r := by rw [if_pos rfl] at H; exact H
   clear H
   have H := H1
   clear H1
   replace H := Option.bind_eq_some_iff.mp H
   obtain ⟨t323, A70, H⟩ := H
   replace H : ((impl_DirDrop.f k t323 t316).bind fun t326 => ((impl_DirGet.f k t323 t316).bind fun bt329 => ((impl_DirGet.f k t326 t316).bind fun bt336 => (if bt329.2.2.2.2.2 = true then (if (!(bt329.1.toList == t316.toList) || (!(bt329.2.1 == t317) || (!(bt329.2.2.1 == t318) || (!(bt329.2.2.2.1 == t319) || (!(bt329.2.2.2.2.1 == t320)))))) = true then (laws_FnDirs.j0 k t313 t323 t326 true t316 t317 t318 t319 t320) else (if bt336.2.2.2.2.2 = true then (laws_FnDirs.j0 k t313 t323 t326 true t316 t317 t318 t319 t320) else ((spec_DirOk.f k t326).bind fun t343 => (if t343 = true then (laws_FnDirs.j0 k t313 t323 t326 ((t323.length : Int) != (wrap64 ((t326.length : Int) + 1))) t316 t317 t318 t319 t320) else (laws_FnDirs.j0 k t313 t323 t326 true t316 t317 t318 t319 t320))))) else (laws_FnDirs.j0 k t313 t323 t326 true t316 t317 t318 t319 t320))))) = some r := H
   have A7 := Aside0.mk A70
   clear A70
   replace H := Option.bind_eq_some_iff.mp H
   obtain ⟨t326, A80, H⟩ := H
   replace H : ((impl_DirGet.f k t323 t316).bind fun bt329 => ((impl_DirGet.f k t326 t316).bind fun bt336 => (if bt329.2.2.2.2.2 = true then (if (!(bt329.1.toList == t316.toList) || (!(bt329.2.1 == t317) || (!(bt329.2.2.1 == t318) || (!(bt329.2.2.2.1 == t319) || (!(bt329.2.2.2.2.1 == t320)))))) = true then (laws_FnDirs.j0 k t313 t323 t326 true t316 t317 t318 t319 t320) else (if bt336.2.2.2.2.2 = true then (laws_FnDirs.j0 k t313 t323 t326 true t316 t317 t318 t319 t320) else ((spec_DirOk.f k t326).bind fun t343 => (if t343 = true then (laws_FnDirs.j0 k t313 t323 t326 ((t323.length : Int) != (wrap64 ((t326.length : Int) + 1))) t316 t317 t318 t319 t320) else (laws_FnDirs.j0 k t313 t323 t326 true t316 t317 t318 t319 t320))))) else (laws_FnDirs.j0 k t313 t323 t326 true t316 t317 t318 t319 t320)))) = some r := H
   have A8 := Aside0.mk A80
   clear A80
   replace H := Option.bind_eq_some_iff.mp H
   obtain ⟨⟨t329, t330, t331, t332, t333, t334⟩, A90, H⟩ := H
   replace H : ((impl_DirGet.f k t326 t316).bind fun bt336 => (if t334 = true then (if (!(t329.toList == t316.toList) || (!(t330 == t317) || (!(t331 == t318) || (!(t332 == t319) || (!(t333 == t320)))))) = true then (laws_FnDirs.j0 k t313 t323 t326 true t316 t317 t318 t319 t320) else (if bt336.2.2.2.2.2 = true then (laws_FnDirs.j0 k t313 t323 t326 true t316 t317 t318 t319 t320) else ((spec_DirOk.f k t326).bind fun t343 => (if t343 = true then (laws_FnDirs.j0 k t313 t323 t326 ((t323.length : Int) != (wrap64 ((t326.length : Int) + 1))) t316 t317 t318 t319 t320) else (laws_FnDirs.j0 k t313 t323 t326 true t316 t317 t318 t319 t320))))) else (laws_FnDirs.j0 k t313 t323 t326 true t316 t317 t318 t319 t320))) = some r := H
   have A9 := Aside0.mk A90
   clear A90
   replace H := Option.bind_eq_some_iff.mp H
   obtain ⟨⟨t336, t337, t338, t339, t340, t341⟩, A100, H⟩ := H
   replace H : (if t334 = true then (if (!(t329.toList == t316.toList) || (!(t330 == t317) || (!(t331 == t318) || (!(t332 == t319) || (!(t333 == t320)))))) = true then (laws_FnDirs.j0 k t313 t323 t326 true t316 t317 t318 t319 t320) else (if t341 = true then (laws_FnDirs.j0 k t313 t323 t326 true t316 t317 t318 t319 t320) else ((spec_DirOk.f k t326).bind fun t343 => (if t343 = true then (laws_FnDirs.j0 k t313 t323 t326 ((t323.length : Int) != (wrap64 ((t326.length : Int) + 1))) t316 t317 t318 t319 t320) else (laws_FnDirs.j0 k t313 t323 t326 true t316 t317 t318 t319 t320))))) else (laws_FnDirs.j0 k t313 t323 t326 true t316 t317 t318 t319 t320)) = some r := H
   have A10 := Aside0.mk A100
   clear A100
   have HC11 := Aside0.mk H
   clear H
   go_enter Try.func4, Try.ntmps4
   go_upto_region 10 with (first | (go_at_call 5; (with_reducible refine (laws_big.calls _ _ l0 false _ ?side1 ?side2 A2.out).mono ?_); (case side1 => repeat (first | exact HR0.out | (with_reducible refine Kd.C_alloc ?_ _) | (with_reducible refine Kd.C_drewN ?_ _) | (with_reducible refine Kd.C_drew ?_))); (case side2 => exact HC0.out); rintro e w' ⟨rfl, ⟨nd, rfl⟩⟩; (try first | exact ⟨rfl, _, World.drewN_drewN _ _ _⟩ | exact ⟨rfl, _, Eq.trans (World.drewN_drewN _ _ _) (congrArg (World.drewN _) (Nat.add_assoc _ _ _))⟩)) | (go_at_call 10; (with_reducible refine (spec_DrawDirPut.calls k _ _ l0 t313 t316 t317 t318 t319 t320 _ ?side1 ?side2 A4.out).mono ?_); (case side1 => repeat (first | exact HR0.out | (with_reducible refine Kd.C_alloc ?_ _) | (with_reducible refine Kd.C_drewN ?_ _) | (with_reducible refine Kd.C_drew ?_))); (case side2 => exact HC0.out); rintro e w12 ⟨v314, rfl, ho0, hb⟩; have HO315 := Aside0.mk (Kd.R_lower ho0 (below_size (hb_ HB))); replace HB := bs_ HB hb; (try clear hb); (try clear hb2); (try clear hk); (try clear hi); (try clear ho0)) | ((with_reducible refine gate_dst (N := 4) rfl ?_); (try (refine gate_guard (by rfl) ?_; dsimp only)); refine box_event ?hg (N := 4) ?hd (cs := #[.string (⟨#[]⟩ : ByteArray), .int .i64 0, .int .i64 0, .int .i64 0, .int .i64 0]) (t := 29) ?hr ?_; (case hd => rfl); (case hg => rfl); (case hr => first | (go_simp; done) | (go_simp; rfl)); intro gb321 hg w13 hbox hb; replace HO315 := Aside0.mk (Kd.R_below (Kd.R_elderB (rr_ HO315) gb321 (Nat.le_of_eq hg.symm)) hb); have BK321 := Aside0.mk (hbox); have GW321 := ge_ hg (hb_ HB); have GE321 := ge_ hg (hb_ HB); replace HB := bs_ HB hb; clear hb hbox hg; obtain ⟨hcz14_0, hcz14_1, hcz14_2, hcz14_3, hcz14_4, hfz14_0, hfz14_1, hfz14_2, hfz14_3, hfz14_4⟩ := bc5_ BK321; obtain ⟨Ao15, co15, eo15⟩ := Kd.R_slice HO315.out; subst eo15) | (go_at_call 11; (with_reducible refine (spec_DirOk.calls k _ _ t313 true _ ?side1 ?side2 A5.out).mono ?_); (case side1 => refine (Kd.R_reads' (e := 29) (base := w.heap.size) (ok := fun k_ => (True ∧ k_ ≠ gb321)) (n := t313.length) (c := co15) ?_).2.2; exact (by (with_reducible repeat (first | apply Kd.R_alloc | apply Kd.R_drewN | apply Kd.R_drew)); exact (Kd.R_mono (Kd.R_far (p := ⟨gb321, 4, none⟩) (Kd.R_far (p := ⟨gb321, 3, none⟩) (Kd.R_far (p := ⟨gb321, 2, none⟩) (Kd.R_far (p := ⟨gb321, 1, none⟩) (Kd.R_far (p := ⟨gb321, 0, none⟩) (Kd.R_mono HO315.out (fun k_ hk => (⟨hk, hk.2⟩ : _ ∧ k_ ≠ gb321))) (fun _ hk => hk.2) (.string t316)) (fun _ hk => hk.2) (.int .i64 t317)) (fun _ hk => hk.2) (.int .i64 t318)) (fun _ hk => hk.2) (.int .i64 t319)) (fun _ hk => hk.2) (.int .i64 t320)) (fun _ h_ => h_.1)))); (case side2 => exact (Kd.R_reads' HO315.out).2.1); rintro e w16 ⟨rfl, hb⟩; replace HO315 := Aside0.mk (Kd.R_below (by (with_reducible repeat (first | apply Kd.R_alloc | apply Kd.R_drewN | apply Kd.R_drew)); exact (Kd.R_mono (Kd.R_far (p := ⟨gb321, 4, none⟩) (Kd.R_far (p := ⟨gb321, 3, none⟩) (Kd.R_far (p := ⟨gb321, 2, none⟩) (Kd.R_far (p := ⟨gb321, 1, none⟩) (Kd.R_far (p := ⟨gb321, 0, none⟩) (Kd.R_mono HO315.out (fun k_ hk => (⟨hk, hk.2⟩ : _ ∧ k_ ≠ gb321))) (fun _ hk => hk.2) (.string t316)) (fun _ hk => hk.2) (.int .i64 t317)) (fun _ hk => hk.2) (.int .i64 t318)) (fun _ hk => hk.2) (.int .i64 t319)) (fun _ hk => hk.2) (.int .i64 t320)) (fun _ h_ => h_.1))) hb); replace BK321 := bp_ #[.string t316, .int .i64 t317, .int .i64 t318, .int .i64 t319, .int .i64 t320] BK321 hb; replace HB := bt_ HB GE321 hb; (try clear hb); (try clear hb2); (try clear hk); (try clear hi); obtain ⟨hcz17_0, hcz17_1, hcz17_2, hcz17_3, hcz17_4, hfz17_0, hfz17_1, hfz17_2, hfz17_3, hfz17_4⟩ := bc5_ BK321) | (go_at_call 12; (with_reducible refine (impl_DirPut.calls k _ _ t313 t316 t317 t318 t319 t320 t323 _ ?side1 ?side2 A7.out).mono ?_); (case side1 => repeat (first | exact (Kd.R_reads' HO315.out).2.2 | (with_reducible refine Kd.C_alloc ?_ _) | (with_reducible refine Kd.C_drewN ?_ _) | (with_reducible refine Kd.C_drew ?_))); (case side2 => exact (Kd.R_reads' HO315.out).2.1); rintro e w18 ⟨v324, rfl, ho0, hb⟩; have HO325 := Aside0.mk (Kd.R_lower (Kd.R_newB (Kd.R_new' ho0 (Kd.R_lt (rr_ HO315))) (g := gb321) (o := .cells #[.string t316, .int .i64 t317, .int .i64 t318, .int .i64 t319, .int .i64 t320] 29 (0, 0)) (bk_ BK321)) (below_size (hs_ HB GE321))); replace HO315 := Aside0.mk (Kd.R_elder' (rr_ HO315) (Kd.R_base ho0) hb); replace BK321 := bb_ BK321 hb; replace HB := bt_ HB GE321 hb; (try clear hb); (try clear hb2); (try clear hk); (try clear hi); (try clear ho0); obtain ⟨hcz19_0, hcz19_1, hcz19_2, hcz19_3, hcz19_4, hfz19_0, hfz19_1, hfz19_2, hfz19_3, hfz19_4⟩ := bc5_ BK321; obtain ⟨Ao20, co20, eo20⟩ := Kd.R_slice HO325.out; subst eo20) | (go_at_call 13; (with_reducible refine (impl_DirDrop.calls k _ _ t323 t316 t326 _ ?side1 ?side2 A8.out).mono ?_); (case side1 => repeat (first | exact (Kd.R_reads' HO325.out).2.2 | (with_reducible refine Kd.C_alloc ?_ _) | (with_reducible refine Kd.C_drewN ?_ _) | (with_reducible refine Kd.C_drew ?_))); (case side2 => exact (Kd.R_reads' HO325.out).2.1); rintro e w21 ⟨v327, rfl, ho0, hb⟩; have HO328 := Aside0.mk (Kd.R_lower (Kd.R_newB (Kd.R_new' (Kd.R_new' ho0 (Kd.R_lt (rr_ HO315))) (Kd.R_lt (rr_ HO325))) (g := gb321) (o := .cells #[.string t316, .int .i64 t317, .int .i64 t318, .int .i64 t319, .int .i64 t320] 29 (0, 0)) (bk_ BK321)) (below_size (hs_ HB GE321))); replace HO315 := Aside0.mk (Kd.R_elder' (rr_ HO315) (Kd.R_base ho0) hb); replace HO325 := Aside0.mk (Kd.R_elder' (rr_ HO325) (Kd.R_base ho0) hb); replace BK321 := bb_ BK321 hb; replace HB := bt_ HB GE321 hb; (try clear hb); (try clear hb2); (try clear hk); (try clear hi); (try clear ho0); obtain ⟨hcz22_0, hcz22_1, hcz22_2, hcz22_3, hcz22_4, hfz22_0, hfz22_1, hfz22_2, hfz22_3, hfz22_4⟩ := bc5_ BK321) | (go_at_call 14; (with_reducible refine (impl_DirGet.calls k _ _ t323 t316 t329 t330 t331 t332 t333 t334 _ ?side1 ?side2 A9.out).mono ?_); (case side1 => repeat (first | exact (Kd.R_reads' HO325.out).2.2 | (with_reducible refine Kd.C_alloc ?_ _) | (with_reducible refine Kd.C_drewN ?_ _) | (with_reducible refine Kd.C_drew ?_))); (case side2 => exact (Kd.R_reads' HO325.out).2.1); rintro e w23 ⟨rfl, hb⟩; replace HO315 := rb_ HO315 hb; replace HO325 := rb_ HO325 hb; replace HO328 := rb_ HO328 hb; replace BK321 := bb_ BK321 hb; replace HB := bt_ HB GE321 hb; (try clear hb); (try clear hb2); (try clear hk); (try clear hi)) | ((with_reducible refine gate_dst (N := 7) rfl ?_); (try (refine gate_guard (by rfl) ?_; dsimp only)); refine box_event ?hg (N := 7) ?hd (cs := #[.string (⟨#[]⟩ : ByteArray), .int .i64 0, .int .i64 0, .int .i64 0, .int .i64 0]) (t := 29) ?hr ?_; (case hd => rfl); (case hg => rfl); (case hr => first | (go_simp; done) | (go_simp; rfl)); intro gb335 hg w24 hbox hb; replace HO315 := Aside0.mk (Kd.R_below (Kd.R_elderB (rr_ HO315) gb335 (Nat.le_of_eq hg.symm)) hb); replace HO325 := Aside0.mk (Kd.R_below (Kd.R_elderB (rr_ HO325) gb335 (Nat.le_of_eq hg.symm)) hb); replace HO328 := Aside0.mk (Kd.R_below (Kd.R_elderB (rr_ HO328) gb335 (Nat.le_of_eq hg.symm)) hb); have BK335 := Aside0.mk (hbox); have GW335 := ge_ hg (hs_ HB GE321); have GE335 := ge_ hg (hs_ HB GE321); replace HB := bt_ HB GE321 hb; have NB321_335 := nl_ BK321 hg; have NB335_321 := ng_ BK321 hg; replace BK321 := bb_ BK321 hb; clear hb hbox hg; have hnb25 := NB335_321.out; have hnc25 := NB321_335.out; obtain ⟨hcz26_0, hcz26_1, hcz26_2, hcz26_3, hcz26_4, hfz26_0, hfz26_1, hfz26_2, hfz26_3, hfz26_4⟩ := bc5_ BK335; obtain ⟨hcz27_0, hcz27_1, hcz27_2, hcz27_3, hcz27_4, hfz27_0, hfz27_1, hfz27_2, hfz27_3, hfz27_4⟩ := bc5_ BK321; obtain ⟨Ao28, co28, eo28⟩ := Kd.R_slice HO328.out; subst eo28) | (go_at_call 14; (with_reducible refine (impl_DirGet.calls k _ _ t326 t316 t336 t337 t338 t339 t340 t341 _ ?side1 ?side2 A10.out).mono ?_); (case side1 => refine (Kd.R_reads' (e := 29) (base := w.heap.size) (ok := fun k_ => ((((True ∧ some k_ ≠ (.slice Ao15 t313.length co15 : Value).ownBlock) ∧ some k_ ≠ (.slice Ao20 t323.length co20 : Value).ownBlock) ∧ k_ ≠ gb321) ∧ k_ ≠ gb335)) (n := t326.length) (c := co28) ?_).2.2; exact (by (with_reducible repeat (first | apply Kd.R_alloc | apply Kd.R_drewN | apply Kd.R_drew)); exact (Kd.R_mono (Kd.R_far (p := ⟨gb335, 4, none⟩) (Kd.R_far (p := ⟨gb335, 3, none⟩) (Kd.R_far (p := ⟨gb335, 2, none⟩) (Kd.R_far (p := ⟨gb335, 1, none⟩) (Kd.R_far (p := ⟨gb335, 0, none⟩) (Kd.R_mono HO328.out (fun k_ hk => (⟨hk, hk.2⟩ : _ ∧ k_ ≠ gb335))) (fun _ hk => hk.2) (.string t329)) (fun _ hk => hk.2) (.int .i64 t330)) (fun _ hk => hk.2) (.int .i64 t331)) (fun _ hk => hk.2) (.int .i64 t332)) (fun _ hk => hk.2) (.int .i64 t333)) (fun _ h_ => h_.1)))); (case side2 => exact (Kd.R_reads' HO328.out).2.1); rintro e w29 ⟨rfl, hb⟩; replace HO315 := Aside0.mk (Kd.R_below (by (with_reducible repeat (first | apply Kd.R_alloc | apply Kd.R_drewN | apply Kd.R_drew)); exact (Kd.R_mono (Kd.R_far (p := ⟨gb335, 4, none⟩) (Kd.R_far (p := ⟨gb335, 3, none⟩) (Kd.R_far (p := ⟨gb335, 2, none⟩) (Kd.R_far (p := ⟨gb335, 1, none⟩) (Kd.R_far (p := ⟨gb335, 0, none⟩) (Kd.R_mono HO315.out (fun k_ hk => (⟨hk, hk.2⟩ : _ ∧ k_ ≠ gb335))) (fun _ hk => hk.2) (.string t329)) (fun _ hk => hk.2) (.int .i64 t330)) (fun _ hk => hk.2) (.int .i64 t331)) (fun _ hk => hk.2) (.int .i64 t332)) (fun _ hk => hk.2) (.int .i64 t333)) (fun _ h_ => h_.1))) hb); replace HO325 := Aside0.mk (Kd.R_below (by (with_reducible repeat (first | apply Kd.R_alloc | apply Kd.R_drewN | apply Kd.R_drew)); exact (Kd.R_mono (Kd.R_far (p := ⟨gb335, 4, none⟩) (Kd.R_far (p := ⟨gb335, 3, none⟩) (Kd.R_far (p := ⟨gb335, 2, none⟩) (Kd.R_far (p := ⟨gb335, 1, none⟩) (Kd.R_far (p := ⟨gb335, 0, none⟩) (Kd.R_mono HO325.out (fun k_ hk => (⟨hk, hk.2⟩ : _ ∧ k_ ≠ gb335))) (fun _ hk => hk.2) (.string t329)) (fun _ hk => hk.2) (.int .i64 t330)) (fun _ hk => hk.2) (.int .i64 t331)) (fun _ hk => hk.2) (.int .i64 t332)) (fun _ hk => hk.2) (.int .i64 t333)) (fun _ h_ => h_.1))) hb); replace HO328 := Aside0.mk (Kd.R_below (by (with_reducible repeat (first | apply Kd.R_alloc | apply Kd.R_drewN | apply Kd.R_drew)); exact (Kd.R_mono (Kd.R_far (p := ⟨gb335, 4, none⟩) (Kd.R_far (p := ⟨gb335, 3, none⟩) (Kd.R_far (p := ⟨gb335, 2, none⟩) (Kd.R_far (p := ⟨gb335, 1, none⟩) (Kd.R_far (p := ⟨gb335, 0, none⟩) (Kd.R_mono HO328.out (fun k_ hk => (⟨hk, hk.2⟩ : _ ∧ k_ ≠ gb335))) (fun _ hk => hk.2) (.string t329)) (fun _ hk => hk.2) (.int .i64 t330)) (fun _ hk => hk.2) (.int .i64 t331)) (fun _ hk => hk.2) (.int .i64 t332)) (fun _ hk => hk.2) (.int .i64 t333)) (fun _ h_ => h_.1))) hb); replace BK321 := bf_ BK321 NB321_335 hb; replace BK335 := bp_ #[.string t329, .int .i64 t330, .int .i64 t331, .int .i64 t332, .int .i64 t333] BK335 hb; replace HB := bu_ HB GE321 GE335 hb; (try clear hb); (try clear hb2); (try clear hk); (try clear hi)) | ((with_reducible refine gate_dst (N := 9) rfl ?_); (try (refine gate_guard (by rfl) ?_; dsimp only)); refine box_event ?hg (N := 9) ?hd (cs := #[.string (⟨#[]⟩ : ByteArray), .int .i64 0, .int .i64 0, .int .i64 0, .int .i64 0]) (t := 29) ?hr ?_; (case hd => rfl); (case hg => rfl); (case hr => first | (go_simp; done) | (go_simp; rfl)); intro gb342 hg w30 hbox hb; replace HO315 := Aside0.mk (Kd.R_below (Kd.R_elderB (rr_ HO315) gb342 (Nat.le_of_eq hg.symm)) hb); replace HO325 := Aside0.mk (Kd.R_below (Kd.R_elderB (rr_ HO325) gb342 (Nat.le_of_eq hg.symm)) hb); replace HO328 := Aside0.mk (Kd.R_below (Kd.R_elderB (rr_ HO328) gb342 (Nat.le_of_eq hg.symm)) hb); have BK342 := Aside0.mk (hbox); have GW342 := ge_ hg (hu_ HB GE321 GE335); have GE342 := ge_ hg (hu_ HB GE321 GE335); replace HB := bu_ HB GE321 GE335 hb; have NB321_342 := nl_ BK321 hg; have NB342_321 := ng_ BK321 hg; replace BK321 := bb_ BK321 hb; have NB335_342 := nl_ BK335 hg; have NB342_335 := ng_ BK335 hg; replace BK335 := bb_ BK335 hb; clear hb hbox hg; have hnb31 := NB342_321.out; have hnc31 := NB321_342.out; have hnb32 := NB342_335.out; have hnc32 := NB335_342.out; obtain ⟨hcz33_0, hcz33_1, hcz33_2, hcz33_3, hcz33_4, hfz33_0, hfz33_1, hfz33_2, hfz33_3, hfz33_4⟩ := bc5_ BK342))
   repeat (go_quiet (first | (go_at_call 5; (with_reducible refine (laws_big.calls _ _ l0 false _ ?side1 ?side2 A2.out).mono ?_); (case side1 => repeat (first | exact HR0.out | (with_reducible refine Kd.C_alloc ?_ _) | (with_reducible refine Kd.C_drewN ?_ _) | (with_reducible refine Kd.C_drew ?_))); (case side2 => exact HC0.out); rintro e w' ⟨rfl, ⟨nd, rfl⟩⟩; (try first | exact ⟨rfl, _, World.drewN_drewN _ _ _⟩ | exact ⟨rfl, _, Eq.trans (World.drewN_drewN _ _ _) (congrArg (World.drewN _) (Nat.add_assoc _ _ _))⟩)) | (go_at_call 10; (with_reducible refine (spec_DrawDirPut.calls k _ _ l0 t313 t316 t317 t318 t319 t320 _ ?side1 ?side2 A4.out).mono ?_); (case side1 => repeat (first | exact HR0.out | (with_reducible refine Kd.C_alloc ?_ _) | (with_reducible refine Kd.C_drewN ?_ _) | (with_reducible refine Kd.C_drew ?_))); (case side2 => exact HC0.out); rintro e w12 ⟨v314, rfl, ho0, hb⟩; have HO315 := Aside0.mk (Kd.R_lower ho0 (below_size (hb_ HB))); replace HB := bs_ HB hb; (try clear hb); (try clear hb2); (try clear hk); (try clear hi); (try clear ho0)) | ((with_reducible refine gate_dst (N := 4) rfl ?_); (try (refine gate_guard (by rfl) ?_; dsimp only)); refine box_event ?hg (N := 4) ?hd (cs := #[.string (⟨#[]⟩ : ByteArray), .int .i64 0, .int .i64 0, .int .i64 0, .int .i64 0]) (t := 29) ?hr ?_; (case hd => rfl); (case hg => rfl); (case hr => first | (go_simp; done) | (go_simp; rfl)); intro gb321 hg w13 hbox hb; replace HO315 := Aside0.mk (Kd.R_below (Kd.R_elderB (rr_ HO315) gb321 (Nat.le_of_eq hg.symm)) hb); have BK321 := Aside0.mk (hbox); have GW321 := ge_ hg (hb_ HB); have GE321 := ge_ hg (hb_ HB); replace HB := bs_ HB hb; clear hb hbox hg; obtain ⟨hcz14_0, hcz14_1, hcz14_2, hcz14_3, hcz14_4, hfz14_0, hfz14_1, hfz14_2, hfz14_3, hfz14_4⟩ := bc5_ BK321; obtain ⟨Ao15, co15, eo15⟩ := Kd.R_slice HO315.out; subst eo15) | (go_at_call 11; (with_reducible refine (spec_DirOk.calls k _ _ t313 true _ ?side1 ?side2 A5.out).mono ?_); (case side1 => refine (Kd.R_reads' (e := 29) (base := w.heap.size) (ok := fun k_ => (True ∧ k_ ≠ gb321)) (n := t313.length) (c := co15) ?_).2.2; exact (by (with_reducible repeat (first | apply Kd.R_alloc | apply Kd.R_drewN | apply Kd.R_drew)); exact (Kd.R_mono (Kd.R_far (p := ⟨gb321, 4, none⟩) (Kd.R_far (p := ⟨gb321, 3, none⟩) (Kd.R_far (p := ⟨gb321, 2, none⟩) (Kd.R_far (p := ⟨gb321, 1, none⟩) (Kd.R_far (p := ⟨gb321, 0, none⟩) (Kd.R_mono HO315.out (fun k_ hk => (⟨hk, hk.2⟩ : _ ∧ k_ ≠ gb321))) (fun _ hk => hk.2) (.string t316)) (fun _ hk => hk.2) (.int .i64 t317)) (fun _ hk => hk.2) (.int .i64 t318)) (fun _ hk => hk.2) (.int .i64 t319)) (fun _ hk => hk.2) (.int .i64 t320)) (fun _ h_ => h_.1)))); (case side2 => exact (Kd.R_reads' HO315.out).2.1); rintro e w16 ⟨rfl, hb⟩; replace HO315 := Aside0.mk (Kd.R_below (by (with_reducible repeat (first | apply Kd.R_alloc | apply Kd.R_drewN | apply Kd.R_drew)); exact (Kd.R_mono (Kd.R_far (p := ⟨gb321, 4, none⟩) (Kd.R_far (p := ⟨gb321, 3, none⟩) (Kd.R_far (p := ⟨gb321, 2, none⟩) (Kd.R_far (p := ⟨gb321, 1, none⟩) (Kd.R_far (p := ⟨gb321, 0, none⟩) (Kd.R_mono HO315.out (fun k_ hk => (⟨hk, hk.2⟩ : _ ∧ k_ ≠ gb321))) (fun _ hk => hk.2) (.string t316)) (fun _ hk => hk.2) (.int .i64 t317)) (fun _ hk => hk.2) (.int .i64 t318)) (fun _ hk => hk.2) (.int .i64 t319)) (fun _ hk => hk.2) (.int .i64 t320)) (fun _ h_ => h_.1))) hb); replace BK321 := bp_ #[.string t316, .int .i64 t317, .int .i64 t318, .int .i64 t319, .int .i64 t320] BK321 hb; replace HB := bt_ HB GE321 hb; (try clear hb); (try clear hb2); (try clear hk); (try clear hi); obtain ⟨hcz17_0, hcz17_1, hcz17_2, hcz17_3, hcz17_4, hfz17_0, hfz17_1, hfz17_2, hfz17_3, hfz17_4⟩ := bc5_ BK321) | (go_at_call 12; (with_reducible refine (impl_DirPut.calls k _ _ t313 t316 t317 t318 t319 t320 t323 _ ?side1 ?side2 A7.out).mono ?_); (case side1 => repeat (first | exact (Kd.R_reads' HO315.out).2.2 | (with_reducible refine Kd.C_alloc ?_ _) | (with_reducible refine Kd.C_drewN ?_ _) | (with_reducible refine Kd.C_drew ?_))); (case side2 => exact (Kd.R_reads' HO315.out).2.1); rintro e w18 ⟨v324, rfl, ho0, hb⟩; have HO325 := Aside0.mk (Kd.R_lower (Kd.R_newB (Kd.R_new' ho0 (Kd.R_lt (rr_ HO315))) (g := gb321) (o := .cells #[.string t316, .int .i64 t317, .int .i64 t318, .int .i64 t319, .int .i64 t320] 29 (0, 0)) (bk_ BK321)) (below_size (hs_ HB GE321))); replace HO315 := Aside0.mk (Kd.R_elder' (rr_ HO315) (Kd.R_base ho0) hb); replace BK321 := bb_ BK321 hb; replace HB := bt_ HB GE321 hb; (try clear hb); (try clear hb2); (try clear hk); (try clear hi); (try clear ho0); obtain ⟨hcz19_0, hcz19_1, hcz19_2, hcz19_3, hcz19_4, hfz19_0, hfz19_1, hfz19_2, hfz19_3, hfz19_4⟩ := bc5_ BK321; obtain ⟨Ao20, co20, eo20⟩ := Kd.R_slice HO325.out; subst eo20) | (go_at_call 13; (with_reducible refine (impl_DirDrop.calls k _ _ t323 t316 t326 _ ?side1 ?side2 A8.out).mono ?_); (case side1 => repeat (first | exact (Kd.R_reads' HO325.out).2.2 | (with_reducible refine Kd.C_alloc ?_ _) | (with_reducible refine Kd.C_drewN ?_ _) | (with_reducible refine Kd.C_drew ?_))); (case side2 => exact (Kd.R_reads' HO325.out).2.1); rintro e w21 ⟨v327, rfl, ho0, hb⟩; have HO328 := Aside0.mk (Kd.R_lower (Kd.R_newB (Kd.R_new' (Kd.R_new' ho0 (Kd.R_lt (rr_ HO315))) (Kd.R_lt (rr_ HO325))) (g := gb321) (o := .cells #[.string t316, .int .i64 t317, .int .i64 t318, .int .i64 t319, .int .i64 t320] 29 (0, 0)) (bk_ BK321)) (below_size (hs_ HB GE321))); replace HO315 := Aside0.mk (Kd.R_elder' (rr_ HO315) (Kd.R_base ho0) hb); replace HO325 := Aside0.mk (Kd.R_elder' (rr_ HO325) (Kd.R_base ho0) hb); replace BK321 := bb_ BK321 hb; replace HB := bt_ HB GE321 hb; (try clear hb); (try clear hb2); (try clear hk); (try clear hi); (try clear ho0); obtain ⟨hcz22_0, hcz22_1, hcz22_2, hcz22_3, hcz22_4, hfz22_0, hfz22_1, hfz22_2, hfz22_3, hfz22_4⟩ := bc5_ BK321) | (go_at_call 14; (with_reducible refine (impl_DirGet.calls k _ _ t323 t316 t329 t330 t331 t332 t333 t334 _ ?side1 ?side2 A9.out).mono ?_); (case side1 => repeat (first | exact (Kd.R_reads' HO325.out).2.2 | (with_reducible refine Kd.C_alloc ?_ _) | (with_reducible refine Kd.C_drewN ?_ _) | (with_reducible refine Kd.C_drew ?_))); (case side2 => exact (Kd.R_reads' HO325.out).2.1); rintro e w23 ⟨rfl, hb⟩; replace HO315 := rb_ HO315 hb; replace HO325 := rb_ HO325 hb; replace HO328 := rb_ HO328 hb; replace BK321 := bb_ BK321 hb; replace HB := bt_ HB GE321 hb; (try clear hb); (try clear hb2); (try clear hk); (try clear hi)) | ((with_reducible refine gate_dst (N := 7) rfl ?_); (try (refine gate_guard (by rfl) ?_; dsimp only)); refine box_event ?hg (N := 7) ?hd (cs := #[.string (⟨#[]⟩ : ByteArray), .int .i64 0, .int .i64 0, .int .i64 0, .int .i64 0]) (t := 29) ?hr ?_; (case hd => rfl); (case hg => rfl); (case hr => first | (go_simp; done) | (go_simp; rfl)); intro gb335 hg w24 hbox hb; replace HO315 := Aside0.mk (Kd.R_below (Kd.R_elderB (rr_ HO315) gb335 (Nat.le_of_eq hg.symm)) hb); replace HO325 := Aside0.mk (Kd.R_below (Kd.R_elderB (rr_ HO325) gb335 (Nat.le_of_eq hg.symm)) hb); replace HO328 := Aside0.mk (Kd.R_below (Kd.R_elderB (rr_ HO328) gb335 (Nat.le_of_eq hg.symm)) hb); have BK335 := Aside0.mk (hbox); have GW335 := ge_ hg (hs_ HB GE321); have GE335 := ge_ hg (hs_ HB GE321); replace HB := bt_ HB GE321 hb; have NB321_335 := nl_ BK321 hg; have NB335_321 := ng_ BK321 hg; replace BK321 := bb_ BK321 hb; clear hb hbox hg; have hnb25 := NB335_321.out; have hnc25 := NB321_335.out; obtain ⟨hcz26_0, hcz26_1, hcz26_2, hcz26_3, hcz26_4, hfz26_0, hfz26_1, hfz26_2, hfz26_3, hfz26_4⟩ := bc5_ BK335; obtain ⟨hcz27_0, hcz27_1, hcz27_2, hcz27_3, hcz27_4, hfz27_0, hfz27_1, hfz27_2, hfz27_3, hfz27_4⟩ := bc5_ BK321; obtain ⟨Ao28, co28, eo28⟩ := Kd.R_slice HO328.out; subst eo28) | (go_at_call 14; (with_reducible refine (impl_DirGet.calls k _ _ t326 t316 t336 t337 t338 t339 t340 t341 _ ?side1 ?side2 A10.out).mono ?_); (case side1 => refine (Kd.R_reads' (e := 29) (base := w.heap.size) (ok := fun k_ => ((((True ∧ some k_ ≠ (.slice Ao15 t313.length co15 : Value).ownBlock) ∧ some k_ ≠ (.slice Ao20 t323.length co20 : Value).ownBlock) ∧ k_ ≠ gb321) ∧ k_ ≠ gb335)) (n := t326.length) (c := co28) ?_).2.2; exact (by (with_reducible repeat (first | apply Kd.R_alloc | apply Kd.R_drewN | apply Kd.R_drew)); exact (Kd.R_mono (Kd.R_far (p := ⟨gb335, 4, none⟩) (Kd.R_far (p := ⟨gb335, 3, none⟩) (Kd.R_far (p := ⟨gb335, 2, none⟩) (Kd.R_far (p := ⟨gb335, 1, none⟩) (Kd.R_far (p := ⟨gb335, 0, none⟩) (Kd.R_mono HO328.out (fun k_ hk => (⟨hk, hk.2⟩ : _ ∧ k_ ≠ gb335))) (fun _ hk => hk.2) (.string t329)) (fun _ hk => hk.2) (.int .i64 t330)) (fun _ hk => hk.2) (.int .i64 t331)) (fun _ hk => hk.2) (.int .i64 t332)) (fun _ hk => hk.2) (.int .i64 t333)) (fun _ h_ => h_.1)))); (case side2 => exact (Kd.R_reads' HO328.out).2.1); rintro e w29 ⟨rfl, hb⟩; replace HO315 := Aside0.mk (Kd.R_below (by (with_reducible repeat (first | apply Kd.R_alloc | apply Kd.R_drewN | apply Kd.R_drew)); exact (Kd.R_mono (Kd.R_far (p := ⟨gb335, 4, none⟩) (Kd.R_far (p := ⟨gb335, 3, none⟩) (Kd.R_far (p := ⟨gb335, 2, none⟩) (Kd.R_far (p := ⟨gb335, 1, none⟩) (Kd.R_far (p := ⟨gb335, 0, none⟩) (Kd.R_mono HO315.out (fun k_ hk => (⟨hk, hk.2⟩ : _ ∧ k_ ≠ gb335))) (fun _ hk => hk.2) (.string t329)) (fun _ hk => hk.2) (.int .i64 t330)) (fun _ hk => hk.2) (.int .i64 t331)) (fun _ hk => hk.2) (.int .i64 t332)) (fun _ hk => hk.2) (.int .i64 t333)) (fun _ h_ => h_.1))) hb); replace HO325 := Aside0.mk (Kd.R_below (by (with_reducible repeat (first | apply Kd.R_alloc | apply Kd.R_drewN | apply Kd.R_drew)); exact (Kd.R_mono (Kd.R_far (p := ⟨gb335, 4, none⟩) (Kd.R_far (p := ⟨gb335, 3, none⟩) (Kd.R_far (p := ⟨gb335, 2, none⟩) (Kd.R_far (p := ⟨gb335, 1, none⟩) (Kd.R_far (p := ⟨gb335, 0, none⟩) (Kd.R_mono HO325.out (fun k_ hk => (⟨hk, hk.2⟩ : _ ∧ k_ ≠ gb335))) (fun _ hk => hk.2) (.string t329)) (fun _ hk => hk.2) (.int .i64 t330)) (fun _ hk => hk.2) (.int .i64 t331)) (fun _ hk => hk.2) (.int .i64 t332)) (fun _ hk => hk.2) (.int .i64 t333)) (fun _ h_ => h_.1))) hb); replace HO328 := Aside0.mk (Kd.R_below (by (with_reducible repeat (first | apply Kd.R_alloc | apply Kd.R_drewN | apply Kd.R_drew)); exact (Kd.R_mono (Kd.R_far (p := ⟨gb335, 4, none⟩) (Kd.R_far (p := ⟨gb335, 3, none⟩) (Kd.R_far (p := ⟨gb335, 2, none⟩) (Kd.R_far (p := ⟨gb335, 1, none⟩) (Kd.R_far (p := ⟨gb335, 0, none⟩) (Kd.R_mono HO328.out (fun k_ hk => (⟨hk, hk.2⟩ : _ ∧ k_ ≠ gb335))) (fun _ hk => hk.2) (.string t329)) (fun _ hk => hk.2) (.int .i64 t330)) (fun _ hk => hk.2) (.int .i64 t331)) (fun _ hk => hk.2) (.int .i64 t332)) (fun _ hk => hk.2) (.int .i64 t333)) (fun _ h_ => h_.1))) hb); replace BK321 := bf_ BK321 NB321_335 hb; replace BK335 := bp_ #[.string t329, .int .i64 t330, .int .i64 t331, .int .i64 t332, .int .i64 t333] BK335 hb; replace HB := bu_ HB GE321 GE335 hb; (try clear hb); (try clear hb2); (try clear hk); (try clear hi)) | ((with_reducible refine gate_dst (N := 9) rfl ?_); (try (refine gate_guard (by rfl) ?_; dsimp only)); refine box_event ?hg (N := 9) ?hd (cs := #[.string (⟨#[]⟩ : ByteArray), .int .i64 0, .int .i64 0, .int .i64 0, .int .i64 0]) (t := 29) ?hr ?_; (case hd => rfl); (case hg => rfl); (case hr => first | (go_simp; done) | (go_simp; rfl)); intro gb342 hg w30 hbox hb; replace HO315 := Aside0.mk (Kd.R_below (Kd.R_elderB (rr_ HO315) gb342 (Nat.le_of_eq hg.symm)) hb); replace HO325 := Aside0.mk (Kd.R_below (Kd.R_elderB (rr_ HO325) gb342 (Nat.le_of_eq hg.symm)) hb); replace HO328 := Aside0.mk (Kd.R_below (Kd.R_elderB (rr_ HO328) gb342 (Nat.le_of_eq hg.symm)) hb); have BK342 := Aside0.mk (hbox); have GW342 := ge_ hg (hu_ HB GE321 GE335); have GE342 := ge_ hg (hu_ HB GE321 GE335); replace HB := bu_ HB GE321 GE335 hb; have NB321_342 := nl_ BK321 hg; have NB342_321 := ng_ BK321 hg; replace BK321 := bb_ BK321 hb; have NB335_342 := nl_ BK335 hg; have NB342_335 := ng_ BK335 hg; replace BK335 := bb_ BK335 hb; clear hb hbox hg; have hnb31 := NB342_321.out; have hnc31 := NB321_342.out; have hnb32 := NB342_335.out; have hnc32 := NB335_342.out; obtain ⟨hcz33_0, hcz33_1, hcz33_2, hcz33_3, hcz33_4, hfz33_0, hfz33_1, hfz33_2, hfz33_3, hfz33_4⟩ := bc5_ BK342)); go_upto_region 10 with (first | (go_at_call 5; (with_reducible refine (laws_big.calls _ _ l0 false _ ?side1 ?side2 A2.out).mono ?_); (case side1 => repeat (first | exact HR0.out | (with_reducible refine Kd.C_alloc ?_ _) | (with_reducible refine Kd.C_drewN ?_ _) | (with_reducible refine Kd.C_drew ?_))); (case side2 => exact HC0.out); rintro e w' ⟨rfl, ⟨nd, rfl⟩⟩; (try first | exact ⟨rfl, _, World.drewN_drewN _ _ _⟩ | exact ⟨rfl, _, Eq.trans (World.drewN_drewN _ _ _) (congrArg (World.drewN _) (Nat.add_assoc _ _ _))⟩)) | (go_at_call 10; (with_reducible refine (spec_DrawDirPut.calls k _ _ l0 t313 t316 t317 t318 t319 t320 _ ?side1 ?side2 A4.out).mono ?_); (case side1 => repeat (first | exact HR0.out | (with_reducible refine Kd.C_alloc ?_ _) | (with_reducible refine Kd.C_drewN ?_ _) | (with_reducible refine Kd.C_drew ?_))); (case side2 => exact HC0.out); rintro e w12 ⟨v314, rfl, ho0, hb⟩; have HO315 := Aside0.mk (Kd.R_lower ho0 (below_size (hb_ HB))); replace HB := bs_ HB hb; (try clear hb); (try clear hb2); (try clear hk); (try clear hi); (try clear ho0)) | ((with_reducible refine gate_dst (N := 4) rfl ?_); (try (refine gate_guard (by rfl) ?_; dsimp only)); refine box_event ?hg (N := 4) ?hd (cs := #[.string (⟨#[]⟩ : ByteArray), .int .i64 0, .int .i64 0, .int .i64 0, .int .i64 0]) (t := 29) ?hr ?_; (case hd => rfl); (case hg => rfl); (case hr => first | (go_simp; done) | (go_simp; rfl)); intro gb321 hg w13 hbox hb; replace HO315 := Aside0.mk (Kd.R_below (Kd.R_elderB (rr_ HO315) gb321 (Nat.le_of_eq hg.symm)) hb); have BK321 := Aside0.mk (hbox); have GW321 := ge_ hg (hb_ HB); have GE321 := ge_ hg (hb_ HB); replace HB := bs_ HB hb; clear hb hbox hg; obtain ⟨hcz14_0, hcz14_1, hcz14_2, hcz14_3, hcz14_4, hfz14_0, hfz14_1, hfz14_2, hfz14_3, hfz14_4⟩ := bc5_ BK321; obtain ⟨Ao15, co15, eo15⟩ := Kd.R_slice HO315.out; subst eo15) | (go_at_call 11; (with_reducible refine (spec_DirOk.calls k _ _ t313 true _ ?side1 ?side2 A5.out).mono ?_); (case side1 => refine (Kd.R_reads' (e := 29) (base := w.heap.size) (ok := fun k_ => (True ∧ k_ ≠ gb321)) (n := t313.length) (c := co15) ?_).2.2; exact (by (with_reducible repeat (first | apply Kd.R_alloc | apply Kd.R_drewN | apply Kd.R_drew)); exact (Kd.R_mono (Kd.R_far (p := ⟨gb321, 4, none⟩) (Kd.R_far (p := ⟨gb321, 3, none⟩) (Kd.R_far (p := ⟨gb321, 2, none⟩) (Kd.R_far (p := ⟨gb321, 1, none⟩) (Kd.R_far (p := ⟨gb321, 0, none⟩) (Kd.R_mono HO315.out (fun k_ hk => (⟨hk, hk.2⟩ : _ ∧ k_ ≠ gb321))) (fun _ hk => hk.2) (.string t316)) (fun _ hk => hk.2) (.int .i64 t317)) (fun _ hk => hk.2) (.int .i64 t318)) (fun _ hk => hk.2) (.int .i64 t319)) (fun _ hk => hk.2) (.int .i64 t320)) (fun _ h_ => h_.1)))); (case side2 => exact (Kd.R_reads' HO315.out).2.1); rintro e w16 ⟨rfl, hb⟩; replace HO315 := Aside0.mk (Kd.R_below (by (with_reducible repeat (first | apply Kd.R_alloc | apply Kd.R_drewN | apply Kd.R_drew)); exact (Kd.R_mono (Kd.R_far (p := ⟨gb321, 4, none⟩) (Kd.R_far (p := ⟨gb321, 3, none⟩) (Kd.R_far (p := ⟨gb321, 2, none⟩) (Kd.R_far (p := ⟨gb321, 1, none⟩) (Kd.R_far (p := ⟨gb321, 0, none⟩) (Kd.R_mono HO315.out (fun k_ hk => (⟨hk, hk.2⟩ : _ ∧ k_ ≠ gb321))) (fun _ hk => hk.2) (.string t316)) (fun _ hk => hk.2) (.int .i64 t317)) (fun _ hk => hk.2) (.int .i64 t318)) (fun _ hk => hk.2) (.int .i64 t319)) (fun _ hk => hk.2) (.int .i64 t320)) (fun _ h_ => h_.1))) hb); replace BK321 := bp_ #[.string t316, .int .i64 t317, .int .i64 t318, .int .i64 t319, .int .i64 t320] BK321 hb; replace HB := bt_ HB GE321 hb; (try clear hb); (try clear hb2); (try clear hk); (try clear hi); obtain ⟨hcz17_0, hcz17_1, hcz17_2, hcz17_3, hcz17_4, hfz17_0, hfz17_1, hfz17_2, hfz17_3, hfz17_4⟩ := bc5_ BK321) | (go_at_call 12; (with_reducible refine (impl_DirPut.calls k _ _ t313 t316 t317 t318 t319 t320 t323 _ ?side1 ?side2 A7.out).mono ?_); (case side1 => repeat (first | exact (Kd.R_reads' HO315.out).2.2 | (with_reducible refine Kd.C_alloc ?_ _) | (with_reducible refine Kd.C_drewN ?_ _) | (with_reducible refine Kd.C_drew ?_))); (case side2 => exact (Kd.R_reads' HO315.out).2.1); rintro e w18 ⟨v324, rfl, ho0, hb⟩; have HO325 := Aside0.mk (Kd.R_lower (Kd.R_newB (Kd.R_new' ho0 (Kd.R_lt (rr_ HO315))) (g := gb321) (o := .cells #[.string t316, .int .i64 t317, .int .i64 t318, .int .i64 t319, .int .i64 t320] 29 (0, 0)) (bk_ BK321)) (below_size (hs_ HB GE321))); replace HO315 := Aside0.mk (Kd.R_elder' (rr_ HO315) (Kd.R_base ho0) hb); replace BK321 := bb_ BK321 hb; replace HB := bt_ HB GE321 hb; (try clear hb); (try clear hb2); (try clear hk); (try clear hi); (try clear ho0); obtain ⟨hcz19_0, hcz19_1, hcz19_2, hcz19_3, hcz19_4, hfz19_0, hfz19_1, hfz19_2, hfz19_3, hfz19_4⟩ := bc5_ BK321; obtain ⟨Ao20, co20, eo20⟩ := Kd.R_slice HO325.out; subst eo20) | (go_at_call 13; (with_reducible refine (impl_DirDrop.calls k _ _ t323 t316 t326 _ ?side1 ?side2 A8.out).mono ?_); (case side1 => repeat (first | exact (Kd.R_reads' HO325.out).2.2 | (with_reducible refine Kd.C_alloc ?_ _) | (with_reducible refine Kd.C_drewN ?_ _) | (with_reducible refine Kd.C_drew ?_))); (case side2 => exact (Kd.R_reads' HO325.out).2.1); rintro e w21 ⟨v327, rfl, ho0, hb⟩; have HO328 := Aside0.mk (Kd.R_lower (Kd.R_newB (Kd.R_new' (Kd.R_new' ho0 (Kd.R_lt (rr_ HO315))) (Kd.R_lt (rr_ HO325))) (g := gb321) (o := .cells #[.string t316, .int .i64 t317, .int .i64 t318, .int .i64 t319, .int .i64 t320] 29 (0, 0)) (bk_ BK321)) (below_size (hs_ HB GE321))); replace HO315 := Aside0.mk (Kd.R_elder' (rr_ HO315) (Kd.R_base ho0) hb); replace HO325 := Aside0.mk (Kd.R_elder' (rr_ HO325) (Kd.R_base ho0) hb); replace BK321 := bb_ BK321 hb; replace HB := bt_ HB GE321 hb; (try clear hb); (try clear hb2); (try clear hk); (try clear hi); (try clear ho0); obtain ⟨hcz22_0, hcz22_1, hcz22_2, hcz22_3, hcz22_4, hfz22_0, hfz22_1, hfz22_2, hfz22_3, hfz22_4⟩ := bc5_ BK321) | (go_at_call 14; (with_reducible refine (impl_DirGet.calls k _ _ t323 t316 t329 t330 t331 t332 t333 t334 _ ?side1 ?side2 A9.out).mono ?_); (case side1 => repeat (first | exact (Kd.R_reads' HO325.out).2.2 | (with_reducible refine Kd.C_alloc ?_ _) | (with_reducible refine Kd.C_drewN ?_ _) | (with_reducible refine Kd.C_drew ?_))); (case side2 => exact (Kd.R_reads' HO325.out).2.1); rintro e w23 ⟨rfl, hb⟩; replace HO315 := rb_ HO315 hb; replace HO325 := rb_ HO325 hb; replace HO328 := rb_ HO328 hb; replace BK321 := bb_ BK321 hb; replace HB := bt_ HB GE321 hb; (try clear hb); (try clear hb2); (try clear hk); (try clear hi)) | ((with_reducible refine gate_dst (N := 7) rfl ?_); (try (refine gate_guard (by rfl) ?_; dsimp only)); refine box_event ?hg (N := 7) ?hd (cs := #[.string (⟨#[]⟩ : ByteArray), .int .i64 0, .int .i64 0, .int .i64 0, .int .i64 0]) (t := 29) ?hr ?_; (case hd => rfl); (case hg => rfl); (case hr => first | (go_simp; done) | (go_simp; rfl)); intro gb335 hg w24 hbox hb; replace HO315 := Aside0.mk (Kd.R_below (Kd.R_elderB (rr_ HO315) gb335 (Nat.le_of_eq hg.symm)) hb); replace HO325 := Aside0.mk (Kd.R_below (Kd.R_elderB (rr_ HO325) gb335 (Nat.le_of_eq hg.symm)) hb); replace HO328 := Aside0.mk (Kd.R_below (Kd.R_elderB (rr_ HO328) gb335 (Nat.le_of_eq hg.symm)) hb); have BK335 := Aside0.mk (hbox); have GW335 := ge_ hg (hs_ HB GE321); have GE335 := ge_ hg (hs_ HB GE321); replace HB := bt_ HB GE321 hb; have NB321_335 := nl_ BK321 hg; have NB335_321 := ng_ BK321 hg; replace BK321 := bb_ BK321 hb; clear hb hbox hg; have hnb25 := NB335_321.out; have hnc25 := NB321_335.out; obtain ⟨hcz26_0, hcz26_1, hcz26_2, hcz26_3, hcz26_4, hfz26_0, hfz26_1, hfz26_2, hfz26_3, hfz26_4⟩ := bc5_ BK335; obtain ⟨hcz27_0, hcz27_1, hcz27_2, hcz27_3, hcz27_4, hfz27_0, hfz27_1, hfz27_2, hfz27_3, hfz27_4⟩ := bc5_ BK321; obtain ⟨Ao28, co28, eo28⟩ := Kd.R_slice HO328.out; subst eo28) | (go_at_call 14; (with_reducible refine (impl_DirGet.calls k _ _ t326 t316 t336 t337 t338 t339 t340 t341 _ ?side1 ?side2 A10.out).mono ?_); (case side1 => refine (Kd.R_reads' (e := 29) (base := w.heap.size) (ok := fun k_ => ((((True ∧ some k_ ≠ (.slice Ao15 t313.length co15 : Value).ownBlock) ∧ some k_ ≠ (.slice Ao20 t323.length co20 : Value).ownBlock) ∧ k_ ≠ gb321) ∧ k_ ≠ gb335)) (n := t326.length) (c := co28) ?_).2.2; exact (by (with_reducible repeat (first | apply Kd.R_alloc | apply Kd.R_drewN | apply Kd.R_drew)); exact (Kd.R_mono (Kd.R_far (p := ⟨gb335, 4, none⟩) (Kd.R_far (p := ⟨gb335, 3, none⟩) (Kd.R_far (p := ⟨gb335, 2, none⟩) (Kd.R_far (p := ⟨gb335, 1, none⟩) (Kd.R_far (p := ⟨gb335, 0, none⟩) (Kd.R_mono HO328.out (fun k_ hk => (⟨hk, hk.2⟩ : _ ∧ k_ ≠ gb335))) (fun _ hk => hk.2) (.string t329)) (fun _ hk => hk.2) (.int .i64 t330)) (fun _ hk => hk.2) (.int .i64 t331)) (fun _ hk => hk.2) (.int .i64 t332)) (fun _ hk => hk.2) (.int .i64 t333)) (fun _ h_ => h_.1)))); (case side2 => exact (Kd.R_reads' HO328.out).2.1); rintro e w29 ⟨rfl, hb⟩; replace HO315 := Aside0.mk (Kd.R_below (by (with_reducible repeat (first | apply Kd.R_alloc | apply Kd.R_drewN | apply Kd.R_drew)); exact (Kd.R_mono (Kd.R_far (p := ⟨gb335, 4, none⟩) (Kd.R_far (p := ⟨gb335, 3, none⟩) (Kd.R_far (p := ⟨gb335, 2, none⟩) (Kd.R_far (p := ⟨gb335, 1, none⟩) (Kd.R_far (p := ⟨gb335, 0, none⟩) (Kd.R_mono HO315.out (fun k_ hk => (⟨hk, hk.2⟩ : _ ∧ k_ ≠ gb335))) (fun _ hk => hk.2) (.string t329)) (fun _ hk => hk.2) (.int .i64 t330)) (fun _ hk => hk.2) (.int .i64 t331)) (fun _ hk => hk.2) (.int .i64 t332)) (fun _ hk => hk.2) (.int .i64 t333)) (fun _ h_ => h_.1))) hb); replace HO325 := Aside0.mk (Kd.R_below (by (with_reducible repeat (first | apply Kd.R_alloc | apply Kd.R_drewN | apply Kd.R_drew)); exact (Kd.R_mono (Kd.R_far (p := ⟨gb335, 4, none⟩) (Kd.R_far (p := ⟨gb335, 3, none⟩) (Kd.R_far (p := ⟨gb335, 2, none⟩) (Kd.R_far (p := ⟨gb335, 1, none⟩) (Kd.R_far (p := ⟨gb335, 0, none⟩) (Kd.R_mono HO325.out (fun k_ hk => (⟨hk, hk.2⟩ : _ ∧ k_ ≠ gb335))) (fun _ hk => hk.2) (.string t329)) (fun _ hk => hk.2) (.int .i64 t330)) (fun _ hk => hk.2) (.int .i64 t331)) (fun _ hk => hk.2) (.int .i64 t332)) (fun _ hk => hk.2) (.int .i64 t333)) (fun _ h_ => h_.1))) hb); replace HO328 := Aside0.mk (Kd.R_below (by (with_reducible repeat (first | apply Kd.R_alloc | apply Kd.R_drewN | apply Kd.R_drew)); exact (Kd.R_mono (Kd.R_far (p := ⟨gb335, 4, none⟩) (Kd.R_far (p := ⟨gb335, 3, none⟩) (Kd.R_far (p := ⟨gb335, 2, none⟩) (Kd.R_far (p := ⟨gb335, 1, none⟩) (Kd.R_far (p := ⟨gb335, 0, none⟩) (Kd.R_mono HO328.out (fun k_ hk => (⟨hk, hk.2⟩ : _ ∧ k_ ≠ gb335))) (fun _ hk => hk.2) (.string t329)) (fun _ hk => hk.2) (.int .i64 t330)) (fun _ hk => hk.2) (.int .i64 t331)) (fun _ hk => hk.2) (.int .i64 t332)) (fun _ hk => hk.2) (.int .i64 t333)) (fun _ h_ => h_.1))) hb); replace BK321 := bf_ BK321 NB321_335 hb; replace BK335 := bp_ #[.string t329, .int .i64 t330, .int .i64 t331, .int .i64 t332, .int .i64 t333] BK335 hb; replace HB := bu_ HB GE321 GE335 hb; (try clear hb); (try clear hb2); (try clear hk); (try clear hi)) | ((with_reducible refine gate_dst (N := 9) rfl ?_); (try (refine gate_guard (by rfl) ?_; dsimp only)); refine box_event ?hg (N := 9) ?hd (cs := #[.string (⟨#[]⟩ : ByteArray), .int .i64 0, .int .i64 0, .int .i64 0, .int .i64 0]) (t := 29) ?hr ?_; (case hd => rfl); (case hg => rfl); (case hr => first | (go_simp; done) | (go_simp; rfl)); intro gb342 hg w30 hbox hb; replace HO315 := Aside0.mk (Kd.R_below (Kd.R_elderB (rr_ HO315) gb342 (Nat.le_of_eq hg.symm)) hb); replace HO325 := Aside0.mk (Kd.R_below (Kd.R_elderB (rr_ HO325) gb342 (Nat.le_of_eq hg.symm)) hb); replace HO328 := Aside0.mk (Kd.R_below (Kd.R_elderB (rr_ HO328) gb342 (Nat.le_of_eq hg.symm)) hb); have BK342 := Aside0.mk (hbox); have GW342 := ge_ hg (hu_ HB GE321 GE335); have GE342 := ge_ hg (hu_ HB GE321 GE335); replace HB := bu_ HB GE321 GE335 hb; have NB321_342 := nl_ BK321 hg; have NB342_321 := ng_ BK321 hg; replace BK321 := bb_ BK321 hb; have NB335_342 := nl_ BK335 hg; have NB342_335 := ng_ BK335 hg; replace BK335 := bb_ BK335 hb; clear hb hbox hg; have hnb31 := NB342_321.out; have hnc31 := NB321_342.out; have hnb32 := NB342_335.out; have hnc32 := NB335_342.out; obtain ⟨hcz33_0, hcz33_1, hcz33_2, hcz33_3, hcz33_4, hfz33_0, hfz33_1, hfz33_2, hfz33_3, hfz33_4⟩ := bc5_ BK342)))
   (try simp only [Act.put, la_, lz_, ls_])
   go_cut [71] (fun v71 wc => ∃ (kq : Nat) (x71_10 : Bool), v71 = .bool x71_10 ∧ Aside0 (laws_FnDirs.j0 kq t313 t323 t326 x71_10 t316 t317 t318 t319 t320 = some r) ∧ Aside0 (kq ≤ k) ∧ Aside0 (Kd.R k29 29 wc w.heap.size (fun k_ => some k_ ≠ ((.slice Ao20 t323.length co20) : Value).ownBlock ∧ some k_ ≠ ((.slice Ao28 t326.length co28) : Value).ownBlock ∧ k_ ≠ gb321 ∧ k_ ≠ gb335 ∧ k_ ≠ gb342) (.slice Ao15 t313.length co15) t313) ∧ Aside0 (Kd.R k29 29 wc w.heap.size (fun k_ => some k_ ≠ ((.slice Ao15 t313.length co15) : Value).ownBlock ∧ some k_ ≠ ((.slice Ao28 t326.length co28) : Value).ownBlock ∧ k_ ≠ gb321 ∧ k_ ≠ gb335 ∧ k_ ≠ gb342) (.slice Ao20 t323.length co20) t323) ∧ Aside0 (Kd.R k29 29 wc w.heap.size (fun k_ => some k_ ≠ ((.slice Ao15 t313.length co15) : Value).ownBlock ∧ some k_ ≠ ((.slice Ao20 t323.length co20) : Value).ownBlock ∧ k_ ≠ gb321 ∧ k_ ≠ gb335 ∧ k_ ≠ gb342) (.slice Ao28 t326.length co28) t326) ∧ Aside0 (wc.heap[gb321]? = some (.cells #[.string t316, .int .i64 t317, .int .i64 t318, .int .i64 t319, .int .i64 t320] 29 (0, 0))) ∧ Aside0 (wc.heap[gb335]? = some (.cells #[.string t329, .int .i64 t330, .int .i64 t331, .int .i64 t332, .int .i64 t333] 29 (0, 0))) ∧ Aside0 (wc.heap[gb342]? = some (.cells #[.string t336, .int .i64 t337, .int .i64 t338, .int .i64 t339, .int .i64 t340] 29 (0, 0))) ∧ Aside0 (Below w.heap.size w wc))
   case first =>
    have H := HC11.out
    clear HC11
    by_cases c34 : t334 = true
    ·subst c34
     have H1 : (if (!(t329.toList == t316.toList) || (!(t330 == t317) || (!(t331 == t318) || (!(t332 == t319) || (!(t333 == t320)))))) = true then (laws_FnDirs.j0 k t313 t323 t326 true t316 t317 t318 t319 t320) else (if t341 = true then (laws_FnDirs.j0 k t313 t323 t326 true t316 t317 t318 t319 t320) else ((spec_DirOk.f k t326).bind fun t343 => (if t343 = true then (laws_FnDirs.j0 k t313 t323 t326 ((t323.length : Int) != (wrap64 ((t326.length : Int) + 1))) t316 t317 t318 t319 t320) else (laws_FnDirs.j0 k t313 t323 t326 true t316 t317 t318 t319 t320))))) = some r := by rw [if_pos rfl] at H; exact H
     clear H
     have H := H1
     clear H1
     by_cases c35 : (!(t329.toList == t316.toList) || (!(t330 == t317) || (!(t331 == t318) || (!(t332 == t319) || (!(t333 == t320)))))) = true
     ·rw [if_pos c35] at H
      have c35b0 : (!(t329.toList == t316.toList) || (!(t330 == t317) || (!(t331 == t318) || (!(t332 == t319) || (!(t333 == t320)))))) = true := c35
      clear c35
      (first | rw [c35b0] | (simp only [i64_w, i32_w]; rw [c35b0]) | skip)
      have H' := Aside0.mk H
      clear H
      have hnb36 := NB335_321.out
      have hnc36 := NB321_335.out
      have hnb37 := NB335_342.out
      have hnc37 := NB342_335.out
      obtain ⟨hcz38_0, hcz38_1, hcz38_2, hcz38_3, hcz38_4, hfz38_0, hfz38_1, hfz38_2, hfz38_3, hfz38_4⟩ := bc5_ BK335
      have hnb39 := NB321_342.out
      have hnc39 := NB342_321.out
      obtain ⟨hcz40_0, hcz40_1, hcz40_2, hcz40_3, hcz40_4, hfz40_0, hfz40_1, hfz40_2, hfz40_3, hfz40_4⟩ := bc5_ BK321
      go_wp2
      repeat (go_quiet (fail); try go_wp2)
      go_meet
      case rel => exact ⟨_, (true), rs_, H', ⟨by first | exact Nat.le_refl _ | exact Nat.le_of_succ_le this | omega⟩, ⟨by (with_reducible repeat (first | apply Kd.R_alloc | apply Kd.R_drewN | apply Kd.R_drew)); exact Kd.R_mono (Kd.R_far (p := ⟨gb342, 4, none⟩) (Kd.R_far (p := ⟨gb342, 3, none⟩) (Kd.R_far (p := ⟨gb342, 2, none⟩) (Kd.R_far (p := ⟨gb342, 1, none⟩) (Kd.R_far (p := ⟨gb342, 0, none⟩) (Kd.R_mono HO315.out (fun k_ hk => (⟨hk, hk.2⟩ : _ ∧ k_ ≠ gb342))) (fun _ hk => hk.2) (.string t336)) (fun _ hk => hk.2) (.int .i64 t337)) (fun _ hk => hk.2) (.int .i64 t338)) (fun _ hk => hk.2) (.int .i64 t339)) (fun _ hk => hk.2) (.int .i64 t340)) (fun _ hk => ⟨hk.1.1.1.1.2, ⟨hk.1.1.1.2, ⟨hk.1.1.1.1.1.2, ⟨hk.1.1.2, hk.1.2⟩⟩⟩⟩)⟩, ⟨by (with_reducible repeat (first | apply Kd.R_alloc | apply Kd.R_drewN | apply Kd.R_drew)); exact Kd.R_mono (Kd.R_far (p := ⟨gb342, 4, none⟩) (Kd.R_far (p := ⟨gb342, 3, none⟩) (Kd.R_far (p := ⟨gb342, 2, none⟩) (Kd.R_far (p := ⟨gb342, 1, none⟩) (Kd.R_far (p := ⟨gb342, 0, none⟩) (Kd.R_mono HO325.out (fun k_ hk => (⟨hk, hk.2⟩ : _ ∧ k_ ≠ gb342))) (fun _ hk => hk.2) (.string t336)) (fun _ hk => hk.2) (.int .i64 t337)) (fun _ hk => hk.2) (.int .i64 t338)) (fun _ hk => hk.2) (.int .i64 t339)) (fun _ hk => hk.2) (.int .i64 t340)) (fun _ hk => ⟨hk.1.1.1.1.1.2, ⟨hk.1.1.1.2, ⟨hk.1.1.1.1.2, ⟨hk.1.1.2, hk.1.2⟩⟩⟩⟩)⟩, ⟨by (with_reducible repeat (first | apply Kd.R_alloc | apply Kd.R_drewN | apply Kd.R_drew)); exact Kd.R_mono (Kd.R_far (p := ⟨gb342, 4, none⟩) (Kd.R_far (p := ⟨gb342, 3, none⟩) (Kd.R_far (p := ⟨gb342, 2, none⟩) (Kd.R_far (p := ⟨gb342, 1, none⟩) (Kd.R_far (p := ⟨gb342, 0, none⟩) (Kd.R_mono HO328.out (fun k_ hk => (⟨hk, hk.2⟩ : _ ∧ k_ ≠ gb342))) (fun _ hk => hk.2) (.string t336)) (fun _ hk => hk.2) (.int .i64 t337)) (fun _ hk => hk.2) (.int .i64 t338)) (fun _ hk => hk.2) (.int .i64 t339)) (fun _ hk => hk.2) (.int .i64 t340)) (fun _ hk => ⟨hk.1.1.1.1.1.2, ⟨hk.1.1.1.1.2, ⟨hk.1.1.1.2, ⟨hk.1.1.2, hk.1.2⟩⟩⟩⟩)⟩, ⟨by (with_reducible repeat (first | refine blk_drewN ?_ _ | refine blk_drew ?_ | refine blk_alloc ?_ _)); refine blk_far ?_ NB321_342.out _; (with_reducible repeat (first | refine blk_drewN ?_ _ | refine blk_drew ?_ | refine blk_alloc ?_ _)); refine blk_far ?_ NB321_342.out _; (with_reducible repeat (first | refine blk_drewN ?_ _ | refine blk_drew ?_ | refine blk_alloc ?_ _)); refine blk_far ?_ NB321_342.out _; (with_reducible repeat (first | refine blk_drewN ?_ _ | refine blk_drew ?_ | refine blk_alloc ?_ _)); refine blk_far ?_ NB321_342.out _; (with_reducible repeat (first | refine blk_drewN ?_ _ | refine blk_drew ?_ | refine blk_alloc ?_ _)); refine blk_far ?_ NB321_342.out _; (with_reducible repeat (first | refine blk_drewN ?_ _ | refine blk_drew ?_ | refine blk_alloc ?_ _)); exact BK321.out⟩, ⟨by (with_reducible repeat (first | refine blk_drewN ?_ _ | refine blk_drew ?_ | refine blk_alloc ?_ _)); refine blk_far ?_ NB335_342.out _; (with_reducible repeat (first | refine blk_drewN ?_ _ | refine blk_drew ?_ | refine blk_alloc ?_ _)); refine blk_far ?_ NB335_342.out _; (with_reducible repeat (first | refine blk_drewN ?_ _ | refine blk_drew ?_ | refine blk_alloc ?_ _)); refine blk_far ?_ NB335_342.out _; (with_reducible repeat (first | refine blk_drewN ?_ _ | refine blk_drew ?_ | refine blk_alloc ?_ _)); refine blk_far ?_ NB335_342.out _; (with_reducible repeat (first | refine blk_drewN ?_ _ | refine blk_drew ?_ | refine blk_alloc ?_ _)); refine blk_far ?_ NB335_342.out _; (with_reducible repeat (first | refine blk_drewN ?_ _ | refine blk_drew ?_ | refine blk_alloc ?_ _)); exact BK335.out⟩, ⟨by (with_reducible repeat (first | refine blk_drewN ?_ _ | refine blk_drew ?_ | refine blk_alloc ?_ _)); refine blk_put (cs := #[.string t336, .int .i64 t337, .int .i64 t338, .int .i64 t339, .int .i64 0]) ?_ 4 _ rfl; (with_reducible repeat (first | refine blk_drewN ?_ _ | refine blk_drew ?_ | refine blk_alloc ?_ _)); refine blk_put (cs := #[.string t336, .int .i64 t337, .int .i64 t338, .int .i64 0, .int .i64 0]) ?_ 3 _ rfl; (with_reducible repeat (first | refine blk_drewN ?_ _ | refine blk_drew ?_ | refine blk_alloc ?_ _)); refine blk_put (cs := #[.string t336, .int .i64 t337, .int .i64 0, .int .i64 0, .int .i64 0]) ?_ 2 _ rfl; (with_reducible repeat (first | refine blk_drewN ?_ _ | refine blk_drew ?_ | refine blk_alloc ?_ _)); refine blk_put (cs := #[.string t336, .int .i64 0, .int .i64 0, .int .i64 0, .int .i64 0]) ?_ 1 _ rfl; (with_reducible repeat (first | refine blk_drewN ?_ _ | refine blk_drew ?_ | refine blk_alloc ?_ _)); refine blk_put (cs := #[.string (⟨#[]⟩ : ByteArray), .int .i64 0, .int .i64 0, .int .i64 0, .int .i64 0]) ?_ 0 _ rfl; (with_reducible repeat (first | refine blk_drewN ?_ _ | refine blk_drew ?_ | refine blk_alloc ?_ _)); exact BK342.out⟩, ⟨by repeat (first | (with_reducible first | exact HB.out | apply below_alloc | apply pw_below_drewN | apply below_drew1 | refine below_set ?_ GE321.out | refine below_set ?_ GE335.out | refine below_set ?_ GE342.out) | exact HB.out)⟩⟩
     ·rw [if_neg c35] at H
      have c35b0 : (!(t329.toList == t316.toList) || (!(t330 == t317) || (!(t331 == t318) || (!(t332 == t319) || (!(t333 == t320)))))) = false := by simpa using c35
      clear c35
      (first | rw [c35b0] | (simp only [i64_w, i32_w]; rw [c35b0]) | skip)
      by_cases c41 : t341 = true
      ·subst c41
       have H1 : (laws_FnDirs.j0 k t313 t323 t326 true t316 t317 t318 t319 t320) = some r := by rw [if_pos rfl] at H; exact H
       clear H
       have H := H1
       clear H1
       have H' := Aside0.mk H
       clear H
       have hnb42 := NB335_321.out
       have hnc42 := NB321_335.out
       have hnb43 := NB335_342.out
       have hnc43 := NB342_335.out
       obtain ⟨hcz44_0, hcz44_1, hcz44_2, hcz44_3, hcz44_4, hfz44_0, hfz44_1, hfz44_2, hfz44_3, hfz44_4⟩ := bc5_ BK335
       have hnb45 := NB321_342.out
       have hnc45 := NB342_321.out
       obtain ⟨hcz46_0, hcz46_1, hcz46_2, hcz46_3, hcz46_4, hfz46_0, hfz46_1, hfz46_2, hfz46_3, hfz46_4⟩ := bc5_ BK321
       go_wp2
       repeat (go_quiet (fail); try go_wp2)
       go_meet
       case rel => exact ⟨_, (true), rs_, H', ⟨by first | exact Nat.le_refl _ | exact Nat.le_of_succ_le this | omega⟩, ⟨by (with_reducible repeat (first | apply Kd.R_alloc | apply Kd.R_drewN | apply Kd.R_drew)); exact Kd.R_mono (Kd.R_far (p := ⟨gb342, 4, none⟩) (Kd.R_far (p := ⟨gb342, 3, none⟩) (Kd.R_far (p := ⟨gb342, 2, none⟩) (Kd.R_far (p := ⟨gb342, 1, none⟩) (Kd.R_far (p := ⟨gb342, 0, none⟩) (Kd.R_mono HO315.out (fun k_ hk => (⟨hk, hk.2⟩ : _ ∧ k_ ≠ gb342))) (fun _ hk => hk.2) (.string t336)) (fun _ hk => hk.2) (.int .i64 t337)) (fun _ hk => hk.2) (.int .i64 t338)) (fun _ hk => hk.2) (.int .i64 t339)) (fun _ hk => hk.2) (.int .i64 t340)) (fun _ hk => ⟨hk.1.1.1.1.2, ⟨hk.1.1.1.2, ⟨hk.1.1.1.1.1.2, ⟨hk.1.1.2, hk.1.2⟩⟩⟩⟩)⟩, ⟨by (with_reducible repeat (first | apply Kd.R_alloc | apply Kd.R_drewN | apply Kd.R_drew)); exact Kd.R_mono (Kd.R_far (p := ⟨gb342, 4, none⟩) (Kd.R_far (p := ⟨gb342, 3, none⟩) (Kd.R_far (p := ⟨gb342, 2, none⟩) (Kd.R_far (p := ⟨gb342, 1, none⟩) (Kd.R_far (p := ⟨gb342, 0, none⟩) (Kd.R_mono HO325.out (fun k_ hk => (⟨hk, hk.2⟩ : _ ∧ k_ ≠ gb342))) (fun _ hk => hk.2) (.string t336)) (fun _ hk => hk.2) (.int .i64 t337)) (fun _ hk => hk.2) (.int .i64 t338)) (fun _ hk => hk.2) (.int .i64 t339)) (fun _ hk => hk.2) (.int .i64 t340)) (fun _ hk => ⟨hk.1.1.1.1.1.2, ⟨hk.1.1.1.2, ⟨hk.1.1.1.1.2, ⟨hk.1.1.2, hk.1.2⟩⟩⟩⟩)⟩, ⟨by (with_reducible repeat (first | apply Kd.R_alloc | apply Kd.R_drewN | apply Kd.R_drew)); exact Kd.R_mono (Kd.R_far (p := ⟨gb342, 4, none⟩) (Kd.R_far (p := ⟨gb342, 3, none⟩) (Kd.R_far (p := ⟨gb342, 2, none⟩) (Kd.R_far (p := ⟨gb342, 1, none⟩) (Kd.R_far (p := ⟨gb342, 0, none⟩) (Kd.R_mono HO328.out (fun k_ hk => (⟨hk, hk.2⟩ : _ ∧ k_ ≠ gb342))) (fun _ hk => hk.2) (.string t336)) (fun _ hk => hk.2) (.int .i64 t337)) (fun _ hk => hk.2) (.int .i64 t338)) (fun _ hk => hk.2) (.int .i64 t339)) (fun _ hk => hk.2) (.int .i64 t340)) (fun _ hk => ⟨hk.1.1.1.1.1.2, ⟨hk.1.1.1.1.2, ⟨hk.1.1.1.2, ⟨hk.1.1.2, hk.1.2⟩⟩⟩⟩)⟩, ⟨by (with_reducible repeat (first | refine blk_drewN ?_ _ | refine blk_drew ?_ | refine blk_alloc ?_ _)); refine blk_far ?_ NB321_342.out _; (with_reducible repeat (first | refine blk_drewN ?_ _ | refine blk_drew ?_ | refine blk_alloc ?_ _)); refine blk_far ?_ NB321_342.out _; (with_reducible repeat (first | refine blk_drewN ?_ _ | refine blk_drew ?_ | refine blk_alloc ?_ _)); refine blk_far ?_ NB321_342.out _; (with_reducible repeat (first | refine blk_drewN ?_ _ | refine blk_drew ?_ | refine blk_alloc ?_ _)); refine blk_far ?_ NB321_342.out _; (with_reducible repeat (first | refine blk_drewN ?_ _ | refine blk_drew ?_ | refine blk_alloc ?_ _)); refine blk_far ?_ NB321_342.out _; (with_reducible repeat (first | refine blk_drewN ?_ _ | refine blk_drew ?_ | refine blk_alloc ?_ _)); exact BK321.out⟩, ⟨by (with_reducible repeat (first | refine blk_drewN ?_ _ | refine blk_drew ?_ | refine blk_alloc ?_ _)); refine blk_far ?_ NB335_342.out _; (with_reducible repeat (first | refine blk_drewN ?_ _ | refine blk_drew ?_ | refine blk_alloc ?_ _)); refine blk_far ?_ NB335_342.out _; (with_reducible repeat (first | refine blk_drewN ?_ _ | refine blk_drew ?_ | refine blk_alloc ?_ _)); refine blk_far ?_ NB335_342.out _; (with_reducible repeat (first | refine blk_drewN ?_ _ | refine blk_drew ?_ | refine blk_alloc ?_ _)); refine blk_far ?_ NB335_342.out _; (with_reducible repeat (first | refine blk_drewN ?_ _ | refine blk_drew ?_ | refine blk_alloc ?_ _)); refine blk_far ?_ NB335_342.out _; (with_reducible repeat (first | refine blk_drewN ?_ _ | refine blk_drew ?_ | refine blk_alloc ?_ _)); exact BK335.out⟩, ⟨by (with_reducible repeat (first | refine blk_drewN ?_ _ | refine blk_drew ?_ | refine blk_alloc ?_ _)); refine blk_put (cs := #[.string t336, .int .i64 t337, .int .i64 t338, .int .i64 t339, .int .i64 0]) ?_ 4 _ rfl; (with_reducible repeat (first | refine blk_drewN ?_ _ | refine blk_drew ?_ | refine blk_alloc ?_ _)); refine blk_put (cs := #[.string t336, .int .i64 t337, .int .i64 t338, .int .i64 0, .int .i64 0]) ?_ 3 _ rfl; (with_reducible repeat (first | refine blk_drewN ?_ _ | refine blk_drew ?_ | refine blk_alloc ?_ _)); refine blk_put (cs := #[.string t336, .int .i64 t337, .int .i64 0, .int .i64 0, .int .i64 0]) ?_ 2 _ rfl; (with_reducible repeat (first | refine blk_drewN ?_ _ | refine blk_drew ?_ | refine blk_alloc ?_ _)); refine blk_put (cs := #[.string t336, .int .i64 0, .int .i64 0, .int .i64 0, .int .i64 0]) ?_ 1 _ rfl; (with_reducible repeat (first | refine blk_drewN ?_ _ | refine blk_drew ?_ | refine blk_alloc ?_ _)); refine blk_put (cs := #[.string (⟨#[]⟩ : ByteArray), .int .i64 0, .int .i64 0, .int .i64 0, .int .i64 0]) ?_ 0 _ rfl; (with_reducible repeat (first | refine blk_drewN ?_ _ | refine blk_drew ?_ | refine blk_alloc ?_ _)); exact BK342.out⟩, ⟨by repeat (first | (with_reducible first | exact HB.out | apply below_alloc | apply pw_below_drewN | apply below_drew1 | refine below_set ?_ GE321.out | refine below_set ?_ GE335.out | refine below_set ?_ GE342.out) | exact HB.out)⟩⟩
      ·replace c41 := Bool.eq_false_iff.mpr c41
       subst c41
       have H1 : ((spec_DirOk.f k t326).bind fun t343 => (if t343 = true then (laws_FnDirs.j0 k t313 t323 t326 ((t323.length : Int) != (wrap64 ((t326.length : Int) + 1))) t316 t317 t318 t319 t320) else (laws_FnDirs.j0 k t313 t323 t326 true t316 t317 t318 t319 t320))) = some r := by rw [if_neg (show ¬ (false = true) by decide)] at H; exact H
       clear H
       have H := H1
       clear H1
       replace H := Option.bind_eq_some_iff.mp H
       obtain ⟨t343, A470, H⟩ := H
       replace H : (if t343 = true then (laws_FnDirs.j0 k t313 t323 t326 ((t323.length : Int) != (wrap64 ((t326.length : Int) + 1))) t316 t317 t318 t319 t320) else (laws_FnDirs.j0 k t313 t323 t326 true t316 t317 t318 t319 t320)) = some r := H
       have A47 := Aside0.mk A470
       clear A470
       by_cases c48 : t343 = true
       ·subst c48
        have H1 : (laws_FnDirs.j0 k t313 t323 t326 ((t323.length : Int) != (wrap64 ((t326.length : Int) + 1))) t316 t317 t318 t319 t320) = some r := by rw [if_pos rfl] at H; exact H
        clear H
        have H := H1
        clear H1
        have H' := Aside0.mk H
        clear H
        have hnb49 := NB335_321.out
        have hnc49 := NB321_335.out
        have hnb50 := NB335_342.out
        have hnc50 := NB342_335.out
        obtain ⟨hcz51_0, hcz51_1, hcz51_2, hcz51_3, hcz51_4, hfz51_0, hfz51_1, hfz51_2, hfz51_3, hfz51_4⟩ := bc5_ BK335
        have hnb52 := NB321_342.out
        have hnc52 := NB342_321.out
        obtain ⟨hcz53_0, hcz53_1, hcz53_2, hcz53_3, hcz53_4, hfz53_0, hfz53_1, hfz53_2, hfz53_3, hfz53_4⟩ := bc5_ BK321
        go_wp2_with (first | (go_at_call 11; (with_reducible refine (spec_DirOk.calls k _ _ t326 true _ ?side1 ?side2 A47.out).mono ?_); (case side1 => refine (Kd.R_reads' (e := 29) (base := w.heap.size) (ok := fun k_ => (((((True ∧ some k_ ≠ (.slice Ao15 t313.length co15 : Value).ownBlock) ∧ some k_ ≠ (.slice Ao20 t323.length co20 : Value).ownBlock) ∧ k_ ≠ gb321) ∧ k_ ≠ gb335) ∧ k_ ≠ gb342)) (n := t326.length) (c := co28) ?_).2.2; exact (by (with_reducible repeat (first | apply Kd.R_alloc | apply Kd.R_drewN | apply Kd.R_drew)); exact (Kd.R_mono (Kd.R_far (p := ⟨gb342, 4, none⟩) (Kd.R_far (p := ⟨gb342, 3, none⟩) (Kd.R_far (p := ⟨gb342, 2, none⟩) (Kd.R_far (p := ⟨gb342, 1, none⟩) (Kd.R_far (p := ⟨gb342, 0, none⟩) (Kd.R_mono HO328.out (fun k_ hk => (⟨hk, hk.2⟩ : _ ∧ k_ ≠ gb342))) (fun _ hk => hk.2) (.string t336)) (fun _ hk => hk.2) (.int .i64 t337)) (fun _ hk => hk.2) (.int .i64 t338)) (fun _ hk => hk.2) (.int .i64 t339)) (fun _ hk => hk.2) (.int .i64 t340)) (fun _ h_ => h_.1)))); (case side2 => exact (Kd.R_reads' HO328.out).2.1); rintro e w54 ⟨rfl, hb⟩; replace HO315 := Aside0.mk (Kd.R_below (by (with_reducible repeat (first | apply Kd.R_alloc | apply Kd.R_drewN | apply Kd.R_drew)); exact (Kd.R_mono (Kd.R_far (p := ⟨gb342, 4, none⟩) (Kd.R_far (p := ⟨gb342, 3, none⟩) (Kd.R_far (p := ⟨gb342, 2, none⟩) (Kd.R_far (p := ⟨gb342, 1, none⟩) (Kd.R_far (p := ⟨gb342, 0, none⟩) (Kd.R_mono HO315.out (fun k_ hk => (⟨hk, hk.2⟩ : _ ∧ k_ ≠ gb342))) (fun _ hk => hk.2) (.string t336)) (fun _ hk => hk.2) (.int .i64 t337)) (fun _ hk => hk.2) (.int .i64 t338)) (fun _ hk => hk.2) (.int .i64 t339)) (fun _ hk => hk.2) (.int .i64 t340)) (fun _ h_ => h_.1))) hb); replace HO325 := Aside0.mk (Kd.R_below (by (with_reducible repeat (first | apply Kd.R_alloc | apply Kd.R_drewN | apply Kd.R_drew)); exact (Kd.R_mono (Kd.R_far (p := ⟨gb342, 4, none⟩) (Kd.R_far (p := ⟨gb342, 3, none⟩) (Kd.R_far (p := ⟨gb342, 2, none⟩) (Kd.R_far (p := ⟨gb342, 1, none⟩) (Kd.R_far (p := ⟨gb342, 0, none⟩) (Kd.R_mono HO325.out (fun k_ hk => (⟨hk, hk.2⟩ : _ ∧ k_ ≠ gb342))) (fun _ hk => hk.2) (.string t336)) (fun _ hk => hk.2) (.int .i64 t337)) (fun _ hk => hk.2) (.int .i64 t338)) (fun _ hk => hk.2) (.int .i64 t339)) (fun _ hk => hk.2) (.int .i64 t340)) (fun _ h_ => h_.1))) hb); replace HO328 := Aside0.mk (Kd.R_below (by (with_reducible repeat (first | apply Kd.R_alloc | apply Kd.R_drewN | apply Kd.R_drew)); exact (Kd.R_mono (Kd.R_far (p := ⟨gb342, 4, none⟩) (Kd.R_far (p := ⟨gb342, 3, none⟩) (Kd.R_far (p := ⟨gb342, 2, none⟩) (Kd.R_far (p := ⟨gb342, 1, none⟩) (Kd.R_far (p := ⟨gb342, 0, none⟩) (Kd.R_mono HO328.out (fun k_ hk => (⟨hk, hk.2⟩ : _ ∧ k_ ≠ gb342))) (fun _ hk => hk.2) (.string t336)) (fun _ hk => hk.2) (.int .i64 t337)) (fun _ hk => hk.2) (.int .i64 t338)) (fun _ hk => hk.2) (.int .i64 t339)) (fun _ hk => hk.2) (.int .i64 t340)) (fun _ h_ => h_.1))) hb); replace BK321 := bf_ BK321 NB321_342 hb; replace BK335 := bf_ BK335 NB335_342 hb; replace BK342 := bp_ #[.string t336, .int .i64 t337, .int .i64 t338, .int .i64 t339, .int .i64 t340] BK342 hb; replace HB := Aside0.mk (below_step (hv_ HB GE321 GE335 GE342) hb); (try clear hb); (try clear hb2); (try clear hk); (try clear hi)))
        repeat (go_quiet (first | (go_at_call 11; (with_reducible refine (spec_DirOk.calls k _ _ t326 true _ ?side1 ?side2 A47.out).mono ?_); (case side1 => refine (Kd.R_reads' (e := 29) (base := w.heap.size) (ok := fun k_ => (((((True ∧ some k_ ≠ (.slice Ao15 t313.length co15 : Value).ownBlock) ∧ some k_ ≠ (.slice Ao20 t323.length co20 : Value).ownBlock) ∧ k_ ≠ gb321) ∧ k_ ≠ gb335) ∧ k_ ≠ gb342)) (n := t326.length) (c := co28) ?_).2.2; exact (by (with_reducible repeat (first | apply Kd.R_alloc | apply Kd.R_drewN | apply Kd.R_drew)); exact (Kd.R_mono (Kd.R_far (p := ⟨gb342, 4, none⟩) (Kd.R_far (p := ⟨gb342, 3, none⟩) (Kd.R_far (p := ⟨gb342, 2, none⟩) (Kd.R_far (p := ⟨gb342, 1, none⟩) (Kd.R_far (p := ⟨gb342, 0, none⟩) (Kd.R_mono HO328.out (fun k_ hk => (⟨hk, hk.2⟩ : _ ∧ k_ ≠ gb342))) (fun _ hk => hk.2) (.string t336)) (fun _ hk => hk.2) (.int .i64 t337)) (fun _ hk => hk.2) (.int .i64 t338)) (fun _ hk => hk.2) (.int .i64 t339)) (fun _ hk => hk.2) (.int .i64 t340)) (fun _ h_ => h_.1)))); (case side2 => exact (Kd.R_reads' HO328.out).2.1); rintro e w54 ⟨rfl, hb⟩; replace HO315 := Aside0.mk (Kd.R_below (by (with_reducible repeat (first | apply Kd.R_alloc | apply Kd.R_drewN | apply Kd.R_drew)); exact (Kd.R_mono (Kd.R_far (p := ⟨gb342, 4, none⟩) (Kd.R_far (p := ⟨gb342, 3, none⟩) (Kd.R_far (p := ⟨gb342, 2, none⟩) (Kd.R_far (p := ⟨gb342, 1, none⟩) (Kd.R_far (p := ⟨gb342, 0, none⟩) (Kd.R_mono HO315.out (fun k_ hk => (⟨hk, hk.2⟩ : _ ∧ k_ ≠ gb342))) (fun _ hk => hk.2) (.string t336)) (fun _ hk => hk.2) (.int .i64 t337)) (fun _ hk => hk.2) (.int .i64 t338)) (fun _ hk => hk.2) (.int .i64 t339)) (fun _ hk => hk.2) (.int .i64 t340)) (fun _ h_ => h_.1))) hb); replace HO325 := Aside0.mk (Kd.R_below (by (with_reducible repeat (first | apply Kd.R_alloc | apply Kd.R_drewN | apply Kd.R_drew)); exact (Kd.R_mono (Kd.R_far (p := ⟨gb342, 4, none⟩) (Kd.R_far (p := ⟨gb342, 3, none⟩) (Kd.R_far (p := ⟨gb342, 2, none⟩) (Kd.R_far (p := ⟨gb342, 1, none⟩) (Kd.R_far (p := ⟨gb342, 0, none⟩) (Kd.R_mono HO325.out (fun k_ hk => (⟨hk, hk.2⟩ : _ ∧ k_ ≠ gb342))) (fun _ hk => hk.2) (.string t336)) (fun _ hk => hk.2) (.int .i64 t337)) (fun _ hk => hk.2) (.int .i64 t338)) (fun _ hk => hk.2) (.int .i64 t339)) (fun _ hk => hk.2) (.int .i64 t340)) (fun _ h_ => h_.1))) hb); replace HO328 := Aside0.mk (Kd.R_below (by (with_reducible repeat (first | apply Kd.R_alloc | apply Kd.R_drewN | apply Kd.R_drew)); exact (Kd.R_mono (Kd.R_far (p := ⟨gb342, 4, none⟩) (Kd.R_far (p := ⟨gb342, 3, none⟩) (Kd.R_far (p := ⟨gb342, 2, none⟩) (Kd.R_far (p := ⟨gb342, 1, none⟩) (Kd.R_far (p := ⟨gb342, 0, none⟩) (Kd.R_mono HO328.out (fun k_ hk => (⟨hk, hk.2⟩ : _ ∧ k_ ≠ gb342))) (fun _ hk => hk.2) (.string t336)) (fun _ hk => hk.2) (.int .i64 t337)) (fun _ hk => hk.2) (.int .i64 t338)) (fun _ hk => hk.2) (.int .i64 t339)) (fun _ hk => hk.2) (.int .i64 t340)) (fun _ h_ => h_.1))) hb); replace BK321 := bf_ BK321 NB321_342 hb; replace BK335 := bf_ BK335 NB335_342 hb; replace BK342 := bp_ #[.string t336, .int .i64 t337, .int .i64 t338, .int .i64 t339, .int .i64 t340] BK342 hb; replace HB := Aside0.mk (below_step (hv_ HB GE321 GE335 GE342) hb); (try clear hb); (try clear hb2); (try clear hk); (try clear hi))); try go_wp2_with (first | (go_at_call 11; (with_reducible refine (spec_DirOk.calls k _ _ t326 true _ ?side1 ?side2 A47.out).mono ?_); (case side1 => refine (Kd.R_reads' (e := 29) (base := w.heap.size) (ok := fun k_ => (((((True ∧ some k_ ≠ (.slice Ao15 t313.length co15 : Value).ownBlock) ∧ some k_ ≠ (.slice Ao20 t323.length co20 : Value).ownBlock) ∧ k_ ≠ gb321) ∧ k_ ≠ gb335) ∧ k_ ≠ gb342)) (n := t326.length) (c := co28) ?_).2.2; exact (by (with_reducible repeat (first | apply Kd.R_alloc | apply Kd.R_drewN | apply Kd.R_drew)); exact (Kd.R_mono (Kd.R_far (p := ⟨gb342, 4, none⟩) (Kd.R_far (p := ⟨gb342, 3, none⟩) (Kd.R_far (p := ⟨gb342, 2, none⟩) (Kd.R_far (p := ⟨gb342, 1, none⟩) (Kd.R_far (p := ⟨gb342, 0, none⟩) (Kd.R_mono HO328.out (fun k_ hk => (⟨hk, hk.2⟩ : _ ∧ k_ ≠ gb342))) (fun _ hk => hk.2) (.string t336)) (fun _ hk => hk.2) (.int .i64 t337)) (fun _ hk => hk.2) (.int .i64 t338)) (fun _ hk => hk.2) (.int .i64 t339)) (fun _ hk => hk.2) (.int .i64 t340)) (fun _ h_ => h_.1)))); (case side2 => exact (Kd.R_reads' HO328.out).2.1); rintro e w54 ⟨rfl, hb⟩; replace HO315 := Aside0.mk (Kd.R_below (by (with_reducible repeat (first | apply Kd.R_alloc | apply Kd.R_drewN | apply Kd.R_drew)); exact (Kd.R_mono (Kd.R_far (p := ⟨gb342, 4, none⟩) (Kd.R_far (p := ⟨gb342, 3, none⟩) (Kd.R_far (p := ⟨gb342, 2, none⟩) (Kd.R_far (p := ⟨gb342, 1, none⟩) (Kd.R_far (p := ⟨gb342, 0, none⟩) (Kd.R_mono HO315.out (fun k_ hk => (⟨hk, hk.2⟩ : _ ∧ k_ ≠ gb342))) (fun _ hk => hk.2) (.string t336)) (fun _ hk => hk.2) (.int .i64 t337)) (fun _ hk => hk.2) (.int .i64 t338)) (fun _ hk => hk.2) (.int .i64 t339)) (fun _ hk => hk.2) (.int .i64 t340)) (fun _ h_ => h_.1))) hb); replace HO325 := Aside0.mk (Kd.R_below (by (with_reducible repeat (first | apply Kd.R_alloc | apply Kd.R_drewN | apply Kd.R_drew)); exact (Kd.R_mono (Kd.R_far (p := ⟨gb342, 4, none⟩) (Kd.R_far (p := ⟨gb342, 3, none⟩) (Kd.R_far (p := ⟨gb342, 2, none⟩) (Kd.R_far (p := ⟨gb342, 1, none⟩) (Kd.R_far (p := ⟨gb342, 0, none⟩) (Kd.R_mono HO325.out (fun k_ hk => (⟨hk, hk.2⟩ : _ ∧ k_ ≠ gb342))) (fun _ hk => hk.2) (.string t336)) (fun _ hk => hk.2) (.int .i64 t337)) (fun _ hk => hk.2) (.int .i64 t338)) (fun _ hk => hk.2) (.int .i64 t339)) (fun _ hk => hk.2) (.int .i64 t340)) (fun _ h_ => h_.1))) hb); replace HO328 := Aside0.mk (Kd.R_below (by (with_reducible repeat (first | apply Kd.R_alloc | apply Kd.R_drewN | apply Kd.R_drew)); exact (Kd.R_mono (Kd.R_far (p := ⟨gb342, 4, none⟩) (Kd.R_far (p := ⟨gb342, 3, none⟩) (Kd.R_far (p := ⟨gb342, 2, none⟩) (Kd.R_far (p := ⟨gb342, 1, none⟩) (Kd.R_far (p := ⟨gb342, 0, none⟩) (Kd.R_mono HO328.out (fun k_ hk => (⟨hk, hk.2⟩ : _ ∧ k_ ≠ gb342))) (fun _ hk => hk.2) (.string t336)) (fun _ hk => hk.2) (.int .i64 t337)) (fun _ hk => hk.2) (.int .i64 t338)) (fun _ hk => hk.2) (.int .i64 t339)) (fun _ hk => hk.2) (.int .i64 t340)) (fun _ h_ => h_.1))) hb); replace BK321 := bf_ BK321 NB321_342 hb; replace BK335 := bf_ BK335 NB335_342 hb; replace BK342 := bp_ #[.string t336, .int .i64 t337, .int .i64 t338, .int .i64 t339, .int .i64 t340] BK342 hb; replace HB := Aside0.mk (below_step (hv_ HB GE321 GE335 GE342) hb); (try clear hb); (try clear hb2); (try clear hk); (try clear hi))))
        go_meet
        case rel => exact ⟨_, (((t323.length : Int) != (wrap64 ((t326.length : Int) + 1)))), rs_, H', ⟨by first | exact Nat.le_refl _ | exact Nat.le_of_succ_le this | omega⟩, ⟨by (with_reducible repeat (first | apply Kd.R_alloc | apply Kd.R_drewN | apply Kd.R_drew)); exact Kd.R_mono HO315.out (fun _ hk => ⟨hk.1.1.1.2, ⟨hk.1.1.2, ⟨hk.1.1.1.1.2, ⟨hk.1.2, hk.2⟩⟩⟩⟩)⟩, ⟨by (with_reducible repeat (first | apply Kd.R_alloc | apply Kd.R_drewN | apply Kd.R_drew)); exact Kd.R_mono HO325.out (fun _ hk => ⟨hk.1.1.1.1.2, ⟨hk.1.1.2, ⟨hk.1.1.1.2, ⟨hk.1.2, hk.2⟩⟩⟩⟩)⟩, ⟨by (with_reducible repeat (first | apply Kd.R_alloc | apply Kd.R_drewN | apply Kd.R_drew)); exact Kd.R_mono HO328.out (fun _ hk => ⟨hk.1.1.1.1.2, ⟨hk.1.1.1.2, ⟨hk.1.1.2, ⟨hk.1.2, hk.2⟩⟩⟩⟩)⟩, ⟨bk_ BK321⟩, ⟨bk_ BK335⟩, ⟨bk_ BK342⟩, ⟨by repeat (first | (with_reducible first | exact HB.out | apply below_alloc | apply pw_below_drewN | apply below_drew1 | refine below_set ?_ GE321.out | refine below_set ?_ GE335.out | refine below_set ?_ GE342.out) | exact HB.out)⟩⟩
       ·replace c48 := Bool.eq_false_iff.mpr c48
        subst c48
        have H1 : (laws_FnDirs.j0 k t313 t323 t326 true t316 t317 t318 t319 t320) = some r := by rw [if_neg (show ¬ (false = true) by decide)] at H; exact H
        clear H
        have H := H1
        clear H1
        have H' := Aside0.mk H
        clear H
        have hnb55 := NB335_321.out
        have hnc55 := NB321_335.out
        have hnb56 := NB335_342.out
        have hnc56 := NB342_335.out
        obtain ⟨hcz57_0, hcz57_1, hcz57_2, hcz57_3, hcz57_4, hfz57_0, hfz57_1, hfz57_2, hfz57_3, hfz57_4⟩ := bc5_ BK335
        have hnb58 := NB321_342.out
        have hnc58 := NB342_321.out
        obtain ⟨hcz59_0, hcz59_1, hcz59_2, hcz59_3, hcz59_4, hfz59_0, hfz59_1, hfz59_2, hfz59_3, hfz59_4⟩ := bc5_ BK321
        go_wp2_with (first | (go_at_call 11; (with_reducible refine (spec_DirOk.calls k _ _ t326 false _ ?side1 ?side2 A47.out).mono ?_); (case side1 => refine (Kd.R_reads' (e := 29) (base := w.heap.size) (ok := fun k_ => (((((True ∧ some k_ ≠ (.slice Ao15 t313.length co15 : Value).ownBlock) ∧ some k_ ≠ (.slice Ao20 t323.length co20 : Value).ownBlock) ∧ k_ ≠ gb321) ∧ k_ ≠ gb335) ∧ k_ ≠ gb342)) (n := t326.length) (c := co28) ?_).2.2; exact (by (with_reducible repeat (first | apply Kd.R_alloc | apply Kd.R_drewN | apply Kd.R_drew)); exact (Kd.R_mono (Kd.R_far (p := ⟨gb342, 4, none⟩) (Kd.R_far (p := ⟨gb342, 3, none⟩) (Kd.R_far (p := ⟨gb342, 2, none⟩) (Kd.R_far (p := ⟨gb342, 1, none⟩) (Kd.R_far (p := ⟨gb342, 0, none⟩) (Kd.R_mono HO328.out (fun k_ hk => (⟨hk, hk.2⟩ : _ ∧ k_ ≠ gb342))) (fun _ hk => hk.2) (.string t336)) (fun _ hk => hk.2) (.int .i64 t337)) (fun _ hk => hk.2) (.int .i64 t338)) (fun _ hk => hk.2) (.int .i64 t339)) (fun _ hk => hk.2) (.int .i64 t340)) (fun _ h_ => h_.1)))); (case side2 => exact (Kd.R_reads' HO328.out).2.1); rintro e w60 ⟨rfl, hb⟩; replace HO315 := Aside0.mk (Kd.R_below (by (with_reducible repeat (first | apply Kd.R_alloc | apply Kd.R_drewN | apply Kd.R_drew)); exact (Kd.R_mono (Kd.R_far (p := ⟨gb342, 4, none⟩) (Kd.R_far (p := ⟨gb342, 3, none⟩) (Kd.R_far (p := ⟨gb342, 2, none⟩) (Kd.R_far (p := ⟨gb342, 1, none⟩) (Kd.R_far (p := ⟨gb342, 0, none⟩) (Kd.R_mono HO315.out (fun k_ hk => (⟨hk, hk.2⟩ : _ ∧ k_ ≠ gb342))) (fun _ hk => hk.2) (.string t336)) (fun _ hk => hk.2) (.int .i64 t337)) (fun _ hk => hk.2) (.int .i64 t338)) (fun _ hk => hk.2) (.int .i64 t339)) (fun _ hk => hk.2) (.int .i64 t340)) (fun _ h_ => h_.1))) hb); replace HO325 := Aside0.mk (Kd.R_below (by (with_reducible repeat (first | apply Kd.R_alloc | apply Kd.R_drewN | apply Kd.R_drew)); exact (Kd.R_mono (Kd.R_far (p := ⟨gb342, 4, none⟩) (Kd.R_far (p := ⟨gb342, 3, none⟩) (Kd.R_far (p := ⟨gb342, 2, none⟩) (Kd.R_far (p := ⟨gb342, 1, none⟩) (Kd.R_far (p := ⟨gb342, 0, none⟩) (Kd.R_mono HO325.out (fun k_ hk => (⟨hk, hk.2⟩ : _ ∧ k_ ≠ gb342))) (fun _ hk => hk.2) (.string t336)) (fun _ hk => hk.2) (.int .i64 t337)) (fun _ hk => hk.2) (.int .i64 t338)) (fun _ hk => hk.2) (.int .i64 t339)) (fun _ hk => hk.2) (.int .i64 t340)) (fun _ h_ => h_.1))) hb); replace HO328 := Aside0.mk (Kd.R_below (by (with_reducible repeat (first | apply Kd.R_alloc | apply Kd.R_drewN | apply Kd.R_drew)); exact (Kd.R_mono (Kd.R_far (p := ⟨gb342, 4, none⟩) (Kd.R_far (p := ⟨gb342, 3, none⟩) (Kd.R_far (p := ⟨gb342, 2, none⟩) (Kd.R_far (p := ⟨gb342, 1, none⟩) (Kd.R_far (p := ⟨gb342, 0, none⟩) (Kd.R_mono HO328.out (fun k_ hk => (⟨hk, hk.2⟩ : _ ∧ k_ ≠ gb342))) (fun _ hk => hk.2) (.string t336)) (fun _ hk => hk.2) (.int .i64 t337)) (fun _ hk => hk.2) (.int .i64 t338)) (fun _ hk => hk.2) (.int .i64 t339)) (fun _ hk => hk.2) (.int .i64 t340)) (fun _ h_ => h_.1))) hb); replace BK321 := bf_ BK321 NB321_342 hb; replace BK335 := bf_ BK335 NB335_342 hb; replace BK342 := bp_ #[.string t336, .int .i64 t337, .int .i64 t338, .int .i64 t339, .int .i64 t340] BK342 hb; replace HB := Aside0.mk (below_step (hv_ HB GE321 GE335 GE342) hb); (try clear hb); (try clear hb2); (try clear hk); (try clear hi)))
        repeat (go_quiet (first | (go_at_call 11; (with_reducible refine (spec_DirOk.calls k _ _ t326 false _ ?side1 ?side2 A47.out).mono ?_); (case side1 => refine (Kd.R_reads' (e := 29) (base := w.heap.size) (ok := fun k_ => (((((True ∧ some k_ ≠ (.slice Ao15 t313.length co15 : Value).ownBlock) ∧ some k_ ≠ (.slice Ao20 t323.length co20 : Value).ownBlock) ∧ k_ ≠ gb321) ∧ k_ ≠ gb335) ∧ k_ ≠ gb342)) (n := t326.length) (c := co28) ?_).2.2; exact (by (with_reducible repeat (first | apply Kd.R_alloc | apply Kd.R_drewN | apply Kd.R_drew)); exact (Kd.R_mono (Kd.R_far (p := ⟨gb342, 4, none⟩) (Kd.R_far (p := ⟨gb342, 3, none⟩) (Kd.R_far (p := ⟨gb342, 2, none⟩) (Kd.R_far (p := ⟨gb342, 1, none⟩) (Kd.R_far (p := ⟨gb342, 0, none⟩) (Kd.R_mono HO328.out (fun k_ hk => (⟨hk, hk.2⟩ : _ ∧ k_ ≠ gb342))) (fun _ hk => hk.2) (.string t336)) (fun _ hk => hk.2) (.int .i64 t337)) (fun _ hk => hk.2) (.int .i64 t338)) (fun _ hk => hk.2) (.int .i64 t339)) (fun _ hk => hk.2) (.int .i64 t340)) (fun _ h_ => h_.1)))); (case side2 => exact (Kd.R_reads' HO328.out).2.1); rintro e w60 ⟨rfl, hb⟩; replace HO315 := Aside0.mk (Kd.R_below (by (with_reducible repeat (first | apply Kd.R_alloc | apply Kd.R_drewN | apply Kd.R_drew)); exact (Kd.R_mono (Kd.R_far (p := ⟨gb342, 4, none⟩) (Kd.R_far (p := ⟨gb342, 3, none⟩) (Kd.R_far (p := ⟨gb342, 2, none⟩) (Kd.R_far (p := ⟨gb342, 1, none⟩) (Kd.R_far (p := ⟨gb342, 0, none⟩) (Kd.R_mono HO315.out (fun k_ hk => (⟨hk, hk.2⟩ : _ ∧ k_ ≠ gb342))) (fun _ hk => hk.2) (.string t336)) (fun _ hk => hk.2) (.int .i64 t337)) (fun _ hk => hk.2) (.int .i64 t338)) (fun _ hk => hk.2) (.int .i64 t339)) (fun _ hk => hk.2) (.int .i64 t340)) (fun _ h_ => h_.1))) hb); replace HO325 := Aside0.mk (Kd.R_below (by (with_reducible repeat (first | apply Kd.R_alloc | apply Kd.R_drewN | apply Kd.R_drew)); exact (Kd.R_mono (Kd.R_far (p := ⟨gb342, 4, none⟩) (Kd.R_far (p := ⟨gb342, 3, none⟩) (Kd.R_far (p := ⟨gb342, 2, none⟩) (Kd.R_far (p := ⟨gb342, 1, none⟩) (Kd.R_far (p := ⟨gb342, 0, none⟩) (Kd.R_mono HO325.out (fun k_ hk => (⟨hk, hk.2⟩ : _ ∧ k_ ≠ gb342))) (fun _ hk => hk.2) (.string t336)) (fun _ hk => hk.2) (.int .i64 t337)) (fun _ hk => hk.2) (.int .i64 t338)) (fun _ hk => hk.2) (.int .i64 t339)) (fun _ hk => hk.2) (.int .i64 t340)) (fun _ h_ => h_.1))) hb); replace HO328 := Aside0.mk (Kd.R_below (by (with_reducible repeat (first | apply Kd.R_alloc | apply Kd.R_drewN | apply Kd.R_drew)); exact (Kd.R_mono (Kd.R_far (p := ⟨gb342, 4, none⟩) (Kd.R_far (p := ⟨gb342, 3, none⟩) (Kd.R_far (p := ⟨gb342, 2, none⟩) (Kd.R_far (p := ⟨gb342, 1, none⟩) (Kd.R_far (p := ⟨gb342, 0, none⟩) (Kd.R_mono HO328.out (fun k_ hk => (⟨hk, hk.2⟩ : _ ∧ k_ ≠ gb342))) (fun _ hk => hk.2) (.string t336)) (fun _ hk => hk.2) (.int .i64 t337)) (fun _ hk => hk.2) (.int .i64 t338)) (fun _ hk => hk.2) (.int .i64 t339)) (fun _ hk => hk.2) (.int .i64 t340)) (fun _ h_ => h_.1))) hb); replace BK321 := bf_ BK321 NB321_342 hb; replace BK335 := bf_ BK335 NB335_342 hb; replace BK342 := bp_ #[.string t336, .int .i64 t337, .int .i64 t338, .int .i64 t339, .int .i64 t340] BK342 hb; replace HB := Aside0.mk (below_step (hv_ HB GE321 GE335 GE342) hb); (try clear hb); (try clear hb2); (try clear hk); (try clear hi))); try go_wp2_with (first | (go_at_call 11; (with_reducible refine (spec_DirOk.calls k _ _ t326 false _ ?side1 ?side2 A47.out).mono ?_); (case side1 => refine (Kd.R_reads' (e := 29) (base := w.heap.size) (ok := fun k_ => (((((True ∧ some k_ ≠ (.slice Ao15 t313.length co15 : Value).ownBlock) ∧ some k_ ≠ (.slice Ao20 t323.length co20 : Value).ownBlock) ∧ k_ ≠ gb321) ∧ k_ ≠ gb335) ∧ k_ ≠ gb342)) (n := t326.length) (c := co28) ?_).2.2; exact (by (with_reducible repeat (first | apply Kd.R_alloc | apply Kd.R_drewN | apply Kd.R_drew)); exact (Kd.R_mono (Kd.R_far (p := ⟨gb342, 4, none⟩) (Kd.R_far (p := ⟨gb342, 3, none⟩) (Kd.R_far (p := ⟨gb342, 2, none⟩) (Kd.R_far (p := ⟨gb342, 1, none⟩) (Kd.R_far (p := ⟨gb342, 0, none⟩) (Kd.R_mono HO328.out (fun k_ hk => (⟨hk, hk.2⟩ : _ ∧ k_ ≠ gb342))) (fun _ hk => hk.2) (.string t336)) (fun _ hk => hk.2) (.int .i64 t337)) (fun _ hk => hk.2) (.int .i64 t338)) (fun _ hk => hk.2) (.int .i64 t339)) (fun _ hk => hk.2) (.int .i64 t340)) (fun _ h_ => h_.1)))); (case side2 => exact (Kd.R_reads' HO328.out).2.1); rintro e w60 ⟨rfl, hb⟩; replace HO315 := Aside0.mk (Kd.R_below (by (with_reducible repeat (first | apply Kd.R_alloc | apply Kd.R_drewN | apply Kd.R_drew)); exact (Kd.R_mono (Kd.R_far (p := ⟨gb342, 4, none⟩) (Kd.R_far (p := ⟨gb342, 3, none⟩) (Kd.R_far (p := ⟨gb342, 2, none⟩) (Kd.R_far (p := ⟨gb342, 1, none⟩) (Kd.R_far (p := ⟨gb342, 0, none⟩) (Kd.R_mono HO315.out (fun k_ hk => (⟨hk, hk.2⟩ : _ ∧ k_ ≠ gb342))) (fun _ hk => hk.2) (.string t336)) (fun _ hk => hk.2) (.int .i64 t337)) (fun _ hk => hk.2) (.int .i64 t338)) (fun _ hk => hk.2) (.int .i64 t339)) (fun _ hk => hk.2) (.int .i64 t340)) (fun _ h_ => h_.1))) hb); replace HO325 := Aside0.mk (Kd.R_below (by (with_reducible repeat (first | apply Kd.R_alloc | apply Kd.R_drewN | apply Kd.R_drew)); exact (Kd.R_mono (Kd.R_far (p := ⟨gb342, 4, none⟩) (Kd.R_far (p := ⟨gb342, 3, none⟩) (Kd.R_far (p := ⟨gb342, 2, none⟩) (Kd.R_far (p := ⟨gb342, 1, none⟩) (Kd.R_far (p := ⟨gb342, 0, none⟩) (Kd.R_mono HO325.out (fun k_ hk => (⟨hk, hk.2⟩ : _ ∧ k_ ≠ gb342))) (fun _ hk => hk.2) (.string t336)) (fun _ hk => hk.2) (.int .i64 t337)) (fun _ hk => hk.2) (.int .i64 t338)) (fun _ hk => hk.2) (.int .i64 t339)) (fun _ hk => hk.2) (.int .i64 t340)) (fun _ h_ => h_.1))) hb); replace HO328 := Aside0.mk (Kd.R_below (by (with_reducible repeat (first | apply Kd.R_alloc | apply Kd.R_drewN | apply Kd.R_drew)); exact (Kd.R_mono (Kd.R_far (p := ⟨gb342, 4, none⟩) (Kd.R_far (p := ⟨gb342, 3, none⟩) (Kd.R_far (p := ⟨gb342, 2, none⟩) (Kd.R_far (p := ⟨gb342, 1, none⟩) (Kd.R_far (p := ⟨gb342, 0, none⟩) (Kd.R_mono HO328.out (fun k_ hk => (⟨hk, hk.2⟩ : _ ∧ k_ ≠ gb342))) (fun _ hk => hk.2) (.string t336)) (fun _ hk => hk.2) (.int .i64 t337)) (fun _ hk => hk.2) (.int .i64 t338)) (fun _ hk => hk.2) (.int .i64 t339)) (fun _ hk => hk.2) (.int .i64 t340)) (fun _ h_ => h_.1))) hb); replace BK321 := bf_ BK321 NB321_342 hb; replace BK335 := bf_ BK335 NB335_342 hb; replace BK342 := bp_ #[.string t336, .int .i64 t337, .int .i64 t338, .int .i64 t339, .int .i64 t340] BK342 hb; replace HB := Aside0.mk (below_step (hv_ HB GE321 GE335 GE342) hb); (try clear hb); (try clear hb2); (try clear hk); (try clear hi))))
        go_meet
        case rel => exact ⟨_, (true), rs_, H', ⟨by first | exact Nat.le_refl _ | exact Nat.le_of_succ_le this | omega⟩, ⟨by (with_reducible repeat (first | apply Kd.R_alloc | apply Kd.R_drewN | apply Kd.R_drew)); exact Kd.R_mono HO315.out (fun _ hk => ⟨hk.1.1.1.2, ⟨hk.1.1.2, ⟨hk.1.1.1.1.2, ⟨hk.1.2, hk.2⟩⟩⟩⟩)⟩, ⟨by (with_reducible repeat (first | apply Kd.R_alloc | apply Kd.R_drewN | apply Kd.R_drew)); exact Kd.R_mono HO325.out (fun _ hk => ⟨hk.1.1.1.1.2, ⟨hk.1.1.2, ⟨hk.1.1.1.2, ⟨hk.1.2, hk.2⟩⟩⟩⟩)⟩, ⟨by (with_reducible repeat (first | apply Kd.R_alloc | apply Kd.R_drewN | apply Kd.R_drew)); exact Kd.R_mono HO328.out (fun _ hk => ⟨hk.1.1.1.1.2, ⟨hk.1.1.1.2, ⟨hk.1.1.2, ⟨hk.1.2, hk.2⟩⟩⟩⟩)⟩, ⟨bk_ BK321⟩, ⟨bk_ BK335⟩, ⟨bk_ BK342⟩, ⟨by repeat (first | (with_reducible first | exact HB.out | apply below_alloc | apply pw_below_drewN | apply below_drew1 | refine below_set ?_ GE321.out | refine below_set ?_ GE335.out | refine below_set ?_ GE342.out) | exact HB.out)⟩⟩
    ·replace c34 := Bool.eq_false_iff.mpr c34
     subst c34
     have H1 : (laws_FnDirs.j0 k t313 t323 t326 true t316 t317 t318 t319 t320) = some r := by rw [if_neg (show ¬ (false = true) by decide)] at H; exact H
     clear H
     have H := H1
     clear H1
     have H' := Aside0.mk H
     clear H
     go_wp2
     repeat (go_quiet (fail); try go_wp2)
     go_meet
     case rel => exact ⟨_, (true), rs_, H', ⟨by first | exact Nat.le_refl _ | exact Nat.le_of_succ_le this | omega⟩, ⟨by (with_reducible repeat (first | apply Kd.R_alloc | apply Kd.R_drewN | apply Kd.R_drew)); exact Kd.R_mono (Kd.R_far (p := ⟨gb342, 4, none⟩) (Kd.R_far (p := ⟨gb342, 3, none⟩) (Kd.R_far (p := ⟨gb342, 2, none⟩) (Kd.R_far (p := ⟨gb342, 1, none⟩) (Kd.R_far (p := ⟨gb342, 0, none⟩) (Kd.R_mono HO315.out (fun k_ hk => (⟨hk, hk.2⟩ : _ ∧ k_ ≠ gb342))) (fun _ hk => hk.2) (.string t336)) (fun _ hk => hk.2) (.int .i64 t337)) (fun _ hk => hk.2) (.int .i64 t338)) (fun _ hk => hk.2) (.int .i64 t339)) (fun _ hk => hk.2) (.int .i64 t340)) (fun _ hk => ⟨hk.1.1.1.1.2, ⟨hk.1.1.1.2, ⟨hk.1.1.1.1.1.2, ⟨hk.1.1.2, hk.1.2⟩⟩⟩⟩)⟩, ⟨by (with_reducible repeat (first | apply Kd.R_alloc | apply Kd.R_drewN | apply Kd.R_drew)); exact Kd.R_mono (Kd.R_far (p := ⟨gb342, 4, none⟩) (Kd.R_far (p := ⟨gb342, 3, none⟩) (Kd.R_far (p := ⟨gb342, 2, none⟩) (Kd.R_far (p := ⟨gb342, 1, none⟩) (Kd.R_far (p := ⟨gb342, 0, none⟩) (Kd.R_mono HO325.out (fun k_ hk => (⟨hk, hk.2⟩ : _ ∧ k_ ≠ gb342))) (fun _ hk => hk.2) (.string t336)) (fun _ hk => hk.2) (.int .i64 t337)) (fun _ hk => hk.2) (.int .i64 t338)) (fun _ hk => hk.2) (.int .i64 t339)) (fun _ hk => hk.2) (.int .i64 t340)) (fun _ hk => ⟨hk.1.1.1.1.1.2, ⟨hk.1.1.1.2, ⟨hk.1.1.1.1.2, ⟨hk.1.1.2, hk.1.2⟩⟩⟩⟩)⟩, ⟨by (with_reducible repeat (first | apply Kd.R_alloc | apply Kd.R_drewN | apply Kd.R_drew)); exact Kd.R_mono (Kd.R_far (p := ⟨gb342, 4, none⟩) (Kd.R_far (p := ⟨gb342, 3, none⟩) (Kd.R_far (p := ⟨gb342, 2, none⟩) (Kd.R_far (p := ⟨gb342, 1, none⟩) (Kd.R_far (p := ⟨gb342, 0, none⟩) (Kd.R_mono HO328.out (fun k_ hk => (⟨hk, hk.2⟩ : _ ∧ k_ ≠ gb342))) (fun _ hk => hk.2) (.string t336)) (fun _ hk => hk.2) (.int .i64 t337)) (fun _ hk => hk.2) (.int .i64 t338)) (fun _ hk => hk.2) (.int .i64 t339)) (fun _ hk => hk.2) (.int .i64 t340)) (fun _ hk => ⟨hk.1.1.1.1.1.2, ⟨hk.1.1.1.1.2, ⟨hk.1.1.1.2, ⟨hk.1.1.2, hk.1.2⟩⟩⟩⟩)⟩, ⟨by (with_reducible repeat (first | refine blk_drewN ?_ _ | refine blk_drew ?_ | refine blk_alloc ?_ _)); refine blk_far ?_ NB321_342.out _; (with_reducible repeat (first | refine blk_drewN ?_ _ | refine blk_drew ?_ | refine blk_alloc ?_ _)); refine blk_far ?_ NB321_342.out _; (with_reducible repeat (first | refine blk_drewN ?_ _ | refine blk_drew ?_ | refine blk_alloc ?_ _)); refine blk_far ?_ NB321_342.out _; (with_reducible repeat (first | refine blk_drewN ?_ _ | refine blk_drew ?_ | refine blk_alloc ?_ _)); refine blk_far ?_ NB321_342.out _; (with_reducible repeat (first | refine blk_drewN ?_ _ | refine blk_drew ?_ | refine blk_alloc ?_ _)); refine blk_far ?_ NB321_342.out _; (with_reducible repeat (first | refine blk_drewN ?_ _ | refine blk_drew ?_ | refine blk_alloc ?_ _)); exact BK321.out⟩, ⟨by (with_reducible repeat (first | refine blk_drewN ?_ _ | refine blk_drew ?_ | refine blk_alloc ?_ _)); refine blk_far ?_ NB335_342.out _; (with_reducible repeat (first | refine blk_drewN ?_ _ | refine blk_drew ?_ | refine blk_alloc ?_ _)); refine blk_far ?_ NB335_342.out _; (with_reducible repeat (first | refine blk_drewN ?_ _ | refine blk_drew ?_ | refine blk_alloc ?_ _)); refine blk_far ?_ NB335_342.out _; (with_reducible repeat (first | refine blk_drewN ?_ _ | refine blk_drew ?_ | refine blk_alloc ?_ _)); refine blk_far ?_ NB335_342.out _; (with_reducible repeat (first | refine blk_drewN ?_ _ | refine blk_drew ?_ | refine blk_alloc ?_ _)); refine blk_far ?_ NB335_342.out _; (with_reducible repeat (first | refine blk_drewN ?_ _ | refine blk_drew ?_ | refine blk_alloc ?_ _)); exact BK335.out⟩, ⟨by (with_reducible repeat (first | refine blk_drewN ?_ _ | refine blk_drew ?_ | refine blk_alloc ?_ _)); refine blk_put (cs := #[.string t336, .int .i64 t337, .int .i64 t338, .int .i64 t339, .int .i64 0]) ?_ 4 _ rfl; (with_reducible repeat (first | refine blk_drewN ?_ _ | refine blk_drew ?_ | refine blk_alloc ?_ _)); refine blk_put (cs := #[.string t336, .int .i64 t337, .int .i64 t338, .int .i64 0, .int .i64 0]) ?_ 3 _ rfl; (with_reducible repeat (first | refine blk_drewN ?_ _ | refine blk_drew ?_ | refine blk_alloc ?_ _)); refine blk_put (cs := #[.string t336, .int .i64 t337, .int .i64 0, .int .i64 0, .int .i64 0]) ?_ 2 _ rfl; (with_reducible repeat (first | refine blk_drewN ?_ _ | refine blk_drew ?_ | refine blk_alloc ?_ _)); refine blk_put (cs := #[.string t336, .int .i64 0, .int .i64 0, .int .i64 0, .int .i64 0]) ?_ 1 _ rfl; (with_reducible repeat (first | refine blk_drewN ?_ _ | refine blk_drew ?_ | refine blk_alloc ?_ _)); refine blk_put (cs := #[.string (⟨#[]⟩ : ByteArray), .int .i64 0, .int .i64 0, .int .i64 0, .int .i64 0]) ?_ 0 _ rfl; (with_reducible repeat (first | refine blk_drewN ?_ _ | refine blk_drew ?_ | refine blk_alloc ?_ _)); exact BK342.out⟩, ⟨by repeat (first | (with_reducible first | exact HB.out | apply below_alloc | apply pw_below_drewN | apply below_drew1 | refine below_set ?_ GE321.out | refine below_set ?_ GE335.out | refine below_set ?_ GE342.out) | exact HB.out)⟩⟩
   case rest =>
    clear HC11
    try clear c2
    try clear p2
    try clear c3
    try clear c4
    try clear c5
    try clear c6
    try clear p6
    try clear c25
    try clear c31
    try clear c32
    try clear c34
    try clear c35
    try clear c35b0
    try clear c36
    try clear c37
    try clear c39
    try clear c41
    try clear c42
    try clear c43
    try clear c45
    try clear c48
    try clear c49
    try clear c50
    try clear c52
    try clear c55
    try clear c56
    try clear c58
    try clear hcz14_0
    try clear hcz14_1
    try clear hcz14_2
    try clear hcz14_3
    try clear hcz14_4
    try clear hcz17_0
    try clear hcz17_1
    try clear hcz17_2
    try clear hcz17_3
    try clear hcz17_4
    try clear hcz19_0
    try clear hcz19_1
    try clear hcz19_2
    try clear hcz19_3
    try clear hcz19_4
    try clear hcz22_0
    try clear hcz22_1
    try clear hcz22_2
    try clear hcz22_3
    try clear hcz22_4
    try clear hcz26_0
    try clear hcz26_1
    try clear hcz26_2
    try clear hcz26_3
    try clear hcz26_4
    try clear hcz27_0
    try clear hcz27_1
    try clear hcz27_2
    try clear hcz27_3
    try clear hcz27_4
    try clear hcz33_0
    try clear hcz33_1
    try clear hcz33_2
    try clear hcz33_3
    try clear hcz33_4
    try clear hcz38_0
    try clear hcz38_1
    try clear hcz38_2
    try clear hcz38_3
    try clear hcz38_4
    try clear hcz40_0
    try clear hcz40_1
    try clear hcz40_2
    try clear hcz40_3
    try clear hcz40_4
    try clear hcz44_0
    try clear hcz44_1
    try clear hcz44_2
    try clear hcz44_3
    try clear hcz44_4
    try clear hcz46_0
    try clear hcz46_1
    try clear hcz46_2
    try clear hcz46_3
    try clear hcz46_4
    try clear hcz51_0
    try clear hcz51_1
    try clear hcz51_2
    try clear hcz51_3
    try clear hcz51_4
    try clear hcz53_0
    try clear hcz53_1
    try clear hcz53_2
    try clear hcz53_3
    try clear hcz53_4
    try clear hcz57_0
    try clear hcz57_1
    try clear hcz57_2
    try clear hcz57_3
    try clear hcz57_4
    try clear hcz59_0
    try clear hcz59_1
    try clear hcz59_2
    try clear hcz59_3
    try clear hcz59_4
    try clear hfz14_0
    try clear hfz14_1
    try clear hfz14_2
    try clear hfz14_3
    try clear hfz14_4
    try clear hfz17_0
    try clear hfz17_1
    try clear hfz17_2
    try clear hfz17_3
    try clear hfz17_4
    try clear hfz19_0
    try clear hfz19_1
    try clear hfz19_2
    try clear hfz19_3
    try clear hfz19_4
    try clear hfz22_0
    try clear hfz22_1
    try clear hfz22_2
    try clear hfz22_3
    try clear hfz22_4
    try clear hfz26_0
    try clear hfz26_1
    try clear hfz26_2
    try clear hfz26_3
    try clear hfz26_4
    try clear hfz27_0
    try clear hfz27_1
    try clear hfz27_2
    try clear hfz27_3
    try clear hfz27_4
    try clear hfz33_0
    try clear hfz33_1
    try clear hfz33_2
    try clear hfz33_3
    try clear hfz33_4
    try clear hfz38_0
    try clear hfz38_1
    try clear hfz38_2
    try clear hfz38_3
    try clear hfz38_4
    try clear hfz40_0
    try clear hfz40_1
    try clear hfz40_2
    try clear hfz40_3
    try clear hfz40_4
    try clear hfz44_0
    try clear hfz44_1
    try clear hfz44_2
    try clear hfz44_3
    try clear hfz44_4
    try clear hfz46_0
    try clear hfz46_1
    try clear hfz46_2
    try clear hfz46_3
    try clear hfz46_4
    try clear hfz51_0
    try clear hfz51_1
    try clear hfz51_2
    try clear hfz51_3
    try clear hfz51_4
    try clear hfz53_0
    try clear hfz53_1
    try clear hfz53_2
    try clear hfz53_3
    try clear hfz53_4
    try clear hfz57_0
    try clear hfz57_1
    try clear hfz57_2
    try clear hfz57_3
    try clear hfz57_4
    try clear hfz59_0
    try clear hfz59_1
    try clear hfz59_2
    try clear hfz59_3
    try clear hfz59_4
    obtain ⟨kq, x71_10, rfl, HA, HJ10, HO_3, HO_5, HO_6, BK321, BK335, BK342, HB⟩ := hcut
    cases kq with
    | zero => exact absurd HA.out (by simp [laws_FnDirs.j0])
    | succ kj10 =>
     have H := HA.out
     clear HA
     simp only [laws_FnDirs.j0] at H
     by_cases c61 : x71_10 = true
     ·subst c61
      have H1 : (some false) = some r := by rw [if_pos rfl] at H; exact H
      clear H
      have H := H1
      clear H1
      exact absurd ((Option.some.inj H).trans HRT.out) (by decide)
     ·replace c61 := Bool.eq_false_iff.mpr c61
      subst c61
      have H1 : (laws_FnDirs.l0 kj10 t313 t323 t326 0 t316 t317 t318 t319 t320) = some r := by rw [if_neg (show ¬ (false = true) by decide)] at H; exact H
      clear H
      have H := H1
      clear H1
      have H' := Aside0.mk H
      clear H
      go_wp2
      repeat (go_quiet (fail); try go_wp2)
      go_loopg [11] kj10 (fun kq v11 w' => ∃ (x11_2 : Int), v11 = .int .i64 x11_2 ∧ Aside0 (laws_FnDirs.l0 kq t313 t323 t326 x11_2 t316 t317 t318 t319 t320 = some r) ∧ Aside0 (kq ≤ kj10) ∧ Aside0 (Kd.R k29 29 w' w.heap.size (fun k_ => some k_ ≠ ((.slice Ao20 t323.length co20) : Value).ownBlock ∧ some k_ ≠ ((.slice Ao28 t326.length co28) : Value).ownBlock ∧ k_ ≠ gb321 ∧ k_ ≠ gb335 ∧ k_ ≠ gb342) (.slice Ao15 t313.length co15) t313) ∧ Aside0 (Kd.R k29 29 w' w.heap.size (fun k_ => some k_ ≠ ((.slice Ao15 t313.length co15) : Value).ownBlock ∧ some k_ ≠ ((.slice Ao28 t326.length co28) : Value).ownBlock ∧ k_ ≠ gb321 ∧ k_ ≠ gb335 ∧ k_ ≠ gb342) (.slice Ao20 t323.length co20) t323) ∧ Aside0 (Kd.R k29 29 w' w.heap.size (fun k_ => some k_ ≠ ((.slice Ao15 t313.length co15) : Value).ownBlock ∧ some k_ ≠ ((.slice Ao20 t323.length co20) : Value).ownBlock ∧ k_ ≠ gb321 ∧ k_ ≠ gb335 ∧ k_ ≠ gb342) (.slice Ao28 t326.length co28) t326) ∧ Aside0 (w'.heap[gb321]? = some (.cells #[.string t316, .int .i64 t317, .int .i64 t318, .int .i64 t319, .int .i64 t320] 29 (0, 0))) ∧ Aside0 (w'.heap[gb335]? = some (.cells #[.string t329, .int .i64 t330, .int .i64 t331, .int .i64 t332, .int .i64 t333] 29 (0, 0))) ∧ Aside0 (w'.heap[gb342]? = some (.cells #[.string t336, .int .i64 t337, .int .i64 t338, .int .i64 t339, .int .i64 t340] 29 (0, 0))) ∧ Aside0 (Below w.heap.size w w'))
      case atStart => exact ⟨(0), rs_, H', ⟨Nat.le_refl _⟩, ⟨rr_ HO_3⟩, ⟨rr_ HO_5⟩, ⟨rr_ HO_6⟩, ⟨bk_ BK321⟩, ⟨bk_ BK335⟩, ⟨bk_ BK342⟩, ⟨by repeat (first | (with_reducible first | exact HB.out | apply below_alloc | apply pw_below_drewN | apply below_drew1 | refine below_set ?_ GE321.out | refine below_set ?_ GE335.out | refine below_set ?_ GE342.out) | exact HB.out)⟩⟩
      case round =>
       clear H'
       try clear c2
       try clear p2
       try clear c3
       try clear c4
       try clear c5
       try clear c6
       try clear p6
       try clear c25
       try clear c31
       try clear c32
       try clear c34
       try clear c35
       try clear c35b0
       try clear c36
       try clear c37
       try clear c39
       try clear c41
       try clear c42
       try clear c43
       try clear c45
       try clear c48
       try clear c49
       try clear c50
       try clear c52
       try clear c55
       try clear c56
       try clear c58
       try clear c61
       try clear hcz14_0
       try clear hcz14_1
       try clear hcz14_2
       try clear hcz14_3
       try clear hcz14_4
       try clear hcz17_0
       try clear hcz17_1
       try clear hcz17_2
       try clear hcz17_3
       try clear hcz17_4
       try clear hcz19_0
       try clear hcz19_1
       try clear hcz19_2
       try clear hcz19_3
       try clear hcz19_4
       try clear hcz22_0
       try clear hcz22_1
       try clear hcz22_2
       try clear hcz22_3
       try clear hcz22_4
       try clear hcz26_0
       try clear hcz26_1
       try clear hcz26_2
       try clear hcz26_3
       try clear hcz26_4
       try clear hcz27_0
       try clear hcz27_1
       try clear hcz27_2
       try clear hcz27_3
       try clear hcz27_4
       try clear hcz33_0
       try clear hcz33_1
       try clear hcz33_2
       try clear hcz33_3
       try clear hcz33_4
       try clear hcz38_0
       try clear hcz38_1
       try clear hcz38_2
       try clear hcz38_3
       try clear hcz38_4
       try clear hcz40_0
       try clear hcz40_1
       try clear hcz40_2
       try clear hcz40_3
       try clear hcz40_4
       try clear hcz44_0
       try clear hcz44_1
       try clear hcz44_2
       try clear hcz44_3
       try clear hcz44_4
       try clear hcz46_0
       try clear hcz46_1
       try clear hcz46_2
       try clear hcz46_3
       try clear hcz46_4
       try clear hcz51_0
       try clear hcz51_1
       try clear hcz51_2
       try clear hcz51_3
       try clear hcz51_4
       try clear hcz53_0
       try clear hcz53_1
       try clear hcz53_2
       try clear hcz53_3
       try clear hcz53_4
       try clear hcz57_0
       try clear hcz57_1
       try clear hcz57_2
       try clear hcz57_3
       try clear hcz57_4
       try clear hcz59_0
       try clear hcz59_1
       try clear hcz59_2
       try clear hcz59_3
       try clear hcz59_4
       try clear hfz14_0
       try clear hfz14_1
       try clear hfz14_2
       try clear hfz14_3
       try clear hfz14_4
       try clear hfz17_0
       try clear hfz17_1
       try clear hfz17_2
       try clear hfz17_3
       try clear hfz17_4
       try clear hfz19_0
       try clear hfz19_1
       try clear hfz19_2
       try clear hfz19_3
       try clear hfz19_4
       try clear hfz22_0
       try clear hfz22_1
       try clear hfz22_2
       try clear hfz22_3
       try clear hfz22_4
       try clear hfz26_0
       try clear hfz26_1
       try clear hfz26_2
       try clear hfz26_3
       try clear hfz26_4
       try clear hfz27_0
       try clear hfz27_1
       try clear hfz27_2
       try clear hfz27_3
       try clear hfz27_4
       try clear hfz33_0
       try clear hfz33_1
       try clear hfz33_2
       try clear hfz33_3
       try clear hfz33_4
       try clear hfz38_0
       try clear hfz38_1
       try clear hfz38_2
       try clear hfz38_3
       try clear hfz38_4
       try clear hfz40_0
       try clear hfz40_1
       try clear hfz40_2
       try clear hfz40_3
       try clear hfz40_4
       try clear hfz44_0
       try clear hfz44_1
       try clear hfz44_2
       try clear hfz44_3
       try clear hfz44_4
       try clear hfz46_0
       try clear hfz46_1
       try clear hfz46_2
       try clear hfz46_3
       try clear hfz46_4
       try clear hfz51_0
       try clear hfz51_1
       try clear hfz51_2
       try clear hfz51_3
       try clear hfz51_4
       try clear hfz53_0
       try clear hfz53_1
       try clear hfz53_2
       try clear hfz53_3
       try clear hfz53_4
       try clear hfz57_0
       try clear hfz57_1
       try clear hfz57_2
       try clear hfz57_3
       try clear hfz57_4
       try clear hfz59_0
       try clear hfz59_1
       try clear hfz59_2
       try clear hfz59_3
       try clear hfz59_4
       try clear p2
       try clear p6
       obtain ⟨x11_2, rfl, HA, HK2, HO_3, HO_5, HO_6, BK321, BK335, BK342, HB⟩ := hrel
       cases gk with
       | zero => exact absurd HA.out (by simp [laws_FnDirs.l0])
       | succ k2 =>
        have H := HA.out
        clear HA
        simp only [laws_FnDirs.l0] at H
        by_cases c62 : x11_2 < (t313.length : Int)
        ·rw [if_pos c62] at H
         have c62b0 : decide (x11_2 < (t313.length : Int)) = true := decide_eq_true c62
         clear c62
         by_cases c63 : 0 ≤ x11_2
         ·rw [if_pos c63] at H
          have c63b0 : decide (0 ≤ x11_2) = true := decide_eq_true c63
          clear c63
          replace H := Option.bind_eq_some_iff.mp H
          obtain ⟨⟨t345, t346, t347, t348, t349, t350⟩, A640, H⟩ := H
          replace H : ((impl_DirGet.f k2 t326 ((rd_T29 t313 x11_2).f0)).bind fun bt353 => (if ((rd_T29 t313 x11_2).f0).toList = t316.toList then (laws_FnDirs.j2 k2 t313 t323 t326 x11_2 false t316 t317 t318 t319 t320) else (if t350 = true then (if (!(t345.toList == (((rd_T29 t313 x11_2).f0).toList)) || (!(t346 == ((rd_T29 t313 x11_2).f1)) || (!(t347 == ((rd_T29 t313 x11_2).f2)) || (!(t348 == ((rd_T29 t313 x11_2).f3)) || (!(t349 == ((rd_T29 t313 x11_2).f4))))))) = true then (laws_FnDirs.j2 k2 t313 t323 t326 x11_2 true t316 t317 t318 t319 t320) else (if bt353.2.2.2.2.2 = true then (laws_FnDirs.j2 k2 t313 t323 t326 x11_2 (!(bt353.1.toList == (((rd_T29 t313 x11_2).f0).toList)) || (!(bt353.2.1 == ((rd_T29 t313 x11_2).f1)) || (!(bt353.2.2.1 == ((rd_T29 t313 x11_2).f2)) || (!(bt353.2.2.2.1 == ((rd_T29 t313 x11_2).f3)) || (!(bt353.2.2.2.2.1 == ((rd_T29 t313 x11_2).f4))))))) t316 t317 t318 t319 t320) else (laws_FnDirs.j2 k2 t313 t323 t326 x11_2 true t316 t317 t318 t319 t320))) else (laws_FnDirs.j2 k2 t313 t323 t326 x11_2 true t316 t317 t318 t319 t320)))) = some r := H
          have A64 := Aside0.mk A640
          clear A640
          replace H := Option.bind_eq_some_iff.mp H
          obtain ⟨⟨t353, t354, t355, t356, t357, t358⟩, A650, H⟩ := H
          replace H : (if ((rd_T29 t313 x11_2).f0).toList = t316.toList then (laws_FnDirs.j2 k2 t313 t323 t326 x11_2 false t316 t317 t318 t319 t320) else (if t350 = true then (if (!(t345.toList == (((rd_T29 t313 x11_2).f0).toList)) || (!(t346 == ((rd_T29 t313 x11_2).f1)) || (!(t347 == ((rd_T29 t313 x11_2).f2)) || (!(t348 == ((rd_T29 t313 x11_2).f3)) || (!(t349 == ((rd_T29 t313 x11_2).f4))))))) = true then (laws_FnDirs.j2 k2 t313 t323 t326 x11_2 true t316 t317 t318 t319 t320) else (if t358 = true then (laws_FnDirs.j2 k2 t313 t323 t326 x11_2 (!(t353.toList == (((rd_T29 t313 x11_2).f0).toList)) || (!(t354 == ((rd_T29 t313 x11_2).f1)) || (!(t355 == ((rd_T29 t313 x11_2).f2)) || (!(t356 == ((rd_T29 t313 x11_2).f3)) || (!(t357 == ((rd_T29 t313 x11_2).f4))))))) t316 t317 t318 t319 t320) else (laws_FnDirs.j2 k2 t313 t323 t326 x11_2 true t316 t317 t318 t319 t320))) else (laws_FnDirs.j2 k2 t313 t323 t326 x11_2 true t316 t317 t318 t319 t320))) = some r := H
          have A65 := Aside0.mk A650
          clear A650
          have HC66 := Aside0.mk H
          clear H
          have p344 : 0 ≤ (x11_2 : Int) := of_decide_eq_true as_
          have q344 : x11_2 < (t313.length : Int) := of_decide_eq_true as_
          obtain ⟨ad344, e344, hx344_0, hx344_1, hx344_2, hx344_3, hx344_4⟩ := at_T29 (Kd.R_reads' HO_3.out).2.2 x11_2 p344 q344
          cases e344
          replace p344 := eq_true p344
          replace q344 := eq_true q344
          go_upto_region 17 with (first | (go_at_call 14; (with_reducible refine (impl_DirGet.calls k2 _ _ t323 ((rd_T29 t313 x11_2).f0) t345 t346 t347 t348 t349 t350 _ ?side1 ?side2 A64.out).mono ?_); (case side1 => repeat (first | exact (Kd.R_reads' HO_5.out).2.2 | (with_reducible refine Kd.C_alloc ?_ _) | (with_reducible refine Kd.C_drewN ?_ _) | (with_reducible refine Kd.C_drew ?_))); (case side2 => exact (Kd.R_reads' HO_5.out).2.1); rintro e w67 ⟨rfl, hb⟩; replace HO_3 := rb_ HO_3 hb; replace HO_5 := rb_ HO_5 hb; replace HO_6 := rb_ HO_6 hb; replace BK321 := bb_ BK321 hb; replace BK335 := bb_ BK335 hb; replace BK342 := bb_ BK342 hb; replace HB := Aside0.mk (below_step (hv_ HB GE321 GE335 GE342) hb); (try clear hb); (try clear hb2); (try clear hk); (try clear hi)) | ((with_reducible refine gate_dst (N := 12) rfl ?_); (try (refine gate_guard (by rfl) ?_; dsimp only)); refine box_event ?hg (N := 12) ?hd (cs := #[.string (⟨#[]⟩ : ByteArray), .int .i64 0, .int .i64 0, .int .i64 0, .int .i64 0]) (t := 29) ?hr ?_; (case hd => rfl); (case hg => rfl); (case hr => first | (go_simp; done) | (go_simp; rfl)); intro gb351 hg w68 hbox hb; replace HO_3 := Aside0.mk (Kd.R_below (Kd.R_elderB (rr_ HO_3) gb351 (Nat.le_of_eq hg.symm)) hb); replace HO_5 := Aside0.mk (Kd.R_below (Kd.R_elderB (rr_ HO_5) gb351 (Nat.le_of_eq hg.symm)) hb); replace HO_6 := Aside0.mk (Kd.R_below (Kd.R_elderB (rr_ HO_6) gb351 (Nat.le_of_eq hg.symm)) hb); have BK351 := Aside0.mk (hbox); have GW351 := ge_ hg (hv_ HB GE321 GE335 GE342); have GE351 := ge_ hg (hv_ HB GE321 GE335 GE342); replace HB := Aside0.mk (below_step (hv_ HB GE321 GE335 GE342) hb); have NB321_351 := nl_ BK321 hg; have NB351_321 := ng_ BK321 hg; replace BK321 := bb_ BK321 hb; have NB335_351 := nl_ BK335 hg; have NB351_335 := ng_ BK335 hg; replace BK335 := bb_ BK335 hb; have NB342_351 := nl_ BK342 hg; have NB351_342 := ng_ BK342 hg; replace BK342 := bb_ BK342 hb; clear hb hbox hg; have hnb69 := NB351_321.out; have hnc69 := NB321_351.out; have hnb70 := NB351_335.out; have hnc70 := NB335_351.out; have hnb71 := NB351_342.out; have hnc71 := NB342_351.out; obtain ⟨hcz72_0, hcz72_1, hcz72_2, hcz72_3, hcz72_4, hfz72_0, hfz72_1, hfz72_2, hfz72_3, hfz72_4⟩ := bc5_ BK351; have p352 : 0 ≤ (x11_2 : Int) := of_decide_eq_true as_; have q352 : x11_2 < (t313.length : Int) := of_decide_eq_true as_; obtain ⟨ad352, e352, hx352_0, hx352_1, hx352_2, hx352_3, hx352_4⟩ := at_T29 (Kd.R_reads' HO_3.out).2.2 x11_2 p352 q352; obtain rfl : ad344 = ad352 := (by injection e352); have hn352_0 : ad344.block ≠ gb351 := ob_ HO_3 BK351; have hn352_1 : ad344.block ≠ gb351 := ob_ HO_3 BK351; have hn352_2 : ad344.block ≠ gb351 := ob_ HO_3 BK351; have hn352_3 : ad344.block ≠ gb351 := ob_ HO_3 BK351; have hn352_4 : ad344.block ≠ gb351 := ob_ HO_3 BK351; replace hx352_0 := (cell_far (p := ⟨gb351, 0, none⟩) (nb_ hn352_0) (.string t345)).trans hx352_0; replace hx352_1 := (cell_far (p := ⟨gb351, 0, none⟩) (nb_ hn352_0) (.string t345)).trans hx352_1; replace hx352_2 := (cell_far (p := ⟨gb351, 0, none⟩) (nb_ hn352_0) (.string t345)).trans hx352_2; replace hx352_3 := (cell_far (p := ⟨gb351, 0, none⟩) (nb_ hn352_0) (.string t345)).trans hx352_3; replace hx352_4 := (cell_far (p := ⟨gb351, 0, none⟩) (nb_ hn352_0) (.string t345)).trans hx352_4; replace hx352_0 := (cell_far (p := ⟨gb351, 1, none⟩) (nb_ hn352_1) (.int .i64 t346)).trans hx352_0; replace hx352_1 := (cell_far (p := ⟨gb351, 1, none⟩) (nb_ hn352_1) (.int .i64 t346)).trans hx352_1; replace hx352_2 := (cell_far (p := ⟨gb351, 1, none⟩) (nb_ hn352_1) (.int .i64 t346)).trans hx352_2; replace hx352_3 := (cell_far (p := ⟨gb351, 1, none⟩) (nb_ hn352_1) (.int .i64 t346)).trans hx352_3; replace hx352_4 := (cell_far (p := ⟨gb351, 1, none⟩) (nb_ hn352_1) (.int .i64 t346)).trans hx352_4; replace hx352_0 := (cell_far (p := ⟨gb351, 2, none⟩) (nb_ hn352_2) (.int .i64 t347)).trans hx352_0; replace hx352_1 := (cell_far (p := ⟨gb351, 2, none⟩) (nb_ hn352_2) (.int .i64 t347)).trans hx352_1; replace hx352_2 := (cell_far (p := ⟨gb351, 2, none⟩) (nb_ hn352_2) (.int .i64 t347)).trans hx352_2; replace hx352_3 := (cell_far (p := ⟨gb351, 2, none⟩) (nb_ hn352_2) (.int .i64 t347)).trans hx352_3; replace hx352_4 := (cell_far (p := ⟨gb351, 2, none⟩) (nb_ hn352_2) (.int .i64 t347)).trans hx352_4; replace hx352_0 := (cell_far (p := ⟨gb351, 3, none⟩) (nb_ hn352_3) (.int .i64 t348)).trans hx352_0; replace hx352_1 := (cell_far (p := ⟨gb351, 3, none⟩) (nb_ hn352_3) (.int .i64 t348)).trans hx352_1; replace hx352_2 := (cell_far (p := ⟨gb351, 3, none⟩) (nb_ hn352_3) (.int .i64 t348)).trans hx352_2; replace hx352_3 := (cell_far (p := ⟨gb351, 3, none⟩) (nb_ hn352_3) (.int .i64 t348)).trans hx352_3; replace hx352_4 := (cell_far (p := ⟨gb351, 3, none⟩) (nb_ hn352_3) (.int .i64 t348)).trans hx352_4; replace hx352_0 := (cell_far (p := ⟨gb351, 4, none⟩) (nb_ hn352_4) (.int .i64 t349)).trans hx352_0; replace hx352_1 := (cell_far (p := ⟨gb351, 4, none⟩) (nb_ hn352_4) (.int .i64 t349)).trans hx352_1; replace hx352_2 := (cell_far (p := ⟨gb351, 4, none⟩) (nb_ hn352_4) (.int .i64 t349)).trans hx352_2; replace hx352_3 := (cell_far (p := ⟨gb351, 4, none⟩) (nb_ hn352_4) (.int .i64 t349)).trans hx352_3; replace hx352_4 := (cell_far (p := ⟨gb351, 4, none⟩) (nb_ hn352_4) (.int .i64 t349)).trans hx352_4; (try have hy352_0 := fun (n_ : Nat) => (cdk5_ n_ hx352_0)); (try have hy352_1 := fun (n_ : Nat) => (cdk5_ n_ hx352_1)); (try have hy352_2 := fun (n_ : Nat) => (cdk5_ n_ hx352_2)); (try have hy352_3 := fun (n_ : Nat) => (cdk5_ n_ hx352_3)); (try have hy352_4 := fun (n_ : Nat) => (cdk5_ n_ hx352_4)); clear hn352_0; clear hn352_1; clear hn352_2; clear hn352_3; clear hn352_4; replace p352 := eq_true p352; replace q352 := eq_true q352) | (go_at_call 14; (with_reducible refine (impl_DirGet.calls k2 _ _ t326 ((rd_T29 t313 x11_2).f0) t353 t354 t355 t356 t357 t358 _ ?side1 ?side2 A65.out).mono ?_); (case side1 => refine (Kd.R_reads' (e := 29) (base := w.heap.size) (ok := fun k_ => ((some k_ ≠ (.slice (some ad344) t313.length co15 : Value).ownBlock ∧ (some k_ ≠ (.slice Ao20 t323.length co20 : Value).ownBlock ∧ (k_ ≠ gb321 ∧ (k_ ≠ gb335 ∧ k_ ≠ gb342)))) ∧ k_ ≠ gb351)) (n := t326.length) (c := co28) ?_).2.2; exact (by (with_reducible repeat (first | apply Kd.R_alloc | apply Kd.R_drewN | apply Kd.R_drew)); exact (Kd.R_mono (Kd.R_far (p := ⟨gb351, 4, none⟩) (Kd.R_far (p := ⟨gb351, 3, none⟩) (Kd.R_far (p := ⟨gb351, 2, none⟩) (Kd.R_far (p := ⟨gb351, 1, none⟩) (Kd.R_far (p := ⟨gb351, 0, none⟩) (Kd.R_mono HO_6.out (fun k_ hk => (⟨hk, hk.2⟩ : _ ∧ k_ ≠ gb351))) (fun _ hk => hk.2) (.string t345)) (fun _ hk => hk.2) (.int .i64 t346)) (fun _ hk => hk.2) (.int .i64 t347)) (fun _ hk => hk.2) (.int .i64 t348)) (fun _ hk => hk.2) (.int .i64 t349)) (fun _ h_ => h_.1)))); (case side2 => exact (Kd.R_reads' HO_6.out).2.1); rintro e w73 ⟨rfl, hb⟩; replace HO_3 := Aside0.mk (Kd.R_below (by (with_reducible repeat (first | apply Kd.R_alloc | apply Kd.R_drewN | apply Kd.R_drew)); exact (Kd.R_mono (Kd.R_far (p := ⟨gb351, 4, none⟩) (Kd.R_far (p := ⟨gb351, 3, none⟩) (Kd.R_far (p := ⟨gb351, 2, none⟩) (Kd.R_far (p := ⟨gb351, 1, none⟩) (Kd.R_far (p := ⟨gb351, 0, none⟩) (Kd.R_mono HO_3.out (fun k_ hk => (⟨hk, hk.2⟩ : _ ∧ k_ ≠ gb351))) (fun _ hk => hk.2) (.string t345)) (fun _ hk => hk.2) (.int .i64 t346)) (fun _ hk => hk.2) (.int .i64 t347)) (fun _ hk => hk.2) (.int .i64 t348)) (fun _ hk => hk.2) (.int .i64 t349)) (fun _ h_ => h_.1))) hb); replace HO_5 := Aside0.mk (Kd.R_below (by (with_reducible repeat (first | apply Kd.R_alloc | apply Kd.R_drewN | apply Kd.R_drew)); exact (Kd.R_mono (Kd.R_far (p := ⟨gb351, 4, none⟩) (Kd.R_far (p := ⟨gb351, 3, none⟩) (Kd.R_far (p := ⟨gb351, 2, none⟩) (Kd.R_far (p := ⟨gb351, 1, none⟩) (Kd.R_far (p := ⟨gb351, 0, none⟩) (Kd.R_mono HO_5.out (fun k_ hk => (⟨hk, hk.2⟩ : _ ∧ k_ ≠ gb351))) (fun _ hk => hk.2) (.string t345)) (fun _ hk => hk.2) (.int .i64 t346)) (fun _ hk => hk.2) (.int .i64 t347)) (fun _ hk => hk.2) (.int .i64 t348)) (fun _ hk => hk.2) (.int .i64 t349)) (fun _ h_ => h_.1))) hb); replace HO_6 := Aside0.mk (Kd.R_below (by (with_reducible repeat (first | apply Kd.R_alloc | apply Kd.R_drewN | apply Kd.R_drew)); exact (Kd.R_mono (Kd.R_far (p := ⟨gb351, 4, none⟩) (Kd.R_far (p := ⟨gb351, 3, none⟩) (Kd.R_far (p := ⟨gb351, 2, none⟩) (Kd.R_far (p := ⟨gb351, 1, none⟩) (Kd.R_far (p := ⟨gb351, 0, none⟩) (Kd.R_mono HO_6.out (fun k_ hk => (⟨hk, hk.2⟩ : _ ∧ k_ ≠ gb351))) (fun _ hk => hk.2) (.string t345)) (fun _ hk => hk.2) (.int .i64 t346)) (fun _ hk => hk.2) (.int .i64 t347)) (fun _ hk => hk.2) (.int .i64 t348)) (fun _ hk => hk.2) (.int .i64 t349)) (fun _ h_ => h_.1))) hb); replace BK321 := bf_ BK321 NB321_351 hb; replace BK335 := bf_ BK335 NB335_351 hb; replace BK342 := bf_ BK342 NB342_351 hb; replace BK351 := bp_ #[.string t345, .int .i64 t346, .int .i64 t347, .int .i64 t348, .int .i64 t349] BK351 hb; replace HB := Aside0.mk (below_step (hw_ HB GE321 GE335 GE342 GE351) hb); (try clear hb); (try clear hb2); (try clear hk); (try clear hi)) | ((with_reducible refine gate_dst (N := 14) rfl ?_); (try (refine gate_guard (by rfl) ?_; dsimp only)); refine box_event ?hg (N := 14) ?hd (cs := #[.string (⟨#[]⟩ : ByteArray), .int .i64 0, .int .i64 0, .int .i64 0, .int .i64 0]) (t := 29) ?hr ?_; (case hd => rfl); (case hg => rfl); (case hr => first | (go_simp; done) | (go_simp; rfl)); intro gb359 hg w74 hbox hb; replace HO_3 := Aside0.mk (Kd.R_below (Kd.R_elderB (rr_ HO_3) gb359 (Nat.le_of_eq hg.symm)) hb); replace HO_5 := Aside0.mk (Kd.R_below (Kd.R_elderB (rr_ HO_5) gb359 (Nat.le_of_eq hg.symm)) hb); replace HO_6 := Aside0.mk (Kd.R_below (Kd.R_elderB (rr_ HO_6) gb359 (Nat.le_of_eq hg.symm)) hb); have BK359 := Aside0.mk (hbox); have GW359 := ge_ hg (hw_ HB GE321 GE335 GE342 GE351); have GE359 := ge_ hg (hw_ HB GE321 GE335 GE342 GE351); replace HB := Aside0.mk (below_step (hw_ HB GE321 GE335 GE342 GE351) hb); have NB321_359 := nl_ BK321 hg; have NB359_321 := ng_ BK321 hg; replace BK321 := bb_ BK321 hb; have NB335_359 := nl_ BK335 hg; have NB359_335 := ng_ BK335 hg; replace BK335 := bb_ BK335 hb; have NB342_359 := nl_ BK342 hg; have NB359_342 := ng_ BK342 hg; replace BK342 := bb_ BK342 hb; have NB351_359 := nl_ BK351 hg; have NB359_351 := ng_ BK351 hg; replace BK351 := bb_ BK351 hb; clear hb hbox hg; have hnb75 := NB359_321.out; have hnc75 := NB321_359.out; have hnb76 := NB359_335.out; have hnc76 := NB335_359.out; have hnb77 := NB359_342.out; have hnc77 := NB342_359.out; have hnb78 := NB359_351.out; have hnc78 := NB351_359.out; obtain ⟨hcz79_0, hcz79_1, hcz79_2, hcz79_3, hcz79_4, hfz79_0, hfz79_1, hfz79_2, hfz79_3, hfz79_4⟩ := bc5_ BK359))
          repeat (go_quiet (first | (go_at_call 14; (with_reducible refine (impl_DirGet.calls k2 _ _ t323 ((rd_T29 t313 x11_2).f0) t345 t346 t347 t348 t349 t350 _ ?side1 ?side2 A64.out).mono ?_); (case side1 => repeat (first | exact (Kd.R_reads' HO_5.out).2.2 | (with_reducible refine Kd.C_alloc ?_ _) | (with_reducible refine Kd.C_drewN ?_ _) | (with_reducible refine Kd.C_drew ?_))); (case side2 => exact (Kd.R_reads' HO_5.out).2.1); rintro e w67 ⟨rfl, hb⟩; replace HO_3 := rb_ HO_3 hb; replace HO_5 := rb_ HO_5 hb; replace HO_6 := rb_ HO_6 hb; replace BK321 := bb_ BK321 hb; replace BK335 := bb_ BK335 hb; replace BK342 := bb_ BK342 hb; replace HB := Aside0.mk (below_step (hv_ HB GE321 GE335 GE342) hb); (try clear hb); (try clear hb2); (try clear hk); (try clear hi)) | ((with_reducible refine gate_dst (N := 12) rfl ?_); (try (refine gate_guard (by rfl) ?_; dsimp only)); refine box_event ?hg (N := 12) ?hd (cs := #[.string (⟨#[]⟩ : ByteArray), .int .i64 0, .int .i64 0, .int .i64 0, .int .i64 0]) (t := 29) ?hr ?_; (case hd => rfl); (case hg => rfl); (case hr => first | (go_simp; done) | (go_simp; rfl)); intro gb351 hg w68 hbox hb; replace HO_3 := Aside0.mk (Kd.R_below (Kd.R_elderB (rr_ HO_3) gb351 (Nat.le_of_eq hg.symm)) hb); replace HO_5 := Aside0.mk (Kd.R_below (Kd.R_elderB (rr_ HO_5) gb351 (Nat.le_of_eq hg.symm)) hb); replace HO_6 := Aside0.mk (Kd.R_below (Kd.R_elderB (rr_ HO_6) gb351 (Nat.le_of_eq hg.symm)) hb); have BK351 := Aside0.mk (hbox); have GW351 := ge_ hg (hv_ HB GE321 GE335 GE342); have GE351 := ge_ hg (hv_ HB GE321 GE335 GE342); replace HB := Aside0.mk (below_step (hv_ HB GE321 GE335 GE342) hb); have NB321_351 := nl_ BK321 hg; have NB351_321 := ng_ BK321 hg; replace BK321 := bb_ BK321 hb; have NB335_351 := nl_ BK335 hg; have NB351_335 := ng_ BK335 hg; replace BK335 := bb_ BK335 hb; have NB342_351 := nl_ BK342 hg; have NB351_342 := ng_ BK342 hg; replace BK342 := bb_ BK342 hb; clear hb hbox hg; have hnb69 := NB351_321.out; have hnc69 := NB321_351.out; have hnb70 := NB351_335.out; have hnc70 := NB335_351.out; have hnb71 := NB351_342.out; have hnc71 := NB342_351.out; obtain ⟨hcz72_0, hcz72_1, hcz72_2, hcz72_3, hcz72_4, hfz72_0, hfz72_1, hfz72_2, hfz72_3, hfz72_4⟩ := bc5_ BK351; have p352 : 0 ≤ (x11_2 : Int) := of_decide_eq_true as_; have q352 : x11_2 < (t313.length : Int) := of_decide_eq_true as_; obtain ⟨ad352, e352, hx352_0, hx352_1, hx352_2, hx352_3, hx352_4⟩ := at_T29 (Kd.R_reads' HO_3.out).2.2 x11_2 p352 q352; obtain rfl : ad344 = ad352 := (by injection e352); have hn352_0 : ad344.block ≠ gb351 := ob_ HO_3 BK351; have hn352_1 : ad344.block ≠ gb351 := ob_ HO_3 BK351; have hn352_2 : ad344.block ≠ gb351 := ob_ HO_3 BK351; have hn352_3 : ad344.block ≠ gb351 := ob_ HO_3 BK351; have hn352_4 : ad344.block ≠ gb351 := ob_ HO_3 BK351; replace hx352_0 := (cell_far (p := ⟨gb351, 0, none⟩) (nb_ hn352_0) (.string t345)).trans hx352_0; replace hx352_1 := (cell_far (p := ⟨gb351, 0, none⟩) (nb_ hn352_0) (.string t345)).trans hx352_1; replace hx352_2 := (cell_far (p := ⟨gb351, 0, none⟩) (nb_ hn352_0) (.string t345)).trans hx352_2; replace hx352_3 := (cell_far (p := ⟨gb351, 0, none⟩) (nb_ hn352_0) (.string t345)).trans hx352_3; replace hx352_4 := (cell_far (p := ⟨gb351, 0, none⟩) (nb_ hn352_0) (.string t345)).trans hx352_4; replace hx352_0 := (cell_far (p := ⟨gb351, 1, none⟩) (nb_ hn352_1) (.int .i64 t346)).trans hx352_0; replace hx352_1 := (cell_far (p := ⟨gb351, 1, none⟩) (nb_ hn352_1) (.int .i64 t346)).trans hx352_1; replace hx352_2 := (cell_far (p := ⟨gb351, 1, none⟩) (nb_ hn352_1) (.int .i64 t346)).trans hx352_2; replace hx352_3 := (cell_far (p := ⟨gb351, 1, none⟩) (nb_ hn352_1) (.int .i64 t346)).trans hx352_3; replace hx352_4 := (cell_far (p := ⟨gb351, 1, none⟩) (nb_ hn352_1) (.int .i64 t346)).trans hx352_4; replace hx352_0 := (cell_far (p := ⟨gb351, 2, none⟩) (nb_ hn352_2) (.int .i64 t347)).trans hx352_0; replace hx352_1 := (cell_far (p := ⟨gb351, 2, none⟩) (nb_ hn352_2) (.int .i64 t347)).trans hx352_1; replace hx352_2 := (cell_far (p := ⟨gb351, 2, none⟩) (nb_ hn352_2) (.int .i64 t347)).trans hx352_2; replace hx352_3 := (cell_far (p := ⟨gb351, 2, none⟩) (nb_ hn352_2) (.int .i64 t347)).trans hx352_3; replace hx352_4 := (cell_far (p := ⟨gb351, 2, none⟩) (nb_ hn352_2) (.int .i64 t347)).trans hx352_4; replace hx352_0 := (cell_far (p := ⟨gb351, 3, none⟩) (nb_ hn352_3) (.int .i64 t348)).trans hx352_0; replace hx352_1 := (cell_far (p := ⟨gb351, 3, none⟩) (nb_ hn352_3) (.int .i64 t348)).trans hx352_1; replace hx352_2 := (cell_far (p := ⟨gb351, 3, none⟩) (nb_ hn352_3) (.int .i64 t348)).trans hx352_2; replace hx352_3 := (cell_far (p := ⟨gb351, 3, none⟩) (nb_ hn352_3) (.int .i64 t348)).trans hx352_3; replace hx352_4 := (cell_far (p := ⟨gb351, 3, none⟩) (nb_ hn352_3) (.int .i64 t348)).trans hx352_4; replace hx352_0 := (cell_far (p := ⟨gb351, 4, none⟩) (nb_ hn352_4) (.int .i64 t349)).trans hx352_0; replace hx352_1 := (cell_far (p := ⟨gb351, 4, none⟩) (nb_ hn352_4) (.int .i64 t349)).trans hx352_1; replace hx352_2 := (cell_far (p := ⟨gb351, 4, none⟩) (nb_ hn352_4) (.int .i64 t349)).trans hx352_2; replace hx352_3 := (cell_far (p := ⟨gb351, 4, none⟩) (nb_ hn352_4) (.int .i64 t349)).trans hx352_3; replace hx352_4 := (cell_far (p := ⟨gb351, 4, none⟩) (nb_ hn352_4) (.int .i64 t349)).trans hx352_4; (try have hy352_0 := fun (n_ : Nat) => (cdk5_ n_ hx352_0)); (try have hy352_1 := fun (n_ : Nat) => (cdk5_ n_ hx352_1)); (try have hy352_2 := fun (n_ : Nat) => (cdk5_ n_ hx352_2)); (try have hy352_3 := fun (n_ : Nat) => (cdk5_ n_ hx352_3)); (try have hy352_4 := fun (n_ : Nat) => (cdk5_ n_ hx352_4)); clear hn352_0; clear hn352_1; clear hn352_2; clear hn352_3; clear hn352_4; replace p352 := eq_true p352; replace q352 := eq_true q352) | (go_at_call 14; (with_reducible refine (impl_DirGet.calls k2 _ _ t326 ((rd_T29 t313 x11_2).f0) t353 t354 t355 t356 t357 t358 _ ?side1 ?side2 A65.out).mono ?_); (case side1 => refine (Kd.R_reads' (e := 29) (base := w.heap.size) (ok := fun k_ => ((some k_ ≠ (.slice (some ad344) t313.length co15 : Value).ownBlock ∧ (some k_ ≠ (.slice Ao20 t323.length co20 : Value).ownBlock ∧ (k_ ≠ gb321 ∧ (k_ ≠ gb335 ∧ k_ ≠ gb342)))) ∧ k_ ≠ gb351)) (n := t326.length) (c := co28) ?_).2.2; exact (by (with_reducible repeat (first | apply Kd.R_alloc | apply Kd.R_drewN | apply Kd.R_drew)); exact (Kd.R_mono (Kd.R_far (p := ⟨gb351, 4, none⟩) (Kd.R_far (p := ⟨gb351, 3, none⟩) (Kd.R_far (p := ⟨gb351, 2, none⟩) (Kd.R_far (p := ⟨gb351, 1, none⟩) (Kd.R_far (p := ⟨gb351, 0, none⟩) (Kd.R_mono HO_6.out (fun k_ hk => (⟨hk, hk.2⟩ : _ ∧ k_ ≠ gb351))) (fun _ hk => hk.2) (.string t345)) (fun _ hk => hk.2) (.int .i64 t346)) (fun _ hk => hk.2) (.int .i64 t347)) (fun _ hk => hk.2) (.int .i64 t348)) (fun _ hk => hk.2) (.int .i64 t349)) (fun _ h_ => h_.1)))); (case side2 => exact (Kd.R_reads' HO_6.out).2.1); rintro e w73 ⟨rfl, hb⟩; replace HO_3 := Aside0.mk (Kd.R_below (by (with_reducible repeat (first | apply Kd.R_alloc | apply Kd.R_drewN | apply Kd.R_drew)); exact (Kd.R_mono (Kd.R_far (p := ⟨gb351, 4, none⟩) (Kd.R_far (p := ⟨gb351, 3, none⟩) (Kd.R_far (p := ⟨gb351, 2, none⟩) (Kd.R_far (p := ⟨gb351, 1, none⟩) (Kd.R_far (p := ⟨gb351, 0, none⟩) (Kd.R_mono HO_3.out (fun k_ hk => (⟨hk, hk.2⟩ : _ ∧ k_ ≠ gb351))) (fun _ hk => hk.2) (.string t345)) (fun _ hk => hk.2) (.int .i64 t346)) (fun _ hk => hk.2) (.int .i64 t347)) (fun _ hk => hk.2) (.int .i64 t348)) (fun _ hk => hk.2) (.int .i64 t349)) (fun _ h_ => h_.1))) hb); replace HO_5 := Aside0.mk (Kd.R_below (by (with_reducible repeat (first | apply Kd.R_alloc | apply Kd.R_drewN | apply Kd.R_drew)); exact (Kd.R_mono (Kd.R_far (p := ⟨gb351, 4, none⟩) (Kd.R_far (p := ⟨gb351, 3, none⟩) (Kd.R_far (p := ⟨gb351, 2, none⟩) (Kd.R_far (p := ⟨gb351, 1, none⟩) (Kd.R_far (p := ⟨gb351, 0, none⟩) (Kd.R_mono HO_5.out (fun k_ hk => (⟨hk, hk.2⟩ : _ ∧ k_ ≠ gb351))) (fun _ hk => hk.2) (.string t345)) (fun _ hk => hk.2) (.int .i64 t346)) (fun _ hk => hk.2) (.int .i64 t347)) (fun _ hk => hk.2) (.int .i64 t348)) (fun _ hk => hk.2) (.int .i64 t349)) (fun _ h_ => h_.1))) hb); replace HO_6 := Aside0.mk (Kd.R_below (by (with_reducible repeat (first | apply Kd.R_alloc | apply Kd.R_drewN | apply Kd.R_drew)); exact (Kd.R_mono (Kd.R_far (p := ⟨gb351, 4, none⟩) (Kd.R_far (p := ⟨gb351, 3, none⟩) (Kd.R_far (p := ⟨gb351, 2, none⟩) (Kd.R_far (p := ⟨gb351, 1, none⟩) (Kd.R_far (p := ⟨gb351, 0, none⟩) (Kd.R_mono HO_6.out (fun k_ hk => (⟨hk, hk.2⟩ : _ ∧ k_ ≠ gb351))) (fun _ hk => hk.2) (.string t345)) (fun _ hk => hk.2) (.int .i64 t346)) (fun _ hk => hk.2) (.int .i64 t347)) (fun _ hk => hk.2) (.int .i64 t348)) (fun _ hk => hk.2) (.int .i64 t349)) (fun _ h_ => h_.1))) hb); replace BK321 := bf_ BK321 NB321_351 hb; replace BK335 := bf_ BK335 NB335_351 hb; replace BK342 := bf_ BK342 NB342_351 hb; replace BK351 := bp_ #[.string t345, .int .i64 t346, .int .i64 t347, .int .i64 t348, .int .i64 t349] BK351 hb; replace HB := Aside0.mk (below_step (hw_ HB GE321 GE335 GE342 GE351) hb); (try clear hb); (try clear hb2); (try clear hk); (try clear hi)) | ((with_reducible refine gate_dst (N := 14) rfl ?_); (try (refine gate_guard (by rfl) ?_; dsimp only)); refine box_event ?hg (N := 14) ?hd (cs := #[.string (⟨#[]⟩ : ByteArray), .int .i64 0, .int .i64 0, .int .i64 0, .int .i64 0]) (t := 29) ?hr ?_; (case hd => rfl); (case hg => rfl); (case hr => first | (go_simp; done) | (go_simp; rfl)); intro gb359 hg w74 hbox hb; replace HO_3 := Aside0.mk (Kd.R_below (Kd.R_elderB (rr_ HO_3) gb359 (Nat.le_of_eq hg.symm)) hb); replace HO_5 := Aside0.mk (Kd.R_below (Kd.R_elderB (rr_ HO_5) gb359 (Nat.le_of_eq hg.symm)) hb); replace HO_6 := Aside0.mk (Kd.R_below (Kd.R_elderB (rr_ HO_6) gb359 (Nat.le_of_eq hg.symm)) hb); have BK359 := Aside0.mk (hbox); have GW359 := ge_ hg (hw_ HB GE321 GE335 GE342 GE351); have GE359 := ge_ hg (hw_ HB GE321 GE335 GE342 GE351); replace HB := Aside0.mk (below_step (hw_ HB GE321 GE335 GE342 GE351) hb); have NB321_359 := nl_ BK321 hg; have NB359_321 := ng_ BK321 hg; replace BK321 := bb_ BK321 hb; have NB335_359 := nl_ BK335 hg; have NB359_335 := ng_ BK335 hg; replace BK335 := bb_ BK335 hb; have NB342_359 := nl_ BK342 hg; have NB359_342 := ng_ BK342 hg; replace BK342 := bb_ BK342 hb; have NB351_359 := nl_ BK351 hg; have NB359_351 := ng_ BK351 hg; replace BK351 := bb_ BK351 hb; clear hb hbox hg; have hnb75 := NB359_321.out; have hnc75 := NB321_359.out; have hnb76 := NB359_335.out; have hnc76 := NB335_359.out; have hnb77 := NB359_342.out; have hnc77 := NB342_359.out; have hnb78 := NB359_351.out; have hnc78 := NB351_359.out; obtain ⟨hcz79_0, hcz79_1, hcz79_2, hcz79_3, hcz79_4, hfz79_0, hfz79_1, hfz79_2, hfz79_3, hfz79_4⟩ := bc5_ BK359)); go_upto_region 17 with (first | (go_at_call 14; (with_reducible refine (impl_DirGet.calls k2 _ _ t323 ((rd_T29 t313 x11_2).f0) t345 t346 t347 t348 t349 t350 _ ?side1 ?side2 A64.out).mono ?_); (case side1 => repeat (first | exact (Kd.R_reads' HO_5.out).2.2 | (with_reducible refine Kd.C_alloc ?_ _) | (with_reducible refine Kd.C_drewN ?_ _) | (with_reducible refine Kd.C_drew ?_))); (case side2 => exact (Kd.R_reads' HO_5.out).2.1); rintro e w67 ⟨rfl, hb⟩; replace HO_3 := rb_ HO_3 hb; replace HO_5 := rb_ HO_5 hb; replace HO_6 := rb_ HO_6 hb; replace BK321 := bb_ BK321 hb; replace BK335 := bb_ BK335 hb; replace BK342 := bb_ BK342 hb; replace HB := Aside0.mk (below_step (hv_ HB GE321 GE335 GE342) hb); (try clear hb); (try clear hb2); (try clear hk); (try clear hi)) | ((with_reducible refine gate_dst (N := 12) rfl ?_); (try (refine gate_guard (by rfl) ?_; dsimp only)); refine box_event ?hg (N := 12) ?hd (cs := #[.string (⟨#[]⟩ : ByteArray), .int .i64 0, .int .i64 0, .int .i64 0, .int .i64 0]) (t := 29) ?hr ?_; (case hd => rfl); (case hg => rfl); (case hr => first | (go_simp; done) | (go_simp; rfl)); intro gb351 hg w68 hbox hb; replace HO_3 := Aside0.mk (Kd.R_below (Kd.R_elderB (rr_ HO_3) gb351 (Nat.le_of_eq hg.symm)) hb); replace HO_5 := Aside0.mk (Kd.R_below (Kd.R_elderB (rr_ HO_5) gb351 (Nat.le_of_eq hg.symm)) hb); replace HO_6 := Aside0.mk (Kd.R_below (Kd.R_elderB (rr_ HO_6) gb351 (Nat.le_of_eq hg.symm)) hb); have BK351 := Aside0.mk (hbox); have GW351 := ge_ hg (hv_ HB GE321 GE335 GE342); have GE351 := ge_ hg (hv_ HB GE321 GE335 GE342); replace HB := Aside0.mk (below_step (hv_ HB GE321 GE335 GE342) hb); have NB321_351 := nl_ BK321 hg; have NB351_321 := ng_ BK321 hg; replace BK321 := bb_ BK321 hb; have NB335_351 := nl_ BK335 hg; have NB351_335 := ng_ BK335 hg; replace BK335 := bb_ BK335 hb; have NB342_351 := nl_ BK342 hg; have NB351_342 := ng_ BK342 hg; replace BK342 := bb_ BK342 hb; clear hb hbox hg; have hnb69 := NB351_321.out; have hnc69 := NB321_351.out; have hnb70 := NB351_335.out; have hnc70 := NB335_351.out; have hnb71 := NB351_342.out; have hnc71 := NB342_351.out; obtain ⟨hcz72_0, hcz72_1, hcz72_2, hcz72_3, hcz72_4, hfz72_0, hfz72_1, hfz72_2, hfz72_3, hfz72_4⟩ := bc5_ BK351; have p352 : 0 ≤ (x11_2 : Int) := of_decide_eq_true as_; have q352 : x11_2 < (t313.length : Int) := of_decide_eq_true as_; obtain ⟨ad352, e352, hx352_0, hx352_1, hx352_2, hx352_3, hx352_4⟩ := at_T29 (Kd.R_reads' HO_3.out).2.2 x11_2 p352 q352; obtain rfl : ad344 = ad352 := (by injection e352); have hn352_0 : ad344.block ≠ gb351 := ob_ HO_3 BK351; have hn352_1 : ad344.block ≠ gb351 := ob_ HO_3 BK351; have hn352_2 : ad344.block ≠ gb351 := ob_ HO_3 BK351; have hn352_3 : ad344.block ≠ gb351 := ob_ HO_3 BK351; have hn352_4 : ad344.block ≠ gb351 := ob_ HO_3 BK351; replace hx352_0 := (cell_far (p := ⟨gb351, 0, none⟩) (nb_ hn352_0) (.string t345)).trans hx352_0; replace hx352_1 := (cell_far (p := ⟨gb351, 0, none⟩) (nb_ hn352_0) (.string t345)).trans hx352_1; replace hx352_2 := (cell_far (p := ⟨gb351, 0, none⟩) (nb_ hn352_0) (.string t345)).trans hx352_2; replace hx352_3 := (cell_far (p := ⟨gb351, 0, none⟩) (nb_ hn352_0) (.string t345)).trans hx352_3; replace hx352_4 := (cell_far (p := ⟨gb351, 0, none⟩) (nb_ hn352_0) (.string t345)).trans hx352_4; replace hx352_0 := (cell_far (p := ⟨gb351, 1, none⟩) (nb_ hn352_1) (.int .i64 t346)).trans hx352_0; replace hx352_1 := (cell_far (p := ⟨gb351, 1, none⟩) (nb_ hn352_1) (.int .i64 t346)).trans hx352_1; replace hx352_2 := (cell_far (p := ⟨gb351, 1, none⟩) (nb_ hn352_1) (.int .i64 t346)).trans hx352_2; replace hx352_3 := (cell_far (p := ⟨gb351, 1, none⟩) (nb_ hn352_1) (.int .i64 t346)).trans hx352_3; replace hx352_4 := (cell_far (p := ⟨gb351, 1, none⟩) (nb_ hn352_1) (.int .i64 t346)).trans hx352_4; replace hx352_0 := (cell_far (p := ⟨gb351, 2, none⟩) (nb_ hn352_2) (.int .i64 t347)).trans hx352_0; replace hx352_1 := (cell_far (p := ⟨gb351, 2, none⟩) (nb_ hn352_2) (.int .i64 t347)).trans hx352_1; replace hx352_2 := (cell_far (p := ⟨gb351, 2, none⟩) (nb_ hn352_2) (.int .i64 t347)).trans hx352_2; replace hx352_3 := (cell_far (p := ⟨gb351, 2, none⟩) (nb_ hn352_2) (.int .i64 t347)).trans hx352_3; replace hx352_4 := (cell_far (p := ⟨gb351, 2, none⟩) (nb_ hn352_2) (.int .i64 t347)).trans hx352_4; replace hx352_0 := (cell_far (p := ⟨gb351, 3, none⟩) (nb_ hn352_3) (.int .i64 t348)).trans hx352_0; replace hx352_1 := (cell_far (p := ⟨gb351, 3, none⟩) (nb_ hn352_3) (.int .i64 t348)).trans hx352_1; replace hx352_2 := (cell_far (p := ⟨gb351, 3, none⟩) (nb_ hn352_3) (.int .i64 t348)).trans hx352_2; replace hx352_3 := (cell_far (p := ⟨gb351, 3, none⟩) (nb_ hn352_3) (.int .i64 t348)).trans hx352_3; replace hx352_4 := (cell_far (p := ⟨gb351, 3, none⟩) (nb_ hn352_3) (.int .i64 t348)).trans hx352_4; replace hx352_0 := (cell_far (p := ⟨gb351, 4, none⟩) (nb_ hn352_4) (.int .i64 t349)).trans hx352_0; replace hx352_1 := (cell_far (p := ⟨gb351, 4, none⟩) (nb_ hn352_4) (.int .i64 t349)).trans hx352_1; replace hx352_2 := (cell_far (p := ⟨gb351, 4, none⟩) (nb_ hn352_4) (.int .i64 t349)).trans hx352_2; replace hx352_3 := (cell_far (p := ⟨gb351, 4, none⟩) (nb_ hn352_4) (.int .i64 t349)).trans hx352_3; replace hx352_4 := (cell_far (p := ⟨gb351, 4, none⟩) (nb_ hn352_4) (.int .i64 t349)).trans hx352_4; (try have hy352_0 := fun (n_ : Nat) => (cdk5_ n_ hx352_0)); (try have hy352_1 := fun (n_ : Nat) => (cdk5_ n_ hx352_1)); (try have hy352_2 := fun (n_ : Nat) => (cdk5_ n_ hx352_2)); (try have hy352_3 := fun (n_ : Nat) => (cdk5_ n_ hx352_3)); (try have hy352_4 := fun (n_ : Nat) => (cdk5_ n_ hx352_4)); clear hn352_0; clear hn352_1; clear hn352_2; clear hn352_3; clear hn352_4; replace p352 := eq_true p352; replace q352 := eq_true q352) | (go_at_call 14; (with_reducible refine (impl_DirGet.calls k2 _ _ t326 ((rd_T29 t313 x11_2).f0) t353 t354 t355 t356 t357 t358 _ ?side1 ?side2 A65.out).mono ?_); (case side1 => refine (Kd.R_reads' (e := 29) (base := w.heap.size) (ok := fun k_ => ((some k_ ≠ (.slice (some ad344) t313.length co15 : Value).ownBlock ∧ (some k_ ≠ (.slice Ao20 t323.length co20 : Value).ownBlock ∧ (k_ ≠ gb321 ∧ (k_ ≠ gb335 ∧ k_ ≠ gb342)))) ∧ k_ ≠ gb351)) (n := t326.length) (c := co28) ?_).2.2; exact (by (with_reducible repeat (first | apply Kd.R_alloc | apply Kd.R_drewN | apply Kd.R_drew)); exact (Kd.R_mono (Kd.R_far (p := ⟨gb351, 4, none⟩) (Kd.R_far (p := ⟨gb351, 3, none⟩) (Kd.R_far (p := ⟨gb351, 2, none⟩) (Kd.R_far (p := ⟨gb351, 1, none⟩) (Kd.R_far (p := ⟨gb351, 0, none⟩) (Kd.R_mono HO_6.out (fun k_ hk => (⟨hk, hk.2⟩ : _ ∧ k_ ≠ gb351))) (fun _ hk => hk.2) (.string t345)) (fun _ hk => hk.2) (.int .i64 t346)) (fun _ hk => hk.2) (.int .i64 t347)) (fun _ hk => hk.2) (.int .i64 t348)) (fun _ hk => hk.2) (.int .i64 t349)) (fun _ h_ => h_.1)))); (case side2 => exact (Kd.R_reads' HO_6.out).2.1); rintro e w73 ⟨rfl, hb⟩; replace HO_3 := Aside0.mk (Kd.R_below (by (with_reducible repeat (first | apply Kd.R_alloc | apply Kd.R_drewN | apply Kd.R_drew)); exact (Kd.R_mono (Kd.R_far (p := ⟨gb351, 4, none⟩) (Kd.R_far (p := ⟨gb351, 3, none⟩) (Kd.R_far (p := ⟨gb351, 2, none⟩) (Kd.R_far (p := ⟨gb351, 1, none⟩) (Kd.R_far (p := ⟨gb351, 0, none⟩) (Kd.R_mono HO_3.out (fun k_ hk => (⟨hk, hk.2⟩ : _ ∧ k_ ≠ gb351))) (fun _ hk => hk.2) (.string t345)) (fun _ hk => hk.2) (.int .i64 t346)) (fun _ hk => hk.2) (.int .i64 t347)) (fun _ hk => hk.2) (.int .i64 t348)) (fun _ hk => hk.2) (.int .i64 t349)) (fun _ h_ => h_.1))) hb); replace HO_5 := Aside0.mk (Kd.R_below (by (with_reducible repeat (first | apply Kd.R_alloc | apply Kd.R_drewN | apply Kd.R_drew)); exact (Kd.R_mono (Kd.R_far (p := ⟨gb351, 4, none⟩) (Kd.R_far (p := ⟨gb351, 3, none⟩) (Kd.R_far (p := ⟨gb351, 2, none⟩) (Kd.R_far (p := ⟨gb351, 1, none⟩) (Kd.R_far (p := ⟨gb351, 0, none⟩) (Kd.R_mono HO_5.out (fun k_ hk => (⟨hk, hk.2⟩ : _ ∧ k_ ≠ gb351))) (fun _ hk => hk.2) (.string t345)) (fun _ hk => hk.2) (.int .i64 t346)) (fun _ hk => hk.2) (.int .i64 t347)) (fun _ hk => hk.2) (.int .i64 t348)) (fun _ hk => hk.2) (.int .i64 t349)) (fun _ h_ => h_.1))) hb); replace HO_6 := Aside0.mk (Kd.R_below (by (with_reducible repeat (first | apply Kd.R_alloc | apply Kd.R_drewN | apply Kd.R_drew)); exact (Kd.R_mono (Kd.R_far (p := ⟨gb351, 4, none⟩) (Kd.R_far (p := ⟨gb351, 3, none⟩) (Kd.R_far (p := ⟨gb351, 2, none⟩) (Kd.R_far (p := ⟨gb351, 1, none⟩) (Kd.R_far (p := ⟨gb351, 0, none⟩) (Kd.R_mono HO_6.out (fun k_ hk => (⟨hk, hk.2⟩ : _ ∧ k_ ≠ gb351))) (fun _ hk => hk.2) (.string t345)) (fun _ hk => hk.2) (.int .i64 t346)) (fun _ hk => hk.2) (.int .i64 t347)) (fun _ hk => hk.2) (.int .i64 t348)) (fun _ hk => hk.2) (.int .i64 t349)) (fun _ h_ => h_.1))) hb); replace BK321 := bf_ BK321 NB321_351 hb; replace BK335 := bf_ BK335 NB335_351 hb; replace BK342 := bf_ BK342 NB342_351 hb; replace BK351 := bp_ #[.string t345, .int .i64 t346, .int .i64 t347, .int .i64 t348, .int .i64 t349] BK351 hb; replace HB := Aside0.mk (below_step (hw_ HB GE321 GE335 GE342 GE351) hb); (try clear hb); (try clear hb2); (try clear hk); (try clear hi)) | ((with_reducible refine gate_dst (N := 14) rfl ?_); (try (refine gate_guard (by rfl) ?_; dsimp only)); refine box_event ?hg (N := 14) ?hd (cs := #[.string (⟨#[]⟩ : ByteArray), .int .i64 0, .int .i64 0, .int .i64 0, .int .i64 0]) (t := 29) ?hr ?_; (case hd => rfl); (case hg => rfl); (case hr => first | (go_simp; done) | (go_simp; rfl)); intro gb359 hg w74 hbox hb; replace HO_3 := Aside0.mk (Kd.R_below (Kd.R_elderB (rr_ HO_3) gb359 (Nat.le_of_eq hg.symm)) hb); replace HO_5 := Aside0.mk (Kd.R_below (Kd.R_elderB (rr_ HO_5) gb359 (Nat.le_of_eq hg.symm)) hb); replace HO_6 := Aside0.mk (Kd.R_below (Kd.R_elderB (rr_ HO_6) gb359 (Nat.le_of_eq hg.symm)) hb); have BK359 := Aside0.mk (hbox); have GW359 := ge_ hg (hw_ HB GE321 GE335 GE342 GE351); have GE359 := ge_ hg (hw_ HB GE321 GE335 GE342 GE351); replace HB := Aside0.mk (below_step (hw_ HB GE321 GE335 GE342 GE351) hb); have NB321_359 := nl_ BK321 hg; have NB359_321 := ng_ BK321 hg; replace BK321 := bb_ BK321 hb; have NB335_359 := nl_ BK335 hg; have NB359_335 := ng_ BK335 hg; replace BK335 := bb_ BK335 hb; have NB342_359 := nl_ BK342 hg; have NB359_342 := ng_ BK342 hg; replace BK342 := bb_ BK342 hb; have NB351_359 := nl_ BK351 hg; have NB359_351 := ng_ BK351 hg; replace BK351 := bb_ BK351 hb; clear hb hbox hg; have hnb75 := NB359_321.out; have hnc75 := NB321_359.out; have hnb76 := NB359_335.out; have hnc76 := NB335_359.out; have hnb77 := NB359_342.out; have hnc77 := NB342_359.out; have hnb78 := NB359_351.out; have hnc78 := NB351_359.out; obtain ⟨hcz79_0, hcz79_1, hcz79_2, hcz79_3, hcz79_4, hfz79_0, hfz79_1, hfz79_2, hfz79_3, hfz79_4⟩ := bc5_ BK359)))
          (try simp only [Act.put, la_, lz_, ls_])
          go_cut [129] (fun v129 wc => ∃ (kq : Nat) (x129_65 : Bool), v129 = .bool x129_65 ∧ Aside0 (laws_FnDirs.j2 kq t313 t323 t326 x11_2 x129_65 t316 t317 t318 t319 t320 = some r) ∧ Aside0 (kq ≤ k2) ∧ Aside0 (Kd.R k29 29 wc w.heap.size (fun k_ => some k_ ≠ ((.slice Ao20 t323.length co20) : Value).ownBlock ∧ some k_ ≠ ((.slice Ao28 t326.length co28) : Value).ownBlock ∧ k_ ≠ gb321 ∧ k_ ≠ gb335 ∧ k_ ≠ gb342 ∧ k_ ≠ gb351 ∧ k_ ≠ gb359) (.slice (some ad344) t313.length co15) t313) ∧ Aside0 (Kd.R k29 29 wc w.heap.size (fun k_ => some k_ ≠ ((.slice (some ad344) t313.length co15) : Value).ownBlock ∧ some k_ ≠ ((.slice Ao28 t326.length co28) : Value).ownBlock ∧ k_ ≠ gb321 ∧ k_ ≠ gb335 ∧ k_ ≠ gb342 ∧ k_ ≠ gb351 ∧ k_ ≠ gb359) (.slice Ao20 t323.length co20) t323) ∧ Aside0 (Kd.R k29 29 wc w.heap.size (fun k_ => some k_ ≠ ((.slice (some ad344) t313.length co15) : Value).ownBlock ∧ some k_ ≠ ((.slice Ao20 t323.length co20) : Value).ownBlock ∧ k_ ≠ gb321 ∧ k_ ≠ gb335 ∧ k_ ≠ gb342 ∧ k_ ≠ gb351 ∧ k_ ≠ gb359) (.slice Ao28 t326.length co28) t326) ∧ Aside0 (wc.heap[gb321]? = some (.cells #[.string t316, .int .i64 t317, .int .i64 t318, .int .i64 t319, .int .i64 t320] 29 (0, 0))) ∧ Aside0 (wc.heap[gb335]? = some (.cells #[.string t329, .int .i64 t330, .int .i64 t331, .int .i64 t332, .int .i64 t333] 29 (0, 0))) ∧ Aside0 (wc.heap[gb342]? = some (.cells #[.string t336, .int .i64 t337, .int .i64 t338, .int .i64 t339, .int .i64 t340] 29 (0, 0))) ∧ Aside0 (wc.heap[gb351]? = some (.cells #[.string t345, .int .i64 t346, .int .i64 t347, .int .i64 t348, .int .i64 t349] 29 (0, 0))) ∧ Aside0 (wc.heap[gb359]? = some (.cells #[.string t353, .int .i64 t354, .int .i64 t355, .int .i64 t356, .int .i64 t357] 29 (0, 0))) ∧ Aside0 (Below w.heap.size w wc))
          case first =>
           have H := HC66.out
           clear HC66
           by_cases c80 : ((rd_T29 t313 x11_2).f0).toList = t316.toList
           ·rw [if_pos c80] at H
            have c80b0 : (((rd_T29 t313 x11_2).f0).toList == t316.toList) = true := beq_iff_eq.mpr c80
            have c80b1 : (((rd_T29 t313 x11_2).f0).toList != t316.toList) = false := bne_eq_false_iff_eq.mpr c80
            clear c80
            (first | rw [c80b0] | (simp only [i64_w, i32_w]; rw [c80b0]) | skip)
            have H' := Aside0.mk H
            clear H
            have p360 : 0 ≤ (x11_2 : Int) := of_decide_eq_true as_
            have q360 : x11_2 < (t313.length : Int) := of_decide_eq_true as_
            obtain ⟨ad360, e360, hx360_0, hx360_1, hx360_2, hx360_3, hx360_4⟩ := at_T29 (Kd.R_reads' HO_3.out).2.2 x11_2 p360 q360
            obtain rfl : ad344 = ad360 := (by injection e360)
            have hn360_0 : ad344.block ≠ gb359 := ob_ HO_3 BK359
            have hn360_1 : ad344.block ≠ gb359 := ob_ HO_3 BK359
            have hn360_2 : ad344.block ≠ gb359 := ob_ HO_3 BK359
            have hn360_3 : ad344.block ≠ gb359 := ob_ HO_3 BK359
            have hn360_4 : ad344.block ≠ gb359 := ob_ HO_3 BK359
            replace hx360_0 := (cell_far (p := ⟨gb359, 0, none⟩) (nb_ hn360_0) (.string t353)).trans hx360_0
            replace hx360_1 := (cell_far (p := ⟨gb359, 0, none⟩) (nb_ hn360_0) (.string t353)).trans hx360_1
            replace hx360_2 := (cell_far (p := ⟨gb359, 0, none⟩) (nb_ hn360_0) (.string t353)).trans hx360_2
            replace hx360_3 := (cell_far (p := ⟨gb359, 0, none⟩) (nb_ hn360_0) (.string t353)).trans hx360_3
            replace hx360_4 := (cell_far (p := ⟨gb359, 0, none⟩) (nb_ hn360_0) (.string t353)).trans hx360_4
            replace hx360_0 := (cell_far (p := ⟨gb359, 1, none⟩) (nb_ hn360_1) (.int .i64 t354)).trans hx360_0
            replace hx360_1 := (cell_far (p := ⟨gb359, 1, none⟩) (nb_ hn360_1) (.int .i64 t354)).trans hx360_1
            replace hx360_2 := (cell_far (p := ⟨gb359, 1, none⟩) (nb_ hn360_1) (.int .i64 t354)).trans hx360_2
            replace hx360_3 := (cell_far (p := ⟨gb359, 1, none⟩) (nb_ hn360_1) (.int .i64 t354)).trans hx360_3
            replace hx360_4 := (cell_far (p := ⟨gb359, 1, none⟩) (nb_ hn360_1) (.int .i64 t354)).trans hx360_4
            replace hx360_0 := (cell_far (p := ⟨gb359, 2, none⟩) (nb_ hn360_2) (.int .i64 t355)).trans hx360_0
            replace hx360_1 := (cell_far (p := ⟨gb359, 2, none⟩) (nb_ hn360_2) (.int .i64 t355)).trans hx360_1
            replace hx360_2 := (cell_far (p := ⟨gb359, 2, none⟩) (nb_ hn360_2) (.int .i64 t355)).trans hx360_2
            replace hx360_3 := (cell_far (p := ⟨gb359, 2, none⟩) (nb_ hn360_2) (.int .i64 t355)).trans hx360_3
            replace hx360_4 := (cell_far (p := ⟨gb359, 2, none⟩) (nb_ hn360_2) (.int .i64 t355)).trans hx360_4
            replace hx360_0 := (cell_far (p := ⟨gb359, 3, none⟩) (nb_ hn360_3) (.int .i64 t356)).trans hx360_0
            replace hx360_1 := (cell_far (p := ⟨gb359, 3, none⟩) (nb_ hn360_3) (.int .i64 t356)).trans hx360_1
            replace hx360_2 := (cell_far (p := ⟨gb359, 3, none⟩) (nb_ hn360_3) (.int .i64 t356)).trans hx360_2
            replace hx360_3 := (cell_far (p := ⟨gb359, 3, none⟩) (nb_ hn360_3) (.int .i64 t356)).trans hx360_3
            replace hx360_4 := (cell_far (p := ⟨gb359, 3, none⟩) (nb_ hn360_3) (.int .i64 t356)).trans hx360_4
            replace hx360_0 := (cell_far (p := ⟨gb359, 4, none⟩) (nb_ hn360_4) (.int .i64 t357)).trans hx360_0
            replace hx360_1 := (cell_far (p := ⟨gb359, 4, none⟩) (nb_ hn360_4) (.int .i64 t357)).trans hx360_1
            replace hx360_2 := (cell_far (p := ⟨gb359, 4, none⟩) (nb_ hn360_4) (.int .i64 t357)).trans hx360_2
            replace hx360_3 := (cell_far (p := ⟨gb359, 4, none⟩) (nb_ hn360_4) (.int .i64 t357)).trans hx360_3
            replace hx360_4 := (cell_far (p := ⟨gb359, 4, none⟩) (nb_ hn360_4) (.int .i64 t357)).trans hx360_4
            (try have hy360_0 := fun (n_ : Nat) => (cdk5_ n_ hx360_0))
            (try have hy360_1 := fun (n_ : Nat) => (cdk5_ n_ hx360_1))
            (try have hy360_2 := fun (n_ : Nat) => (cdk5_ n_ hx360_2))
            (try have hy360_3 := fun (n_ : Nat) => (cdk5_ n_ hx360_3))
            (try have hy360_4 := fun (n_ : Nat) => (cdk5_ n_ hx360_4))
            clear hn360_0
            clear hn360_1
            clear hn360_2
            clear hn360_3
            clear hn360_4
            replace p360 := eq_true p360
            replace q360 := eq_true q360
            have hnb81 := NB321_335.out
            have hnc81 := NB335_321.out
            have hnb82 := NB321_342.out
            have hnc82 := NB342_321.out
            have hnb83 := NB321_351.out
            have hnc83 := NB351_321.out
            have hnb84 := NB321_359.out
            have hnc84 := NB359_321.out
            obtain ⟨hcz85_0, hcz85_1, hcz85_2, hcz85_3, hcz85_4, hfz85_0, hfz85_1, hfz85_2, hfz85_3, hfz85_4⟩ := bc5_ BK321
            go_wp2
            repeat (go_quiet (fail); try go_wp2)
            go_meet
            case rel => exact ⟨_, (false), rs_, H', ⟨by have := HJ10.out; have := HK2.out; first | exact Nat.le_refl _ | exact Nat.le_of_succ_le this | omega⟩, ⟨by (with_reducible repeat (first | apply Kd.R_alloc | apply Kd.R_drewN | apply Kd.R_drew)); exact Kd.R_mono (Kd.R_far (p := ⟨gb359, 4, none⟩) (Kd.R_far (p := ⟨gb359, 3, none⟩) (Kd.R_far (p := ⟨gb359, 2, none⟩) (Kd.R_far (p := ⟨gb359, 1, none⟩) (Kd.R_far (p := ⟨gb359, 0, none⟩) (Kd.R_mono HO_3.out (fun k_ hk => (⟨hk, hk.2⟩ : _ ∧ k_ ≠ gb359))) (fun _ hk => hk.2) (.string t353)) (fun _ hk => hk.2) (.int .i64 t354)) (fun _ hk => hk.2) (.int .i64 t355)) (fun _ hk => hk.2) (.int .i64 t356)) (fun _ hk => hk.2) (.int .i64 t357)) (fun _ hk => ⟨hk.1.1.1.1, ⟨hk.1.1.1.2.1, ⟨hk.1.1.1.2.2.1, ⟨hk.1.1.1.2.2.2.1, ⟨hk.1.1.1.2.2.2.2, ⟨hk.1.1.2, hk.1.2⟩⟩⟩⟩⟩⟩)⟩, ⟨by (with_reducible repeat (first | apply Kd.R_alloc | apply Kd.R_drewN | apply Kd.R_drew)); exact Kd.R_mono (Kd.R_far (p := ⟨gb359, 4, none⟩) (Kd.R_far (p := ⟨gb359, 3, none⟩) (Kd.R_far (p := ⟨gb359, 2, none⟩) (Kd.R_far (p := ⟨gb359, 1, none⟩) (Kd.R_far (p := ⟨gb359, 0, none⟩) (Kd.R_mono HO_5.out (fun k_ hk => (⟨hk, hk.2⟩ : _ ∧ k_ ≠ gb359))) (fun _ hk => hk.2) (.string t353)) (fun _ hk => hk.2) (.int .i64 t354)) (fun _ hk => hk.2) (.int .i64 t355)) (fun _ hk => hk.2) (.int .i64 t356)) (fun _ hk => hk.2) (.int .i64 t357)) (fun _ hk => ⟨hk.1.1.1.1, ⟨hk.1.1.1.2.1, ⟨hk.1.1.1.2.2.1, ⟨hk.1.1.1.2.2.2.1, ⟨hk.1.1.1.2.2.2.2, ⟨hk.1.1.2, hk.1.2⟩⟩⟩⟩⟩⟩)⟩, ⟨by (with_reducible repeat (first | apply Kd.R_alloc | apply Kd.R_drewN | apply Kd.R_drew)); exact Kd.R_mono (Kd.R_far (p := ⟨gb359, 4, none⟩) (Kd.R_far (p := ⟨gb359, 3, none⟩) (Kd.R_far (p := ⟨gb359, 2, none⟩) (Kd.R_far (p := ⟨gb359, 1, none⟩) (Kd.R_far (p := ⟨gb359, 0, none⟩) (Kd.R_mono HO_6.out (fun k_ hk => (⟨hk, hk.2⟩ : _ ∧ k_ ≠ gb359))) (fun _ hk => hk.2) (.string t353)) (fun _ hk => hk.2) (.int .i64 t354)) (fun _ hk => hk.2) (.int .i64 t355)) (fun _ hk => hk.2) (.int .i64 t356)) (fun _ hk => hk.2) (.int .i64 t357)) (fun _ hk => ⟨hk.1.1.1.1, ⟨hk.1.1.1.2.1, ⟨hk.1.1.1.2.2.1, ⟨hk.1.1.1.2.2.2.1, ⟨hk.1.1.1.2.2.2.2, ⟨hk.1.1.2, hk.1.2⟩⟩⟩⟩⟩⟩)⟩, ⟨by (with_reducible repeat (first | refine blk_drewN ?_ _ | refine blk_drew ?_ | refine blk_alloc ?_ _)); refine blk_far ?_ NB321_359.out _; (with_reducible repeat (first | refine blk_drewN ?_ _ | refine blk_drew ?_ | refine blk_alloc ?_ _)); refine blk_far ?_ NB321_359.out _; (with_reducible repeat (first | refine blk_drewN ?_ _ | refine blk_drew ?_ | refine blk_alloc ?_ _)); refine blk_far ?_ NB321_359.out _; (with_reducible repeat (first | refine blk_drewN ?_ _ | refine blk_drew ?_ | refine blk_alloc ?_ _)); refine blk_far ?_ NB321_359.out _; (with_reducible repeat (first | refine blk_drewN ?_ _ | refine blk_drew ?_ | refine blk_alloc ?_ _)); refine blk_far ?_ NB321_359.out _; (with_reducible repeat (first | refine blk_drewN ?_ _ | refine blk_drew ?_ | refine blk_alloc ?_ _)); exact BK321.out⟩, ⟨by (with_reducible repeat (first | refine blk_drewN ?_ _ | refine blk_drew ?_ | refine blk_alloc ?_ _)); refine blk_far ?_ NB335_359.out _; (with_reducible repeat (first | refine blk_drewN ?_ _ | refine blk_drew ?_ | refine blk_alloc ?_ _)); refine blk_far ?_ NB335_359.out _; (with_reducible repeat (first | refine blk_drewN ?_ _ | refine blk_drew ?_ | refine blk_alloc ?_ _)); refine blk_far ?_ NB335_359.out _; (with_reducible repeat (first | refine blk_drewN ?_ _ | refine blk_drew ?_ | refine blk_alloc ?_ _)); refine blk_far ?_ NB335_359.out _; (with_reducible repeat (first | refine blk_drewN ?_ _ | refine blk_drew ?_ | refine blk_alloc ?_ _)); refine blk_far ?_ NB335_359.out _; (with_reducible repeat (first | refine blk_drewN ?_ _ | refine blk_drew ?_ | refine blk_alloc ?_ _)); exact BK335.out⟩, ⟨by (with_reducible repeat (first | refine blk_drewN ?_ _ | refine blk_drew ?_ | refine blk_alloc ?_ _)); refine blk_far ?_ NB342_359.out _; (with_reducible repeat (first | refine blk_drewN ?_ _ | refine blk_drew ?_ | refine blk_alloc ?_ _)); refine blk_far ?_ NB342_359.out _; (with_reducible repeat (first | refine blk_drewN ?_ _ | refine blk_drew ?_ | refine blk_alloc ?_ _)); refine blk_far ?_ NB342_359.out _; (with_reducible repeat (first | refine blk_drewN ?_ _ | refine blk_drew ?_ | refine blk_alloc ?_ _)); refine blk_far ?_ NB342_359.out _; (with_reducible repeat (first | refine blk_drewN ?_ _ | refine blk_drew ?_ | refine blk_alloc ?_ _)); refine blk_far ?_ NB342_359.out _; (with_reducible repeat (first | refine blk_drewN ?_ _ | refine blk_drew ?_ | refine blk_alloc ?_ _)); exact BK342.out⟩, ⟨by (with_reducible repeat (first | refine blk_drewN ?_ _ | refine blk_drew ?_ | refine blk_alloc ?_ _)); refine blk_far ?_ NB351_359.out _; (with_reducible repeat (first | refine blk_drewN ?_ _ | refine blk_drew ?_ | refine blk_alloc ?_ _)); refine blk_far ?_ NB351_359.out _; (with_reducible repeat (first | refine blk_drewN ?_ _ | refine blk_drew ?_ | refine blk_alloc ?_ _)); refine blk_far ?_ NB351_359.out _; (with_reducible repeat (first | refine blk_drewN ?_ _ | refine blk_drew ?_ | refine blk_alloc ?_ _)); refine blk_far ?_ NB351_359.out _; (with_reducible repeat (first | refine blk_drewN ?_ _ | refine blk_drew ?_ | refine blk_alloc ?_ _)); refine blk_far ?_ NB351_359.out _; (with_reducible repeat (first | refine blk_drewN ?_ _ | refine blk_drew ?_ | refine blk_alloc ?_ _)); exact BK351.out⟩, ⟨by (with_reducible repeat (first | refine blk_drewN ?_ _ | refine blk_drew ?_ | refine blk_alloc ?_ _)); refine blk_put (cs := #[.string t353, .int .i64 t354, .int .i64 t355, .int .i64 t356, .int .i64 0]) ?_ 4 _ rfl; (with_reducible repeat (first | refine blk_drewN ?_ _ | refine blk_drew ?_ | refine blk_alloc ?_ _)); refine blk_put (cs := #[.string t353, .int .i64 t354, .int .i64 t355, .int .i64 0, .int .i64 0]) ?_ 3 _ rfl; (with_reducible repeat (first | refine blk_drewN ?_ _ | refine blk_drew ?_ | refine blk_alloc ?_ _)); refine blk_put (cs := #[.string t353, .int .i64 t354, .int .i64 0, .int .i64 0, .int .i64 0]) ?_ 2 _ rfl; (with_reducible repeat (first | refine blk_drewN ?_ _ | refine blk_drew ?_ | refine blk_alloc ?_ _)); refine blk_put (cs := #[.string t353, .int .i64 0, .int .i64 0, .int .i64 0, .int .i64 0]) ?_ 1 _ rfl; (with_reducible repeat (first | refine blk_drewN ?_ _ | refine blk_drew ?_ | refine blk_alloc ?_ _)); refine blk_put (cs := #[.string (⟨#[]⟩ : ByteArray), .int .i64 0, .int .i64 0, .int .i64 0, .int .i64 0]) ?_ 0 _ rfl; (with_reducible repeat (first | refine blk_drewN ?_ _ | refine blk_drew ?_ | refine blk_alloc ?_ _)); exact BK359.out⟩, ⟨by repeat (first | (with_reducible first | exact HB.out | apply below_alloc | apply pw_below_drewN | apply below_drew1 | refine below_set ?_ GE321.out | refine below_set ?_ GE335.out | refine below_set ?_ GE342.out | refine below_set ?_ GE351.out | refine below_set ?_ GE359.out) | exact HB.out)⟩⟩
           ·rw [if_neg c80] at H
            have c80b0 : (((rd_T29 t313 x11_2).f0).toList == t316.toList) = false := beq_eq_false_iff_ne.mpr c80
            have c80b1 : (((rd_T29 t313 x11_2).f0).toList != t316.toList) = true := bne_iff_ne.mpr c80
            (first | rw [c80b0] | (simp only [i64_w, i32_w]; rw [c80b0]) | skip)
            by_cases c86 : t350 = true
            ·subst c86
             have H1 : (if (!(t345.toList == (((rd_T29 t313 x11_2).f0).toList)) || (!(t346 == ((rd_T29 t313 x11_2).f1)) || (!(t347 == ((rd_T29 t313 x11_2).f2)) || (!(t348 == ((rd_T29 t313 x11_2).f3)) || (!(t349 == ((rd_T29 t313 x11_2).f4))))))) = true then (laws_FnDirs.j2 k2 t313 t323 t326 x11_2 true t316 t317 t318 t319 t320) else (if t358 = true then (laws_FnDirs.j2 k2 t313 t323 t326 x11_2 (!(t353.toList == (((rd_T29 t313 x11_2).f0).toList)) || (!(t354 == ((rd_T29 t313 x11_2).f1)) || (!(t355 == ((rd_T29 t313 x11_2).f2)) || (!(t356 == ((rd_T29 t313 x11_2).f3)) || (!(t357 == ((rd_T29 t313 x11_2).f4))))))) t316 t317 t318 t319 t320) else (laws_FnDirs.j2 k2 t313 t323 t326 x11_2 true t316 t317 t318 t319 t320))) = some r := by rw [if_pos rfl] at H; exact H
             clear H
             have H := H1
             clear H1
             by_cases c87 : (!(t345.toList == (((rd_T29 t313 x11_2).f0).toList)) || (!(t346 == ((rd_T29 t313 x11_2).f1)) || (!(t347 == ((rd_T29 t313 x11_2).f2)) || (!(t348 == ((rd_T29 t313 x11_2).f3)) || (!(t349 == ((rd_T29 t313 x11_2).f4))))))) = true
             ·rw [if_pos c87] at H
              have c87b0 : (!(t345.toList == (((rd_T29 t313 x11_2).f0).toList)) || (!(t346 == ((rd_T29 t313 x11_2).f1)) || (!(t347 == ((rd_T29 t313 x11_2).f2)) || (!(t348 == ((rd_T29 t313 x11_2).f3)) || (!(t349 == ((rd_T29 t313 x11_2).f4))))))) = true := c87
              clear c87
              have H' := Aside0.mk H
              clear H
              have p360 : 0 ≤ (x11_2 : Int) := of_decide_eq_true as_
              have q360 : x11_2 < (t313.length : Int) := of_decide_eq_true as_
              obtain ⟨ad360, e360, hx360_0, hx360_1, hx360_2, hx360_3, hx360_4⟩ := at_T29 (Kd.R_reads' HO_3.out).2.2 x11_2 p360 q360
              obtain rfl : ad344 = ad360 := (by injection e360)
              have hn360_0 : ad344.block ≠ gb359 := ob_ HO_3 BK359
              have hn360_1 : ad344.block ≠ gb359 := ob_ HO_3 BK359
              have hn360_2 : ad344.block ≠ gb359 := ob_ HO_3 BK359
              have hn360_3 : ad344.block ≠ gb359 := ob_ HO_3 BK359
              have hn360_4 : ad344.block ≠ gb359 := ob_ HO_3 BK359
              replace hx360_0 := (cell_far (p := ⟨gb359, 0, none⟩) (nb_ hn360_0) (.string t353)).trans hx360_0
              replace hx360_1 := (cell_far (p := ⟨gb359, 0, none⟩) (nb_ hn360_0) (.string t353)).trans hx360_1
              replace hx360_2 := (cell_far (p := ⟨gb359, 0, none⟩) (nb_ hn360_0) (.string t353)).trans hx360_2
              replace hx360_3 := (cell_far (p := ⟨gb359, 0, none⟩) (nb_ hn360_0) (.string t353)).trans hx360_3
              replace hx360_4 := (cell_far (p := ⟨gb359, 0, none⟩) (nb_ hn360_0) (.string t353)).trans hx360_4
              replace hx360_0 := (cell_far (p := ⟨gb359, 1, none⟩) (nb_ hn360_1) (.int .i64 t354)).trans hx360_0
              replace hx360_1 := (cell_far (p := ⟨gb359, 1, none⟩) (nb_ hn360_1) (.int .i64 t354)).trans hx360_1
              replace hx360_2 := (cell_far (p := ⟨gb359, 1, none⟩) (nb_ hn360_1) (.int .i64 t354)).trans hx360_2
              replace hx360_3 := (cell_far (p := ⟨gb359, 1, none⟩) (nb_ hn360_1) (.int .i64 t354)).trans hx360_3
              replace hx360_4 := (cell_far (p := ⟨gb359, 1, none⟩) (nb_ hn360_1) (.int .i64 t354)).trans hx360_4
              replace hx360_0 := (cell_far (p := ⟨gb359, 2, none⟩) (nb_ hn360_2) (.int .i64 t355)).trans hx360_0
              replace hx360_1 := (cell_far (p := ⟨gb359, 2, none⟩) (nb_ hn360_2) (.int .i64 t355)).trans hx360_1
              replace hx360_2 := (cell_far (p := ⟨gb359, 2, none⟩) (nb_ hn360_2) (.int .i64 t355)).trans hx360_2
              replace hx360_3 := (cell_far (p := ⟨gb359, 2, none⟩) (nb_ hn360_2) (.int .i64 t355)).trans hx360_3
              replace hx360_4 := (cell_far (p := ⟨gb359, 2, none⟩) (nb_ hn360_2) (.int .i64 t355)).trans hx360_4
              replace hx360_0 := (cell_far (p := ⟨gb359, 3, none⟩) (nb_ hn360_3) (.int .i64 t356)).trans hx360_0
              replace hx360_1 := (cell_far (p := ⟨gb359, 3, none⟩) (nb_ hn360_3) (.int .i64 t356)).trans hx360_1
              replace hx360_2 := (cell_far (p := ⟨gb359, 3, none⟩) (nb_ hn360_3) (.int .i64 t356)).trans hx360_2
              replace hx360_3 := (cell_far (p := ⟨gb359, 3, none⟩) (nb_ hn360_3) (.int .i64 t356)).trans hx360_3
              replace hx360_4 := (cell_far (p := ⟨gb359, 3, none⟩) (nb_ hn360_3) (.int .i64 t356)).trans hx360_4
              replace hx360_0 := (cell_far (p := ⟨gb359, 4, none⟩) (nb_ hn360_4) (.int .i64 t357)).trans hx360_0
              replace hx360_1 := (cell_far (p := ⟨gb359, 4, none⟩) (nb_ hn360_4) (.int .i64 t357)).trans hx360_1
              replace hx360_2 := (cell_far (p := ⟨gb359, 4, none⟩) (nb_ hn360_4) (.int .i64 t357)).trans hx360_2
              replace hx360_3 := (cell_far (p := ⟨gb359, 4, none⟩) (nb_ hn360_4) (.int .i64 t357)).trans hx360_3
              replace hx360_4 := (cell_far (p := ⟨gb359, 4, none⟩) (nb_ hn360_4) (.int .i64 t357)).trans hx360_4
              (try have hy360_0 := fun (n_ : Nat) => (cdk5_ n_ hx360_0))
              (try have hy360_1 := fun (n_ : Nat) => (cdk5_ n_ hx360_1))
              (try have hy360_2 := fun (n_ : Nat) => (cdk5_ n_ hx360_2))
              (try have hy360_3 := fun (n_ : Nat) => (cdk5_ n_ hx360_3))
              (try have hy360_4 := fun (n_ : Nat) => (cdk5_ n_ hx360_4))
              clear hn360_0
              clear hn360_1
              clear hn360_2
              clear hn360_3
              clear hn360_4
              replace p360 := eq_true p360
              replace q360 := eq_true q360
              have hnb88 := NB321_335.out
              have hnc88 := NB335_321.out
              have hnb89 := NB321_342.out
              have hnc89 := NB342_321.out
              have hnb90 := NB321_351.out
              have hnc90 := NB351_321.out
              have hnb91 := NB321_359.out
              have hnc91 := NB359_321.out
              obtain ⟨hcz92_0, hcz92_1, hcz92_2, hcz92_3, hcz92_4, hfz92_0, hfz92_1, hfz92_2, hfz92_3, hfz92_4⟩ := bc5_ BK321
              have hnb93 := NB351_335.out
              have hnc93 := NB335_351.out
              have hnb94 := NB351_342.out
              have hnc94 := NB342_351.out
              have hnb95 := NB351_359.out
              have hnc95 := NB359_351.out
              obtain ⟨hcz96_0, hcz96_1, hcz96_2, hcz96_3, hcz96_4, hfz96_0, hfz96_1, hfz96_2, hfz96_3, hfz96_4⟩ := bc5_ BK351
              have p361 : 0 ≤ (x11_2 : Int) := of_decide_eq_true as_
              have q361 : x11_2 < (t313.length : Int) := of_decide_eq_true as_
              obtain ⟨ad361, e361, hx361_0, hx361_1, hx361_2, hx361_3, hx361_4⟩ := at_T29 (Kd.R_reads' HO_3.out).2.2 x11_2 p361 q361
              obtain rfl : ad344 = ad361 := (by injection e361)
              have hn361_0 : ad344.block ≠ gb359 := ob_ HO_3 BK359
              have hn361_1 : ad344.block ≠ gb359 := ob_ HO_3 BK359
              have hn361_2 : ad344.block ≠ gb359 := ob_ HO_3 BK359
              have hn361_3 : ad344.block ≠ gb359 := ob_ HO_3 BK359
              have hn361_4 : ad344.block ≠ gb359 := ob_ HO_3 BK359
              replace hx361_0 := (cell_far (p := ⟨gb359, 0, none⟩) (nb_ hn361_0) (.string t353)).trans hx361_0
              replace hx361_1 := (cell_far (p := ⟨gb359, 0, none⟩) (nb_ hn361_0) (.string t353)).trans hx361_1
              replace hx361_2 := (cell_far (p := ⟨gb359, 0, none⟩) (nb_ hn361_0) (.string t353)).trans hx361_2
              replace hx361_3 := (cell_far (p := ⟨gb359, 0, none⟩) (nb_ hn361_0) (.string t353)).trans hx361_3
              replace hx361_4 := (cell_far (p := ⟨gb359, 0, none⟩) (nb_ hn361_0) (.string t353)).trans hx361_4
              replace hx361_0 := (cell_far (p := ⟨gb359, 1, none⟩) (nb_ hn361_1) (.int .i64 t354)).trans hx361_0
              replace hx361_1 := (cell_far (p := ⟨gb359, 1, none⟩) (nb_ hn361_1) (.int .i64 t354)).trans hx361_1
              replace hx361_2 := (cell_far (p := ⟨gb359, 1, none⟩) (nb_ hn361_1) (.int .i64 t354)).trans hx361_2
              replace hx361_3 := (cell_far (p := ⟨gb359, 1, none⟩) (nb_ hn361_1) (.int .i64 t354)).trans hx361_3
              replace hx361_4 := (cell_far (p := ⟨gb359, 1, none⟩) (nb_ hn361_1) (.int .i64 t354)).trans hx361_4
              replace hx361_0 := (cell_far (p := ⟨gb359, 2, none⟩) (nb_ hn361_2) (.int .i64 t355)).trans hx361_0
              replace hx361_1 := (cell_far (p := ⟨gb359, 2, none⟩) (nb_ hn361_2) (.int .i64 t355)).trans hx361_1
              replace hx361_2 := (cell_far (p := ⟨gb359, 2, none⟩) (nb_ hn361_2) (.int .i64 t355)).trans hx361_2
              replace hx361_3 := (cell_far (p := ⟨gb359, 2, none⟩) (nb_ hn361_2) (.int .i64 t355)).trans hx361_3
              replace hx361_4 := (cell_far (p := ⟨gb359, 2, none⟩) (nb_ hn361_2) (.int .i64 t355)).trans hx361_4
              replace hx361_0 := (cell_far (p := ⟨gb359, 3, none⟩) (nb_ hn361_3) (.int .i64 t356)).trans hx361_0
              replace hx361_1 := (cell_far (p := ⟨gb359, 3, none⟩) (nb_ hn361_3) (.int .i64 t356)).trans hx361_1
              replace hx361_2 := (cell_far (p := ⟨gb359, 3, none⟩) (nb_ hn361_3) (.int .i64 t356)).trans hx361_2
              replace hx361_3 := (cell_far (p := ⟨gb359, 3, none⟩) (nb_ hn361_3) (.int .i64 t356)).trans hx361_3
              replace hx361_4 := (cell_far (p := ⟨gb359, 3, none⟩) (nb_ hn361_3) (.int .i64 t356)).trans hx361_4
              replace hx361_0 := (cell_far (p := ⟨gb359, 4, none⟩) (nb_ hn361_4) (.int .i64 t357)).trans hx361_0
              replace hx361_1 := (cell_far (p := ⟨gb359, 4, none⟩) (nb_ hn361_4) (.int .i64 t357)).trans hx361_1
              replace hx361_2 := (cell_far (p := ⟨gb359, 4, none⟩) (nb_ hn361_4) (.int .i64 t357)).trans hx361_2
              replace hx361_3 := (cell_far (p := ⟨gb359, 4, none⟩) (nb_ hn361_4) (.int .i64 t357)).trans hx361_3
              replace hx361_4 := (cell_far (p := ⟨gb359, 4, none⟩) (nb_ hn361_4) (.int .i64 t357)).trans hx361_4
              (try have hy361_0 := fun (n_ : Nat) => (cdk5_ n_ hx361_0))
              (try have hy361_1 := fun (n_ : Nat) => (cdk5_ n_ hx361_1))
              (try have hy361_2 := fun (n_ : Nat) => (cdk5_ n_ hx361_2))
              (try have hy361_3 := fun (n_ : Nat) => (cdk5_ n_ hx361_3))
              (try have hy361_4 := fun (n_ : Nat) => (cdk5_ n_ hx361_4))
              clear hn361_0
              clear hn361_1
              clear hn361_2
              clear hn361_3
              clear hn361_4
              replace p361 := eq_true p361
              replace q361 := eq_true q361
              go_wp2
              repeat (go_quiet (fail); try go_wp2)
              go_meet
              case rel => exact ⟨_, (true), rs_, H', ⟨by have := HJ10.out; have := HK2.out; first | exact Nat.le_refl _ | exact Nat.le_of_succ_le this | omega⟩, ⟨by (with_reducible repeat (first | apply Kd.R_alloc | apply Kd.R_drewN | apply Kd.R_drew)); exact Kd.R_mono (Kd.R_far (p := ⟨gb359, 4, none⟩) (Kd.R_far (p := ⟨gb359, 3, none⟩) (Kd.R_far (p := ⟨gb359, 2, none⟩) (Kd.R_far (p := ⟨gb359, 1, none⟩) (Kd.R_far (p := ⟨gb359, 0, none⟩) (Kd.R_mono HO_3.out (fun k_ hk => (⟨hk, hk.2⟩ : _ ∧ k_ ≠ gb359))) (fun _ hk => hk.2) (.string t353)) (fun _ hk => hk.2) (.int .i64 t354)) (fun _ hk => hk.2) (.int .i64 t355)) (fun _ hk => hk.2) (.int .i64 t356)) (fun _ hk => hk.2) (.int .i64 t357)) (fun _ hk => ⟨hk.1.1.1.1, ⟨hk.1.1.1.2.1, ⟨hk.1.1.1.2.2.1, ⟨hk.1.1.1.2.2.2.1, ⟨hk.1.1.1.2.2.2.2, ⟨hk.1.1.2, hk.1.2⟩⟩⟩⟩⟩⟩)⟩, ⟨by (with_reducible repeat (first | apply Kd.R_alloc | apply Kd.R_drewN | apply Kd.R_drew)); exact Kd.R_mono (Kd.R_far (p := ⟨gb359, 4, none⟩) (Kd.R_far (p := ⟨gb359, 3, none⟩) (Kd.R_far (p := ⟨gb359, 2, none⟩) (Kd.R_far (p := ⟨gb359, 1, none⟩) (Kd.R_far (p := ⟨gb359, 0, none⟩) (Kd.R_mono HO_5.out (fun k_ hk => (⟨hk, hk.2⟩ : _ ∧ k_ ≠ gb359))) (fun _ hk => hk.2) (.string t353)) (fun _ hk => hk.2) (.int .i64 t354)) (fun _ hk => hk.2) (.int .i64 t355)) (fun _ hk => hk.2) (.int .i64 t356)) (fun _ hk => hk.2) (.int .i64 t357)) (fun _ hk => ⟨hk.1.1.1.1, ⟨hk.1.1.1.2.1, ⟨hk.1.1.1.2.2.1, ⟨hk.1.1.1.2.2.2.1, ⟨hk.1.1.1.2.2.2.2, ⟨hk.1.1.2, hk.1.2⟩⟩⟩⟩⟩⟩)⟩, ⟨by (with_reducible repeat (first | apply Kd.R_alloc | apply Kd.R_drewN | apply Kd.R_drew)); exact Kd.R_mono (Kd.R_far (p := ⟨gb359, 4, none⟩) (Kd.R_far (p := ⟨gb359, 3, none⟩) (Kd.R_far (p := ⟨gb359, 2, none⟩) (Kd.R_far (p := ⟨gb359, 1, none⟩) (Kd.R_far (p := ⟨gb359, 0, none⟩) (Kd.R_mono HO_6.out (fun k_ hk => (⟨hk, hk.2⟩ : _ ∧ k_ ≠ gb359))) (fun _ hk => hk.2) (.string t353)) (fun _ hk => hk.2) (.int .i64 t354)) (fun _ hk => hk.2) (.int .i64 t355)) (fun _ hk => hk.2) (.int .i64 t356)) (fun _ hk => hk.2) (.int .i64 t357)) (fun _ hk => ⟨hk.1.1.1.1, ⟨hk.1.1.1.2.1, ⟨hk.1.1.1.2.2.1, ⟨hk.1.1.1.2.2.2.1, ⟨hk.1.1.1.2.2.2.2, ⟨hk.1.1.2, hk.1.2⟩⟩⟩⟩⟩⟩)⟩, ⟨by (with_reducible repeat (first | refine blk_drewN ?_ _ | refine blk_drew ?_ | refine blk_alloc ?_ _)); refine blk_far ?_ NB321_359.out _; (with_reducible repeat (first | refine blk_drewN ?_ _ | refine blk_drew ?_ | refine blk_alloc ?_ _)); refine blk_far ?_ NB321_359.out _; (with_reducible repeat (first | refine blk_drewN ?_ _ | refine blk_drew ?_ | refine blk_alloc ?_ _)); refine blk_far ?_ NB321_359.out _; (with_reducible repeat (first | refine blk_drewN ?_ _ | refine blk_drew ?_ | refine blk_alloc ?_ _)); refine blk_far ?_ NB321_359.out _; (with_reducible repeat (first | refine blk_drewN ?_ _ | refine blk_drew ?_ | refine blk_alloc ?_ _)); refine blk_far ?_ NB321_359.out _; (with_reducible repeat (first | refine blk_drewN ?_ _ | refine blk_drew ?_ | refine blk_alloc ?_ _)); exact BK321.out⟩, ⟨by (with_reducible repeat (first | refine blk_drewN ?_ _ | refine blk_drew ?_ | refine blk_alloc ?_ _)); refine blk_far ?_ NB335_359.out _; (with_reducible repeat (first | refine blk_drewN ?_ _ | refine blk_drew ?_ | refine blk_alloc ?_ _)); refine blk_far ?_ NB335_359.out _; (with_reducible repeat (first | refine blk_drewN ?_ _ | refine blk_drew ?_ | refine blk_alloc ?_ _)); refine blk_far ?_ NB335_359.out _; (with_reducible repeat (first | refine blk_drewN ?_ _ | refine blk_drew ?_ | refine blk_alloc ?_ _)); refine blk_far ?_ NB335_359.out _; (with_reducible repeat (first | refine blk_drewN ?_ _ | refine blk_drew ?_ | refine blk_alloc ?_ _)); refine blk_far ?_ NB335_359.out _; (with_reducible repeat (first | refine blk_drewN ?_ _ | refine blk_drew ?_ | refine blk_alloc ?_ _)); exact BK335.out⟩, ⟨by (with_reducible repeat (first | refine blk_drewN ?_ _ | refine blk_drew ?_ | refine blk_alloc ?_ _)); refine blk_far ?_ NB342_359.out _; (with_reducible repeat (first | refine blk_drewN ?_ _ | refine blk_drew ?_ | refine blk_alloc ?_ _)); refine blk_far ?_ NB342_359.out _; (with_reducible repeat (first | refine blk_drewN ?_ _ | refine blk_drew ?_ | refine blk_alloc ?_ _)); refine blk_far ?_ NB342_359.out _; (with_reducible repeat (first | refine blk_drewN ?_ _ | refine blk_drew ?_ | refine blk_alloc ?_ _)); refine blk_far ?_ NB342_359.out _; (with_reducible repeat (first | refine blk_drewN ?_ _ | refine blk_drew ?_ | refine blk_alloc ?_ _)); refine blk_far ?_ NB342_359.out _; (with_reducible repeat (first | refine blk_drewN ?_ _ | refine blk_drew ?_ | refine blk_alloc ?_ _)); exact BK342.out⟩, ⟨by (with_reducible repeat (first | refine blk_drewN ?_ _ | refine blk_drew ?_ | refine blk_alloc ?_ _)); refine blk_far ?_ NB351_359.out _; (with_reducible repeat (first | refine blk_drewN ?_ _ | refine blk_drew ?_ | refine blk_alloc ?_ _)); refine blk_far ?_ NB351_359.out _; (with_reducible repeat (first | refine blk_drewN ?_ _ | refine blk_drew ?_ | refine blk_alloc ?_ _)); refine blk_far ?_ NB351_359.out _; (with_reducible repeat (first | refine blk_drewN ?_ _ | refine blk_drew ?_ | refine blk_alloc ?_ _)); refine blk_far ?_ NB351_359.out _; (with_reducible repeat (first | refine blk_drewN ?_ _ | refine blk_drew ?_ | refine blk_alloc ?_ _)); refine blk_far ?_ NB351_359.out _; (with_reducible repeat (first | refine blk_drewN ?_ _ | refine blk_drew ?_ | refine blk_alloc ?_ _)); exact BK351.out⟩, ⟨by (with_reducible repeat (first | refine blk_drewN ?_ _ | refine blk_drew ?_ | refine blk_alloc ?_ _)); refine blk_put (cs := #[.string t353, .int .i64 t354, .int .i64 t355, .int .i64 t356, .int .i64 0]) ?_ 4 _ rfl; (with_reducible repeat (first | refine blk_drewN ?_ _ | refine blk_drew ?_ | refine blk_alloc ?_ _)); refine blk_put (cs := #[.string t353, .int .i64 t354, .int .i64 t355, .int .i64 0, .int .i64 0]) ?_ 3 _ rfl; (with_reducible repeat (first | refine blk_drewN ?_ _ | refine blk_drew ?_ | refine blk_alloc ?_ _)); refine blk_put (cs := #[.string t353, .int .i64 t354, .int .i64 0, .int .i64 0, .int .i64 0]) ?_ 2 _ rfl; (with_reducible repeat (first | refine blk_drewN ?_ _ | refine blk_drew ?_ | refine blk_alloc ?_ _)); refine blk_put (cs := #[.string t353, .int .i64 0, .int .i64 0, .int .i64 0, .int .i64 0]) ?_ 1 _ rfl; (with_reducible repeat (first | refine blk_drewN ?_ _ | refine blk_drew ?_ | refine blk_alloc ?_ _)); refine blk_put (cs := #[.string (⟨#[]⟩ : ByteArray), .int .i64 0, .int .i64 0, .int .i64 0, .int .i64 0]) ?_ 0 _ rfl; (with_reducible repeat (first | refine blk_drewN ?_ _ | refine blk_drew ?_ | refine blk_alloc ?_ _)); exact BK359.out⟩, ⟨by repeat (first | (with_reducible first | exact HB.out | apply below_alloc | apply pw_below_drewN | apply below_drew1 | refine below_set ?_ GE321.out | refine below_set ?_ GE335.out | refine below_set ?_ GE342.out | refine below_set ?_ GE351.out | refine below_set ?_ GE359.out) | exact HB.out)⟩⟩
             ·rw [if_neg c87] at H
              have c87b0 : (!(t345.toList == (((rd_T29 t313 x11_2).f0).toList)) || (!(t346 == ((rd_T29 t313 x11_2).f1)) || (!(t347 == ((rd_T29 t313 x11_2).f2)) || (!(t348 == ((rd_T29 t313 x11_2).f3)) || (!(t349 == ((rd_T29 t313 x11_2).f4))))))) = false := by simpa using c87
              clear c87
              by_cases c97 : t358 = true
              ·subst c97
               have H1 : (laws_FnDirs.j2 k2 t313 t323 t326 x11_2 (!(t353.toList == (((rd_T29 t313 x11_2).f0).toList)) || (!(t354 == ((rd_T29 t313 x11_2).f1)) || (!(t355 == ((rd_T29 t313 x11_2).f2)) || (!(t356 == ((rd_T29 t313 x11_2).f3)) || (!(t357 == ((rd_T29 t313 x11_2).f4))))))) t316 t317 t318 t319 t320) = some r := by rw [if_pos rfl] at H; exact H
               clear H
               have H := H1
               clear H1
               have H' := Aside0.mk H
               clear H
               have p360 : 0 ≤ (x11_2 : Int) := of_decide_eq_true as_
               have q360 : x11_2 < (t313.length : Int) := of_decide_eq_true as_
               obtain ⟨ad360, e360, hx360_0, hx360_1, hx360_2, hx360_3, hx360_4⟩ := at_T29 (Kd.R_reads' HO_3.out).2.2 x11_2 p360 q360
               obtain rfl : ad344 = ad360 := (by injection e360)
               have hn360_0 : ad344.block ≠ gb359 := ob_ HO_3 BK359
               have hn360_1 : ad344.block ≠ gb359 := ob_ HO_3 BK359
               have hn360_2 : ad344.block ≠ gb359 := ob_ HO_3 BK359
               have hn360_3 : ad344.block ≠ gb359 := ob_ HO_3 BK359
               have hn360_4 : ad344.block ≠ gb359 := ob_ HO_3 BK359
               replace hx360_0 := (cell_far (p := ⟨gb359, 0, none⟩) (nb_ hn360_0) (.string t353)).trans hx360_0
               replace hx360_1 := (cell_far (p := ⟨gb359, 0, none⟩) (nb_ hn360_0) (.string t353)).trans hx360_1
               replace hx360_2 := (cell_far (p := ⟨gb359, 0, none⟩) (nb_ hn360_0) (.string t353)).trans hx360_2
               replace hx360_3 := (cell_far (p := ⟨gb359, 0, none⟩) (nb_ hn360_0) (.string t353)).trans hx360_3
               replace hx360_4 := (cell_far (p := ⟨gb359, 0, none⟩) (nb_ hn360_0) (.string t353)).trans hx360_4
               replace hx360_0 := (cell_far (p := ⟨gb359, 1, none⟩) (nb_ hn360_1) (.int .i64 t354)).trans hx360_0
               replace hx360_1 := (cell_far (p := ⟨gb359, 1, none⟩) (nb_ hn360_1) (.int .i64 t354)).trans hx360_1
               replace hx360_2 := (cell_far (p := ⟨gb359, 1, none⟩) (nb_ hn360_1) (.int .i64 t354)).trans hx360_2
               replace hx360_3 := (cell_far (p := ⟨gb359, 1, none⟩) (nb_ hn360_1) (.int .i64 t354)).trans hx360_3
               replace hx360_4 := (cell_far (p := ⟨gb359, 1, none⟩) (nb_ hn360_1) (.int .i64 t354)).trans hx360_4
               replace hx360_0 := (cell_far (p := ⟨gb359, 2, none⟩) (nb_ hn360_2) (.int .i64 t355)).trans hx360_0
               replace hx360_1 := (cell_far (p := ⟨gb359, 2, none⟩) (nb_ hn360_2) (.int .i64 t355)).trans hx360_1
               replace hx360_2 := (cell_far (p := ⟨gb359, 2, none⟩) (nb_ hn360_2) (.int .i64 t355)).trans hx360_2
               replace hx360_3 := (cell_far (p := ⟨gb359, 2, none⟩) (nb_ hn360_2) (.int .i64 t355)).trans hx360_3
               replace hx360_4 := (cell_far (p := ⟨gb359, 2, none⟩) (nb_ hn360_2) (.int .i64 t355)).trans hx360_4
               replace hx360_0 := (cell_far (p := ⟨gb359, 3, none⟩) (nb_ hn360_3) (.int .i64 t356)).trans hx360_0
               replace hx360_1 := (cell_far (p := ⟨gb359, 3, none⟩) (nb_ hn360_3) (.int .i64 t356)).trans hx360_1
               replace hx360_2 := (cell_far (p := ⟨gb359, 3, none⟩) (nb_ hn360_3) (.int .i64 t356)).trans hx360_2
               replace hx360_3 := (cell_far (p := ⟨gb359, 3, none⟩) (nb_ hn360_3) (.int .i64 t356)).trans hx360_3
               replace hx360_4 := (cell_far (p := ⟨gb359, 3, none⟩) (nb_ hn360_3) (.int .i64 t356)).trans hx360_4
               replace hx360_0 := (cell_far (p := ⟨gb359, 4, none⟩) (nb_ hn360_4) (.int .i64 t357)).trans hx360_0
               replace hx360_1 := (cell_far (p := ⟨gb359, 4, none⟩) (nb_ hn360_4) (.int .i64 t357)).trans hx360_1
               replace hx360_2 := (cell_far (p := ⟨gb359, 4, none⟩) (nb_ hn360_4) (.int .i64 t357)).trans hx360_2
               replace hx360_3 := (cell_far (p := ⟨gb359, 4, none⟩) (nb_ hn360_4) (.int .i64 t357)).trans hx360_3
               replace hx360_4 := (cell_far (p := ⟨gb359, 4, none⟩) (nb_ hn360_4) (.int .i64 t357)).trans hx360_4
               (try have hy360_0 := fun (n_ : Nat) => (cdk5_ n_ hx360_0))
               (try have hy360_1 := fun (n_ : Nat) => (cdk5_ n_ hx360_1))
               (try have hy360_2 := fun (n_ : Nat) => (cdk5_ n_ hx360_2))
               (try have hy360_3 := fun (n_ : Nat) => (cdk5_ n_ hx360_3))
               (try have hy360_4 := fun (n_ : Nat) => (cdk5_ n_ hx360_4))
               clear hn360_0
               clear hn360_1
               clear hn360_2
               clear hn360_3
               clear hn360_4
               replace p360 := eq_true p360
               replace q360 := eq_true q360
               have hnb98 := NB321_335.out
               have hnc98 := NB335_321.out
               have hnb99 := NB321_342.out
               have hnc99 := NB342_321.out
               have hnb100 := NB321_351.out
               have hnc100 := NB351_321.out
               have hnb101 := NB321_359.out
               have hnc101 := NB359_321.out
               obtain ⟨hcz102_0, hcz102_1, hcz102_2, hcz102_3, hcz102_4, hfz102_0, hfz102_1, hfz102_2, hfz102_3, hfz102_4⟩ := bc5_ BK321
               have hnb103 := NB351_335.out
               have hnc103 := NB335_351.out
               have hnb104 := NB351_342.out
               have hnc104 := NB342_351.out
               have hnb105 := NB351_359.out
               have hnc105 := NB359_351.out
               obtain ⟨hcz106_0, hcz106_1, hcz106_2, hcz106_3, hcz106_4, hfz106_0, hfz106_1, hfz106_2, hfz106_3, hfz106_4⟩ := bc5_ BK351
               have p361 : 0 ≤ (x11_2 : Int) := of_decide_eq_true as_
               have q361 : x11_2 < (t313.length : Int) := of_decide_eq_true as_
               obtain ⟨ad361, e361, hx361_0, hx361_1, hx361_2, hx361_3, hx361_4⟩ := at_T29 (Kd.R_reads' HO_3.out).2.2 x11_2 p361 q361
               obtain rfl : ad344 = ad361 := (by injection e361)
               have hn361_0 : ad344.block ≠ gb359 := ob_ HO_3 BK359
               have hn361_1 : ad344.block ≠ gb359 := ob_ HO_3 BK359
               have hn361_2 : ad344.block ≠ gb359 := ob_ HO_3 BK359
               have hn361_3 : ad344.block ≠ gb359 := ob_ HO_3 BK359
               have hn361_4 : ad344.block ≠ gb359 := ob_ HO_3 BK359
               replace hx361_0 := (cell_far (p := ⟨gb359, 0, none⟩) (nb_ hn361_0) (.string t353)).trans hx361_0
               replace hx361_1 := (cell_far (p := ⟨gb359, 0, none⟩) (nb_ hn361_0) (.string t353)).trans hx361_1
               replace hx361_2 := (cell_far (p := ⟨gb359, 0, none⟩) (nb_ hn361_0) (.string t353)).trans hx361_2
               replace hx361_3 := (cell_far (p := ⟨gb359, 0, none⟩) (nb_ hn361_0) (.string t353)).trans hx361_3
               replace hx361_4 := (cell_far (p := ⟨gb359, 0, none⟩) (nb_ hn361_0) (.string t353)).trans hx361_4
               replace hx361_0 := (cell_far (p := ⟨gb359, 1, none⟩) (nb_ hn361_1) (.int .i64 t354)).trans hx361_0
               replace hx361_1 := (cell_far (p := ⟨gb359, 1, none⟩) (nb_ hn361_1) (.int .i64 t354)).trans hx361_1
               replace hx361_2 := (cell_far (p := ⟨gb359, 1, none⟩) (nb_ hn361_1) (.int .i64 t354)).trans hx361_2
               replace hx361_3 := (cell_far (p := ⟨gb359, 1, none⟩) (nb_ hn361_1) (.int .i64 t354)).trans hx361_3
               replace hx361_4 := (cell_far (p := ⟨gb359, 1, none⟩) (nb_ hn361_1) (.int .i64 t354)).trans hx361_4
               replace hx361_0 := (cell_far (p := ⟨gb359, 2, none⟩) (nb_ hn361_2) (.int .i64 t355)).trans hx361_0
               replace hx361_1 := (cell_far (p := ⟨gb359, 2, none⟩) (nb_ hn361_2) (.int .i64 t355)).trans hx361_1
               replace hx361_2 := (cell_far (p := ⟨gb359, 2, none⟩) (nb_ hn361_2) (.int .i64 t355)).trans hx361_2
               replace hx361_3 := (cell_far (p := ⟨gb359, 2, none⟩) (nb_ hn361_2) (.int .i64 t355)).trans hx361_3
               replace hx361_4 := (cell_far (p := ⟨gb359, 2, none⟩) (nb_ hn361_2) (.int .i64 t355)).trans hx361_4
               replace hx361_0 := (cell_far (p := ⟨gb359, 3, none⟩) (nb_ hn361_3) (.int .i64 t356)).trans hx361_0
               replace hx361_1 := (cell_far (p := ⟨gb359, 3, none⟩) (nb_ hn361_3) (.int .i64 t356)).trans hx361_1
               replace hx361_2 := (cell_far (p := ⟨gb359, 3, none⟩) (nb_ hn361_3) (.int .i64 t356)).trans hx361_2
               replace hx361_3 := (cell_far (p := ⟨gb359, 3, none⟩) (nb_ hn361_3) (.int .i64 t356)).trans hx361_3
               replace hx361_4 := (cell_far (p := ⟨gb359, 3, none⟩) (nb_ hn361_3) (.int .i64 t356)).trans hx361_4
               replace hx361_0 := (cell_far (p := ⟨gb359, 4, none⟩) (nb_ hn361_4) (.int .i64 t357)).trans hx361_0
               replace hx361_1 := (cell_far (p := ⟨gb359, 4, none⟩) (nb_ hn361_4) (.int .i64 t357)).trans hx361_1
               replace hx361_2 := (cell_far (p := ⟨gb359, 4, none⟩) (nb_ hn361_4) (.int .i64 t357)).trans hx361_2
               replace hx361_3 := (cell_far (p := ⟨gb359, 4, none⟩) (nb_ hn361_4) (.int .i64 t357)).trans hx361_3
               replace hx361_4 := (cell_far (p := ⟨gb359, 4, none⟩) (nb_ hn361_4) (.int .i64 t357)).trans hx361_4
               (try have hy361_0 := fun (n_ : Nat) => (cdk5_ n_ hx361_0))
               (try have hy361_1 := fun (n_ : Nat) => (cdk5_ n_ hx361_1))
               (try have hy361_2 := fun (n_ : Nat) => (cdk5_ n_ hx361_2))
               (try have hy361_3 := fun (n_ : Nat) => (cdk5_ n_ hx361_3))
               (try have hy361_4 := fun (n_ : Nat) => (cdk5_ n_ hx361_4))
               clear hn361_0
               clear hn361_1
               clear hn361_2
               clear hn361_3
               clear hn361_4
               replace p361 := eq_true p361
               replace q361 := eq_true q361
               have hnb107 := NB359_335.out
               have hnc107 := NB335_359.out
               have hnb108 := NB359_342.out
               have hnc108 := NB342_359.out
               obtain ⟨hcz109_0, hcz109_1, hcz109_2, hcz109_3, hcz109_4, hfz109_0, hfz109_1, hfz109_2, hfz109_3, hfz109_4⟩ := bc5_ BK359
               have p362 : 0 ≤ (x11_2 : Int) := of_decide_eq_true as_
               have q362 : x11_2 < (t313.length : Int) := of_decide_eq_true as_
               obtain ⟨ad362, e362, hx362_0, hx362_1, hx362_2, hx362_3, hx362_4⟩ := at_T29 (Kd.R_reads' HO_3.out).2.2 x11_2 p362 q362
               obtain rfl : ad344 = ad362 := (by injection e362)
               have hn362_0 : ad344.block ≠ gb359 := ob_ HO_3 BK359
               have hn362_1 : ad344.block ≠ gb359 := ob_ HO_3 BK359
               have hn362_2 : ad344.block ≠ gb359 := ob_ HO_3 BK359
               have hn362_3 : ad344.block ≠ gb359 := ob_ HO_3 BK359
               have hn362_4 : ad344.block ≠ gb359 := ob_ HO_3 BK359
               replace hx362_0 := (cell_far (p := ⟨gb359, 0, none⟩) (nb_ hn362_0) (.string t353)).trans hx362_0
               replace hx362_1 := (cell_far (p := ⟨gb359, 0, none⟩) (nb_ hn362_0) (.string t353)).trans hx362_1
               replace hx362_2 := (cell_far (p := ⟨gb359, 0, none⟩) (nb_ hn362_0) (.string t353)).trans hx362_2
               replace hx362_3 := (cell_far (p := ⟨gb359, 0, none⟩) (nb_ hn362_0) (.string t353)).trans hx362_3
               replace hx362_4 := (cell_far (p := ⟨gb359, 0, none⟩) (nb_ hn362_0) (.string t353)).trans hx362_4
               replace hx362_0 := (cell_far (p := ⟨gb359, 1, none⟩) (nb_ hn362_1) (.int .i64 t354)).trans hx362_0
               replace hx362_1 := (cell_far (p := ⟨gb359, 1, none⟩) (nb_ hn362_1) (.int .i64 t354)).trans hx362_1
               replace hx362_2 := (cell_far (p := ⟨gb359, 1, none⟩) (nb_ hn362_1) (.int .i64 t354)).trans hx362_2
               replace hx362_3 := (cell_far (p := ⟨gb359, 1, none⟩) (nb_ hn362_1) (.int .i64 t354)).trans hx362_3
               replace hx362_4 := (cell_far (p := ⟨gb359, 1, none⟩) (nb_ hn362_1) (.int .i64 t354)).trans hx362_4
               replace hx362_0 := (cell_far (p := ⟨gb359, 2, none⟩) (nb_ hn362_2) (.int .i64 t355)).trans hx362_0
               replace hx362_1 := (cell_far (p := ⟨gb359, 2, none⟩) (nb_ hn362_2) (.int .i64 t355)).trans hx362_1
               replace hx362_2 := (cell_far (p := ⟨gb359, 2, none⟩) (nb_ hn362_2) (.int .i64 t355)).trans hx362_2
               replace hx362_3 := (cell_far (p := ⟨gb359, 2, none⟩) (nb_ hn362_2) (.int .i64 t355)).trans hx362_3
               replace hx362_4 := (cell_far (p := ⟨gb359, 2, none⟩) (nb_ hn362_2) (.int .i64 t355)).trans hx362_4
               replace hx362_0 := (cell_far (p := ⟨gb359, 3, none⟩) (nb_ hn362_3) (.int .i64 t356)).trans hx362_0
               replace hx362_1 := (cell_far (p := ⟨gb359, 3, none⟩) (nb_ hn362_3) (.int .i64 t356)).trans hx362_1
               replace hx362_2 := (cell_far (p := ⟨gb359, 3, none⟩) (nb_ hn362_3) (.int .i64 t356)).trans hx362_2
               replace hx362_3 := (cell_far (p := ⟨gb359, 3, none⟩) (nb_ hn362_3) (.int .i64 t356)).trans hx362_3
               replace hx362_4 := (cell_far (p := ⟨gb359, 3, none⟩) (nb_ hn362_3) (.int .i64 t356)).trans hx362_4
               replace hx362_0 := (cell_far (p := ⟨gb359, 4, none⟩) (nb_ hn362_4) (.int .i64 t357)).trans hx362_0
               replace hx362_1 := (cell_far (p := ⟨gb359, 4, none⟩) (nb_ hn362_4) (.int .i64 t357)).trans hx362_1
               replace hx362_2 := (cell_far (p := ⟨gb359, 4, none⟩) (nb_ hn362_4) (.int .i64 t357)).trans hx362_2
               replace hx362_3 := (cell_far (p := ⟨gb359, 4, none⟩) (nb_ hn362_4) (.int .i64 t357)).trans hx362_3
               replace hx362_4 := (cell_far (p := ⟨gb359, 4, none⟩) (nb_ hn362_4) (.int .i64 t357)).trans hx362_4
               (try have hy362_0 := fun (n_ : Nat) => (cdk5_ n_ hx362_0))
               (try have hy362_1 := fun (n_ : Nat) => (cdk5_ n_ hx362_1))
               (try have hy362_2 := fun (n_ : Nat) => (cdk5_ n_ hx362_2))
               (try have hy362_3 := fun (n_ : Nat) => (cdk5_ n_ hx362_3))
               (try have hy362_4 := fun (n_ : Nat) => (cdk5_ n_ hx362_4))
               clear hn362_0
               clear hn362_1
               clear hn362_2
               clear hn362_3
               clear hn362_4
               replace p362 := eq_true p362
               replace q362 := eq_true q362
               go_wp2
               repeat (go_quiet (fail); try go_wp2)
               go_meet
               case rel => exact ⟨_, ((!(t353.toList == (((rd_T29 t313 x11_2).f0).toList)) || (!(t354 == ((rd_T29 t313 x11_2).f1)) || (!(t355 == ((rd_T29 t313 x11_2).f2)) || (!(t356 == ((rd_T29 t313 x11_2).f3)) || (!(t357 == ((rd_T29 t313 x11_2).f4)))))))), rs_, H', ⟨by have := HJ10.out; have := HK2.out; first | exact Nat.le_refl _ | exact Nat.le_of_succ_le this | omega⟩, ⟨by (with_reducible repeat (first | apply Kd.R_alloc | apply Kd.R_drewN | apply Kd.R_drew)); exact Kd.R_mono (Kd.R_far (p := ⟨gb359, 4, none⟩) (Kd.R_far (p := ⟨gb359, 3, none⟩) (Kd.R_far (p := ⟨gb359, 2, none⟩) (Kd.R_far (p := ⟨gb359, 1, none⟩) (Kd.R_far (p := ⟨gb359, 0, none⟩) (Kd.R_mono HO_3.out (fun k_ hk => (⟨hk, hk.2⟩ : _ ∧ k_ ≠ gb359))) (fun _ hk => hk.2) (.string t353)) (fun _ hk => hk.2) (.int .i64 t354)) (fun _ hk => hk.2) (.int .i64 t355)) (fun _ hk => hk.2) (.int .i64 t356)) (fun _ hk => hk.2) (.int .i64 t357)) (fun _ hk => ⟨hk.1.1.1.1, ⟨hk.1.1.1.2.1, ⟨hk.1.1.1.2.2.1, ⟨hk.1.1.1.2.2.2.1, ⟨hk.1.1.1.2.2.2.2, ⟨hk.1.1.2, hk.1.2⟩⟩⟩⟩⟩⟩)⟩, ⟨by (with_reducible repeat (first | apply Kd.R_alloc | apply Kd.R_drewN | apply Kd.R_drew)); exact Kd.R_mono (Kd.R_far (p := ⟨gb359, 4, none⟩) (Kd.R_far (p := ⟨gb359, 3, none⟩) (Kd.R_far (p := ⟨gb359, 2, none⟩) (Kd.R_far (p := ⟨gb359, 1, none⟩) (Kd.R_far (p := ⟨gb359, 0, none⟩) (Kd.R_mono HO_5.out (fun k_ hk => (⟨hk, hk.2⟩ : _ ∧ k_ ≠ gb359))) (fun _ hk => hk.2) (.string t353)) (fun _ hk => hk.2) (.int .i64 t354)) (fun _ hk => hk.2) (.int .i64 t355)) (fun _ hk => hk.2) (.int .i64 t356)) (fun _ hk => hk.2) (.int .i64 t357)) (fun _ hk => ⟨hk.1.1.1.1, ⟨hk.1.1.1.2.1, ⟨hk.1.1.1.2.2.1, ⟨hk.1.1.1.2.2.2.1, ⟨hk.1.1.1.2.2.2.2, ⟨hk.1.1.2, hk.1.2⟩⟩⟩⟩⟩⟩)⟩, ⟨by (with_reducible repeat (first | apply Kd.R_alloc | apply Kd.R_drewN | apply Kd.R_drew)); exact Kd.R_mono (Kd.R_far (p := ⟨gb359, 4, none⟩) (Kd.R_far (p := ⟨gb359, 3, none⟩) (Kd.R_far (p := ⟨gb359, 2, none⟩) (Kd.R_far (p := ⟨gb359, 1, none⟩) (Kd.R_far (p := ⟨gb359, 0, none⟩) (Kd.R_mono HO_6.out (fun k_ hk => (⟨hk, hk.2⟩ : _ ∧ k_ ≠ gb359))) (fun _ hk => hk.2) (.string t353)) (fun _ hk => hk.2) (.int .i64 t354)) (fun _ hk => hk.2) (.int .i64 t355)) (fun _ hk => hk.2) (.int .i64 t356)) (fun _ hk => hk.2) (.int .i64 t357)) (fun _ hk => ⟨hk.1.1.1.1, ⟨hk.1.1.1.2.1, ⟨hk.1.1.1.2.2.1, ⟨hk.1.1.1.2.2.2.1, ⟨hk.1.1.1.2.2.2.2, ⟨hk.1.1.2, hk.1.2⟩⟩⟩⟩⟩⟩)⟩, ⟨by (with_reducible repeat (first | refine blk_drewN ?_ _ | refine blk_drew ?_ | refine blk_alloc ?_ _)); refine blk_far ?_ NB321_359.out _; (with_reducible repeat (first | refine blk_drewN ?_ _ | refine blk_drew ?_ | refine blk_alloc ?_ _)); refine blk_far ?_ NB321_359.out _; (with_reducible repeat (first | refine blk_drewN ?_ _ | refine blk_drew ?_ | refine blk_alloc ?_ _)); refine blk_far ?_ NB321_359.out _; (with_reducible repeat (first | refine blk_drewN ?_ _ | refine blk_drew ?_ | refine blk_alloc ?_ _)); refine blk_far ?_ NB321_359.out _; (with_reducible repeat (first | refine blk_drewN ?_ _ | refine blk_drew ?_ | refine blk_alloc ?_ _)); refine blk_far ?_ NB321_359.out _; (with_reducible repeat (first | refine blk_drewN ?_ _ | refine blk_drew ?_ | refine blk_alloc ?_ _)); exact BK321.out⟩, ⟨by (with_reducible repeat (first | refine blk_drewN ?_ _ | refine blk_drew ?_ | refine blk_alloc ?_ _)); refine blk_far ?_ NB335_359.out _; (with_reducible repeat (first | refine blk_drewN ?_ _ | refine blk_drew ?_ | refine blk_alloc ?_ _)); refine blk_far ?_ NB335_359.out _; (with_reducible repeat (first | refine blk_drewN ?_ _ | refine blk_drew ?_ | refine blk_alloc ?_ _)); refine blk_far ?_ NB335_359.out _; (with_reducible repeat (first | refine blk_drewN ?_ _ | refine blk_drew ?_ | refine blk_alloc ?_ _)); refine blk_far ?_ NB335_359.out _; (with_reducible repeat (first | refine blk_drewN ?_ _ | refine blk_drew ?_ | refine blk_alloc ?_ _)); refine blk_far ?_ NB335_359.out _; (with_reducible repeat (first | refine blk_drewN ?_ _ | refine blk_drew ?_ | refine blk_alloc ?_ _)); exact BK335.out⟩, ⟨by (with_reducible repeat (first | refine blk_drewN ?_ _ | refine blk_drew ?_ | refine blk_alloc ?_ _)); refine blk_far ?_ NB342_359.out _; (with_reducible repeat (first | refine blk_drewN ?_ _ | refine blk_drew ?_ | refine blk_alloc ?_ _)); refine blk_far ?_ NB342_359.out _; (with_reducible repeat (first | refine blk_drewN ?_ _ | refine blk_drew ?_ | refine blk_alloc ?_ _)); refine blk_far ?_ NB342_359.out _; (with_reducible repeat (first | refine blk_drewN ?_ _ | refine blk_drew ?_ | refine blk_alloc ?_ _)); refine blk_far ?_ NB342_359.out _; (with_reducible repeat (first | refine blk_drewN ?_ _ | refine blk_drew ?_ | refine blk_alloc ?_ _)); refine blk_far ?_ NB342_359.out _; (with_reducible repeat (first | refine blk_drewN ?_ _ | refine blk_drew ?_ | refine blk_alloc ?_ _)); exact BK342.out⟩, ⟨by (with_reducible repeat (first | refine blk_drewN ?_ _ | refine blk_drew ?_ | refine blk_alloc ?_ _)); refine blk_far ?_ NB351_359.out _; (with_reducible repeat (first | refine blk_drewN ?_ _ | refine blk_drew ?_ | refine blk_alloc ?_ _)); refine blk_far ?_ NB351_359.out _; (with_reducible repeat (first | refine blk_drewN ?_ _ | refine blk_drew ?_ | refine blk_alloc ?_ _)); refine blk_far ?_ NB351_359.out _; (with_reducible repeat (first | refine blk_drewN ?_ _ | refine blk_drew ?_ | refine blk_alloc ?_ _)); refine blk_far ?_ NB351_359.out _; (with_reducible repeat (first | refine blk_drewN ?_ _ | refine blk_drew ?_ | refine blk_alloc ?_ _)); refine blk_far ?_ NB351_359.out _; (with_reducible repeat (first | refine blk_drewN ?_ _ | refine blk_drew ?_ | refine blk_alloc ?_ _)); exact BK351.out⟩, ⟨by (with_reducible repeat (first | refine blk_drewN ?_ _ | refine blk_drew ?_ | refine blk_alloc ?_ _)); refine blk_put (cs := #[.string t353, .int .i64 t354, .int .i64 t355, .int .i64 t356, .int .i64 0]) ?_ 4 _ rfl; (with_reducible repeat (first | refine blk_drewN ?_ _ | refine blk_drew ?_ | refine blk_alloc ?_ _)); refine blk_put (cs := #[.string t353, .int .i64 t354, .int .i64 t355, .int .i64 0, .int .i64 0]) ?_ 3 _ rfl; (with_reducible repeat (first | refine blk_drewN ?_ _ | refine blk_drew ?_ | refine blk_alloc ?_ _)); refine blk_put (cs := #[.string t353, .int .i64 t354, .int .i64 0, .int .i64 0, .int .i64 0]) ?_ 2 _ rfl; (with_reducible repeat (first | refine blk_drewN ?_ _ | refine blk_drew ?_ | refine blk_alloc ?_ _)); refine blk_put (cs := #[.string t353, .int .i64 0, .int .i64 0, .int .i64 0, .int .i64 0]) ?_ 1 _ rfl; (with_reducible repeat (first | refine blk_drewN ?_ _ | refine blk_drew ?_ | refine blk_alloc ?_ _)); refine blk_put (cs := #[.string (⟨#[]⟩ : ByteArray), .int .i64 0, .int .i64 0, .int .i64 0, .int .i64 0]) ?_ 0 _ rfl; (with_reducible repeat (first | refine blk_drewN ?_ _ | refine blk_drew ?_ | refine blk_alloc ?_ _)); exact BK359.out⟩, ⟨by repeat (first | (with_reducible first | exact HB.out | apply below_alloc | apply pw_below_drewN | apply below_drew1 | refine below_set ?_ GE321.out | refine below_set ?_ GE335.out | refine below_set ?_ GE342.out | refine below_set ?_ GE351.out | refine below_set ?_ GE359.out) | exact HB.out)⟩⟩
              ·replace c97 := Bool.eq_false_iff.mpr c97
               subst c97
               have H1 : (laws_FnDirs.j2 k2 t313 t323 t326 x11_2 true t316 t317 t318 t319 t320) = some r := by rw [if_neg (show ¬ (false = true) by decide)] at H; exact H
               clear H
               have H := H1
               clear H1
               have H' := Aside0.mk H
               clear H
               have p360 : 0 ≤ (x11_2 : Int) := of_decide_eq_true as_
               have q360 : x11_2 < (t313.length : Int) := of_decide_eq_true as_
               obtain ⟨ad360, e360, hx360_0, hx360_1, hx360_2, hx360_3, hx360_4⟩ := at_T29 (Kd.R_reads' HO_3.out).2.2 x11_2 p360 q360
               obtain rfl : ad344 = ad360 := (by injection e360)
               have hn360_0 : ad344.block ≠ gb359 := ob_ HO_3 BK359
               have hn360_1 : ad344.block ≠ gb359 := ob_ HO_3 BK359
               have hn360_2 : ad344.block ≠ gb359 := ob_ HO_3 BK359
               have hn360_3 : ad344.block ≠ gb359 := ob_ HO_3 BK359
               have hn360_4 : ad344.block ≠ gb359 := ob_ HO_3 BK359
               replace hx360_0 := (cell_far (p := ⟨gb359, 0, none⟩) (nb_ hn360_0) (.string t353)).trans hx360_0
               replace hx360_1 := (cell_far (p := ⟨gb359, 0, none⟩) (nb_ hn360_0) (.string t353)).trans hx360_1
               replace hx360_2 := (cell_far (p := ⟨gb359, 0, none⟩) (nb_ hn360_0) (.string t353)).trans hx360_2
               replace hx360_3 := (cell_far (p := ⟨gb359, 0, none⟩) (nb_ hn360_0) (.string t353)).trans hx360_3
               replace hx360_4 := (cell_far (p := ⟨gb359, 0, none⟩) (nb_ hn360_0) (.string t353)).trans hx360_4
               replace hx360_0 := (cell_far (p := ⟨gb359, 1, none⟩) (nb_ hn360_1) (.int .i64 t354)).trans hx360_0
               replace hx360_1 := (cell_far (p := ⟨gb359, 1, none⟩) (nb_ hn360_1) (.int .i64 t354)).trans hx360_1
               replace hx360_2 := (cell_far (p := ⟨gb359, 1, none⟩) (nb_ hn360_1) (.int .i64 t354)).trans hx360_2
               replace hx360_3 := (cell_far (p := ⟨gb359, 1, none⟩) (nb_ hn360_1) (.int .i64 t354)).trans hx360_3
               replace hx360_4 := (cell_far (p := ⟨gb359, 1, none⟩) (nb_ hn360_1) (.int .i64 t354)).trans hx360_4
               replace hx360_0 := (cell_far (p := ⟨gb359, 2, none⟩) (nb_ hn360_2) (.int .i64 t355)).trans hx360_0
               replace hx360_1 := (cell_far (p := ⟨gb359, 2, none⟩) (nb_ hn360_2) (.int .i64 t355)).trans hx360_1
               replace hx360_2 := (cell_far (p := ⟨gb359, 2, none⟩) (nb_ hn360_2) (.int .i64 t355)).trans hx360_2
               replace hx360_3 := (cell_far (p := ⟨gb359, 2, none⟩) (nb_ hn360_2) (.int .i64 t355)).trans hx360_3
               replace hx360_4 := (cell_far (p := ⟨gb359, 2, none⟩) (nb_ hn360_2) (.int .i64 t355)).trans hx360_4
               replace hx360_0 := (cell_far (p := ⟨gb359, 3, none⟩) (nb_ hn360_3) (.int .i64 t356)).trans hx360_0
               replace hx360_1 := (cell_far (p := ⟨gb359, 3, none⟩) (nb_ hn360_3) (.int .i64 t356)).trans hx360_1
               replace hx360_2 := (cell_far (p := ⟨gb359, 3, none⟩) (nb_ hn360_3) (.int .i64 t356)).trans hx360_2
               replace hx360_3 := (cell_far (p := ⟨gb359, 3, none⟩) (nb_ hn360_3) (.int .i64 t356)).trans hx360_3
               replace hx360_4 := (cell_far (p := ⟨gb359, 3, none⟩) (nb_ hn360_3) (.int .i64 t356)).trans hx360_4
               replace hx360_0 := (cell_far (p := ⟨gb359, 4, none⟩) (nb_ hn360_4) (.int .i64 t357)).trans hx360_0
               replace hx360_1 := (cell_far (p := ⟨gb359, 4, none⟩) (nb_ hn360_4) (.int .i64 t357)).trans hx360_1
               replace hx360_2 := (cell_far (p := ⟨gb359, 4, none⟩) (nb_ hn360_4) (.int .i64 t357)).trans hx360_2
               replace hx360_3 := (cell_far (p := ⟨gb359, 4, none⟩) (nb_ hn360_4) (.int .i64 t357)).trans hx360_3
               replace hx360_4 := (cell_far (p := ⟨gb359, 4, none⟩) (nb_ hn360_4) (.int .i64 t357)).trans hx360_4
               (try have hy360_0 := fun (n_ : Nat) => (cdk5_ n_ hx360_0))
               (try have hy360_1 := fun (n_ : Nat) => (cdk5_ n_ hx360_1))
               (try have hy360_2 := fun (n_ : Nat) => (cdk5_ n_ hx360_2))
               (try have hy360_3 := fun (n_ : Nat) => (cdk5_ n_ hx360_3))
               (try have hy360_4 := fun (n_ : Nat) => (cdk5_ n_ hx360_4))
               clear hn360_0
               clear hn360_1
               clear hn360_2
               clear hn360_3
               clear hn360_4
               replace p360 := eq_true p360
               replace q360 := eq_true q360
               have hnb110 := NB321_335.out
               have hnc110 := NB335_321.out
               have hnb111 := NB321_342.out
               have hnc111 := NB342_321.out
               have hnb112 := NB321_351.out
               have hnc112 := NB351_321.out
               have hnb113 := NB321_359.out
               have hnc113 := NB359_321.out
               obtain ⟨hcz114_0, hcz114_1, hcz114_2, hcz114_3, hcz114_4, hfz114_0, hfz114_1, hfz114_2, hfz114_3, hfz114_4⟩ := bc5_ BK321
               have hnb115 := NB351_335.out
               have hnc115 := NB335_351.out
               have hnb116 := NB351_342.out
               have hnc116 := NB342_351.out
               have hnb117 := NB351_359.out
               have hnc117 := NB359_351.out
               obtain ⟨hcz118_0, hcz118_1, hcz118_2, hcz118_3, hcz118_4, hfz118_0, hfz118_1, hfz118_2, hfz118_3, hfz118_4⟩ := bc5_ BK351
               have p361 : 0 ≤ (x11_2 : Int) := of_decide_eq_true as_
               have q361 : x11_2 < (t313.length : Int) := of_decide_eq_true as_
               obtain ⟨ad361, e361, hx361_0, hx361_1, hx361_2, hx361_3, hx361_4⟩ := at_T29 (Kd.R_reads' HO_3.out).2.2 x11_2 p361 q361
               obtain rfl : ad344 = ad361 := (by injection e361)
               have hn361_0 : ad344.block ≠ gb359 := ob_ HO_3 BK359
               have hn361_1 : ad344.block ≠ gb359 := ob_ HO_3 BK359
               have hn361_2 : ad344.block ≠ gb359 := ob_ HO_3 BK359
               have hn361_3 : ad344.block ≠ gb359 := ob_ HO_3 BK359
               have hn361_4 : ad344.block ≠ gb359 := ob_ HO_3 BK359
               replace hx361_0 := (cell_far (p := ⟨gb359, 0, none⟩) (nb_ hn361_0) (.string t353)).trans hx361_0
               replace hx361_1 := (cell_far (p := ⟨gb359, 0, none⟩) (nb_ hn361_0) (.string t353)).trans hx361_1
               replace hx361_2 := (cell_far (p := ⟨gb359, 0, none⟩) (nb_ hn361_0) (.string t353)).trans hx361_2
               replace hx361_3 := (cell_far (p := ⟨gb359, 0, none⟩) (nb_ hn361_0) (.string t353)).trans hx361_3
               replace hx361_4 := (cell_far (p := ⟨gb359, 0, none⟩) (nb_ hn361_0) (.string t353)).trans hx361_4
               replace hx361_0 := (cell_far (p := ⟨gb359, 1, none⟩) (nb_ hn361_1) (.int .i64 t354)).trans hx361_0
               replace hx361_1 := (cell_far (p := ⟨gb359, 1, none⟩) (nb_ hn361_1) (.int .i64 t354)).trans hx361_1
               replace hx361_2 := (cell_far (p := ⟨gb359, 1, none⟩) (nb_ hn361_1) (.int .i64 t354)).trans hx361_2
               replace hx361_3 := (cell_far (p := ⟨gb359, 1, none⟩) (nb_ hn361_1) (.int .i64 t354)).trans hx361_3
               replace hx361_4 := (cell_far (p := ⟨gb359, 1, none⟩) (nb_ hn361_1) (.int .i64 t354)).trans hx361_4
               replace hx361_0 := (cell_far (p := ⟨gb359, 2, none⟩) (nb_ hn361_2) (.int .i64 t355)).trans hx361_0
               replace hx361_1 := (cell_far (p := ⟨gb359, 2, none⟩) (nb_ hn361_2) (.int .i64 t355)).trans hx361_1
               replace hx361_2 := (cell_far (p := ⟨gb359, 2, none⟩) (nb_ hn361_2) (.int .i64 t355)).trans hx361_2
               replace hx361_3 := (cell_far (p := ⟨gb359, 2, none⟩) (nb_ hn361_2) (.int .i64 t355)).trans hx361_3
               replace hx361_4 := (cell_far (p := ⟨gb359, 2, none⟩) (nb_ hn361_2) (.int .i64 t355)).trans hx361_4
               replace hx361_0 := (cell_far (p := ⟨gb359, 3, none⟩) (nb_ hn361_3) (.int .i64 t356)).trans hx361_0
               replace hx361_1 := (cell_far (p := ⟨gb359, 3, none⟩) (nb_ hn361_3) (.int .i64 t356)).trans hx361_1
               replace hx361_2 := (cell_far (p := ⟨gb359, 3, none⟩) (nb_ hn361_3) (.int .i64 t356)).trans hx361_2
               replace hx361_3 := (cell_far (p := ⟨gb359, 3, none⟩) (nb_ hn361_3) (.int .i64 t356)).trans hx361_3
               replace hx361_4 := (cell_far (p := ⟨gb359, 3, none⟩) (nb_ hn361_3) (.int .i64 t356)).trans hx361_4
               replace hx361_0 := (cell_far (p := ⟨gb359, 4, none⟩) (nb_ hn361_4) (.int .i64 t357)).trans hx361_0
               replace hx361_1 := (cell_far (p := ⟨gb359, 4, none⟩) (nb_ hn361_4) (.int .i64 t357)).trans hx361_1
               replace hx361_2 := (cell_far (p := ⟨gb359, 4, none⟩) (nb_ hn361_4) (.int .i64 t357)).trans hx361_2
               replace hx361_3 := (cell_far (p := ⟨gb359, 4, none⟩) (nb_ hn361_4) (.int .i64 t357)).trans hx361_3
               replace hx361_4 := (cell_far (p := ⟨gb359, 4, none⟩) (nb_ hn361_4) (.int .i64 t357)).trans hx361_4
               (try have hy361_0 := fun (n_ : Nat) => (cdk5_ n_ hx361_0))
               (try have hy361_1 := fun (n_ : Nat) => (cdk5_ n_ hx361_1))
               (try have hy361_2 := fun (n_ : Nat) => (cdk5_ n_ hx361_2))
               (try have hy361_3 := fun (n_ : Nat) => (cdk5_ n_ hx361_3))
               (try have hy361_4 := fun (n_ : Nat) => (cdk5_ n_ hx361_4))
               clear hn361_0
               clear hn361_1
               clear hn361_2
               clear hn361_3
               clear hn361_4
               replace p361 := eq_true p361
               replace q361 := eq_true q361
               go_wp2
               repeat (go_quiet (fail); try go_wp2)
               go_meet
               case rel => exact ⟨_, (true), rs_, H', ⟨by have := HJ10.out; have := HK2.out; first | exact Nat.le_refl _ | exact Nat.le_of_succ_le this | omega⟩, ⟨by (with_reducible repeat (first | apply Kd.R_alloc | apply Kd.R_drewN | apply Kd.R_drew)); exact Kd.R_mono (Kd.R_far (p := ⟨gb359, 4, none⟩) (Kd.R_far (p := ⟨gb359, 3, none⟩) (Kd.R_far (p := ⟨gb359, 2, none⟩) (Kd.R_far (p := ⟨gb359, 1, none⟩) (Kd.R_far (p := ⟨gb359, 0, none⟩) (Kd.R_mono HO_3.out (fun k_ hk => (⟨hk, hk.2⟩ : _ ∧ k_ ≠ gb359))) (fun _ hk => hk.2) (.string t353)) (fun _ hk => hk.2) (.int .i64 t354)) (fun _ hk => hk.2) (.int .i64 t355)) (fun _ hk => hk.2) (.int .i64 t356)) (fun _ hk => hk.2) (.int .i64 t357)) (fun _ hk => ⟨hk.1.1.1.1, ⟨hk.1.1.1.2.1, ⟨hk.1.1.1.2.2.1, ⟨hk.1.1.1.2.2.2.1, ⟨hk.1.1.1.2.2.2.2, ⟨hk.1.1.2, hk.1.2⟩⟩⟩⟩⟩⟩)⟩, ⟨by (with_reducible repeat (first | apply Kd.R_alloc | apply Kd.R_drewN | apply Kd.R_drew)); exact Kd.R_mono (Kd.R_far (p := ⟨gb359, 4, none⟩) (Kd.R_far (p := ⟨gb359, 3, none⟩) (Kd.R_far (p := ⟨gb359, 2, none⟩) (Kd.R_far (p := ⟨gb359, 1, none⟩) (Kd.R_far (p := ⟨gb359, 0, none⟩) (Kd.R_mono HO_5.out (fun k_ hk => (⟨hk, hk.2⟩ : _ ∧ k_ ≠ gb359))) (fun _ hk => hk.2) (.string t353)) (fun _ hk => hk.2) (.int .i64 t354)) (fun _ hk => hk.2) (.int .i64 t355)) (fun _ hk => hk.2) (.int .i64 t356)) (fun _ hk => hk.2) (.int .i64 t357)) (fun _ hk => ⟨hk.1.1.1.1, ⟨hk.1.1.1.2.1, ⟨hk.1.1.1.2.2.1, ⟨hk.1.1.1.2.2.2.1, ⟨hk.1.1.1.2.2.2.2, ⟨hk.1.1.2, hk.1.2⟩⟩⟩⟩⟩⟩)⟩, ⟨by (with_reducible repeat (first | apply Kd.R_alloc | apply Kd.R_drewN | apply Kd.R_drew)); exact Kd.R_mono (Kd.R_far (p := ⟨gb359, 4, none⟩) (Kd.R_far (p := ⟨gb359, 3, none⟩) (Kd.R_far (p := ⟨gb359, 2, none⟩) (Kd.R_far (p := ⟨gb359, 1, none⟩) (Kd.R_far (p := ⟨gb359, 0, none⟩) (Kd.R_mono HO_6.out (fun k_ hk => (⟨hk, hk.2⟩ : _ ∧ k_ ≠ gb359))) (fun _ hk => hk.2) (.string t353)) (fun _ hk => hk.2) (.int .i64 t354)) (fun _ hk => hk.2) (.int .i64 t355)) (fun _ hk => hk.2) (.int .i64 t356)) (fun _ hk => hk.2) (.int .i64 t357)) (fun _ hk => ⟨hk.1.1.1.1, ⟨hk.1.1.1.2.1, ⟨hk.1.1.1.2.2.1, ⟨hk.1.1.1.2.2.2.1, ⟨hk.1.1.1.2.2.2.2, ⟨hk.1.1.2, hk.1.2⟩⟩⟩⟩⟩⟩)⟩, ⟨by (with_reducible repeat (first | refine blk_drewN ?_ _ | refine blk_drew ?_ | refine blk_alloc ?_ _)); refine blk_far ?_ NB321_359.out _; (with_reducible repeat (first | refine blk_drewN ?_ _ | refine blk_drew ?_ | refine blk_alloc ?_ _)); refine blk_far ?_ NB321_359.out _; (with_reducible repeat (first | refine blk_drewN ?_ _ | refine blk_drew ?_ | refine blk_alloc ?_ _)); refine blk_far ?_ NB321_359.out _; (with_reducible repeat (first | refine blk_drewN ?_ _ | refine blk_drew ?_ | refine blk_alloc ?_ _)); refine blk_far ?_ NB321_359.out _; (with_reducible repeat (first | refine blk_drewN ?_ _ | refine blk_drew ?_ | refine blk_alloc ?_ _)); refine blk_far ?_ NB321_359.out _; (with_reducible repeat (first | refine blk_drewN ?_ _ | refine blk_drew ?_ | refine blk_alloc ?_ _)); exact BK321.out⟩, ⟨by (with_reducible repeat (first | refine blk_drewN ?_ _ | refine blk_drew ?_ | refine blk_alloc ?_ _)); refine blk_far ?_ NB335_359.out _; (with_reducible repeat (first | refine blk_drewN ?_ _ | refine blk_drew ?_ | refine blk_alloc ?_ _)); refine blk_far ?_ NB335_359.out _; (with_reducible repeat (first | refine blk_drewN ?_ _ | refine blk_drew ?_ | refine blk_alloc ?_ _)); refine blk_far ?_ NB335_359.out _; (with_reducible repeat (first | refine blk_drewN ?_ _ | refine blk_drew ?_ | refine blk_alloc ?_ _)); refine blk_far ?_ NB335_359.out _; (with_reducible repeat (first | refine blk_drewN ?_ _ | refine blk_drew ?_ | refine blk_alloc ?_ _)); refine blk_far ?_ NB335_359.out _; (with_reducible repeat (first | refine blk_drewN ?_ _ | refine blk_drew ?_ | refine blk_alloc ?_ _)); exact BK335.out⟩, ⟨by (with_reducible repeat (first | refine blk_drewN ?_ _ | refine blk_drew ?_ | refine blk_alloc ?_ _)); refine blk_far ?_ NB342_359.out _; (with_reducible repeat (first | refine blk_drewN ?_ _ | refine blk_drew ?_ | refine blk_alloc ?_ _)); refine blk_far ?_ NB342_359.out _; (with_reducible repeat (first | refine blk_drewN ?_ _ | refine blk_drew ?_ | refine blk_alloc ?_ _)); refine blk_far ?_ NB342_359.out _; (with_reducible repeat (first | refine blk_drewN ?_ _ | refine blk_drew ?_ | refine blk_alloc ?_ _)); refine blk_far ?_ NB342_359.out _; (with_reducible repeat (first | refine blk_drewN ?_ _ | refine blk_drew ?_ | refine blk_alloc ?_ _)); refine blk_far ?_ NB342_359.out _; (with_reducible repeat (first | refine blk_drewN ?_ _ | refine blk_drew ?_ | refine blk_alloc ?_ _)); exact BK342.out⟩, ⟨by (with_reducible repeat (first | refine blk_drewN ?_ _ | refine blk_drew ?_ | refine blk_alloc ?_ _)); refine blk_far ?_ NB351_359.out _; (with_reducible repeat (first | refine blk_drewN ?_ _ | refine blk_drew ?_ | refine blk_alloc ?_ _)); refine blk_far ?_ NB351_359.out _; (with_reducible repeat (first | refine blk_drewN ?_ _ | refine blk_drew ?_ | refine blk_alloc ?_ _)); refine blk_far ?_ NB351_359.out _; (with_reducible repeat (first | refine blk_drewN ?_ _ | refine blk_drew ?_ | refine blk_alloc ?_ _)); refine blk_far ?_ NB351_359.out _; (with_reducible repeat (first | refine blk_drewN ?_ _ | refine blk_drew ?_ | refine blk_alloc ?_ _)); refine blk_far ?_ NB351_359.out _; (with_reducible repeat (first | refine blk_drewN ?_ _ | refine blk_drew ?_ | refine blk_alloc ?_ _)); exact BK351.out⟩, ⟨by (with_reducible repeat (first | refine blk_drewN ?_ _ | refine blk_drew ?_ | refine blk_alloc ?_ _)); refine blk_put (cs := #[.string t353, .int .i64 t354, .int .i64 t355, .int .i64 t356, .int .i64 0]) ?_ 4 _ rfl; (with_reducible repeat (first | refine blk_drewN ?_ _ | refine blk_drew ?_ | refine blk_alloc ?_ _)); refine blk_put (cs := #[.string t353, .int .i64 t354, .int .i64 t355, .int .i64 0, .int .i64 0]) ?_ 3 _ rfl; (with_reducible repeat (first | refine blk_drewN ?_ _ | refine blk_drew ?_ | refine blk_alloc ?_ _)); refine blk_put (cs := #[.string t353, .int .i64 t354, .int .i64 0, .int .i64 0, .int .i64 0]) ?_ 2 _ rfl; (with_reducible repeat (first | refine blk_drewN ?_ _ | refine blk_drew ?_ | refine blk_alloc ?_ _)); refine blk_put (cs := #[.string t353, .int .i64 0, .int .i64 0, .int .i64 0, .int .i64 0]) ?_ 1 _ rfl; (with_reducible repeat (first | refine blk_drewN ?_ _ | refine blk_drew ?_ | refine blk_alloc ?_ _)); refine blk_put (cs := #[.string (⟨#[]⟩ : ByteArray), .int .i64 0, .int .i64 0, .int .i64 0, .int .i64 0]) ?_ 0 _ rfl; (with_reducible repeat (first | refine blk_drewN ?_ _ | refine blk_drew ?_ | refine blk_alloc ?_ _)); exact BK359.out⟩, ⟨by repeat (first | (with_reducible first | exact HB.out | apply below_alloc | apply pw_below_drewN | apply below_drew1 | refine below_set ?_ GE321.out | refine below_set ?_ GE335.out | refine below_set ?_ GE342.out | refine below_set ?_ GE351.out | refine below_set ?_ GE359.out) | exact HB.out)⟩⟩
            ·replace c86 := Bool.eq_false_iff.mpr c86
             subst c86
             have H1 : (laws_FnDirs.j2 k2 t313 t323 t326 x11_2 true t316 t317 t318 t319 t320) = some r := by rw [if_neg (show ¬ (false = true) by decide)] at H; exact H
             clear H
             have H := H1
             clear H1
             have H' := Aside0.mk H
             clear H
             have p360 : 0 ≤ (x11_2 : Int) := of_decide_eq_true as_
             have q360 : x11_2 < (t313.length : Int) := of_decide_eq_true as_
             obtain ⟨ad360, e360, hx360_0, hx360_1, hx360_2, hx360_3, hx360_4⟩ := at_T29 (Kd.R_reads' HO_3.out).2.2 x11_2 p360 q360
             obtain rfl : ad344 = ad360 := (by injection e360)
             have hn360_0 : ad344.block ≠ gb359 := ob_ HO_3 BK359
             have hn360_1 : ad344.block ≠ gb359 := ob_ HO_3 BK359
             have hn360_2 : ad344.block ≠ gb359 := ob_ HO_3 BK359
             have hn360_3 : ad344.block ≠ gb359 := ob_ HO_3 BK359
             have hn360_4 : ad344.block ≠ gb359 := ob_ HO_3 BK359
             replace hx360_0 := (cell_far (p := ⟨gb359, 0, none⟩) (nb_ hn360_0) (.string t353)).trans hx360_0
             replace hx360_1 := (cell_far (p := ⟨gb359, 0, none⟩) (nb_ hn360_0) (.string t353)).trans hx360_1
             replace hx360_2 := (cell_far (p := ⟨gb359, 0, none⟩) (nb_ hn360_0) (.string t353)).trans hx360_2
             replace hx360_3 := (cell_far (p := ⟨gb359, 0, none⟩) (nb_ hn360_0) (.string t353)).trans hx360_3
             replace hx360_4 := (cell_far (p := ⟨gb359, 0, none⟩) (nb_ hn360_0) (.string t353)).trans hx360_4
             replace hx360_0 := (cell_far (p := ⟨gb359, 1, none⟩) (nb_ hn360_1) (.int .i64 t354)).trans hx360_0
             replace hx360_1 := (cell_far (p := ⟨gb359, 1, none⟩) (nb_ hn360_1) (.int .i64 t354)).trans hx360_1
             replace hx360_2 := (cell_far (p := ⟨gb359, 1, none⟩) (nb_ hn360_1) (.int .i64 t354)).trans hx360_2
             replace hx360_3 := (cell_far (p := ⟨gb359, 1, none⟩) (nb_ hn360_1) (.int .i64 t354)).trans hx360_3
             replace hx360_4 := (cell_far (p := ⟨gb359, 1, none⟩) (nb_ hn360_1) (.int .i64 t354)).trans hx360_4
             replace hx360_0 := (cell_far (p := ⟨gb359, 2, none⟩) (nb_ hn360_2) (.int .i64 t355)).trans hx360_0
             replace hx360_1 := (cell_far (p := ⟨gb359, 2, none⟩) (nb_ hn360_2) (.int .i64 t355)).trans hx360_1
             replace hx360_2 := (cell_far (p := ⟨gb359, 2, none⟩) (nb_ hn360_2) (.int .i64 t355)).trans hx360_2
             replace hx360_3 := (cell_far (p := ⟨gb359, 2, none⟩) (nb_ hn360_2) (.int .i64 t355)).trans hx360_3
             replace hx360_4 := (cell_far (p := ⟨gb359, 2, none⟩) (nb_ hn360_2) (.int .i64 t355)).trans hx360_4
             replace hx360_0 := (cell_far (p := ⟨gb359, 3, none⟩) (nb_ hn360_3) (.int .i64 t356)).trans hx360_0
             replace hx360_1 := (cell_far (p := ⟨gb359, 3, none⟩) (nb_ hn360_3) (.int .i64 t356)).trans hx360_1
             replace hx360_2 := (cell_far (p := ⟨gb359, 3, none⟩) (nb_ hn360_3) (.int .i64 t356)).trans hx360_2
             replace hx360_3 := (cell_far (p := ⟨gb359, 3, none⟩) (nb_ hn360_3) (.int .i64 t356)).trans hx360_3
             replace hx360_4 := (cell_far (p := ⟨gb359, 3, none⟩) (nb_ hn360_3) (.int .i64 t356)).trans hx360_4
             replace hx360_0 := (cell_far (p := ⟨gb359, 4, none⟩) (nb_ hn360_4) (.int .i64 t357)).trans hx360_0
             replace hx360_1 := (cell_far (p := ⟨gb359, 4, none⟩) (nb_ hn360_4) (.int .i64 t357)).trans hx360_1
             replace hx360_2 := (cell_far (p := ⟨gb359, 4, none⟩) (nb_ hn360_4) (.int .i64 t357)).trans hx360_2
             replace hx360_3 := (cell_far (p := ⟨gb359, 4, none⟩) (nb_ hn360_4) (.int .i64 t357)).trans hx360_3
             replace hx360_4 := (cell_far (p := ⟨gb359, 4, none⟩) (nb_ hn360_4) (.int .i64 t357)).trans hx360_4
             (try have hy360_0 := fun (n_ : Nat) => (cdk5_ n_ hx360_0))
             (try have hy360_1 := fun (n_ : Nat) => (cdk5_ n_ hx360_1))
             (try have hy360_2 := fun (n_ : Nat) => (cdk5_ n_ hx360_2))
             (try have hy360_3 := fun (n_ : Nat) => (cdk5_ n_ hx360_3))
             (try have hy360_4 := fun (n_ : Nat) => (cdk5_ n_ hx360_4))
             clear hn360_0
             clear hn360_1
             clear hn360_2
             clear hn360_3
             clear hn360_4
             replace p360 := eq_true p360
             replace q360 := eq_true q360
             have hnb119 := NB321_335.out
             have hnc119 := NB335_321.out
             have hnb120 := NB321_342.out
             have hnc120 := NB342_321.out
             have hnb121 := NB321_351.out
             have hnc121 := NB351_321.out
             have hnb122 := NB321_359.out
             have hnc122 := NB359_321.out
             obtain ⟨hcz123_0, hcz123_1, hcz123_2, hcz123_3, hcz123_4, hfz123_0, hfz123_1, hfz123_2, hfz123_3, hfz123_4⟩ := bc5_ BK321
             go_wp2
             repeat (go_quiet (fail); try go_wp2)
             go_meet
             case rel => exact ⟨_, (true), rs_, H', ⟨by have := HJ10.out; have := HK2.out; first | exact Nat.le_refl _ | exact Nat.le_of_succ_le this | omega⟩, ⟨by (with_reducible repeat (first | apply Kd.R_alloc | apply Kd.R_drewN | apply Kd.R_drew)); exact Kd.R_mono (Kd.R_far (p := ⟨gb359, 4, none⟩) (Kd.R_far (p := ⟨gb359, 3, none⟩) (Kd.R_far (p := ⟨gb359, 2, none⟩) (Kd.R_far (p := ⟨gb359, 1, none⟩) (Kd.R_far (p := ⟨gb359, 0, none⟩) (Kd.R_mono HO_3.out (fun k_ hk => (⟨hk, hk.2⟩ : _ ∧ k_ ≠ gb359))) (fun _ hk => hk.2) (.string t353)) (fun _ hk => hk.2) (.int .i64 t354)) (fun _ hk => hk.2) (.int .i64 t355)) (fun _ hk => hk.2) (.int .i64 t356)) (fun _ hk => hk.2) (.int .i64 t357)) (fun _ hk => ⟨hk.1.1.1.1, ⟨hk.1.1.1.2.1, ⟨hk.1.1.1.2.2.1, ⟨hk.1.1.1.2.2.2.1, ⟨hk.1.1.1.2.2.2.2, ⟨hk.1.1.2, hk.1.2⟩⟩⟩⟩⟩⟩)⟩, ⟨by (with_reducible repeat (first | apply Kd.R_alloc | apply Kd.R_drewN | apply Kd.R_drew)); exact Kd.R_mono (Kd.R_far (p := ⟨gb359, 4, none⟩) (Kd.R_far (p := ⟨gb359, 3, none⟩) (Kd.R_far (p := ⟨gb359, 2, none⟩) (Kd.R_far (p := ⟨gb359, 1, none⟩) (Kd.R_far (p := ⟨gb359, 0, none⟩) (Kd.R_mono HO_5.out (fun k_ hk => (⟨hk, hk.2⟩ : _ ∧ k_ ≠ gb359))) (fun _ hk => hk.2) (.string t353)) (fun _ hk => hk.2) (.int .i64 t354)) (fun _ hk => hk.2) (.int .i64 t355)) (fun _ hk => hk.2) (.int .i64 t356)) (fun _ hk => hk.2) (.int .i64 t357)) (fun _ hk => ⟨hk.1.1.1.1, ⟨hk.1.1.1.2.1, ⟨hk.1.1.1.2.2.1, ⟨hk.1.1.1.2.2.2.1, ⟨hk.1.1.1.2.2.2.2, ⟨hk.1.1.2, hk.1.2⟩⟩⟩⟩⟩⟩)⟩, ⟨by (with_reducible repeat (first | apply Kd.R_alloc | apply Kd.R_drewN | apply Kd.R_drew)); exact Kd.R_mono (Kd.R_far (p := ⟨gb359, 4, none⟩) (Kd.R_far (p := ⟨gb359, 3, none⟩) (Kd.R_far (p := ⟨gb359, 2, none⟩) (Kd.R_far (p := ⟨gb359, 1, none⟩) (Kd.R_far (p := ⟨gb359, 0, none⟩) (Kd.R_mono HO_6.out (fun k_ hk => (⟨hk, hk.2⟩ : _ ∧ k_ ≠ gb359))) (fun _ hk => hk.2) (.string t353)) (fun _ hk => hk.2) (.int .i64 t354)) (fun _ hk => hk.2) (.int .i64 t355)) (fun _ hk => hk.2) (.int .i64 t356)) (fun _ hk => hk.2) (.int .i64 t357)) (fun _ hk => ⟨hk.1.1.1.1, ⟨hk.1.1.1.2.1, ⟨hk.1.1.1.2.2.1, ⟨hk.1.1.1.2.2.2.1, ⟨hk.1.1.1.2.2.2.2, ⟨hk.1.1.2, hk.1.2⟩⟩⟩⟩⟩⟩)⟩, ⟨by (with_reducible repeat (first | refine blk_drewN ?_ _ | refine blk_drew ?_ | refine blk_alloc ?_ _)); refine blk_far ?_ NB321_359.out _; (with_reducible repeat (first | refine blk_drewN ?_ _ | refine blk_drew ?_ | refine blk_alloc ?_ _)); refine blk_far ?_ NB321_359.out _; (with_reducible repeat (first | refine blk_drewN ?_ _ | refine blk_drew ?_ | refine blk_alloc ?_ _)); refine blk_far ?_ NB321_359.out _; (with_reducible repeat (first | refine blk_drewN ?_ _ | refine blk_drew ?_ | refine blk_alloc ?_ _)); refine blk_far ?_ NB321_359.out _; (with_reducible repeat (first | refine blk_drewN ?_ _ | refine blk_drew ?_ | refine blk_alloc ?_ _)); refine blk_far ?_ NB321_359.out _; (with_reducible repeat (first | refine blk_drewN ?_ _ | refine blk_drew ?_ | refine blk_alloc ?_ _)); exact BK321.out⟩, ⟨by (with_reducible repeat (first | refine blk_drewN ?_ _ | refine blk_drew ?_ | refine blk_alloc ?_ _)); refine blk_far ?_ NB335_359.out _; (with_reducible repeat (first | refine blk_drewN ?_ _ | refine blk_drew ?_ | refine blk_alloc ?_ _)); refine blk_far ?_ NB335_359.out _; (with_reducible repeat (first | refine blk_drewN ?_ _ | refine blk_drew ?_ | refine blk_alloc ?_ _)); refine blk_far ?_ NB335_359.out _; (with_reducible repeat (first | refine blk_drewN ?_ _ | refine blk_drew ?_ | refine blk_alloc ?_ _)); refine blk_far ?_ NB335_359.out _; (with_reducible repeat (first | refine blk_drewN ?_ _ | refine blk_drew ?_ | refine blk_alloc ?_ _)); refine blk_far ?_ NB335_359.out _; (with_reducible repeat (first | refine blk_drewN ?_ _ | refine blk_drew ?_ | refine blk_alloc ?_ _)); exact BK335.out⟩, ⟨by (with_reducible repeat (first | refine blk_drewN ?_ _ | refine blk_drew ?_ | refine blk_alloc ?_ _)); refine blk_far ?_ NB342_359.out _; (with_reducible repeat (first | refine blk_drewN ?_ _ | refine blk_drew ?_ | refine blk_alloc ?_ _)); refine blk_far ?_ NB342_359.out _; (with_reducible repeat (first | refine blk_drewN ?_ _ | refine blk_drew ?_ | refine blk_alloc ?_ _)); refine blk_far ?_ NB342_359.out _; (with_reducible repeat (first | refine blk_drewN ?_ _ | refine blk_drew ?_ | refine blk_alloc ?_ _)); refine blk_far ?_ NB342_359.out _; (with_reducible repeat (first | refine blk_drewN ?_ _ | refine blk_drew ?_ | refine blk_alloc ?_ _)); refine blk_far ?_ NB342_359.out _; (with_reducible repeat (first | refine blk_drewN ?_ _ | refine blk_drew ?_ | refine blk_alloc ?_ _)); exact BK342.out⟩, ⟨by (with_reducible repeat (first | refine blk_drewN ?_ _ | refine blk_drew ?_ | refine blk_alloc ?_ _)); refine blk_far ?_ NB351_359.out _; (with_reducible repeat (first | refine blk_drewN ?_ _ | refine blk_drew ?_ | refine blk_alloc ?_ _)); refine blk_far ?_ NB351_359.out _; (with_reducible repeat (first | refine blk_drewN ?_ _ | refine blk_drew ?_ | refine blk_alloc ?_ _)); refine blk_far ?_ NB351_359.out _; (with_reducible repeat (first | refine blk_drewN ?_ _ | refine blk_drew ?_ | refine blk_alloc ?_ _)); refine blk_far ?_ NB351_359.out _; (with_reducible repeat (first | refine blk_drewN ?_ _ | refine blk_drew ?_ | refine blk_alloc ?_ _)); refine blk_far ?_ NB351_359.out _; (with_reducible repeat (first | refine blk_drewN ?_ _ | refine blk_drew ?_ | refine blk_alloc ?_ _)); exact BK351.out⟩, ⟨by (with_reducible repeat (first | refine blk_drewN ?_ _ | refine blk_drew ?_ | refine blk_alloc ?_ _)); refine blk_put (cs := #[.string t353, .int .i64 t354, .int .i64 t355, .int .i64 t356, .int .i64 0]) ?_ 4 _ rfl; (with_reducible repeat (first | refine blk_drewN ?_ _ | refine blk_drew ?_ | refine blk_alloc ?_ _)); refine blk_put (cs := #[.string t353, .int .i64 t354, .int .i64 t355, .int .i64 0, .int .i64 0]) ?_ 3 _ rfl; (with_reducible repeat (first | refine blk_drewN ?_ _ | refine blk_drew ?_ | refine blk_alloc ?_ _)); refine blk_put (cs := #[.string t353, .int .i64 t354, .int .i64 0, .int .i64 0, .int .i64 0]) ?_ 2 _ rfl; (with_reducible repeat (first | refine blk_drewN ?_ _ | refine blk_drew ?_ | refine blk_alloc ?_ _)); refine blk_put (cs := #[.string t353, .int .i64 0, .int .i64 0, .int .i64 0, .int .i64 0]) ?_ 1 _ rfl; (with_reducible repeat (first | refine blk_drewN ?_ _ | refine blk_drew ?_ | refine blk_alloc ?_ _)); refine blk_put (cs := #[.string (⟨#[]⟩ : ByteArray), .int .i64 0, .int .i64 0, .int .i64 0, .int .i64 0]) ?_ 0 _ rfl; (with_reducible repeat (first | refine blk_drewN ?_ _ | refine blk_drew ?_ | refine blk_alloc ?_ _)); exact BK359.out⟩, ⟨by repeat (first | (with_reducible first | exact HB.out | apply below_alloc | apply pw_below_drewN | apply below_drew1 | refine below_set ?_ GE321.out | refine below_set ?_ GE335.out | refine below_set ?_ GE342.out | refine below_set ?_ GE351.out | refine below_set ?_ GE359.out) | exact HB.out)⟩⟩
          case rest =>
           clear HC66
           try clear c1
           try clear p2
           try clear p3
           try clear q3
           try clear hx3
           try clear c8
           try clear c9
           try clear c10
           try clear c11
           try clear c12
           try clear p36
           try clear q36
           try clear hx36
           try clear c80
           try clear c80b0
           try clear c80b1
           try clear c81
           try clear c82
           try clear c83
           try clear c84
           try clear c86
           try clear c87
           try clear c87b0
           try clear c88
           try clear c89
           try clear c90
           try clear c91
           try clear c93
           try clear c94
           try clear c95
           try clear c97
           try clear c98
           try clear c99
           try clear c100
           try clear c101
           try clear c103
           try clear c104
           try clear c105
           try clear c107
           try clear c108
           try clear c110
           try clear c111
           try clear c112
           try clear c113
           try clear c115
           try clear c116
           try clear c117
           try clear c119
           try clear c120
           try clear c121
           try clear c122
           try clear hcz102_0
           try clear hcz102_1
           try clear hcz102_2
           try clear hcz102_3
           try clear hcz102_4
           try clear hcz106_0
           try clear hcz106_1
           try clear hcz106_2
           try clear hcz106_3
           try clear hcz106_4
           try clear hcz109_0
           try clear hcz109_1
           try clear hcz109_2
           try clear hcz109_3
           try clear hcz109_4
           try clear hcz114_0
           try clear hcz114_1
           try clear hcz114_2
           try clear hcz114_3
           try clear hcz114_4
           try clear hcz118_0
           try clear hcz118_1
           try clear hcz118_2
           try clear hcz118_3
           try clear hcz118_4
           try clear hcz123_0
           try clear hcz123_1
           try clear hcz123_2
           try clear hcz123_3
           try clear hcz123_4
           try clear hcz85_0
           try clear hcz85_1
           try clear hcz85_2
           try clear hcz85_3
           try clear hcz85_4
           try clear hcz92_0
           try clear hcz92_1
           try clear hcz92_2
           try clear hcz92_3
           try clear hcz92_4
           try clear hcz96_0
           try clear hcz96_1
           try clear hcz96_2
           try clear hcz96_3
           try clear hcz96_4
           try clear hfz102_0
           try clear hfz102_1
           try clear hfz102_2
           try clear hfz102_3
           try clear hfz102_4
           try clear hfz106_0
           try clear hfz106_1
           try clear hfz106_2
           try clear hfz106_3
           try clear hfz106_4
           try clear hfz109_0
           try clear hfz109_1
           try clear hfz109_2
           try clear hfz109_3
           try clear hfz109_4
           try clear hfz114_0
           try clear hfz114_1
           try clear hfz114_2
           try clear hfz114_3
           try clear hfz114_4
           try clear hfz118_0
           try clear hfz118_1
           try clear hfz118_2
           try clear hfz118_3
           try clear hfz118_4
           try clear hfz123_0
           try clear hfz123_1
           try clear hfz123_2
           try clear hfz123_3
           try clear hfz123_4
           try clear hfz85_0
           try clear hfz85_1
           try clear hfz85_2
           try clear hfz85_3
           try clear hfz85_4
           try clear hfz92_0
           try clear hfz92_1
           try clear hfz92_2
           try clear hfz92_3
           try clear hfz92_4
           try clear hfz96_0
           try clear hfz96_1
           try clear hfz96_2
           try clear hfz96_3
           try clear hfz96_4
           try clear hx360_0
           try clear hx360_1
           try clear hx360_2
           try clear hx360_3
           try clear hx360_4
           try clear hx361_0
           try clear hx361_1
           try clear hx361_2
           try clear hx361_3
           try clear hx361_4
           try clear hx362_0
           try clear hx362_1
           try clear hx362_2
           try clear hx362_3
           try clear hx362_4
           try clear p360
           try clear p361
           try clear p362
           try clear q360
           try clear q361
           try clear q362
           obtain ⟨kq, x129_65, rfl, HA, HJ65, HO_3, HO_5, HO_6, BK321, BK335, BK342, BK351, BK359, HB⟩ := hcut
           cases kq with
           | zero => exact absurd HA.out (by simp [laws_FnDirs.j2])
           | succ kj65 =>
            have H := HA.out
            clear HA
            simp only [laws_FnDirs.j2] at H
            by_cases c124 : x129_65 = true
            ·subst c124
             have H1 : (some false) = some r := by rw [if_pos rfl] at H; exact H
             clear H
             have H := H1
             clear H1
             exact absurd ((Option.some.inj H).trans HRT.out) (by decide)
            ·replace c124 := Bool.eq_false_iff.mpr c124
             subst c124
             have H1 : (laws_FnDirs.l0 kj65 t313 t323 t326 (wrap64 (x11_2 + 1)) t316 t317 t318 t319 t320) = some r := by rw [if_neg (show ¬ (false = true) by decide)] at H; exact H
             clear H
             have H := H1
             clear H1
             have H' := Aside0.mk H
             clear H
             go_wp2
             repeat (go_quiet (fail); try go_wp2)
             go_roundg kj65
             case measure => have := HJ10.out; have := HK2.out; have := HJ65.out; omega
             case rel => exact ⟨(wrap64 (x11_2 + 1)), rs_, H', ⟨by have := HJ10.out; have := HK2.out; have := HJ65.out; omega⟩, ⟨by (with_reducible repeat (first | apply Kd.R_alloc | apply Kd.R_drewN | apply Kd.R_drew)); exact Kd.R_mono HO_3.out (fun _ hk => ⟨hk.1, ⟨hk.2.1, ⟨hk.2.2.1, ⟨hk.2.2.2.1, hk.2.2.2.2.1⟩⟩⟩⟩)⟩, ⟨by (with_reducible repeat (first | apply Kd.R_alloc | apply Kd.R_drewN | apply Kd.R_drew)); exact Kd.R_mono HO_5.out (fun _ hk => ⟨hk.1, ⟨hk.2.1, ⟨hk.2.2.1, ⟨hk.2.2.2.1, hk.2.2.2.2.1⟩⟩⟩⟩)⟩, ⟨by (with_reducible repeat (first | apply Kd.R_alloc | apply Kd.R_drewN | apply Kd.R_drew)); exact Kd.R_mono HO_6.out (fun _ hk => ⟨hk.1, ⟨hk.2.1, ⟨hk.2.2.1, ⟨hk.2.2.2.1, hk.2.2.2.2.1⟩⟩⟩⟩)⟩, ⟨bk_ BK321⟩, ⟨bk_ BK335⟩, ⟨bk_ BK342⟩, ⟨by repeat (first | (with_reducible first | exact HB.out | apply below_alloc | apply pw_below_drewN | apply below_drew1 | refine below_set ?_ GE321.out | refine below_set ?_ GE335.out | refine below_set ?_ GE342.out | refine below_set ?_ GE351.out | refine below_set ?_ GE359.out) | exact HB.out)⟩⟩
         ·rw [if_neg c63] at H
          exact absurd H (by simp)
        ·rw [if_neg c62] at H
         have c62b0 : decide (x11_2 < (t313.length : Int)) = false := decide_eq_false c62
         clear c62
         replace H := Option.bind_eq_some_iff.mp H
         obtain ⟨t363, A1250, H⟩ := H
         replace H : (laws_FnDirs.l1 k2 t323 t363 1 t316 t317 t318 t319 t320) = some r := H
         have A125 := Aside0.mk A1250
         clear A1250
         have H' := Aside0.mk H
         clear H
         go_wp2_with (first | (go_at_call 15; (with_reducible refine (impl_DirKeys.calls k2 _ _ t323 t363 _ ?side1 ?side2 A125.out).mono ?_); (case side1 => repeat (first | exact (Kd.R_reads' HO_5.out).2.2 | (with_reducible refine Kd.C_alloc ?_ _) | (with_reducible refine Kd.C_drewN ?_ _) | (with_reducible refine Kd.C_drew ?_))); (case side2 => exact (Kd.R_reads' HO_5.out).2.1); rintro e w126 ⟨v364, rfl, ho0, hb⟩; replace HO_3 := rb_ HO_3 hb; replace HO_5 := rb_ HO_5 hb; replace HO_6 := rb_ HO_6 hb; have HO365 := Aside0.mk (Kd.R_lower ho0 (below_size (hv_ HB GE321 GE335 GE342))); replace BK321 := bb_ BK321 hb; replace BK335 := bb_ BK335 hb; replace BK342 := bb_ BK342 hb; replace HB := Aside0.mk (below_step (hv_ HB GE321 GE335 GE342) hb); (try clear hb); (try clear hb2); (try clear hk); (try clear hi); (try clear ho0)))
         repeat (go_quiet (first | (go_at_call 15; (with_reducible refine (impl_DirKeys.calls k2 _ _ t323 t363 _ ?side1 ?side2 A125.out).mono ?_); (case side1 => repeat (first | exact (Kd.R_reads' HO_5.out).2.2 | (with_reducible refine Kd.C_alloc ?_ _) | (with_reducible refine Kd.C_drewN ?_ _) | (with_reducible refine Kd.C_drew ?_))); (case side2 => exact (Kd.R_reads' HO_5.out).2.1); rintro e w126 ⟨v364, rfl, ho0, hb⟩; replace HO_3 := rb_ HO_3 hb; replace HO_5 := rb_ HO_5 hb; replace HO_6 := rb_ HO_6 hb; have HO365 := Aside0.mk (Kd.R_lower ho0 (below_size (hv_ HB GE321 GE335 GE342))); replace BK321 := bb_ BK321 hb; replace BK335 := bb_ BK335 hb; replace BK342 := bb_ BK342 hb; replace HB := Aside0.mk (below_step (hv_ HB GE321 GE335 GE342) hb); (try clear hb); (try clear hb2); (try clear hk); (try clear hi); (try clear ho0))); try go_wp2_with (first | (go_at_call 15; (with_reducible refine (impl_DirKeys.calls k2 _ _ t323 t363 _ ?side1 ?side2 A125.out).mono ?_); (case side1 => repeat (first | exact (Kd.R_reads' HO_5.out).2.2 | (with_reducible refine Kd.C_alloc ?_ _) | (with_reducible refine Kd.C_drewN ?_ _) | (with_reducible refine Kd.C_drew ?_))); (case side2 => exact (Kd.R_reads' HO_5.out).2.1); rintro e w126 ⟨v364, rfl, ho0, hb⟩; replace HO_3 := rb_ HO_3 hb; replace HO_5 := rb_ HO_5 hb; replace HO_6 := rb_ HO_6 hb; have HO365 := Aside0.mk (Kd.R_lower ho0 (below_size (hv_ HB GE321 GE335 GE342))); replace BK321 := bb_ BK321 hb; replace BK335 := bb_ BK335 hb; replace BK342 := bb_ BK342 hb; replace HB := Aside0.mk (below_step (hv_ HB GE321 GE335 GE342) hb); (try clear hb); (try clear hb2); (try clear hk); (try clear hi); (try clear ho0))))
         go_loopg [17] k2 (fun kq v17 w' => ∃ (x17_3 : Int), v17 = .int .i64 x17_3 ∧ Aside0 (laws_FnDirs.l1 kq t323 t363 x17_3 t316 t317 t318 t319 t320 = some r) ∧ Aside0 (kq ≤ k2) ∧ Aside0 (Kd.R k29 29 w' w.heap.size (fun k_ => k_ ≠ gb321 ∧ k_ ≠ gb335 ∧ k_ ≠ gb342) (.slice Ao20 t323.length co20) t323) ∧ Aside0 (Kd.R Kd.string 9 w' w.heap.size (fun _ => True) v364 t363) ∧ Aside0 (w'.heap[gb321]? = some (.cells #[.string t316, .int .i64 t317, .int .i64 t318, .int .i64 t319, .int .i64 t320] 29 (0, 0))) ∧ Aside0 (w'.heap[gb335]? = some (.cells #[.string t329, .int .i64 t330, .int .i64 t331, .int .i64 t332, .int .i64 t333] 29 (0, 0))) ∧ Aside0 (w'.heap[gb342]? = some (.cells #[.string t336, .int .i64 t337, .int .i64 t338, .int .i64 t339, .int .i64 t340] 29 (0, 0))) ∧ Aside0 (Below w.heap.size w w'))
         case atStart => exact ⟨(1), rs_, H', ⟨Nat.le_refl _⟩, ⟨by (with_reducible repeat (first | apply Kd.R_alloc | apply Kd.R_drewN | apply Kd.R_drew)); exact Kd.R_mono HO_5.out (fun _ hk => ⟨hk.2.2.1, ⟨hk.2.2.2.1, hk.2.2.2.2⟩⟩)⟩, ⟨rr_ HO365⟩, ⟨bk_ BK321⟩, ⟨bk_ BK335⟩, ⟨bk_ BK342⟩, ⟨by repeat (first | (with_reducible first | exact HB.out | apply below_alloc | apply pw_below_drewN | apply below_drew1 | refine below_set ?_ GE321.out | refine below_set ?_ GE335.out | refine below_set ?_ GE342.out) | exact HB.out)⟩⟩
         case round =>
          clear H'
          try clear c1
          try clear p2
          try clear p3
          try clear q3
          try clear hx3
          try clear c6
          try clear p6
          try clear c8
          try clear c9
          try clear c10
          try clear c11
          try clear c12
          try clear p36
          try clear q36
          try clear hx36
          try clear c62
          try clear c62b0
          try clear c63
          try clear p64
          try clear c80
          try clear c80b0
          try clear c80b1
          try clear c81
          try clear c82
          try clear c83
          try clear c84
          try clear c86
          try clear c87
          try clear c87b0
          try clear c88
          try clear c89
          try clear c90
          try clear c91
          try clear c93
          try clear c94
          try clear c95
          try clear c97
          try clear c98
          try clear c99
          try clear c100
          try clear c101
          try clear c103
          try clear c104
          try clear c105
          try clear c107
          try clear c108
          try clear c110
          try clear c111
          try clear c112
          try clear c113
          try clear c115
          try clear c116
          try clear c117
          try clear c119
          try clear c120
          try clear c121
          try clear c122
          try clear c124
          try clear hcz102_0
          try clear hcz102_1
          try clear hcz102_2
          try clear hcz102_3
          try clear hcz102_4
          try clear hcz106_0
          try clear hcz106_1
          try clear hcz106_2
          try clear hcz106_3
          try clear hcz106_4
          try clear hcz109_0
          try clear hcz109_1
          try clear hcz109_2
          try clear hcz109_3
          try clear hcz109_4
          try clear hcz114_0
          try clear hcz114_1
          try clear hcz114_2
          try clear hcz114_3
          try clear hcz114_4
          try clear hcz118_0
          try clear hcz118_1
          try clear hcz118_2
          try clear hcz118_3
          try clear hcz118_4
          try clear hcz123_0
          try clear hcz123_1
          try clear hcz123_2
          try clear hcz123_3
          try clear hcz123_4
          try clear hcz85_0
          try clear hcz85_1
          try clear hcz85_2
          try clear hcz85_3
          try clear hcz85_4
          try clear hcz92_0
          try clear hcz92_1
          try clear hcz92_2
          try clear hcz92_3
          try clear hcz92_4
          try clear hcz96_0
          try clear hcz96_1
          try clear hcz96_2
          try clear hcz96_3
          try clear hcz96_4
          try clear hfz102_0
          try clear hfz102_1
          try clear hfz102_2
          try clear hfz102_3
          try clear hfz102_4
          try clear hfz106_0
          try clear hfz106_1
          try clear hfz106_2
          try clear hfz106_3
          try clear hfz106_4
          try clear hfz109_0
          try clear hfz109_1
          try clear hfz109_2
          try clear hfz109_3
          try clear hfz109_4
          try clear hfz114_0
          try clear hfz114_1
          try clear hfz114_2
          try clear hfz114_3
          try clear hfz114_4
          try clear hfz118_0
          try clear hfz118_1
          try clear hfz118_2
          try clear hfz118_3
          try clear hfz118_4
          try clear hfz123_0
          try clear hfz123_1
          try clear hfz123_2
          try clear hfz123_3
          try clear hfz123_4
          try clear hfz85_0
          try clear hfz85_1
          try clear hfz85_2
          try clear hfz85_3
          try clear hfz85_4
          try clear hfz92_0
          try clear hfz92_1
          try clear hfz92_2
          try clear hfz92_3
          try clear hfz92_4
          try clear hfz96_0
          try clear hfz96_1
          try clear hfz96_2
          try clear hfz96_3
          try clear hfz96_4
          try clear hx360_0
          try clear hx360_1
          try clear hx360_2
          try clear hx360_3
          try clear hx360_4
          try clear hx361_0
          try clear hx361_1
          try clear hx361_2
          try clear hx361_3
          try clear hx361_4
          try clear hx362_0
          try clear hx362_1
          try clear hx362_2
          try clear hx362_3
          try clear hx362_4
          try clear p2
          try clear p3
          try clear p36
          try clear p360
          try clear p361
          try clear p362
          try clear q3
          try clear q36
          try clear q360
          try clear q361
          try clear q362
          obtain ⟨x17_3, rfl, HA, HK3, HO_5, HO_16, BK321, BK335, BK342, HB⟩ := hrel
          cases gk with
          | zero => exact absurd HA.out (by simp [laws_FnDirs.l1])
          | succ k3 =>
           have H := HA.out
           clear HA
           simp only [laws_FnDirs.l1] at H
           by_cases c127 : x17_3 < (t363.length : Int)
           ·rw [if_pos c127] at H
            have c127b0 : decide (x17_3 < (t363.length : Int)) = true := decide_eq_true c127
            clear c127
            by_cases c128 : 0 ≤ x17_3
            ·rw [if_pos c128] at H
             have c128b0 : decide (0 ≤ x17_3) = true := decide_eq_true c128
             clear c128
             obtain ⟨ji129, hji129⟩ : ∃ j_ : Int, (wrap64 (x17_3 - 1)) = j_ := ⟨_, rfl⟩
             replace H : (if 0 ≤ (ji129) then (if (ji129) < (t363.length : Int) then (if ((Op.bytesLess ((rdOf ByteArray.empty t363 (ji129)).toList) ((rdOf ByteArray.empty t363 x17_3).toList)) = true) then (laws_FnDirs.l1 k3 t323 t363 (wrap64 (x17_3 + 1)) t316 t317 t318 t319 t320) else (some false)) else (none)) else (none)) = some r := by first | (rw [hji129] at H; exact H) | (simp only [hji129] at H ⊢; exact H)
             have hji129w : (IntKind.i64.wrap (x17_3 - 1)) = ji129 := (i64_w _).trans hji129
             by_cases c130 : 0 ≤ (ji129)
             ·rw [if_pos c130] at H
              have c130b0 : decide (0 ≤ (ji129)) = true := decide_eq_true c130
              clear c130
              by_cases c131 : (ji129) < (t363.length : Int)
              ·rw [if_pos c131] at H
               have c131b0 : decide ((ji129) < (t363.length : Int)) = true := decide_eq_true c131
               clear c131
               by_cases c132 : ((Op.bytesLess ((rdOf ByteArray.empty t363 (ji129)).toList) ((rdOf ByteArray.empty t363 x17_3).toList)) = true)
               ·rw [if_pos c132] at H
                have c132b0 : (Op.bytesLess ((rdOf ByteArray.empty t363 (ji129)).toList) ((rdOf ByteArray.empty t363 x17_3).toList)) = true := c132
                clear c132
                have H' := Aside0.mk H
                clear H
                obtain ⟨Ao133, co133, eo133⟩ := Kd.R_slice HO_16.out
                subst eo133
                have p366 : 0 ≤ (x17_3 : Int) := of_decide_eq_true as_
                have q366 : x17_3 < (t363.length : Int) := of_decide_eq_true as_
                obtain ⟨ad366, e366, hx366_0⟩ := Kd.at_string (Kd.R_reads' HO_16.out).2.2 x17_3 p366 q366
                cases e366
                replace p366 := eq_true p366
                replace q366 := eq_true q366
                have p367 : 0 ≤ ((ji129) : Int) := of_decide_eq_true as_
                have q367 : (ji129) < (t363.length : Int) := of_decide_eq_true as_
                obtain ⟨ad367, e367, hx367_0⟩ := Kd.at_string (Kd.R_reads' HO_16.out).2.2 (ji129) p367 q367
                obtain rfl : ad366 = ad367 := (by injection e367)
                replace p367 := eq_true p367
                replace q367 := eq_true q367
                go_wp2
                repeat (go_quiet (fail); try go_wp2)
                go_roundg k3
                case measure => have := HJ10.out; have := HK2.out; have := HK3.out; first | exact this | exact Nat.le_of_succ_le this | exact Nat.le_refl _ | omega
                case rel => exact ⟨(wrap64 (x17_3 + 1)), rs_, (by first | exact H' | (simp only [hji129]; exact H')), ⟨by have := HJ10.out; have := HK2.out; have := HK3.out; first | exact this | exact Nat.le_of_succ_le this | exact Nat.le_refl _ | omega⟩, ⟨rr_ HO_5⟩, ⟨rr_ HO_16⟩, ⟨bk_ BK321⟩, ⟨bk_ BK335⟩, ⟨bk_ BK342⟩, ⟨by repeat (first | (with_reducible first | exact HB.out | apply below_alloc | apply pw_below_drewN | apply below_drew1 | refine below_set ?_ GE321.out | refine below_set ?_ GE335.out | refine below_set ?_ GE342.out) | exact HB.out)⟩⟩
               ·rw [if_neg c132] at H
                have c132b0 : (Op.bytesLess ((rdOf ByteArray.empty t363 (ji129)).toList) ((rdOf ByteArray.empty t363 x17_3).toList)) = false := by simpa using c132
                clear c132
                exact absurd ((Option.some.inj H).trans HRT.out) (by decide)
              ·rw [if_neg c131] at H
               exact absurd H (by simp)
             ·rw [if_neg c130] at H
              exact absurd H (by simp)
            ·rw [if_neg c128] at H
             exact absurd H (by simp)
           ·rw [if_neg c127] at H
            have c127b0 : decide (x17_3 < (t363.length : Int)) = false := decide_eq_false c127
            clear c127
            by_cases c134 : (t363.length : Int) = (t323.length : Int)
            ·rw [if_pos c134] at H
             have c134b0 : ((t363.length : Int) == (t323.length : Int)) = true := beq_iff_eq.mpr c134
             have c134b1 : ((t363.length : Int) != (t323.length : Int)) = false := bne_eq_false_iff_eq.mpr c134
             have c134b2 : (t363.length == t323.length) = true := by first | simpa using c134 | (simp at c134 ⊢; omega)
             clear c134
             replace H := Option.bind_eq_some_iff.mp H
             obtain ⟨t368, A1350, H⟩ := H
             replace H : ((impl_SameDir.f k3 t368 t323).bind fun t371 => (some t371)) = some r := H
             have A135 := Aside0.mk A1350
             clear A1350
             replace H := Option.bind_eq_some_iff.mp H
             obtain ⟨t371, A1360, H⟩ := H
             replace H : (some t371) = some r := H
             have A136 := Aside0.mk A1360
             clear A1360
             obtain rfl := Option.some.inj H
             obtain ⟨Ao137, co137, eo137⟩ := Kd.R_slice HO_16.out
             subst eo137
             have hnb138 := NB321_335.out
             have hnc138 := NB335_321.out
             have hnb139 := NB321_342.out
             have hnc139 := NB342_321.out
             obtain ⟨hcz140_0, hcz140_1, hcz140_2, hcz140_3, hcz140_4, hfz140_0, hfz140_1, hfz140_2, hfz140_3, hfz140_4⟩ := bc5_ BK321
             go_wp2_with (first | (go_at_call 12; (with_reducible refine (impl_DirPut.calls k3 _ _ t323 t316 t317 t318 t319 t320 t368 _ ?side1 ?side2 A135.out).mono ?_); (case side1 => repeat (first | exact (Kd.R_reads' HO_5.out).2.2 | (with_reducible refine Kd.C_alloc ?_ _) | (with_reducible refine Kd.C_drewN ?_ _) | (with_reducible refine Kd.C_drew ?_))); (case side2 => exact (Kd.R_reads' HO_5.out).2.1); rintro e w141 ⟨v369, rfl, ho0, hb⟩; replace HO_16 := rb_ HO_16 hb; have HO370 := Aside0.mk (Kd.R_lower (Kd.R_newB (Kd.R_newB (Kd.R_newB (Kd.R_new' ho0 (Kd.R_lt (rr_ HO_5))) (g := gb321) (o := .cells #[.string t316, .int .i64 t317, .int .i64 t318, .int .i64 t319, .int .i64 t320] 29 (0, 0)) (bk_ BK321)) (g := gb335) (o := .cells #[.string t329, .int .i64 t330, .int .i64 t331, .int .i64 t332, .int .i64 t333] 29 (0, 0)) (bk_ BK335)) (g := gb342) (o := .cells #[.string t336, .int .i64 t337, .int .i64 t338, .int .i64 t339, .int .i64 t340] 29 (0, 0)) (bk_ BK342)) (below_size (hv_ HB GE321 GE335 GE342))); replace HO_5 := Aside0.mk (Kd.R_elder' (rr_ HO_5) (Kd.R_base ho0) hb); replace BK321 := bb_ BK321 hb; replace BK335 := bb_ BK335 hb; replace BK342 := bb_ BK342 hb; replace HB := Aside0.mk (below_step (hv_ HB GE321 GE335 GE342) hb); (try clear hb); (try clear hb2); (try clear hk); (try clear hi); (try clear ho0); obtain ⟨Ao142, co142, eo142⟩ := Kd.R_slice HO370.out; subst eo142) | (go_at_call 16; (with_reducible refine (impl_SameDir.calls k3 _ _ t368 _ _ t323 t371 _ ?side1 ?side2 ?side3 ?side4 A136.out).mono ?_); (case side1 => repeat (first | exact (Kd.R_reads' HO370.out).2.2 | (with_reducible refine Kd.C_alloc ?_ _) | (with_reducible refine Kd.C_drewN ?_ _) | (with_reducible refine Kd.C_drew ?_))); (case side2 => exact (Kd.R_reads' HO370.out).2.1); (case side3 => repeat (first | exact (Kd.R_reads' HO_5.out).2.2 | (with_reducible refine Kd.C_alloc ?_ _) | (with_reducible refine Kd.C_drewN ?_ _) | (with_reducible refine Kd.C_drew ?_))); (case side4 => exact (Kd.R_reads' HO_5.out).2.1); rintro e w' ⟨rfl, ⟨nd, rfl⟩⟩; (try first | exact ⟨rfl, _, World.drewN_drewN _ _ _⟩ | exact ⟨rfl, _, Eq.trans (World.drewN_drewN _ _ _) (congrArg (World.drewN _) (Nat.add_assoc _ _ _))⟩)))
             repeat (go_quiet (first | (go_at_call 12; (with_reducible refine (impl_DirPut.calls k3 _ _ t323 t316 t317 t318 t319 t320 t368 _ ?side1 ?side2 A135.out).mono ?_); (case side1 => repeat (first | exact (Kd.R_reads' HO_5.out).2.2 | (with_reducible refine Kd.C_alloc ?_ _) | (with_reducible refine Kd.C_drewN ?_ _) | (with_reducible refine Kd.C_drew ?_))); (case side2 => exact (Kd.R_reads' HO_5.out).2.1); rintro e w141 ⟨v369, rfl, ho0, hb⟩; replace HO_16 := rb_ HO_16 hb; have HO370 := Aside0.mk (Kd.R_lower (Kd.R_newB (Kd.R_newB (Kd.R_newB (Kd.R_new' ho0 (Kd.R_lt (rr_ HO_5))) (g := gb321) (o := .cells #[.string t316, .int .i64 t317, .int .i64 t318, .int .i64 t319, .int .i64 t320] 29 (0, 0)) (bk_ BK321)) (g := gb335) (o := .cells #[.string t329, .int .i64 t330, .int .i64 t331, .int .i64 t332, .int .i64 t333] 29 (0, 0)) (bk_ BK335)) (g := gb342) (o := .cells #[.string t336, .int .i64 t337, .int .i64 t338, .int .i64 t339, .int .i64 t340] 29 (0, 0)) (bk_ BK342)) (below_size (hv_ HB GE321 GE335 GE342))); replace HO_5 := Aside0.mk (Kd.R_elder' (rr_ HO_5) (Kd.R_base ho0) hb); replace BK321 := bb_ BK321 hb; replace BK335 := bb_ BK335 hb; replace BK342 := bb_ BK342 hb; replace HB := Aside0.mk (below_step (hv_ HB GE321 GE335 GE342) hb); (try clear hb); (try clear hb2); (try clear hk); (try clear hi); (try clear ho0); obtain ⟨Ao142, co142, eo142⟩ := Kd.R_slice HO370.out; subst eo142) | (go_at_call 16; (with_reducible refine (impl_SameDir.calls k3 _ _ t368 _ _ t323 t371 _ ?side1 ?side2 ?side3 ?side4 A136.out).mono ?_); (case side1 => repeat (first | exact (Kd.R_reads' HO370.out).2.2 | (with_reducible refine Kd.C_alloc ?_ _) | (with_reducible refine Kd.C_drewN ?_ _) | (with_reducible refine Kd.C_drew ?_))); (case side2 => exact (Kd.R_reads' HO370.out).2.1); (case side3 => repeat (first | exact (Kd.R_reads' HO_5.out).2.2 | (with_reducible refine Kd.C_alloc ?_ _) | (with_reducible refine Kd.C_drewN ?_ _) | (with_reducible refine Kd.C_drew ?_))); (case side4 => exact (Kd.R_reads' HO_5.out).2.1); rintro e w' ⟨rfl, ⟨nd, rfl⟩⟩; (try first | exact ⟨rfl, _, World.drewN_drewN _ _ _⟩ | exact ⟨rfl, _, Eq.trans (World.drewN_drewN _ _ _) (congrArg (World.drewN _) (Nat.add_assoc _ _ _))⟩))); try go_wp2_with (first | (go_at_call 12; (with_reducible refine (impl_DirPut.calls k3 _ _ t323 t316 t317 t318 t319 t320 t368 _ ?side1 ?side2 A135.out).mono ?_); (case side1 => repeat (first | exact (Kd.R_reads' HO_5.out).2.2 | (with_reducible refine Kd.C_alloc ?_ _) | (with_reducible refine Kd.C_drewN ?_ _) | (with_reducible refine Kd.C_drew ?_))); (case side2 => exact (Kd.R_reads' HO_5.out).2.1); rintro e w141 ⟨v369, rfl, ho0, hb⟩; replace HO_16 := rb_ HO_16 hb; have HO370 := Aside0.mk (Kd.R_lower (Kd.R_newB (Kd.R_newB (Kd.R_newB (Kd.R_new' ho0 (Kd.R_lt (rr_ HO_5))) (g := gb321) (o := .cells #[.string t316, .int .i64 t317, .int .i64 t318, .int .i64 t319, .int .i64 t320] 29 (0, 0)) (bk_ BK321)) (g := gb335) (o := .cells #[.string t329, .int .i64 t330, .int .i64 t331, .int .i64 t332, .int .i64 t333] 29 (0, 0)) (bk_ BK335)) (g := gb342) (o := .cells #[.string t336, .int .i64 t337, .int .i64 t338, .int .i64 t339, .int .i64 t340] 29 (0, 0)) (bk_ BK342)) (below_size (hv_ HB GE321 GE335 GE342))); replace HO_5 := Aside0.mk (Kd.R_elder' (rr_ HO_5) (Kd.R_base ho0) hb); replace BK321 := bb_ BK321 hb; replace BK335 := bb_ BK335 hb; replace BK342 := bb_ BK342 hb; replace HB := Aside0.mk (below_step (hv_ HB GE321 GE335 GE342) hb); (try clear hb); (try clear hb2); (try clear hk); (try clear hi); (try clear ho0); obtain ⟨Ao142, co142, eo142⟩ := Kd.R_slice HO370.out; subst eo142) | (go_at_call 16; (with_reducible refine (impl_SameDir.calls k3 _ _ t368 _ _ t323 t371 _ ?side1 ?side2 ?side3 ?side4 A136.out).mono ?_); (case side1 => repeat (first | exact (Kd.R_reads' HO370.out).2.2 | (with_reducible refine Kd.C_alloc ?_ _) | (with_reducible refine Kd.C_drewN ?_ _) | (with_reducible refine Kd.C_drew ?_))); (case side2 => exact (Kd.R_reads' HO370.out).2.1); (case side3 => repeat (first | exact (Kd.R_reads' HO_5.out).2.2 | (with_reducible refine Kd.C_alloc ?_ _) | (with_reducible refine Kd.C_drewN ?_ _) | (with_reducible refine Kd.C_drew ?_))); (case side4 => exact (Kd.R_reads' HO_5.out).2.1); rintro e w' ⟨rfl, ⟨nd, rfl⟩⟩; (try first | exact ⟨rfl, _, World.drewN_drewN _ _ _⟩ | exact ⟨rfl, _, Eq.trans (World.drewN_drewN _ _ _) (congrArg (World.drewN _) (Nat.add_assoc _ _ _))⟩))))
             go_ret
             exact ⟨re_, by repeat (first | (with_reducible first | exact HB.out | apply below_alloc | apply pw_below_drewN | apply below_drew1 | refine below_set ?_ GE321.out | refine below_set ?_ GE335.out | refine below_set ?_ GE342.out) | exact HB.out)⟩
            ·rw [if_neg c134] at H
             have c134b0 : ((t363.length : Int) == (t323.length : Int)) = false := beq_eq_false_iff_ne.mpr c134
             have c134b1 : ((t363.length : Int) != (t323.length : Int)) = true := bne_iff_ne.mpr c134
             have c134b2 : (t363.length == t323.length) = false := by first | simpa using c134 | (simp at c134 ⊢; omega)
             exact absurd ((Option.some.inj H).trans HRT.out) (by decide)
  ·replace c6 := Bool.eq_false_iff.mpr c6
   subst c6
   have H1 : (some true) = some r := by rw [if_neg (show ¬ (false = true) by decide)] at H; exact H
   clear H
   have H := H1
   clear H1
   obtain rfl := Option.some.inj H
   go_enter Try.func4, Try.ntmps4
   go_wp2_with (first | (go_at_call 5; (with_reducible refine (laws_big.calls _ _ l0 false _ ?side1 ?side2 A2.out).mono ?_); (case side1 => repeat (first | exact HR0.out | (with_reducible refine Kd.C_alloc ?_ _) | (with_reducible refine Kd.C_drewN ?_ _) | (with_reducible refine Kd.C_drew ?_))); (case side2 => exact HC0.out); rintro e w' ⟨rfl, ⟨nd, rfl⟩⟩; (try first | exact ⟨rfl, _, World.drewN_drewN _ _ _⟩ | exact ⟨rfl, _, Eq.trans (World.drewN_drewN _ _ _) (congrArg (World.drewN _) (Nat.add_assoc _ _ _))⟩)) | (go_at_call 10; (with_reducible refine (spec_DrawDirPut.calls k _ _ l0 t313 t316 t317 t318 t319 t320 _ ?side1 ?side2 A4.out).mono ?_); (case side1 => repeat (first | exact HR0.out | (with_reducible refine Kd.C_alloc ?_ _) | (with_reducible refine Kd.C_drewN ?_ _) | (with_reducible refine Kd.C_drew ?_))); (case side2 => exact HC0.out); rintro e w143 ⟨v314, rfl, ho0, hb⟩; have HO315 := Aside0.mk (Kd.R_lower ho0 (below_size (hb_ HB))); replace HB := bs_ HB hb; (try clear hb); (try clear hb2); (try clear hk); (try clear hi); (try clear ho0)) | ((with_reducible refine gate_dst (N := 4) rfl ?_); (try (refine gate_guard (by rfl) ?_; dsimp only)); refine box_event ?hg (N := 4) ?hd (cs := #[.string (⟨#[]⟩ : ByteArray), .int .i64 0, .int .i64 0, .int .i64 0, .int .i64 0]) (t := 29) ?hr ?_; (case hd => rfl); (case hg => rfl); (case hr => first | (go_simp; done) | (go_simp; rfl)); intro gb321 hg w144 hbox hb; replace HO315 := Aside0.mk (Kd.R_below (Kd.R_elderB (rr_ HO315) gb321 (Nat.le_of_eq hg.symm)) hb); have BK321 := Aside0.mk (hbox); have GW321 := ge_ hg (hb_ HB); have GE321 := ge_ hg (hb_ HB); replace HB := bs_ HB hb; clear hb hbox hg; obtain ⟨hcz145_0, hcz145_1, hcz145_2, hcz145_3, hcz145_4, hfz145_0, hfz145_1, hfz145_2, hfz145_3, hfz145_4⟩ := bc5_ BK321; obtain ⟨Ao146, co146, eo146⟩ := Kd.R_slice HO315.out; subst eo146) | (go_at_call 11; (with_reducible refine (spec_DirOk.calls k _ _ t313 false _ ?side1 ?side2 A5.out).mono ?_); (case side1 => refine (Kd.R_reads' (e := 29) (base := w.heap.size) (ok := fun k_ => (True ∧ k_ ≠ gb321)) (n := t313.length) (c := co146) ?_).2.2; exact (by (with_reducible repeat (first | apply Kd.R_alloc | apply Kd.R_drewN | apply Kd.R_drew)); exact (Kd.R_mono (Kd.R_far (p := ⟨gb321, 4, none⟩) (Kd.R_far (p := ⟨gb321, 3, none⟩) (Kd.R_far (p := ⟨gb321, 2, none⟩) (Kd.R_far (p := ⟨gb321, 1, none⟩) (Kd.R_far (p := ⟨gb321, 0, none⟩) (Kd.R_mono HO315.out (fun k_ hk => (⟨hk, hk.2⟩ : _ ∧ k_ ≠ gb321))) (fun _ hk => hk.2) (.string t316)) (fun _ hk => hk.2) (.int .i64 t317)) (fun _ hk => hk.2) (.int .i64 t318)) (fun _ hk => hk.2) (.int .i64 t319)) (fun _ hk => hk.2) (.int .i64 t320)) (fun _ h_ => h_.1)))); (case side2 => exact (Kd.R_reads' HO315.out).2.1); rintro e w147 ⟨rfl, hb⟩; replace HO315 := Aside0.mk (Kd.R_below (by (with_reducible repeat (first | apply Kd.R_alloc | apply Kd.R_drewN | apply Kd.R_drew)); exact (Kd.R_mono (Kd.R_far (p := ⟨gb321, 4, none⟩) (Kd.R_far (p := ⟨gb321, 3, none⟩) (Kd.R_far (p := ⟨gb321, 2, none⟩) (Kd.R_far (p := ⟨gb321, 1, none⟩) (Kd.R_far (p := ⟨gb321, 0, none⟩) (Kd.R_mono HO315.out (fun k_ hk => (⟨hk, hk.2⟩ : _ ∧ k_ ≠ gb321))) (fun _ hk => hk.2) (.string t316)) (fun _ hk => hk.2) (.int .i64 t317)) (fun _ hk => hk.2) (.int .i64 t318)) (fun _ hk => hk.2) (.int .i64 t319)) (fun _ hk => hk.2) (.int .i64 t320)) (fun _ h_ => h_.1))) hb); replace BK321 := bp_ #[.string t316, .int .i64 t317, .int .i64 t318, .int .i64 t319, .int .i64 t320] BK321 hb; replace HB := bt_ HB GE321 hb; (try clear hb); (try clear hb2); (try clear hk); (try clear hi)))
   repeat (go_quiet (first | (go_at_call 5; (with_reducible refine (laws_big.calls _ _ l0 false _ ?side1 ?side2 A2.out).mono ?_); (case side1 => repeat (first | exact HR0.out | (with_reducible refine Kd.C_alloc ?_ _) | (with_reducible refine Kd.C_drewN ?_ _) | (with_reducible refine Kd.C_drew ?_))); (case side2 => exact HC0.out); rintro e w' ⟨rfl, ⟨nd, rfl⟩⟩; (try first | exact ⟨rfl, _, World.drewN_drewN _ _ _⟩ | exact ⟨rfl, _, Eq.trans (World.drewN_drewN _ _ _) (congrArg (World.drewN _) (Nat.add_assoc _ _ _))⟩)) | (go_at_call 10; (with_reducible refine (spec_DrawDirPut.calls k _ _ l0 t313 t316 t317 t318 t319 t320 _ ?side1 ?side2 A4.out).mono ?_); (case side1 => repeat (first | exact HR0.out | (with_reducible refine Kd.C_alloc ?_ _) | (with_reducible refine Kd.C_drewN ?_ _) | (with_reducible refine Kd.C_drew ?_))); (case side2 => exact HC0.out); rintro e w143 ⟨v314, rfl, ho0, hb⟩; have HO315 := Aside0.mk (Kd.R_lower ho0 (below_size (hb_ HB))); replace HB := bs_ HB hb; (try clear hb); (try clear hb2); (try clear hk); (try clear hi); (try clear ho0)) | ((with_reducible refine gate_dst (N := 4) rfl ?_); (try (refine gate_guard (by rfl) ?_; dsimp only)); refine box_event ?hg (N := 4) ?hd (cs := #[.string (⟨#[]⟩ : ByteArray), .int .i64 0, .int .i64 0, .int .i64 0, .int .i64 0]) (t := 29) ?hr ?_; (case hd => rfl); (case hg => rfl); (case hr => first | (go_simp; done) | (go_simp; rfl)); intro gb321 hg w144 hbox hb; replace HO315 := Aside0.mk (Kd.R_below (Kd.R_elderB (rr_ HO315) gb321 (Nat.le_of_eq hg.symm)) hb); have BK321 := Aside0.mk (hbox); have GW321 := ge_ hg (hb_ HB); have GE321 := ge_ hg (hb_ HB); replace HB := bs_ HB hb; clear hb hbox hg; obtain ⟨hcz145_0, hcz145_1, hcz145_2, hcz145_3, hcz145_4, hfz145_0, hfz145_1, hfz145_2, hfz145_3, hfz145_4⟩ := bc5_ BK321; obtain ⟨Ao146, co146, eo146⟩ := Kd.R_slice HO315.out; subst eo146) | (go_at_call 11; (with_reducible refine (spec_DirOk.calls k _ _ t313 false _ ?side1 ?side2 A5.out).mono ?_); (case side1 => refine (Kd.R_reads' (e := 29) (base := w.heap.size) (ok := fun k_ => (True ∧ k_ ≠ gb321)) (n := t313.length) (c := co146) ?_).2.2; exact (by (with_reducible repeat (first | apply Kd.R_alloc | apply Kd.R_drewN | apply Kd.R_drew)); exact (Kd.R_mono (Kd.R_far (p := ⟨gb321, 4, none⟩) (Kd.R_far (p := ⟨gb321, 3, none⟩) (Kd.R_far (p := ⟨gb321, 2, none⟩) (Kd.R_far (p := ⟨gb321, 1, none⟩) (Kd.R_far (p := ⟨gb321, 0, none⟩) (Kd.R_mono HO315.out (fun k_ hk => (⟨hk, hk.2⟩ : _ ∧ k_ ≠ gb321))) (fun _ hk => hk.2) (.string t316)) (fun _ hk => hk.2) (.int .i64 t317)) (fun _ hk => hk.2) (.int .i64 t318)) (fun _ hk => hk.2) (.int .i64 t319)) (fun _ hk => hk.2) (.int .i64 t320)) (fun _ h_ => h_.1)))); (case side2 => exact (Kd.R_reads' HO315.out).2.1); rintro e w147 ⟨rfl, hb⟩; replace HO315 := Aside0.mk (Kd.R_below (by (with_reducible repeat (first | apply Kd.R_alloc | apply Kd.R_drewN | apply Kd.R_drew)); exact (Kd.R_mono (Kd.R_far (p := ⟨gb321, 4, none⟩) (Kd.R_far (p := ⟨gb321, 3, none⟩) (Kd.R_far (p := ⟨gb321, 2, none⟩) (Kd.R_far (p := ⟨gb321, 1, none⟩) (Kd.R_far (p := ⟨gb321, 0, none⟩) (Kd.R_mono HO315.out (fun k_ hk => (⟨hk, hk.2⟩ : _ ∧ k_ ≠ gb321))) (fun _ hk => hk.2) (.string t316)) (fun _ hk => hk.2) (.int .i64 t317)) (fun _ hk => hk.2) (.int .i64 t318)) (fun _ hk => hk.2) (.int .i64 t319)) (fun _ hk => hk.2) (.int .i64 t320)) (fun _ h_ => h_.1))) hb); replace BK321 := bp_ #[.string t316, .int .i64 t317, .int .i64 t318, .int .i64 t319, .int .i64 t320] BK321 hb; replace HB := bt_ HB GE321 hb; (try clear hb); (try clear hb2); (try clear hk); (try clear hi))); try go_wp2_with (first | (go_at_call 5; (with_reducible refine (laws_big.calls _ _ l0 false _ ?side1 ?side2 A2.out).mono ?_); (case side1 => repeat (first | exact HR0.out | (with_reducible refine Kd.C_alloc ?_ _) | (with_reducible refine Kd.C_drewN ?_ _) | (with_reducible refine Kd.C_drew ?_))); (case side2 => exact HC0.out); rintro e w' ⟨rfl, ⟨nd, rfl⟩⟩; (try first | exact ⟨rfl, _, World.drewN_drewN _ _ _⟩ | exact ⟨rfl, _, Eq.trans (World.drewN_drewN _ _ _) (congrArg (World.drewN _) (Nat.add_assoc _ _ _))⟩)) | (go_at_call 10; (with_reducible refine (spec_DrawDirPut.calls k _ _ l0 t313 t316 t317 t318 t319 t320 _ ?side1 ?side2 A4.out).mono ?_); (case side1 => repeat (first | exact HR0.out | (with_reducible refine Kd.C_alloc ?_ _) | (with_reducible refine Kd.C_drewN ?_ _) | (with_reducible refine Kd.C_drew ?_))); (case side2 => exact HC0.out); rintro e w143 ⟨v314, rfl, ho0, hb⟩; have HO315 := Aside0.mk (Kd.R_lower ho0 (below_size (hb_ HB))); replace HB := bs_ HB hb; (try clear hb); (try clear hb2); (try clear hk); (try clear hi); (try clear ho0)) | ((with_reducible refine gate_dst (N := 4) rfl ?_); (try (refine gate_guard (by rfl) ?_; dsimp only)); refine box_event ?hg (N := 4) ?hd (cs := #[.string (⟨#[]⟩ : ByteArray), .int .i64 0, .int .i64 0, .int .i64 0, .int .i64 0]) (t := 29) ?hr ?_; (case hd => rfl); (case hg => rfl); (case hr => first | (go_simp; done) | (go_simp; rfl)); intro gb321 hg w144 hbox hb; replace HO315 := Aside0.mk (Kd.R_below (Kd.R_elderB (rr_ HO315) gb321 (Nat.le_of_eq hg.symm)) hb); have BK321 := Aside0.mk (hbox); have GW321 := ge_ hg (hb_ HB); have GE321 := ge_ hg (hb_ HB); replace HB := bs_ HB hb; clear hb hbox hg; obtain ⟨hcz145_0, hcz145_1, hcz145_2, hcz145_3, hcz145_4, hfz145_0, hfz145_1, hfz145_2, hfz145_3, hfz145_4⟩ := bc5_ BK321; obtain ⟨Ao146, co146, eo146⟩ := Kd.R_slice HO315.out; subst eo146) | (go_at_call 11; (with_reducible refine (spec_DirOk.calls k _ _ t313 false _ ?side1 ?side2 A5.out).mono ?_); (case side1 => refine (Kd.R_reads' (e := 29) (base := w.heap.size) (ok := fun k_ => (True ∧ k_ ≠ gb321)) (n := t313.length) (c := co146) ?_).2.2; exact (by (with_reducible repeat (first | apply Kd.R_alloc | apply Kd.R_drewN | apply Kd.R_drew)); exact (Kd.R_mono (Kd.R_far (p := ⟨gb321, 4, none⟩) (Kd.R_far (p := ⟨gb321, 3, none⟩) (Kd.R_far (p := ⟨gb321, 2, none⟩) (Kd.R_far (p := ⟨gb321, 1, none⟩) (Kd.R_far (p := ⟨gb321, 0, none⟩) (Kd.R_mono HO315.out (fun k_ hk => (⟨hk, hk.2⟩ : _ ∧ k_ ≠ gb321))) (fun _ hk => hk.2) (.string t316)) (fun _ hk => hk.2) (.int .i64 t317)) (fun _ hk => hk.2) (.int .i64 t318)) (fun _ hk => hk.2) (.int .i64 t319)) (fun _ hk => hk.2) (.int .i64 t320)) (fun _ h_ => h_.1)))); (case side2 => exact (Kd.R_reads' HO315.out).2.1); rintro e w147 ⟨rfl, hb⟩; replace HO315 := Aside0.mk (Kd.R_below (by (with_reducible repeat (first | apply Kd.R_alloc | apply Kd.R_drewN | apply Kd.R_drew)); exact (Kd.R_mono (Kd.R_far (p := ⟨gb321, 4, none⟩) (Kd.R_far (p := ⟨gb321, 3, none⟩) (Kd.R_far (p := ⟨gb321, 2, none⟩) (Kd.R_far (p := ⟨gb321, 1, none⟩) (Kd.R_far (p := ⟨gb321, 0, none⟩) (Kd.R_mono HO315.out (fun k_ hk => (⟨hk, hk.2⟩ : _ ∧ k_ ≠ gb321))) (fun _ hk => hk.2) (.string t316)) (fun _ hk => hk.2) (.int .i64 t317)) (fun _ hk => hk.2) (.int .i64 t318)) (fun _ hk => hk.2) (.int .i64 t319)) (fun _ hk => hk.2) (.int .i64 t320)) (fun _ h_ => h_.1))) hb); replace BK321 := bp_ #[.string t316, .int .i64 t317, .int .i64 t318, .int .i64 t319, .int .i64 t320] BK321 hb; replace HB := bt_ HB GE321 hb; (try clear hb); (try clear hb2); (try clear hk); (try clear hi))))
   go_ret
   exact ⟨re_, hs_ HB GE321⟩

/-- THE ONE PURE STATEMENT of laws_FnDirs: yours. -/
def laws_FnDirs.Pure : Prop := ∀ (l0 : List Int), l0.length ≤ maxLen → l0.length * 1 ≤ 140737488351232 → (∀ x ∈ l0, (Lit.int .u8 x).wf = true) → ∃ k, laws_FnDirs.f k l0 = some true
theorem laws_FnDirs.walk (P : laws_FnDirs.Pure) (a0 : Option Addr) (len0 cap0 : Nat) (z0 : List Int) (w : World) (w0 : (a0 = none ∧ len0 = 0 ∧ cap0 = 0 ∧ z0 = []) ∨ ∃ x, a0 = some x ∧ len0 ≤ cap0 ∧ cap0 ≤ maxLen ∧ z0.length = cap0 ∧ (∀ i, i < z0.length → w.cell? (x.add i) = some (.int .u8 (z0.getD i 0))) ∧ ∀ n ∈ z0, (Lit.int .u8 n).wf = true) (y0 : len0 * 1 ≤ 140737488351232) :
  Calls Try.prog 4 #[.slice a0 len0 cap0] w fun e w' => e = .returned (.bool true) ∧ Below w.heap.size w w' := by
 obtain ⟨l0, rfl, hr0, hm0, hw0, hc0⟩ := ReadsInt.ofRowC w0
 obtain ⟨k, h⟩ := P l0 hm0 y0 hw0
 refine (laws_FnDirs.calls k _ _ l0 true w (Kd.C_of_reads (d := (0 : Int)) (h1 := fun _ => rfl) hr0) hc0 rfl h).mono ?_
 rintro e w' ⟨rfl, hd⟩
 exact ⟨rfl, hd⟩

end Go.Proofs.Ytjcjijkgnkifeaa.PFnDirs
