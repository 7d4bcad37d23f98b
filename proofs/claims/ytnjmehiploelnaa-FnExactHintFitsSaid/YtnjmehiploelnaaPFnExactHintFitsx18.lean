-- Laid by a program of this session, a copy of the kit's printer with additions (wip/patch_print.py): myhead. Lean checks it.
import Derived.Test.YtnjmehiploelnaaPFnExactHintFitsx0
import Derived.Test.YtnjmehiploelnaaPFnExactHintFitsx11
import Derived.Test.YtnjmehiploelnaaPFnExactHintFitsx15
import Derived.Test.YtnjmehiploelnaaPFnExactHintFitsx17
namespace Go.Proofs.Ytnjmehiploelnaa.PFnExactHintFits
open Go.RowKit Go.Proofs.YtnjmehiploelnaaW.PrintWords Go.Proofs.YtnjmehiploelnaaW.PrintLast Go.Proofs.YtnjmehiploelnaaW.PrintMore
theorem bl_swq60999 : ∀ x y : List UInt8, (Op.bytesLess x y || x == y) = !(Op.bytesLess y x)
 | [], [] => by simp [Op.bytesLess]
 | [], _ :: _ => by simp [Op.bytesLess]
 | _ :: _, [] => by simp [Op.bytesLess]
 | a :: x, b :: y => by
  have ih := bl_swq60999 x y
  by_cases e : a = b
  ·subst e
   simp only [Op.bytesLess, List.cons_beq_cons, BEq.rfl, Bool.true_and, UInt8.lt_irrefl, decide_false, Bool.false_or]
   exact ih
  ·have e' : ¬ b = a := fun h => e h.symm
   have h1 : (a == b) = false := by simpa using e
   have h2 : (b == a) = false := by simpa using e'
   simp only [Op.bytesLess, List.cons_beq_cons, h1, h2, Bool.false_and, Bool.or_false]
   by_cases l : a < b
   ·have : ¬ b < a := fun h => UInt8.lt_asymm h l
    simp [l, this]
   ·have : b < a := UInt8.lt_of_le_of_ne (UInt8.not_lt.1 l) e'
    simp [l, this]
theorem bl_leqq60999 (t : TypeId) (a b : ByteArray) : binOp .leq t (.string a) (.string b) = pure (.bool (!(Op.bytesLess b.toList a.toList))) := by simp only [binOp, Op.stringOp, bl_swq60999]
theorem bl_gtrq60999 (t : TypeId) (a b : ByteArray) : binOp .gtr t (.string a) (.string b) = pure (.bool (Op.bytesLess b.toList a.toList)) := by simp only [binOp, Op.stringOp, bl_swq60999, Bool.not_not]
theorem bl_geqq60999 (t : TypeId) (a b : ByteArray) : binOp .geq t (.string a) (.string b) = pure (.bool (!(Op.bytesLess a.toList b.toList))) := by simp only [binOp, Op.stringOp]
attribute [local go_sem] bl_leqq60999 bl_gtrq60999 bl_geqq60999
attribute [local go_sem] max2_int min2_int max_two min_two max_three min_three max_four min_four   -- for this text's walks alone
set_option linter.unusedVariables false
set_option linter.unusedSimpArgs false

/-! ### impl_HintOf: function 16 -/
mutual
def impl_HintOf.j0 : Nat → Int → List (S37) → Int → Int → Bool → Option (Int × Int × (List (S68)) × Bool)
 | 0, _, _, _, _, _ => none
 | k + 1, x0, x6, x7, x8, x55 => if x55 = true then (some (0, 0, ([] : List (S68)), false)) else (if 0 ≤ x8 then (if x8 < (x6.length : Int) then (if x8 ≤ (x6.length : Int) then ((some (x6.take (x8 : Int).toNat : List (S37))).bind fun y388 => (impl_HintOf.l0 k x0 x6 y388 (y388.length : Int) 0 x7 ((rd_T37 x6 x8).f2.f1) ([] : List (S68)))) else (none)) else (none)) else (none))
def impl_HintOf.l0 : Nat → Int → List (S37) → List (S37) → Int → Int → Int → Int → List (S68) → Option (Int × Int × (List (S68)) × Bool)
 | 0, _, _, _, _, _, _, _, _ => none
 | k + 1, x0, x6, x67, x68, x69, x388000, x388001, x388002 => if x69 < x68 then (if 0 ≤ x69 then (if x69 < (x67.length : Int) then (if ((rd_T37 x67 x69).f2.f0) = 4 then (if ((rd_T37 x67 x69).f2.f1) > x388001 then (impl_HintOf.j2 k x0 x6 x67 x68 x69 true x388000 x388001 x388002 ((rd_T37 x67 x69).f0) ((rd_T37 x67 x69).f1) ((rd_T37 x67 x69).f2.f0) ((rd_T37 x67 x69).f2.f1) ((rd_T37 x67 x69).f2.f2) ((rd_T37 x67 x69).f2.f3) ((rd_T37 x67 x69).f2.f4) ((rd_T37 x67 x69).f2.f5)) else (if x69 > 0 then (if 0 ≤ (wrap64 (x69 - 1)) then (if (wrap64 (x69 - 1)) < (x6.length : Int) then (impl_HintOf.j2 k x0 x6 x67 x68 x69 (!(Op.bytesLess (((rd_T37 x6 (wrap64 (x69 - 1))).f2.f2).toList) (((rd_T37 x67 x69).f2.f2).toList))) x388000 x388001 x388002 ((rd_T37 x67 x69).f0) ((rd_T37 x67 x69).f1) ((rd_T37 x67 x69).f2.f0) ((rd_T37 x67 x69).f2.f1) ((rd_T37 x67 x69).f2.f2) ((rd_T37 x67 x69).f2.f3) ((rd_T37 x67 x69).f2.f4) ((rd_T37 x67 x69).f2.f5)) else (none)) else (none)) else (impl_HintOf.j2 k x0 x6 x67 x68 x69 false x388000 x388001 x388002 ((rd_T37 x67 x69).f0) ((rd_T37 x67 x69).f1) ((rd_T37 x67 x69).f2.f0) ((rd_T37 x67 x69).f2.f1) ((rd_T37 x67 x69).f2.f2) ((rd_T37 x67 x69).f2.f3) ((rd_T37 x67 x69).f2.f4) ((rd_T37 x67 x69).f2.f5)))) else (impl_HintOf.j2 k x0 x6 x67 x68 x69 true x388000 x388001 x388002 ((rd_T37 x67 x69).f0) ((rd_T37 x67 x69).f1) ((rd_T37 x67 x69).f2.f0) ((rd_T37 x67 x69).f2.f1) ((rd_T37 x67 x69).f2.f2) ((rd_T37 x67 x69).f2.f3) ((rd_T37 x67 x69).f2.f4) ((rd_T37 x67 x69).f2.f5))) else (none)) else (none)) else (some (x388000, x388001, x388002, true))
def impl_HintOf.j2 : Nat → Int → List (S37) → List (S37) → Int → Int → Bool → Int → Int → List (S68) → Int → Int → Int → Int → ByteArray → ByteArray → Int → Int → Option (Int × Int × (List (S68)) × Bool)
 | 0, _, _, _, _, _, _, _, _, _, _, _, _, _, _, _, _, _ => none
 | k + 1, x0, x6, x67, x68, x69, x102, x388000, x388001, x388002, x394000, x394001, x394002, x394003, x394004, x394005, x394006, x394007 => if x102 = true then (some (0, 0, ([] : List (S68)), false)) else (if x388002.length < 2932031007402 then (impl_HintOf.l0 k x0 x6 x67 x68 (wrap64 (x69 + 1)) x388000 x388001 (x388002 ++ [(⟨x394004, x0, x394000, x394001, x394003⟩ : S68)])) else (none))
end
def impl_HintOf.f (k : Nat) (a0 : Int) (a1 : ByteArray) : Option (Int × Int × (List (S68)) × Bool) := (impl_ScanRecs.f k a1).bind fun bt371 => (if (wrap64 ((bt371.1.length : Int) - 1)) < 0 then (impl_HintOf.j0 k a0 bt371.1 bt371.2 (wrap64 ((bt371.1.length : Int) - 1)) true) else (if bt371.2 = (a1.size : Int) then ((impl_in.f a0 1 100000).bind fun t375 => (if t375 = true then (if 0 ≤ (wrap64 ((bt371.1.length : Int) - 1)) then (if (wrap64 ((bt371.1.length : Int) - 1)) < (bt371.1.length : Int) then (if ((rd_T37 bt371.1 (wrap64 ((bt371.1.length : Int) - 1))).f2.f0) = 5 then (if (wrap64 ((bt371.1.length : Int) - 1)) ≤ (bt371.1.length : Int) then ((impl_placed.f k a0 (bt371.1.take ((wrap64 ((bt371.1.length : Int) - 1)) : Int).toNat)).bind fun t382 => ((impl_fits.f k ((rd_T37 bt371.1 (wrap64 ((bt371.1.length : Int) - 1))).f2.f0) ((rd_T37 bt371.1 (wrap64 ((bt371.1.length : Int) - 1))).f2.f1) ((rd_T37 bt371.1 (wrap64 ((bt371.1.length : Int) - 1))).f2.f2) ((rd_T37 bt371.1 (wrap64 ((bt371.1.length : Int) - 1))).f2.f3) ((rd_T37 bt371.1 (wrap64 ((bt371.1.length : Int) - 1))).f2.f4) ((rd_T37 bt371.1 (wrap64 ((bt371.1.length : Int) - 1))).f2.f5) t382).bind fun t385 => (impl_HintOf.j0 k a0 bt371.1 bt371.2 (wrap64 ((bt371.1.length : Int) - 1)) (!t385)))) else (none)) else (impl_HintOf.j0 k a0 bt371.1 bt371.2 (wrap64 ((bt371.1.length : Int) - 1)) true)) else (none)) else (none)) else (impl_HintOf.j0 k a0 bt371.1 bt371.2 (wrap64 ((bt371.1.length : Int) - 1)) true))) else (impl_HintOf.j0 k a0 bt371.1 bt371.2 (wrap64 ((bt371.1.length : Int) - 1)) true)))
theorem impl_HintOf.mono_l : ∀ k, (∀ y0 y1 y2 y3 y4, LeO (impl_HintOf.j0 k y0 y1 y2 y3 y4) (impl_HintOf.j0 (k + 1) y0 y1 y2 y3 y4)) ∧ (∀ y0 y1 y2 y3 y4 y5 y6 y7, LeO (impl_HintOf.l0 k y0 y1 y2 y3 y4 y5 y6 y7) (impl_HintOf.l0 (k + 1) y0 y1 y2 y3 y4 y5 y6 y7)) ∧ (∀ y0 y1 y2 y3 y4 y5 y6 y7 y8 y9 y10 y11 y12 y13 y14 y15 y16, LeO (impl_HintOf.j2 k y0 y1 y2 y3 y4 y5 y6 y7 y8 y9 y10 y11 y12 y13 y14 y15 y16) (impl_HintOf.j2 (k + 1) y0 y1 y2 y3 y4 y5 y6 y7 y8 y9 y10 y11 y12 y13 y14 y15 y16))
 | 0 => ⟨fun _ _ _ _ _ r h => by simp [impl_HintOf.j0] at h, fun _ _ _ _ _ _ _ _ r h => by simp [impl_HintOf.l0] at h, fun _ _ _ _ _ _ _ _ _ _ _ _ _ _ _ _ _ r h => by simp [impl_HintOf.j2] at h⟩
 | k + 1 => by
  obtain ⟨ih0, ih1, ih2⟩ := impl_HintOf.mono_l k
  refine ⟨?_, ?_, ?_⟩
  ·intro y0 y1 y2 y3 y4
   unfold impl_HintOf.j0
   repeat' first | (with_reducible first | exact ih0 .. | exact ih1 .. | exact ih2 .. | exact impl_ScanRecs.mono .. | exact impl_fits.mono .. | exact impl_placed.mono .. | exact LeO.refl .. | exact LeO.none .. | refine LeO.ite ?_ ?_ | refine LeO.bind ?_ (fun _ => ?_)) | exact ih0 .. | exact ih1 .. | exact ih2 .. | exact impl_ScanRecs.mono .. | exact impl_fits.mono .. | exact impl_placed.mono .. | exact LeO.none .. | refine LeO.ite ?_ ?_ | refine LeO.bind ?_ (fun _ => ?_)
  ·intro y0 y1 y2 y3 y4 y5 y6 y7
   unfold impl_HintOf.l0
   repeat' first | (with_reducible first | exact ih0 .. | exact ih1 .. | exact ih2 .. | exact impl_ScanRecs.mono .. | exact impl_fits.mono .. | exact impl_placed.mono .. | exact LeO.refl .. | exact LeO.none .. | refine LeO.ite ?_ ?_ | refine LeO.bind ?_ (fun _ => ?_)) | exact ih0 .. | exact ih1 .. | exact ih2 .. | exact impl_ScanRecs.mono .. | exact impl_fits.mono .. | exact impl_placed.mono .. | exact LeO.none .. | refine LeO.ite ?_ ?_ | refine LeO.bind ?_ (fun _ => ?_)
  ·intro y0 y1 y2 y3 y4 y5 y6 y7 y8 y9 y10 y11 y12 y13 y14 y15 y16
   unfold impl_HintOf.j2
   repeat' first | (with_reducible first | exact ih0 .. | exact ih1 .. | exact ih2 .. | exact impl_ScanRecs.mono .. | exact impl_fits.mono .. | exact impl_placed.mono .. | exact LeO.refl .. | exact LeO.none .. | refine LeO.ite ?_ ?_ | refine LeO.bind ?_ (fun _ => ?_)) | exact ih0 .. | exact ih1 .. | exact ih2 .. | exact impl_ScanRecs.mono .. | exact impl_fits.mono .. | exact impl_placed.mono .. | exact LeO.none .. | refine LeO.ite ?_ ?_ | refine LeO.bind ?_ (fun _ => ?_)
theorem impl_HintOf.mono : ∀ a0 a1 k, LeO (impl_HintOf.f k a0 a1) (impl_HintOf.f (k + 1) a0 a1) := by
 intro a0 a1 k
 obtain ⟨ih0, ih1, ih2⟩ := impl_HintOf.mono_l k
 unfold impl_HintOf.f
 repeat' first | (with_reducible first | exact ih0 .. | exact ih1 .. | exact ih2 .. | exact impl_ScanRecs.mono .. | exact impl_fits.mono .. | exact impl_placed.mono .. | exact LeO.refl .. | exact LeO.none .. | refine LeO.ite ?_ ?_ | refine LeO.bind ?_ (fun _ => ?_)) | exact ih0 .. | exact ih1 .. | exact ih2 .. | exact impl_ScanRecs.mono .. | exact impl_fits.mono .. | exact impl_placed.mono .. | exact LeO.none .. | refine LeO.ite ?_ ?_ | refine LeO.bind ?_ (fun _ => ?_)
def impl_HintOf.T3 : Bool × List (List Nat × List Nat) := (true, [([], []), ([0], [0]), ([1], [1]), ([2], [2]), ([2], [2]), ([4, 2], [2, 4]), ([3, 5, 2], [2, 3, 5]), ([2, 6], [2, 6]), ([7, 2], [7]), ([8], [8]), ([9, 8, 8], [8, 9]), ([10, 8], [8, 10]), ([8, 11], [8, 11]), ([12, 10], [12]), ([13], [13]), ([13], [13]), ([14, 15, 13], [13, 14, 15]), ([16, 13], [13, 16]), ([17, 13], [13, 17]), ([18, 13], [13, 18]), ([19, 13], [13, 19]), ([13, 20], [13, 20]), ([21, 13], [21]), ([22], [22]), ([22], [22]), ([23, 24, 22], [22, 23, 24]), ([25, 22], [22, 25]), ([26, 22], [22, 26]), ([22], [22]), ([22], [22]), ([22], [22]), ([29, 30, 22], [22, 29, 30]), ([28, 31, 22, 22], [22, 28, 31]), ([27, 32, 32, 22], [22, 27, 32]), ([33, 22], [22, 33]), ([22, 34], [22, 34])])
def impl_HintOf.B3 : List Nat := [0, 1, 3, 7, 7, 23, 63, 127, 255, 511, 1023, 2047, 4095, 8191, 16383, 16383, 65535, 131071, 262143, 524287, 1048575, 2097151, 4194303, 8388607, 8388607, 33554431, 67108863, 134217727, 8388607, 8388607, 8388607, 1619001343, 4034920447, 8589934591, 17179869183, 34359738367]
theorem impl_HintOf.tab3 : rtab .any (opsOf Try.f16 3) = impl_HintOf.T3 := by kernel_rfl
theorem impl_HintOf.bits3 : waitsOk impl_HintOf.T3.2 impl_HintOf.B3 = true := by kernel_rfl
def impl_HintOf.T9 : Bool × List (List Nat × List Nat) := (true, [([], []), ([0], [0]), ([1], [1]), ([2], [2]), ([3], [3]), ([4], [4]), ([5, 4], [4, 5]), ([6, 4], [4, 6]), ([4], [4]), ([8, 4], [4, 8]), ([7, 9, 4], [4, 7, 9]), ([4, 10], [4, 10]), ([11, 4], [11]), ([12], [12]), ([13, 12], [12, 13]), ([14, 12, 12], [12, 14]), ([15], [15]), ([15], [15]), ([17, 15], [15, 17]), ([16, 18, 15], [15, 16, 18]), ([19, 15], [15, 19]), ([20, 15], [15, 20]), ([21, 15], [15, 21]), ([15], [15]), ([23, 15], [15, 23]), ([24, 15], [15, 24]), ([22, 25, 15], [15, 22, 25]), ([15, 26, 12], [12, 15, 26]), ([12, 27], [12, 27])])
def impl_HintOf.B9 : List Nat := [0, 1, 3, 7, 15, 31, 63, 127, 31, 287, 1023, 2047, 4095, 8191, 16383, 32767, 65535, 65535, 196607, 524287, 1048575, 2097151, 4194303, 65535, 8454143, 25231359, 67108863, 134217727, 268435455]
theorem impl_HintOf.tab9 : rtab .any (opsOf Try.f16 9) = impl_HintOf.T9 := by kernel_rfl
theorem impl_HintOf.bits9 : waitsOk impl_HintOf.T9.2 impl_HintOf.B9 = true := by kernel_rfl
set_option maxHeartbeats 80000000 in
set_option maxRecDepth 100000 in
theorem impl_HintOf.calls (k : Nat) (a0 : Int) (a1 : ByteArray) (r1 : Int) (r2 : Int) (r3 : List (S68)) (r4 : Bool) (w : World) (h : impl_HintOf.f k a0 a1 = some (r1, r2, r3, r4)) :
  Calls Try.prog 16 #[.int .i64 a0, .string a1] w fun e w' => ∃ v2_ : Value, e = .returned (.tuple #[.agg #[.int .i64 r1, .int .i64 r2, v2_], .bool r4]) ∧ Kd.R k68 68 w' w.heap.size (fun _ => True) v2_ r3 ∧ Below w.heap.size w w' := by
 have hu40 := Try.underlying40
 have hu33 := Try.underlying33
 have hu37 := Try.underlying37
 have hu68 := Try.underlying68
 have HB := Aside0.mk (Below.refl w.heap.size w)
 have H : ((impl_ScanRecs.f k a1).bind fun bt371 => (if (wrap64 ((bt371.1.length : Int) - 1)) < 0 then (impl_HintOf.j0 k a0 bt371.1 bt371.2 (wrap64 ((bt371.1.length : Int) - 1)) true) else (if bt371.2 = (a1.size : Int) then ((impl_in.f a0 1 100000).bind fun t375 => (if t375 = true then (if 0 ≤ (wrap64 ((bt371.1.length : Int) - 1)) then (if (wrap64 ((bt371.1.length : Int) - 1)) < (bt371.1.length : Int) then (if ((rd_T37 bt371.1 (wrap64 ((bt371.1.length : Int) - 1))).f2.f0) = 5 then (if (wrap64 ((bt371.1.length : Int) - 1)) ≤ (bt371.1.length : Int) then ((impl_placed.f k a0 (bt371.1.take ((wrap64 ((bt371.1.length : Int) - 1)) : Int).toNat)).bind fun t382 => ((impl_fits.f k ((rd_T37 bt371.1 (wrap64 ((bt371.1.length : Int) - 1))).f2.f0) ((rd_T37 bt371.1 (wrap64 ((bt371.1.length : Int) - 1))).f2.f1) ((rd_T37 bt371.1 (wrap64 ((bt371.1.length : Int) - 1))).f2.f2) ((rd_T37 bt371.1 (wrap64 ((bt371.1.length : Int) - 1))).f2.f3) ((rd_T37 bt371.1 (wrap64 ((bt371.1.length : Int) - 1))).f2.f4) ((rd_T37 bt371.1 (wrap64 ((bt371.1.length : Int) - 1))).f2.f5) t382).bind fun t385 => (impl_HintOf.j0 k a0 bt371.1 bt371.2 (wrap64 ((bt371.1.length : Int) - 1)) (!t385)))) else (none)) else (impl_HintOf.j0 k a0 bt371.1 bt371.2 (wrap64 ((bt371.1.length : Int) - 1)) true)) else (none)) else (none)) else (impl_HintOf.j0 k a0 bt371.1 bt371.2 (wrap64 ((bt371.1.length : Int) - 1)) true))) else (impl_HintOf.j0 k a0 bt371.1 bt371.2 (wrap64 ((bt371.1.length : Int) - 1)) true)))) = some (r1, r2, r3, r4) := h
 clear h
 replace H := Option.bind_eq_some_iff.mp H
 obtain ⟨⟨t371, t372⟩, A30, H⟩ := H
 replace H : (if (wrap64 ((t371.length : Int) - 1)) < 0 then (impl_HintOf.j0 k a0 t371 t372 (wrap64 ((t371.length : Int) - 1)) true) else (if t372 = (a1.size : Int) then ((impl_in.f a0 1 100000).bind fun t375 => (if t375 = true then (if 0 ≤ (wrap64 ((t371.length : Int) - 1)) then (if (wrap64 ((t371.length : Int) - 1)) < (t371.length : Int) then (if ((rd_T37 t371 (wrap64 ((t371.length : Int) - 1))).f2.f0) = 5 then (if (wrap64 ((t371.length : Int) - 1)) ≤ (t371.length : Int) then ((impl_placed.f k a0 (t371.take ((wrap64 ((t371.length : Int) - 1)) : Int).toNat)).bind fun t382 => ((impl_fits.f k ((rd_T37 t371 (wrap64 ((t371.length : Int) - 1))).f2.f0) ((rd_T37 t371 (wrap64 ((t371.length : Int) - 1))).f2.f1) ((rd_T37 t371 (wrap64 ((t371.length : Int) - 1))).f2.f2) ((rd_T37 t371 (wrap64 ((t371.length : Int) - 1))).f2.f3) ((rd_T37 t371 (wrap64 ((t371.length : Int) - 1))).f2.f4) ((rd_T37 t371 (wrap64 ((t371.length : Int) - 1))).f2.f5) t382).bind fun t385 => (impl_HintOf.j0 k a0 t371 t372 (wrap64 ((t371.length : Int) - 1)) (!t385)))) else (none)) else (impl_HintOf.j0 k a0 t371 t372 (wrap64 ((t371.length : Int) - 1)) true)) else (none)) else (none)) else (impl_HintOf.j0 k a0 t371 t372 (wrap64 ((t371.length : Int) - 1)) true))) else (impl_HintOf.j0 k a0 t371 t372 (wrap64 ((t371.length : Int) - 1)) true))) = some (r1, r2, r3, r4) := H
 have A3 := Aside0.mk A30
 clear A30
 have HC4 := Aside0.mk H
 clear H
 go_enter Try.func16, Try.ntmps16
 go_upto_region 3 with (first | ((with_reducible refine gate_dst (N := 4) rfl ?_); (try (refine gate_guard (by rfl) ?_; dsimp only)); refine box_event ?hg (N := 4) ?hd (cs := #[.int .i64 0, .int .i64 0, .slice none 0 0]) (t := 40) ?hr ?_; (case hd => rfl); (case hg => rfl); (case hr => first | (go_simp; done) | (go_simp; rfl)); intro gb370 hg w5 hbox hb; have BK370 := Aside0.mk (hbox); have GW370 := ge_ hg (hb_ HB); have GE370 := ge_ hg (hb_ HB); replace HB := bs_ HB hb; clear hb hbox hg) | ((with_reducible refine gate_callee (f := 11) rfl ?_); refine goesL_ (some 14) rfl rfl Try.func11 (by kernel_rfl) rfl #[.string a1] rfl ar_ ?_; (with_reducible refine (impl_ScanRecs.calls k a1 t371 t372 _ A3.out).mono ?_); rintro e w6 ⟨v373, rfl, ho0, hb⟩; refine ⟨_, rfl, ?_⟩; have HO374 := Aside0.mk (Kd.R_lower ho0 (below_size (hs_ HB GE370))); replace BK370 := bb_ BK370 hb; replace HB := bt_ HB GE370 hb; (try clear hb); (try clear hb2); (try clear hk); (try clear hi); (try clear ho0); obtain ⟨Ao7, co7, eo7⟩ := Kd.R_slice HO374.out; subst eo7))
 (try simp only [Act.put, la_, lz_, ls_])
 go_cut [55] (fun v55 wc => ∃ (kq : Nat) (x55_3 : Bool), v55 = .bool x55_3 ∧ Aside0 (impl_HintOf.j0 kq a0 t371 t372 (wrap64 ((t371.length : Int) - 1)) x55_3 = some (r1, r2, r3, r4)) ∧ Aside0 (kq ≤ k) ∧ Aside0 (Kd.R k37 37 wc w.heap.size (fun _ => True) (.slice Ao7 t371.length co7) t371) ∧ Aside0 (wc.heap[gb370]? = some (.cells #[.int .i64 0, .int .i64 0, (.slice none 0 0)] 40 (0, 0))) ∧ Aside0 (Below w.heap.size w wc))
 case first =>
  have H := HC4.out
  clear HC4
  by_cases c8 : (wrap64 ((t371.length : Int) - 1)) < 0
  ·rw [if_pos c8] at H
   have c8b0 : decide ((wrap64 ((t371.length : Int) - 1)) < 0) = true := decide_eq_true c8
   clear c8
   (first | rw [c8b0] | (simp only [i64_w, i32_w]; rw [c8b0]) | skip)
   have H' := Aside0.mk H
   clear H
   try go_wp2
   replace HO374 := rd_ HO374
   replace BK370 := bd_ BK370
   replace HB := hd_ HB
   refine start_ (n := 36) (S := fun w' => True) (ds := []) (on_ 0 36) (by kernel_rfl) rfl rfl trivial (fun hHeld => ?_); refine with_tabW impl_HintOf.tab3 impl_HintOf.bits3 (fun HT_ HW_ => ?_)
   generalize w6.drew = w9 at HO374 BK370 HB hHeld ⊢
   refine pv_' 0 20 (on_ 1 35) rfl rfl HT_ ?_
   refine pv_' 1 21 (on_ 2 34) rfl rfl HT_ ?_
   refine pv_' 2 22 (on_ 3 33) rfl rfl HT_ ?_
   refine pun_' 3 23 (on_ 4 32) rfl rfl HT_ ?_
   refine pun_' 4 24 (on_ 5 31) rfl rfl HT_ ?_
   refine pun_' 5 25 (on_ 6 30) rfl rfl HT_ ?_
   refine pun_' 6 26 (on_ 7 29) rfl rfl HT_ ?_
   refine pv_' 7 27 (on_ 8 28) rfl rfl HT_ ?_
   refine pv_' 8 28 (on_ 9 27) rfl rfl HT_ ?_
   refine pun_' 9 29 (on_ 10 26) rfl rfl HT_ ?_
   refine pun_' 10 30 (on_ 11 25) rfl rfl HT_ ?_
   refine pun_' 11 31 (on_ 12 24) rfl rfl HT_ ?_
   refine pv_' 12 32 (on_ 13 23) rfl rfl HT_ ?_
   refine pv_' 13 33 (on_ 14 22) rfl rfl HT_ ?_
   refine pun_' 14 34 (on_ 15 21) rfl rfl HT_ ?_
   refine pun_' 15 35 (on_ 16 20) rfl rfl HT_ ?_
   refine pun_' 16 36 (on_ 17 19) rfl rfl HT_ ?_
   refine pun_' 17 37 (on_ 18 18) rfl rfl HT_ ?_
   refine pun_' 18 38 (on_ 19 17) rfl rfl HT_ ?_
   refine pun_' 19 39 (on_ 20 16) rfl rfl HT_ ?_
   refine pun_' 20 40 (on_ 21 15) rfl rfl HT_ ?_
   refine pv_' 21 41 (on_ 22 14) rfl rfl HT_ ?_
   refine pv_' 22 42 (on_ 23 13) rfl rfl HT_ ?_
   refine pun_' 23 43 (on_ 24 12) rfl rfl HT_ ?_
   refine pun_' 24 44 (on_ 25 11) rfl rfl HT_ ?_
   refine pun_' 25 45 (on_ 26 10) rfl rfl HT_ ?_
   refine pun_' 26 46 (on_ 27 9) rfl rfl HT_ ?_
   refine pun_' 27 47 (on_ 28 8) rfl rfl HT_ ?_
   refine pun_' 28 48 (on_ 29 7) rfl rfl HT_ ?_
   refine pun_' 29 49 (on_ 30 6) rfl rfl HT_ ?_
   refine pun_' 30 50 (on_ 31 5) rfl rfl HT_ ?_
   refine pun_' 31 51 (on_ 32 4) rfl rfl HT_ ?_
   refine pun_' 32 52 (on_ 33 3) rfl rfl HT_ ?_
   refine pun_' 33 53 (on_ 34 2) rfl rfl HT_ ?_
   refine pun_' 34 54 (on_ 35 1) rfl rfl HT_ ?_
   refine pv_' 35 55 (on_ 36 0) rfl rfl HT_ ?_
   refine done_ (done_of HT_.out (by kernel_rfl)) ?_
   try go_wp2
   go_meet
   case rel => exact ⟨_, (true), rs_, H', ⟨by first | exact Nat.le_refl _ | exact Nat.le_of_succ_le this | omega⟩, ⟨rr_ HO374⟩, ⟨bk_ BK370⟩, ⟨hs_ HB GE370⟩⟩
  ·rw [if_neg c8] at H
   have c8b0 : decide ((wrap64 ((t371.length : Int) - 1)) < 0) = false := decide_eq_false c8
   clear c8
   (first | rw [c8b0] | (simp only [i64_w, i32_w]; rw [c8b0]) | skip)
   by_cases c10 : t372 = (a1.size : Int)
   ·rw [if_pos c10] at H
    have c10b0 : (t372 == (a1.size : Int)) = true := beq_iff_eq.mpr c10
    have c10b1 : (t372 != (a1.size : Int)) = false := bne_eq_false_iff_eq.mpr c10
    clear c10
    replace H := Option.bind_eq_some_iff.mp H
    obtain ⟨t375, A110, H⟩ := H
    replace H : (if t375 = true then (if 0 ≤ (wrap64 ((t371.length : Int) - 1)) then (if (wrap64 ((t371.length : Int) - 1)) < (t371.length : Int) then (if ((rd_T37 t371 (wrap64 ((t371.length : Int) - 1))).f2.f0) = 5 then (if (wrap64 ((t371.length : Int) - 1)) ≤ (t371.length : Int) then ((impl_placed.f k a0 (t371.take ((wrap64 ((t371.length : Int) - 1)) : Int).toNat)).bind fun t382 => ((impl_fits.f k ((rd_T37 t371 (wrap64 ((t371.length : Int) - 1))).f2.f0) ((rd_T37 t371 (wrap64 ((t371.length : Int) - 1))).f2.f1) ((rd_T37 t371 (wrap64 ((t371.length : Int) - 1))).f2.f2) ((rd_T37 t371 (wrap64 ((t371.length : Int) - 1))).f2.f3) ((rd_T37 t371 (wrap64 ((t371.length : Int) - 1))).f2.f4) ((rd_T37 t371 (wrap64 ((t371.length : Int) - 1))).f2.f5) t382).bind fun t385 => (impl_HintOf.j0 k a0 t371 t372 (wrap64 ((t371.length : Int) - 1)) (!t385)))) else (none)) else (impl_HintOf.j0 k a0 t371 t372 (wrap64 ((t371.length : Int) - 1)) true)) else (none)) else (none)) else (impl_HintOf.j0 k a0 t371 t372 (wrap64 ((t371.length : Int) - 1)) true)) = some (r1, r2, r3, r4) := H
    have A11 := Aside0.mk A110
    clear A110
    by_cases c12 : t375 = true
    ·subst c12
     have H1 : (if 0 ≤ (wrap64 ((t371.length : Int) - 1)) then (if (wrap64 ((t371.length : Int) - 1)) < (t371.length : Int) then (if ((rd_T37 t371 (wrap64 ((t371.length : Int) - 1))).f2.f0) = 5 then (if (wrap64 ((t371.length : Int) - 1)) ≤ (t371.length : Int) then ((impl_placed.f k a0 (t371.take ((wrap64 ((t371.length : Int) - 1)) : Int).toNat)).bind fun t382 => ((impl_fits.f k ((rd_T37 t371 (wrap64 ((t371.length : Int) - 1))).f2.f0) ((rd_T37 t371 (wrap64 ((t371.length : Int) - 1))).f2.f1) ((rd_T37 t371 (wrap64 ((t371.length : Int) - 1))).f2.f2) ((rd_T37 t371 (wrap64 ((t371.length : Int) - 1))).f2.f3) ((rd_T37 t371 (wrap64 ((t371.length : Int) - 1))).f2.f4) ((rd_T37 t371 (wrap64 ((t371.length : Int) - 1))).f2.f5) t382).bind fun t385 => (impl_HintOf.j0 k a0 t371 t372 (wrap64 ((t371.length : Int) - 1)) (!t385)))) else (none)) else (impl_HintOf.j0 k a0 t371 t372 (wrap64 ((t371.length : Int) - 1)) true)) else (none)) else (none)) = some (r1, r2, r3, r4) := by rw [if_pos rfl] at H; exact H
     clear H
     have H := H1
     clear H1
     obtain ⟨ji13, hji13⟩ : ∃ j_ : Int, (wrap64 ((t371.length : Int) - 1)) = j_ := ⟨_, rfl⟩
     replace H : (if 0 ≤ (ji13) then (if (ji13) < (t371.length : Int) then (if ((rd_T37 t371 (ji13)).f2.f0) = 5 then (if (ji13) ≤ (t371.length : Int) then ((impl_placed.f k a0 (t371.take ((ji13) : Int).toNat)).bind fun t382 => ((impl_fits.f k ((rd_T37 t371 (ji13)).f2.f0) ((rd_T37 t371 (ji13)).f2.f1) ((rd_T37 t371 (ji13)).f2.f2) ((rd_T37 t371 (ji13)).f2.f3) ((rd_T37 t371 (ji13)).f2.f4) ((rd_T37 t371 (ji13)).f2.f5) t382).bind fun t385 => (impl_HintOf.j0 k a0 t371 t372 ji13 (!t385)))) else (none)) else (impl_HintOf.j0 k a0 t371 t372 ji13 true)) else (none)) else (none)) = some (r1, r2, r3, r4) := by first | (rw [hji13] at H; exact H) | (simp only [hji13] at H ⊢; exact H)
     (try rw [hji13] at c8b0)
     (try rw [hji13] at A11)
     have hji13w : (IntKind.i64.wrap ((t371.length : Int) - 1)) = ji13 := (i64_w _).trans hji13
     by_cases c14 : 0 ≤ (ji13)
     ·rw [if_pos c14] at H
      have c14b0 : decide (0 ≤ (ji13)) = true := decide_eq_true c14
      clear c14
      by_cases c15 : (ji13) < (t371.length : Int)
      ·rw [if_pos c15] at H
       have c15b0 : decide ((ji13) < (t371.length : Int)) = true := decide_eq_true c15
       clear c15
       by_cases c16 : ((rd_T37 t371 (ji13)).f2.f0) = 5
       ·rw [if_pos c16] at H
        have c16b0 : (((rd_T37 t371 (ji13)).f2.f0) == 5) = true := beq_iff_eq.mpr c16
        have c16b1 : (((rd_T37 t371 (ji13)).f2.f0) != 5) = false := bne_eq_false_iff_eq.mpr c16
        clear c16
        have c17b0 := eq_true (of_decide_eq_true as_ : 0 ≤ (ji13))
        by_cases c18 : (ji13) ≤ (t371.length : Int)
        ·rw [if_pos c18] at H
         have c18b0 := eq_true c18
         have c18b1 : decide ((ji13) ≤ (t371.length : Int)) = true := decide_eq_true c18
         clear c18
         obtain ⟨y378, hy378⟩ : ∃ y_ : List (S37), y_ = (t371.take ((ji13) : Int).toNat) := ⟨_, rfl⟩
         replace H : ((impl_placed.f k a0 y378).bind fun t382 => ((impl_fits.f k ((rd_T37 t371 (ji13)).f2.f0) ((rd_T37 t371 (ji13)).f2.f1) ((rd_T37 t371 (ji13)).f2.f2) ((rd_T37 t371 (ji13)).f2.f3) ((rd_T37 t371 (ji13)).f2.f4) ((rd_T37 t371 (ji13)).f2.f5) t382).bind fun t385 => (impl_HintOf.j0 k a0 t371 t372 ji13 (!t385)))) = some (r1, r2, r3, r4) := by first | (rw [hy378]; with_reducible exact H) | (have H2_ := (Option.bind_some _ _).symm.trans H; rw [hy378]; with_reducible exact H2_) | (have H2_ := (Option.bind_some _ _).symm.trans H; with_reducible exact H2_) | with_reducible exact H | (rw [hy378]; exact H) | exact H
         have Ny378 := Aside0.mk hy378
         clear hy378
         replace H := Option.bind_eq_some_iff.mp H
         obtain ⟨t382, A190, H⟩ := H
         replace H : ((impl_fits.f k ((rd_T37 t371 (ji13)).f2.f0) ((rd_T37 t371 (ji13)).f2.f1) ((rd_T37 t371 (ji13)).f2.f2) ((rd_T37 t371 (ji13)).f2.f3) ((rd_T37 t371 (ji13)).f2.f4) ((rd_T37 t371 (ji13)).f2.f5) t382).bind fun t385 => (impl_HintOf.j0 k a0 t371 t372 ji13 (!t385))) = some (r1, r2, r3, r4) := H
         have A19 := Aside0.mk A190
         clear A190
         replace H := Option.bind_eq_some_iff.mp H
         obtain ⟨t385, A200, H⟩ := H
         replace H : (impl_HintOf.j0 k a0 t371 t372 ji13 (!t385)) = some (r1, r2, r3, r4) := H
         have A20 := Aside0.mk A200
         clear A200
         have H' := Aside0.mk H
         clear H
         try go_wp2
         replace HO374 := rd_ HO374
         replace BK370 := bd_ BK370
         replace HB := hd_ HB
         have p376 : 0 ≤ ((ji13) : Int) := of_decide_eq_true as_
         have q376 : (ji13) < (t371.length : Int) := of_decide_eq_true as_
         obtain ⟨ad376, e376, hx376_0, hx376_1, hx376_2, hx376_3, hx376_4, hx376_5, hx376_6, hx376_7⟩ := at_T37 (Kd.R_reads' HO374.out).2.2 (ji13) p376 q376
         cases e376
         replace p376 := eq_true p376
         replace q376 := eq_true q376
         have p377 : 0 ≤ ((ji13) : Int) := of_decide_eq_true as_
         have q377 : (ji13) < (t371.length : Int) := of_decide_eq_true as_
         obtain ⟨ad377, e377, hx377_0, hx377_1, hx377_2, hx377_3, hx377_4, hx377_5, hx377_6, hx377_7⟩ := at_T37 (Kd.R_reads' HO374.out).2.2 (ji13) p377 q377
         obtain rfl : ad376 = ad377 := (by injection e377)
         replace p377 := eq_true p377
         replace q377 := eq_true q377
         refine start_ (n := 36) (S := e8_ (ad376.add (((ji13)).toNat * 8)) (.int .i64 ((rd_T37 t371 (ji13)).f0)) (.int .i64 ((rd_T37 t371 (ji13)).f1)) (.int .i64 ((rd_T37 t371 (ji13)).f2.f0)) (.int .i64 ((rd_T37 t371 (ji13)).f2.f1)) (.string ((rd_T37 t371 (ji13)).f2.f2)) (.string ((rd_T37 t371 (ji13)).f2.f3)) (.int .i64 ((rd_T37 t371 (ji13)).f2.f4)) (.int .i64 ((rd_T37 t371 (ji13)).f2.f5)) (e8e_ (ad376.add (((ji13)).toNat * 8)) (.int .i64 ((rd_T37 t371 (ji13)).f0)) (.int .i64 ((rd_T37 t371 (ji13)).f1)) (.int .i64 ((rd_T37 t371 (ji13)).f2.f0)) (.int .i64 ((rd_T37 t371 (ji13)).f2.f1)) (.string ((rd_T37 t371 (ji13)).f2.f2)) (.string ((rd_T37 t371 (ji13)).f2.f3)) (.int .i64 ((rd_T37 t371 (ji13)).f2.f4)) (.int .i64 ((rd_T37 t371 (ji13)).f2.f5)))) (ds := []) (on_ 0 36) (by kernel_rfl) rfl rfl (q8_ hx376_0 hx376_1 hx376_2 hx376_3 hx376_4 hx376_5 hx376_6 hx376_7 (q8e_ hx377_0 hx377_1 hx377_2 hx377_3 hx377_4 hx377_5 hx377_6 hx377_7)) (fun hHeld => ?_); refine with_tabW impl_HintOf.tab3 impl_HintOf.bits3 (fun HT_ HW_ => ?_)
         generalize w6.drew = w21 at HO374 BK370 HB hx376_0 hx376_1 hx376_2 hx376_3 hx376_4 hx376_5 hx376_6 hx376_7 hx377_0 hx377_1 hx377_2 hx377_3 hx377_4 hx377_5 hx377_6 hx377_7 hHeld ⊢
         refine pv_' 0 20 (on_ 1 35) rfl rfl HT_ ?_
         refine pv_' 1 21 (on_ 2 34) rfl rfl HT_ ?_
         refine pv_' 2 22 (on_ 3 33) rfl rfl HT_ ?_
         refine pv_' 3 23 (on_ 4 32) rfl rfl HT_ ?_
         refine pv_' 4 24 (on_ 5 31) rfl rfl HT_ ?_
         refine pv_' 5 25 (on_ 6 30) rfl rfl HT_ ?_
         refine pv_' 6 26 (on_ 7 29) rfl rfl HT_ ?_
         refine pv_' 7 27 (on_ 8 28) rfl rfl HT_ ?_
         refine pv_' 8 28 (on_ 9 27) rfl rfl HT_ ?_
         refine pv_' 9 29 (on_ 10 26) rfl rfl HT_ ?_
         refine one_ (i := 10) (N := some 30) (on_ 11 25) rfl rfl (one_of HT_.out (by kernel_rfl)) (by decide) (fun K hK => ?_)
         refine goes_ Try.func36 (by kernel_rfl) rfl #[.int .i64 a0, .int .i64 1, .int .i64 100000] (by rfl) rfl rfl ar_ ?_
         with_reducible refine (impl_in.calls a0 1 100000 true _ A11.out).mono ?_
         rintro e w' ⟨rfl, ⟨nd, rfl⟩⟩
         refine ⟨_, rfl, ?_⟩
         have q22 : ((ji13) : Int) ≤ ((t371.length : Int) : Int) := of_decide_eq_true as_
         obtain ⟨i022, hi022, _, hsz22, _⟩ := info_parts info37
         have hroom22 : t371.length ≤ co7 := (Kd.R_reads' HO374.out).2.1
         have hC22 : Kd.C k37 _ (some ad376) t371.length t371 := (Kd.R_reads' HO374.out).2.2
         have hcut22 := cut_to (P := Try.prog) 28 37 .i64 Try.underlying28 hi022 (some ad376) t371.length co7 (ji13) (of_decide_eq_true as_) q22 hroom22
         have hr22 := Kd.C_take (m := ((ji13) : Int).toNat) hC22 (by omega)
         have hy22 : y378.length = ((ji13) : Int).toNat := (by rw [Ny378.out, List.length_take]; omega)
         rw [← Ny378.out] at hr22
         rw [← hy22] at hcut22
         have HR381 := Aside0.mk hr22
         have HC381 := Aside0.mk (show y378.length ≤ co7 from by omega)
         clear hr22 hC22 hroom22 hi022 hsz22
         have KY22 := Aside0.mk hy22
         clear hy22
         have KL22 := Aside0.mk (show ((ji13) : Int).toNat ≤ t371.length from by omega)
         replace q22 := eq_true q22
         refine hK.out _ _ (q8_ hHeld.1 hHeld.2.1 hHeld.2.2.1 hHeld.2.2.2.1 hHeld.2.2.2.2.1 hHeld.2.2.2.2.2.1 hHeld.2.2.2.2.2.2.1 hHeld.2.2.2.2.2.2.2.1 (q8e_ hHeld.2.2.2.2.2.2.2.2.1 hHeld.2.2.2.2.2.2.2.2.2.1 hHeld.2.2.2.2.2.2.2.2.2.2.1 hHeld.2.2.2.2.2.2.2.2.2.2.2.1 hHeld.2.2.2.2.2.2.2.2.2.2.2.2.1 hHeld.2.2.2.2.2.2.2.2.2.2.2.2.2.1 hHeld.2.2.2.2.2.2.2.2.2.2.2.2.2.2.1 hHeld.2.2.2.2.2.2.2.2.2.2.2.2.2.2.2)) (fun hHeld => ?_)
         clear hK K
         refine norm_ (a' := ?_) ?_ ?_
         rotate_left
         ·show Act.put _ (some 30) _ = _
          simp only [Act.put, la_, lz_, ls_, i64_w, i32_w]
          rfl
         refine pv_' 11 31 (on_ 12 24) rfl rfl HT_ ?_
         refine pv_' 12 32 (on_ 13 23) rfl rfl HT_ ?_
         refine pv_' 13 33 (on_ 14 22) rfl rfl HT_ ?_
         refine pv_' 14 34 (on_ 15 21) rfl rfl HT_ ?_
         refine pv_' 15 35 (on_ 16 20) rfl rfl HT_ ?_
         refine pv_' 16 36 (on_ 17 19) rfl rfl HT_ ?_
         refine pv_' 17 37 (on_ 18 18) rfl rfl HT_ ?_
         refine pv_' 18 38 (on_ 19 17) rfl rfl HT_ ?_
         refine take_ (i := 19) (N := some 39) (v := ?_) (a' := ?_) (on_ 20 16) rfl rfl (take_ofW HT_.out HW_.out (by kernel_rfl)) (fun _ _ _ h => h) (Or.inl ⟨by rfl, ?_⟩) hHeld ?_ ?_
         rotate_left
         ·rintro w' ⟨s0, s1, s2, s3, s4, s5, s6, s7, s8, s9, s10, s11, s12, s13, s14, s15⟩
          go_simp
          with_reducible rfl
         rotate_left
         ·simp only [Act.put, la_, lz_, ls_, i64_w, i32_w]
          rfl
         refine pv_' 20 40 (on_ 21 15) rfl rfl HT_ ?_
         refine pv_' 21 41 (on_ 22 14) rfl rfl HT_ ?_
         refine pv_' 22 42 (on_ 23 13) rfl rfl HT_ ?_
         refine pv_' 23 43 (on_ 24 12) rfl rfl HT_ ?_
         refine pv_' 24 44 (on_ 25 11) rfl rfl HT_ ?_
         refine pv_' 25 45 (on_ 26 10) rfl rfl HT_ ?_
         refine pv_' 26 46 (on_ 27 9) rfl rfl HT_ ?_
         refine pv_' 28 48 #[i',i',i',i',i',i',i',i',i',i',i',i',i',i',i',i',i',i',i',i',i',i',i',i',i',i',i',o',i',o',o',o',o',o',o',o'] rfl rfl HT_ ?_
         refine pv_' 29 49 #[i',i',i',i',i',i',i',i',i',i',i',i',i',i',i',i',i',i',i',i',i',i',i',i',i',i',i',o',i',i',o',o',o',o',o',o'] rfl rfl HT_ ?_
         refine pv_' 30 50 #[i',i',i',i',i',i',i',i',i',i',i',i',i',i',i',i',i',i',i',i',i',i',i',i',i',i',i',o',i',i',i',o',o',o',o',o'] rfl rfl HT_ ?_
         refine pv_' 31 51 #[i',i',i',i',i',i',i',i',i',i',i',i',i',i',i',i',i',i',i',i',i',i',i',i',i',i',i',o',i',i',i',i',o',o',o',o'] rfl rfl HT_ ?_
         refine take_ (i := 27) (N := some 47) (v := ?_) (a' := ?_) (on_ 32 4) rfl rfl (take_ofW HT_.out HW_.out (by kernel_rfl)) (fun _ _ _ h => h) (Or.inl ⟨by rfl, ?_⟩) hHeld ?_ ?_
         rotate_left
         ·rintro w' ⟨s0, s1, s2, s3, s4, s5, s6, s7, s8, s9, s10, s11, s12, s13, s14, s15⟩
          go_simp
          with_reducible rfl
         rotate_left
         ·simp only [Act.put, la_, lz_, ls_, i64_w, i32_w]
          rfl
         refine one_ (i := 32) (N := some 52) (on_ 33 3) rfl rfl (one_of HT_.out (by kernel_rfl)) (by decide) (fun K hK => ?_)
         refine goes_ Try.func40 (by kernel_rfl) rfl #[.int .i64 a0, .slice (some ad376) y378.length co7] (by rfl) rfl rfl ar_ ?_
         with_reducible refine (impl_placed.calls k a0 _ _ y378 t382 _ ?side1 ?side2 A19.out).mono ?_
         (case side1 => repeat (first | exact (by repeat (first | (with_reducible exact HR381.out) | (with_reducible refine Kd.C_alloc ?_ _) | (with_reducible refine Kd.C_drewN ?_ _) | (with_reducible refine Kd.C_drew ?_) | exact HR381.out)) | (with_reducible refine Kd.C_alloc ?_ _) | (with_reducible refine Kd.C_drewN ?_ _) | (with_reducible refine Kd.C_drew ?_)))
         (case side2 => exact HC381.out)
         rintro e w23 ⟨v383, rfl, ho0, hb⟩
         have HS0_ := (hb.cell (World.block_lt_of_cell? _ _ (hHeld.1))).trans (hHeld.1)
         have HS1_ := (hb.cell (World.block_lt_of_cell? _ _ (hHeld.2.1))).trans (hHeld.2.1)
         have HS2_ := (hb.cell (World.block_lt_of_cell? _ _ (hHeld.2.2.1))).trans (hHeld.2.2.1)
         have HS3_ := (hb.cell (World.block_lt_of_cell? _ _ (hHeld.2.2.2.1))).trans (hHeld.2.2.2.1)
         have HS4_ := (hb.cell (World.block_lt_of_cell? _ _ (hHeld.2.2.2.2.1))).trans (hHeld.2.2.2.2.1)
         have HS5_ := (hb.cell (World.block_lt_of_cell? _ _ (hHeld.2.2.2.2.2.1))).trans (hHeld.2.2.2.2.2.1)
         have HS6_ := (hb.cell (World.block_lt_of_cell? _ _ (hHeld.2.2.2.2.2.2.1))).trans (hHeld.2.2.2.2.2.2.1)
         have HS7_ := (hb.cell (World.block_lt_of_cell? _ _ (hHeld.2.2.2.2.2.2.2.1))).trans (hHeld.2.2.2.2.2.2.2.1)
         have HS8_ := (hb.cell (World.block_lt_of_cell? _ _ (hHeld.2.2.2.2.2.2.2.2.1))).trans (hHeld.2.2.2.2.2.2.2.2.1)
         have HS9_ := (hb.cell (World.block_lt_of_cell? _ _ (hHeld.2.2.2.2.2.2.2.2.2.1))).trans (hHeld.2.2.2.2.2.2.2.2.2.1)
         have HS10_ := (hb.cell (World.block_lt_of_cell? _ _ (hHeld.2.2.2.2.2.2.2.2.2.2.1))).trans (hHeld.2.2.2.2.2.2.2.2.2.2.1)
         have HS11_ := (hb.cell (World.block_lt_of_cell? _ _ (hHeld.2.2.2.2.2.2.2.2.2.2.2.1))).trans (hHeld.2.2.2.2.2.2.2.2.2.2.2.1)
         have HS12_ := (hb.cell (World.block_lt_of_cell? _ _ (hHeld.2.2.2.2.2.2.2.2.2.2.2.2.1))).trans (hHeld.2.2.2.2.2.2.2.2.2.2.2.2.1)
         have HS13_ := (hb.cell (World.block_lt_of_cell? _ _ (hHeld.2.2.2.2.2.2.2.2.2.2.2.2.2.1))).trans (hHeld.2.2.2.2.2.2.2.2.2.2.2.2.2.1)
         have HS14_ := (hb.cell (World.block_lt_of_cell? _ _ (hHeld.2.2.2.2.2.2.2.2.2.2.2.2.2.2.1))).trans (hHeld.2.2.2.2.2.2.2.2.2.2.2.2.2.2.1)
         have HS15_ := (hb.cell (World.block_lt_of_cell? _ _ (hHeld.2.2.2.2.2.2.2.2.2.2.2.2.2.2.2))).trans (hHeld.2.2.2.2.2.2.2.2.2.2.2.2.2.2.2)
         refine ⟨_, rfl, ?_⟩
         replace HO374 := rb_ HO374 hb
         have HO384 := Aside0.mk (Kd.R_lower ho0 (below_size (hs_ HB GE370)))
         replace BK370 := bb_ BK370 hb
         replace HR381 := Aside0.mk (Kd.C_below (by repeat (first | (with_reducible exact HR381.out) | (with_reducible refine Kd.C_alloc ?_ _) | (with_reducible refine Kd.C_drewN ?_ _) | (with_reducible refine Kd.C_drew ?_) | exact HR381.out)) hb)
         replace HB := bt_ HB GE370 hb
         (try clear hb)
         (try clear hb2)
         (try clear hk)
         (try clear hi)
         (try clear ho0)
         obtain ⟨Ao24, co24, eo24⟩ := Kd.R_slice HO384.out
         (first | subst eo24 | (injection eo24 with f1_ f2_ f3_; have f4_ := f1_.symm; have f5_ := f3_.symm; clear f1_ f2_ f3_; subst f4_; subst f5_))
         refine hK.out _ _ (q8_ HS0_ HS1_ HS2_ HS3_ HS4_ HS5_ HS6_ HS7_ (q8e_ HS8_ HS9_ HS10_ HS11_ HS12_ HS13_ HS14_ HS15_)) (fun hHeld => ?_)
         clear hK K
         refine norm_ (a' := ?_) ?_ ?_
         rotate_left
         ·show Act.put _ (some 52) _ = _
          simp only [Act.put, la_, lz_, ls_, i64_w, i32_w]
          rfl
         refine one_ (i := 33) (N := some 53) (on_ 34 2) rfl rfl (one_of HT_.out (by kernel_rfl)) (by decide) (fun K hK => ?_)
         refine goes_ Try.func39 (by kernel_rfl) rfl #[.agg #[.int .i64 ((rd_T37 t371 (ji13)).f2.f0), .int .i64 ((rd_T37 t371 (ji13)).f2.f1), .string ((rd_T37 t371 (ji13)).f2.f2), .string ((rd_T37 t371 (ji13)).f2.f3), .int .i64 ((rd_T37 t371 (ji13)).f2.f4), .int .i64 ((rd_T37 t371 (ji13)).f2.f5)], .slice Ao24 t382.length co24] (by rfl) rfl rfl (by (try simp only [List.map_toArray, List.map_cons, List.map_nil]); first | done | (simp only [hji13]; rfl) | rfl | (simp only [List.length_drop, List.length_take]; rfl)) ?_
         with_reducible refine (impl_fits.calls k ((rd_T37 t371 (ji13)).f2.f0) ((rd_T37 t371 (ji13)).f2.f1) ((rd_T37 t371 (ji13)).f2.f2) ((rd_T37 t371 (ji13)).f2.f3) ((rd_T37 t371 (ji13)).f2.f4) ((rd_T37 t371 (ji13)).f2.f5) _ _ t382 t385 _ ?side1 ?side2 A20.out).mono ?_
         (case side1 => repeat (first | exact (Kd.R_reads' HO384.out).2.2 | (with_reducible refine Kd.C_alloc ?_ _) | (with_reducible refine Kd.C_drewN ?_ _) | (with_reducible refine Kd.C_drew ?_)))
         (case side2 => exact (Kd.R_reads' HO384.out).2.1)
         rintro e w25 ⟨rfl, hb⟩
         have HS0_ := (hb.cell (World.block_lt_of_cell? _ _ (hHeld.1))).trans (hHeld.1)
         have HS1_ := (hb.cell (World.block_lt_of_cell? _ _ (hHeld.2.1))).trans (hHeld.2.1)
         have HS2_ := (hb.cell (World.block_lt_of_cell? _ _ (hHeld.2.2.1))).trans (hHeld.2.2.1)
         have HS3_ := (hb.cell (World.block_lt_of_cell? _ _ (hHeld.2.2.2.1))).trans (hHeld.2.2.2.1)
         have HS4_ := (hb.cell (World.block_lt_of_cell? _ _ (hHeld.2.2.2.2.1))).trans (hHeld.2.2.2.2.1)
         have HS5_ := (hb.cell (World.block_lt_of_cell? _ _ (hHeld.2.2.2.2.2.1))).trans (hHeld.2.2.2.2.2.1)
         have HS6_ := (hb.cell (World.block_lt_of_cell? _ _ (hHeld.2.2.2.2.2.2.1))).trans (hHeld.2.2.2.2.2.2.1)
         have HS7_ := (hb.cell (World.block_lt_of_cell? _ _ (hHeld.2.2.2.2.2.2.2.1))).trans (hHeld.2.2.2.2.2.2.2.1)
         have HS8_ := (hb.cell (World.block_lt_of_cell? _ _ (hHeld.2.2.2.2.2.2.2.2.1))).trans (hHeld.2.2.2.2.2.2.2.2.1)
         have HS9_ := (hb.cell (World.block_lt_of_cell? _ _ (hHeld.2.2.2.2.2.2.2.2.2.1))).trans (hHeld.2.2.2.2.2.2.2.2.2.1)
         have HS10_ := (hb.cell (World.block_lt_of_cell? _ _ (hHeld.2.2.2.2.2.2.2.2.2.2.1))).trans (hHeld.2.2.2.2.2.2.2.2.2.2.1)
         have HS11_ := (hb.cell (World.block_lt_of_cell? _ _ (hHeld.2.2.2.2.2.2.2.2.2.2.2.1))).trans (hHeld.2.2.2.2.2.2.2.2.2.2.2.1)
         have HS12_ := (hb.cell (World.block_lt_of_cell? _ _ (hHeld.2.2.2.2.2.2.2.2.2.2.2.2.1))).trans (hHeld.2.2.2.2.2.2.2.2.2.2.2.2.1)
         have HS13_ := (hb.cell (World.block_lt_of_cell? _ _ (hHeld.2.2.2.2.2.2.2.2.2.2.2.2.2.1))).trans (hHeld.2.2.2.2.2.2.2.2.2.2.2.2.2.1)
         have HS14_ := (hb.cell (World.block_lt_of_cell? _ _ (hHeld.2.2.2.2.2.2.2.2.2.2.2.2.2.2.1))).trans (hHeld.2.2.2.2.2.2.2.2.2.2.2.2.2.2.1)
         have HS15_ := (hb.cell (World.block_lt_of_cell? _ _ (hHeld.2.2.2.2.2.2.2.2.2.2.2.2.2.2.2))).trans (hHeld.2.2.2.2.2.2.2.2.2.2.2.2.2.2.2)
         refine ⟨_, rfl, ?_⟩
         replace HO374 := rb_ HO374 hb
         replace HO384 := rb_ HO384 hb
         replace BK370 := bb_ BK370 hb
         replace HR381 := Aside0.mk (Kd.C_below (by repeat (first | (with_reducible exact HR381.out) | (with_reducible refine Kd.C_alloc ?_ _) | (with_reducible refine Kd.C_drewN ?_ _) | (with_reducible refine Kd.C_drew ?_) | exact HR381.out)) hb)
         replace HB := bt_ HB GE370 hb
         (try clear hb)
         (try clear hb2)
         (try clear hk)
         (try clear hi)
         refine hK.out _ _ (q8_ HS0_ HS1_ HS2_ HS3_ HS4_ HS5_ HS6_ HS7_ (q8e_ HS8_ HS9_ HS10_ HS11_ HS12_ HS13_ HS14_ HS15_)) (fun hHeld => ?_)
         clear hK K
         refine norm_ (a' := ?_) ?_ ?_
         rotate_left
         ·show Act.put _ (some 53) _ = _
          simp only [Act.put, la_, lz_, ls_, i64_w, i32_w]
          rfl
         refine pv_' 34 54 (on_ 35 1) rfl rfl HT_ ?_
         refine pv_' 35 55 (on_ 36 0) rfl rfl HT_ ?_
         refine done_ (done_of HT_.out (by kernel_rfl)) ?_
         have Nji13_ := Aside0.mk hji13
         clear hji13
         (try clear hji13w)
         try go_wp2
         have hji13 := Nji13_.out
         clear Nji13_
         (try have hji13w := (i64_w _).trans hji13)
         go_meet
         case rel => exact ⟨_, (!t385), rs_, (by first | exact H' | (simp only [hji13]; exact H')), ⟨by first | exact Nat.le_refl _ | exact Nat.le_of_succ_le this | omega⟩, ⟨rr_ HO374⟩, ⟨bk_ BK370⟩, ⟨hs_ HB GE370⟩⟩
        ·rw [if_neg c18] at H
         exact absurd H (by simp)
       ·rw [if_neg c16] at H
        have c16b0 : (((rd_T37 t371 (ji13)).f2.f0) == 5) = false := beq_eq_false_iff_ne.mpr c16
        have c16b1 : (((rd_T37 t371 (ji13)).f2.f0) != 5) = true := bne_iff_ne.mpr c16
        have H' := Aside0.mk H
        clear H
        try go_wp2
        replace HO374 := rd_ HO374
        replace BK370 := bd_ BK370
        replace HB := hd_ HB
        have p376 : 0 ≤ ((ji13) : Int) := of_decide_eq_true as_
        have q376 : (ji13) < (t371.length : Int) := of_decide_eq_true as_
        obtain ⟨ad376, e376, hx376_0, hx376_1, hx376_2, hx376_3, hx376_4, hx376_5, hx376_6, hx376_7⟩ := at_T37 (Kd.R_reads' HO374.out).2.2 (ji13) p376 q376
        cases e376
        replace p376 := eq_true p376
        replace q376 := eq_true q376
        refine start_ (n := 36) (S := e8e_ (ad376.add (((ji13)).toNat * 8)) (.int .i64 ((rd_T37 t371 (ji13)).f0)) (.int .i64 ((rd_T37 t371 (ji13)).f1)) (.int .i64 ((rd_T37 t371 (ji13)).f2.f0)) (.int .i64 ((rd_T37 t371 (ji13)).f2.f1)) (.string ((rd_T37 t371 (ji13)).f2.f2)) (.string ((rd_T37 t371 (ji13)).f2.f3)) (.int .i64 ((rd_T37 t371 (ji13)).f2.f4)) (.int .i64 ((rd_T37 t371 (ji13)).f2.f5))) (ds := []) (on_ 0 36) (by kernel_rfl) rfl rfl (q8e_ hx376_0 hx376_1 hx376_2 hx376_3 hx376_4 hx376_5 hx376_6 hx376_7) (fun hHeld => ?_); refine with_tabW impl_HintOf.tab3 impl_HintOf.bits3 (fun HT_ HW_ => ?_)
        generalize w6.drew = w26 at HO374 BK370 HB hx376_0 hx376_1 hx376_2 hx376_3 hx376_4 hx376_5 hx376_6 hx376_7 hHeld ⊢
        refine pv_' 0 20 (on_ 1 35) rfl rfl HT_ ?_
        refine pv_' 1 21 (on_ 2 34) rfl rfl HT_ ?_
        refine pv_' 2 22 (on_ 3 33) rfl rfl HT_ ?_
        refine pv_' 3 23 (on_ 4 32) rfl rfl HT_ ?_
        refine pv_' 4 24 (on_ 5 31) rfl rfl HT_ ?_
        refine pv_' 5 25 (on_ 6 30) rfl rfl HT_ ?_
        refine pv_' 6 26 (on_ 7 29) rfl rfl HT_ ?_
        refine pv_' 7 27 (on_ 8 28) rfl rfl HT_ ?_
        refine pv_' 8 28 (on_ 9 27) rfl rfl HT_ ?_
        refine pv_' 9 29 (on_ 10 26) rfl rfl HT_ ?_
        refine one_ (i := 10) (N := some 30) (on_ 11 25) rfl rfl (one_of HT_.out (by kernel_rfl)) (by decide) (fun K hK => ?_)
        refine goes_ Try.func36 (by kernel_rfl) rfl #[.int .i64 a0, .int .i64 1, .int .i64 100000] (by rfl) rfl rfl ar_ ?_
        with_reducible refine (impl_in.calls a0 1 100000 true _ A11.out).mono ?_
        rintro e w' ⟨rfl, ⟨nd, rfl⟩⟩
        refine ⟨_, rfl, ?_⟩
        refine hK.out _ _ (q8e_ hHeld.1 hHeld.2.1 hHeld.2.2.1 hHeld.2.2.2.1 hHeld.2.2.2.2.1 hHeld.2.2.2.2.2.1 hHeld.2.2.2.2.2.2.1 hHeld.2.2.2.2.2.2.2) (fun hHeld => ?_)
        clear hK K
        refine norm_ (a' := ?_) ?_ ?_
        rotate_left
        ·show Act.put _ (some 30) _ = _
         simp only [Act.put, la_, lz_, ls_, i64_w, i32_w]
         rfl
        refine pv_' 11 31 (on_ 12 24) rfl rfl HT_ ?_
        refine pv_' 12 32 (on_ 13 23) rfl rfl HT_ ?_
        refine pv_' 13 33 (on_ 14 22) rfl rfl HT_ ?_
        refine pv_' 14 34 (on_ 15 21) rfl rfl HT_ ?_
        refine pv_' 15 35 (on_ 16 20) rfl rfl HT_ ?_
        refine pv_' 16 36 (on_ 17 19) rfl rfl HT_ ?_
        refine pv_' 17 37 (on_ 18 18) rfl rfl HT_ ?_
        refine pv_' 18 38 (on_ 19 17) rfl rfl HT_ ?_
        refine take_ (i := 19) (N := some 39) (v := ?_) (a' := ?_) (on_ 20 16) rfl rfl (take_ofW HT_.out HW_.out (by kernel_rfl)) (fun _ _ _ h => h) (Or.inl ⟨by rfl, ?_⟩) hHeld ?_ ?_
        rotate_left
        ·rintro w' ⟨s0, s1, s2, s3, s4, s5, s6, s7⟩
         go_simp
         with_reducible rfl
        rotate_left
        ·simp only [Act.put, la_, lz_, ls_, i64_w, i32_w]
         rfl
        refine pv_' 20 40 (on_ 21 15) rfl rfl HT_ ?_
        refine pv_' 21 41 (on_ 22 14) rfl rfl HT_ ?_
        refine pv_' 22 42 (on_ 23 13) rfl rfl HT_ ?_
        refine pun_' 23 43 (on_ 24 12) rfl rfl HT_ ?_
        refine pun_' 24 44 (on_ 25 11) rfl rfl HT_ ?_
        refine pun_' 25 45 (on_ 26 10) rfl rfl HT_ ?_
        refine pun_' 26 46 (on_ 27 9) rfl rfl HT_ ?_
        refine pun_' 27 47 (on_ 28 8) rfl rfl HT_ ?_
        refine pun_' 28 48 (on_ 29 7) rfl rfl HT_ ?_
        refine pun_' 29 49 (on_ 30 6) rfl rfl HT_ ?_
        refine pun_' 30 50 (on_ 31 5) rfl rfl HT_ ?_
        refine pun_' 31 51 (on_ 32 4) rfl rfl HT_ ?_
        refine pun_' 32 52 (on_ 33 3) rfl rfl HT_ ?_
        refine pun_' 33 53 (on_ 34 2) rfl rfl HT_ ?_
        refine pun_' 34 54 (on_ 35 1) rfl rfl HT_ ?_
        refine pv_' 35 55 (on_ 36 0) rfl rfl HT_ ?_
        refine done_ (done_of HT_.out (by kernel_rfl)) ?_
        have Nji13_ := Aside0.mk hji13
        clear hji13
        (try clear hji13w)
        try go_wp2
        have hji13 := Nji13_.out
        clear Nji13_
        (try have hji13w := (i64_w _).trans hji13)
        go_meet
        case rel => exact ⟨_, (true), rs_, (by first | exact H' | (simp only [hji13]; exact H')), ⟨by first | exact Nat.le_refl _ | exact Nat.le_of_succ_le this | omega⟩, ⟨rr_ HO374⟩, ⟨bk_ BK370⟩, ⟨hs_ HB GE370⟩⟩
      ·rw [if_neg c15] at H
       exact absurd H (by simp)
     ·rw [if_neg c14] at H
      exact absurd H (by simp)
    ·replace c12 := Bool.eq_false_iff.mpr c12
     subst c12
     have H1 : (impl_HintOf.j0 k a0 t371 t372 (wrap64 ((t371.length : Int) - 1)) true) = some (r1, r2, r3, r4) := by rw [if_neg (show ¬ (false = true) by decide)] at H; exact H
     clear H
     have H := H1
     clear H1
     have H' := Aside0.mk H
     clear H
     try go_wp2
     replace HO374 := rd_ HO374
     replace BK370 := bd_ BK370
     replace HB := hd_ HB
     refine start_ (n := 36) (S := fun w' => True) (ds := []) (on_ 0 36) (by kernel_rfl) rfl rfl trivial (fun hHeld => ?_); refine with_tabW impl_HintOf.tab3 impl_HintOf.bits3 (fun HT_ HW_ => ?_)
     generalize w6.drew = w27 at HO374 BK370 HB hHeld ⊢
     refine pv_' 0 20 (on_ 1 35) rfl rfl HT_ ?_
     refine pv_' 1 21 (on_ 2 34) rfl rfl HT_ ?_
     refine pv_' 2 22 (on_ 3 33) rfl rfl HT_ ?_
     refine pv_' 3 23 (on_ 4 32) rfl rfl HT_ ?_
     refine pv_' 4 24 (on_ 5 31) rfl rfl HT_ ?_
     refine pv_' 5 25 (on_ 6 30) rfl rfl HT_ ?_
     refine pv_' 6 26 (on_ 7 29) rfl rfl HT_ ?_
     refine pv_' 7 27 (on_ 8 28) rfl rfl HT_ ?_
     refine pv_' 8 28 (on_ 9 27) rfl rfl HT_ ?_
     refine pv_' 9 29 (on_ 10 26) rfl rfl HT_ ?_
     refine one_ (i := 10) (N := some 30) (on_ 11 25) rfl rfl (one_of HT_.out (by kernel_rfl)) (by decide) (fun K hK => ?_)
     refine goes_ Try.func36 (by kernel_rfl) rfl #[.int .i64 a0, .int .i64 1, .int .i64 100000] (by rfl) rfl rfl ar_ ?_
     with_reducible refine (impl_in.calls a0 1 100000 false _ A11.out).mono ?_
     rintro e w' ⟨rfl, ⟨nd, rfl⟩⟩
     refine ⟨_, rfl, ?_⟩
     refine hK.out _ _ trivial (fun hHeld => ?_)
     clear hK K
     refine norm_ (a' := ?_) ?_ ?_
     rotate_left
     ·show Act.put _ (some 30) _ = _
      simp only [Act.put, la_, lz_, ls_, i64_w, i32_w]
      rfl
     refine pv_' 11 31 (on_ 12 24) rfl rfl HT_ ?_
     refine pv_' 12 32 (on_ 13 23) rfl rfl HT_ ?_
     refine pv_' 13 33 (on_ 14 22) rfl rfl HT_ ?_
     refine pun_' 14 34 (on_ 15 21) rfl rfl HT_ ?_
     refine pun_' 15 35 (on_ 16 20) rfl rfl HT_ ?_
     refine pun_' 16 36 (on_ 17 19) rfl rfl HT_ ?_
     refine pun_' 17 37 (on_ 18 18) rfl rfl HT_ ?_
     refine pun_' 18 38 (on_ 19 17) rfl rfl HT_ ?_
     refine pun_' 19 39 (on_ 20 16) rfl rfl HT_ ?_
     refine pun_' 20 40 (on_ 21 15) rfl rfl HT_ ?_
     refine pv_' 21 41 (on_ 22 14) rfl rfl HT_ ?_
     refine pv_' 22 42 (on_ 23 13) rfl rfl HT_ ?_
     refine pun_' 23 43 (on_ 24 12) rfl rfl HT_ ?_
     refine pun_' 24 44 (on_ 25 11) rfl rfl HT_ ?_
     refine pun_' 25 45 (on_ 26 10) rfl rfl HT_ ?_
     refine pun_' 26 46 (on_ 27 9) rfl rfl HT_ ?_
     refine pun_' 27 47 (on_ 28 8) rfl rfl HT_ ?_
     refine pun_' 28 48 (on_ 29 7) rfl rfl HT_ ?_
     refine pun_' 29 49 (on_ 30 6) rfl rfl HT_ ?_
     refine pun_' 30 50 (on_ 31 5) rfl rfl HT_ ?_
     refine pun_' 31 51 (on_ 32 4) rfl rfl HT_ ?_
     refine pun_' 32 52 (on_ 33 3) rfl rfl HT_ ?_
     refine pun_' 33 53 (on_ 34 2) rfl rfl HT_ ?_
     refine pun_' 34 54 (on_ 35 1) rfl rfl HT_ ?_
     refine pv_' 35 55 (on_ 36 0) rfl rfl HT_ ?_
     refine done_ (done_of HT_.out (by kernel_rfl)) ?_
     try go_wp2
     go_meet
     case rel => exact ⟨_, (true), rs_, (by first | exact H' | (simp only [hji13]; exact H')), ⟨by first | exact Nat.le_refl _ | exact Nat.le_of_succ_le this | omega⟩, ⟨rr_ HO374⟩, ⟨bk_ BK370⟩, ⟨hs_ HB GE370⟩⟩
   ·rw [if_neg c10] at H
    have c10b0 : (t372 == (a1.size : Int)) = false := beq_eq_false_iff_ne.mpr c10
    have c10b1 : (t372 != (a1.size : Int)) = true := bne_iff_ne.mpr c10
    have H' := Aside0.mk H
    clear H
    try go_wp2
    replace HO374 := rd_ HO374
    replace BK370 := bd_ BK370
    replace HB := hd_ HB
    refine start_ (n := 36) (S := fun w' => True) (ds := []) (on_ 0 36) (by kernel_rfl) rfl rfl trivial (fun hHeld => ?_); refine with_tabW impl_HintOf.tab3 impl_HintOf.bits3 (fun HT_ HW_ => ?_)
    generalize w6.drew = w28 at HO374 BK370 HB hHeld ⊢
    refine pv_' 0 20 (on_ 1 35) rfl rfl HT_ ?_
    refine pv_' 1 21 (on_ 2 34) rfl rfl HT_ ?_
    refine pv_' 2 22 (on_ 3 33) rfl rfl HT_ ?_
    refine pv_' 3 23 (on_ 4 32) rfl rfl HT_ ?_
    refine pv_' 4 24 (on_ 5 31) rfl rfl HT_ ?_
    refine pv_' 5 25 (on_ 6 30) rfl rfl HT_ ?_
    refine pv_' 6 26 (on_ 7 29) rfl rfl HT_ ?_
    refine pv_' 7 27 (on_ 8 28) rfl rfl HT_ ?_
    refine pv_' 8 28 (on_ 9 27) rfl rfl HT_ ?_
    refine pun_' 9 29 (on_ 10 26) rfl rfl HT_ ?_
    refine pun_' 10 30 (on_ 11 25) rfl rfl HT_ ?_
    refine pun_' 11 31 (on_ 12 24) rfl rfl HT_ ?_
    refine pv_' 12 32 (on_ 13 23) rfl rfl HT_ ?_
    refine pv_' 13 33 (on_ 14 22) rfl rfl HT_ ?_
    refine pun_' 14 34 (on_ 15 21) rfl rfl HT_ ?_
    refine pun_' 15 35 (on_ 16 20) rfl rfl HT_ ?_
    refine pun_' 16 36 (on_ 17 19) rfl rfl HT_ ?_
    refine pun_' 17 37 (on_ 18 18) rfl rfl HT_ ?_
    refine pun_' 18 38 (on_ 19 17) rfl rfl HT_ ?_
    refine pun_' 19 39 (on_ 20 16) rfl rfl HT_ ?_
    refine pun_' 20 40 (on_ 21 15) rfl rfl HT_ ?_
    refine pv_' 21 41 (on_ 22 14) rfl rfl HT_ ?_
    refine pv_' 22 42 (on_ 23 13) rfl rfl HT_ ?_
    refine pun_' 23 43 (on_ 24 12) rfl rfl HT_ ?_
    refine pun_' 24 44 (on_ 25 11) rfl rfl HT_ ?_
    refine pun_' 25 45 (on_ 26 10) rfl rfl HT_ ?_
    refine pun_' 26 46 (on_ 27 9) rfl rfl HT_ ?_
    refine pun_' 27 47 (on_ 28 8) rfl rfl HT_ ?_
    refine pun_' 28 48 (on_ 29 7) rfl rfl HT_ ?_
    refine pun_' 29 49 (on_ 30 6) rfl rfl HT_ ?_
    refine pun_' 30 50 (on_ 31 5) rfl rfl HT_ ?_
    refine pun_' 31 51 (on_ 32 4) rfl rfl HT_ ?_
    refine pun_' 32 52 (on_ 33 3) rfl rfl HT_ ?_
    refine pun_' 33 53 (on_ 34 2) rfl rfl HT_ ?_
    refine pun_' 34 54 (on_ 35 1) rfl rfl HT_ ?_
    refine pv_' 35 55 (on_ 36 0) rfl rfl HT_ ?_
    refine done_ (done_of HT_.out (by kernel_rfl)) ?_
    try go_wp2
    go_meet
    case rel => exact ⟨_, (true), rs_, H', ⟨by first | exact Nat.le_refl _ | exact Nat.le_of_succ_le this | omega⟩, ⟨rr_ HO374⟩, ⟨bk_ BK370⟩, ⟨hs_ HB GE370⟩⟩
 case rest =>
  clear HC4
  try clear c1
  try clear p2
  try clear c3
  try clear p6
  try clear c10
  try clear c10b0
  try clear c10b1
  try clear c12
  try clear c14
  try clear c15
  obtain ⟨kq, x55_3, rfl, HA, HJ3, HO_6, BK370, HB⟩ := hcut
  cases kq with
  | zero => exact absurd HA.out (by simp [impl_HintOf.j0])
  | succ kj3 =>
   have H := HA.out
   clear HA
   simp only [impl_HintOf.j0] at H
   by_cases c29 : x55_3 = true
   ·subst c29
    have H1 : (some (0, 0, ([] : List (S68)), false)) = some (r1, r2, r3, r4) := by rw [if_pos rfl] at H; exact H
    clear H
    have H := H1
    clear H1
    simp only [Option.some.injEq, Prod.mk.injEq] at H
    obtain ⟨rfl, rfl, rfl, rfl⟩ := H
    obtain ⟨hcz30_0, hcz30_1, hcz30_2, hfz30_0, hfz30_1, hfz30_2⟩ := bc3_ BK370
    go_wp2
    refine bodyPost_ret (results_ct rfl _ _ gb370 40 #[.int .i64 0, .int .i64 0, .slice none 0 0] (0, 0) _ rfl (by (with_reducible repeat (first | refine blk_drewN ?_ _ | refine blk_drew ?_ | refine blk_alloc ?_ _)); refine blk_put (cs := #[.int .i64 0, .int .i64 0, .slice none 0 0]) ?_ 2 _ rfl; (with_reducible repeat (first | refine blk_drewN ?_ _ | refine blk_drew ?_ | refine blk_alloc ?_ _)); refine blk_put (cs := #[.int .i64 0, .int .i64 0, .slice none 0 0]) ?_ 1 _ rfl; (with_reducible repeat (first | refine blk_drewN ?_ _ | refine blk_drew ?_ | refine blk_alloc ?_ _)); refine blk_put (cs := #[.int .i64 0, .int .i64 0, .slice none 0 0]) ?_ 0 _ rfl; (with_reducible repeat (first | refine blk_drewN ?_ _ | refine blk_drew ?_ | refine blk_alloc ?_ _)); exact BK370.out) Try.underlying40 rfl (by kernel_rfl)) rfl ?_
    exact ⟨_, by first | rfl | (simp [errW_none, errW_some] <;> rfl) | (simp [*, errW_none, errW_some] <;> rfl), by first | exact Kd.R_nil _ _ _ _ _ | exact Kd.N_nil _ _ _ _ _ | exact Kd.V_nil _ _ _ _ _ | exact Kd.Q_nil _ _ _ _ _ | exact Kd.S_nil _ _ _ _ _, hs_ HB GE370⟩
   ·replace c29 := Bool.eq_false_iff.mpr c29
    subst c29
    have H1 : (if 0 ≤ (wrap64 ((t371.length : Int) - 1)) then (if (wrap64 ((t371.length : Int) - 1)) < (t371.length : Int) then (if (wrap64 ((t371.length : Int) - 1)) ≤ (t371.length : Int) then ((some (t371.take ((wrap64 ((t371.length : Int) - 1)) : Int).toNat : List (S37))).bind fun y388 => (impl_HintOf.l0 kj3 a0 t371 y388 (y388.length : Int) 0 t372 ((rd_T37 t371 (wrap64 ((t371.length : Int) - 1))).f2.f1) ([] : List (S68)))) else (none)) else (none)) else (none)) = some (r1, r2, r3, r4) := by rw [if_neg (show ¬ (false = true) by decide)] at H; exact H
    clear H
    have H := H1
    clear H1
    obtain ⟨ji31, hji31⟩ : ∃ j_ : Int, (wrap64 ((t371.length : Int) - 1)) = j_ := ⟨_, rfl⟩
    replace H : (if 0 ≤ (ji31) then (if (ji31) < (t371.length : Int) then (if (ji31) ≤ (t371.length : Int) then ((some (t371.take ((ji31) : Int).toNat : List (S37))).bind fun y388 => (impl_HintOf.l0 kj3 a0 t371 y388 (y388.length : Int) 0 t372 ((rd_T37 t371 (ji31)).f2.f1) ([] : List (S68)))) else (none)) else (none)) else (none)) = some (r1, r2, r3, r4) := by first | (rw [hji31] at H; exact H) | (simp only [hji31] at H ⊢; exact H)
    have hji31w : (IntKind.i64.wrap ((t371.length : Int) - 1)) = ji31 := (i64_w _).trans hji31
    by_cases c32 : 0 ≤ (ji31)
    ·rw [if_pos c32] at H
     have c32b0 : decide (0 ≤ (ji31)) = true := decide_eq_true c32
     clear c32
     by_cases c33 : (ji31) < (t371.length : Int)
     ·rw [if_pos c33] at H
      have c33b0 : decide ((ji31) < (t371.length : Int)) = true := decide_eq_true c33
      clear c33
      have c34b0 := eq_true (of_decide_eq_true as_ : 0 ≤ (ji31))
      by_cases c35 : (ji31) ≤ (t371.length : Int)
      ·rw [if_pos c35] at H
       have c35b0 := eq_true c35
       have c35b1 : decide ((ji31) ≤ (t371.length : Int)) = true := decide_eq_true c35
       clear c35
       obtain ⟨y388, hy388⟩ : ∃ y_ : List (S37), y_ = (t371.take ((ji31) : Int).toNat) := ⟨_, rfl⟩
       replace H : (impl_HintOf.l0 kj3 a0 t371 y388 (y388.length : Int) 0 t372 ((rd_T37 t371 (ji31)).f2.f1) ([] : List (S68))) = some (r1, r2, r3, r4) := by first | (rw [hy388]; with_reducible exact H) | (have H2_ := (Option.bind_some _ _).symm.trans H; rw [hy388]; with_reducible exact H2_) | (have H2_ := (Option.bind_some _ _).symm.trans H; with_reducible exact H2_) | with_reducible exact H | (rw [hy388]; exact H) | exact H
       have Ny388 := Aside0.mk hy388
       clear hy388
       have H' := Aside0.mk H
       clear H
       have p386 : 0 ≤ ((ji31) : Int) := of_decide_eq_true as_
       have q386 : (ji31) < (t371.length : Int) := of_decide_eq_true as_
       obtain ⟨ad386, e386, hx386_0, hx386_1, hx386_2, hx386_3, hx386_4, hx386_5, hx386_6, hx386_7⟩ := at_T37 (Kd.R_reads' HO_6.out).2.2 (ji31) p386 q386
       cases e386
       replace p386 := eq_true p386
       replace q386 := eq_true q386
       go_wp2_with (first | ((with_reducible refine gate_dst (N := 9) rfl ?_); (try (refine gate_guard (by rfl) ?_; dsimp only)); refine box_event ?hg (N := 9) ?hd (cs := #[.int .i64 0, .int .i64 0, .slice none 0 0]) (t := 40) ?hr ?_; (case hd => rfl); (case hg => rfl); (case hr => first | (go_simp; done) | (go_simp; rfl)); intro gb387 hg w36 hbox hb; replace HO_6 := rb_ HO_6 hb; have BK387 := Aside0.mk (hbox); have GW387 := ge_ hg (hs_ HB GE370); have GE387 := ge_ hg (hs_ HB GE370); replace HB := bt_ HB GE370 hb; have NB370_387 := nl_ BK370 hg; have NB387_370 := ng_ BK370 hg; replace BK370 := bb_ BK370 hb; clear hb hbox hg; have hnb37 := NB387_370.out; have hnc37 := NB370_387.out; obtain ⟨hcz38_0, hcz38_1, hcz38_2, hfz38_0, hfz38_1, hfz38_2⟩ := bc3_ BK387) | ((with_reducible refine gate_store (t := 40) (p := 9) rfl ?_); refine store_event (t := 40) (p := 9) (v := ?vo_w39) (w1 := (((w36.setCell ⟨gb387, 0, none⟩ (.int .i64 t372)).setCell ⟨gb387, 1, none⟩ (.int .i64 ((rd_T37 t371 (ji31)).f2.f1))).setCell ⟨gb387, 2, none⟩ (.slice none 0 0))) ?hg ?ho ?hn ?hr ?_; (case ho => rfl); (case hg => rfl); (case hn => rfl); (case hr => first | (go_simp; done) | (go_simp; rfl)); intro w39 hw; have n0_ : Aside0 (Kd.R k37 37 w39 w.heap.size (fun _ => True) (.slice (some ad386) t371.length co7) t371) := ⟨(by rw [hw]; exact (by (with_reducible repeat (first | apply Kd.R_alloc | apply Kd.R_drewN | apply Kd.R_drew)); exact Kd.R_mono (Kd.R_far (p := ⟨gb387, 2, none⟩) (Kd.R_far (p := ⟨gb387, 1, none⟩) (Kd.R_far (p := ⟨gb387, 0, none⟩) (Kd.R_types HO_6.out BK387.out (by decide)) (fun _ hk => hk.2) (.int .i64 t372)) (fun _ hk => hk.2) (.int .i64 ((rd_T37 t371 (ji31)).f2.f1))) (fun _ hk => hk.2) (.slice none 0 0)) (fun _ hk => trivial)))⟩; have n1_ : Aside0 (w39.heap[gb370]? = some (.cells #[.int .i64 0, .int .i64 0, .slice none 0 0] 40 (0, 0))) := ⟨(by rw [hw]; exact (by (with_reducible repeat (first | refine blk_drewN ?_ _ | refine blk_drew ?_ | refine blk_alloc ?_ _)); refine blk_far ?_ NB370_387.out _; (with_reducible repeat (first | refine blk_drewN ?_ _ | refine blk_drew ?_ | refine blk_alloc ?_ _)); refine blk_far ?_ NB370_387.out _; (with_reducible repeat (first | refine blk_drewN ?_ _ | refine blk_drew ?_ | refine blk_alloc ?_ _)); refine blk_far ?_ NB370_387.out _; (with_reducible repeat (first | refine blk_drewN ?_ _ | refine blk_drew ?_ | refine blk_alloc ?_ _)); exact BK370.out))⟩; have n2_ : Aside0 (w39.heap[gb387]? = some (.cells #[.int .i64 t372, .int .i64 ((rd_T37 t371 (ji31)).f2.f1), .slice none 0 0] 40 (0, 0))) := ⟨(by rw [hw]; exact (by (with_reducible repeat (first | refine blk_drewN ?_ _ | refine blk_drew ?_ | refine blk_alloc ?_ _)); refine blk_put (cs := #[.int .i64 t372, .int .i64 ((rd_T37 t371 (ji31)).f2.f1), .slice none 0 0]) ?_ 2 _ rfl; (with_reducible repeat (first | refine blk_drewN ?_ _ | refine blk_drew ?_ | refine blk_alloc ?_ _)); refine blk_put (cs := #[.int .i64 t372, .int .i64 0, .slice none 0 0]) ?_ 1 _ rfl; (with_reducible repeat (first | refine blk_drewN ?_ _ | refine blk_drew ?_ | refine blk_alloc ?_ _)); refine blk_put (cs := #[.int .i64 0, .int .i64 0, .slice none 0 0]) ?_ 0 _ rfl; (with_reducible repeat (first | refine blk_drewN ?_ _ | refine blk_drew ?_ | refine blk_alloc ?_ _)); exact BK387.out))⟩; have n3_ : Aside0 (Below w.heap.size w w39) := ⟨(by rw [hw]; exact (hu_ HB GE370 GE387))⟩; clear hw; clear HO_6; clear BK370; clear BK387; clear HB; have HO_6 := n0_; have BK370 := n1_; have BK387 := n2_; have HB := n3_; clear n0_ n1_ n2_ n3_; have q40 : ((ji31) : Int) ≤ ((t371.length : Int) : Int) := of_decide_eq_true as_; obtain ⟨i040, hi040, _, hsz40, _⟩ := info_parts info37; have hroom40 : t371.length ≤ co7 := (Kd.R_reads' HO_6.out).2.1; have hC40 : Kd.C k37 _ (some ad386) t371.length t371 := (Kd.R_reads' HO_6.out).2.2; have hcut40 := cut_to (P := Try.prog) 28 37 .i64 Try.underlying28 hi040 (some ad386) t371.length co7 (ji31) (of_decide_eq_true as_) q40 hroom40; have hr40 := Kd.C_take (m := ((ji31) : Int).toNat) hC40 (by omega); have hy40 : y388.length = ((ji31) : Int).toNat := (by rw [Ny388.out, List.length_take]; omega); rw [← Ny388.out] at hr40; rw [← hy40] at hcut40; have HR391 := Aside0.mk hr40; have HC391 := Aside0.mk (show y388.length ≤ co7 from by omega); clear hr40 hC40 hroom40 hi040 hsz40; have KY40 := Aside0.mk hy40; clear hy40; have KL40 := Aside0.mk (show ((ji31) : Int).toNat ≤ t371.length from by omega); replace q40 := eq_true q40))
       go_loopg [69] kj3 (fun kq v69 w' => ∃ (x69_2 : Int) (x371000_2 : Int) (x371001_2 : Int) (x388002_2 : List (S68)) (u388002 : Value), v69 = .int .i64 x69_2 ∧ Aside0 (impl_HintOf.l0 kq a0 t371 y388 (y388.length : Int) x69_2 t372 ((rd_T37 t371 (ji31)).f2.f1) x388002_2 = some (r1, r2, r3, r4)) ∧ Aside0 (kq ≤ kj3) ∧ Aside0 (Kd.R k37 37 w' w.heap.size (fun _ => True) (.slice (some ad386) t371.length co7) t371) ∧ Aside0 (Kd.R k68 68 w' w.heap.size (fun _ => True) u388002 x388002_2) ∧ Aside0 (w'.heap[gb370]? = some (.cells #[.int .i64 x371000_2, .int .i64 x371001_2, (.slice none 0 0)] 40 (0, 0))) ∧ Aside0 (w'.heap[gb387]? = some (.cells #[.int .i64 t372, .int .i64 ((rd_T37 t371 (ji31)).f2.f1), u388002] 40 (0, 0))) ∧ Aside0 (Below w.heap.size w w'))
       case atStart => exact ⟨(0), (0), (0), (([] : List (S68))), (.slice none 0 0), rs_, H', ⟨Nat.le_refl _⟩, ⟨rr_ HO_6⟩, ⟨by first | exact Kd.R_nil _ _ _ _ _ | exact Kd.N_nil _ _ _ _ _ | exact Kd.V_nil _ _ _ _ _ | exact Kd.Q_nil _ _ _ _ _ | exact Kd.S_nil _ _ _ _ _⟩, ⟨bk_ BK370⟩, ⟨bk_ BK387⟩, ⟨by repeat (first | (with_reducible first | exact HB.out | apply below_alloc | apply pw_below_drewN | apply below_drew1 | refine below_set ?_ GE370.out | refine below_set ?_ GE387.out) | exact HB.out)⟩⟩
       case round =>
        clear H'
        try clear c1
        try clear c2
        try clear p2
        try clear c3
        try clear p3
        try clear q3
        try clear hx3
        try clear q4
        try clear p6
        try clear c10
        try clear c10b0
        try clear c10b1
        try clear c12
        try clear c14
        try clear c15
        try clear c29
        try clear c32
        try clear c32b0
        try clear c33
        try clear c33b0
        try clear c34
        try clear c34b0
        try clear c35
        try clear c35b0
        try clear c35b1
        try clear c36
        try clear c37
        try clear p38
        try clear q38
        try clear hx38
        try clear q40
        try clear hcz30_0
        try clear hcz30_1
        try clear hcz30_2
        try clear hcz38_0
        try clear hcz38_1
        try clear hcz38_2
        try clear hfz30_0
        try clear hfz30_1
        try clear hfz30_2
        try clear hfz38_0
        try clear hfz38_1
        try clear hfz38_2
        try clear hx386_0
        try clear hx386_1
        try clear hx386_2
        try clear hx386_3
        try clear hx386_4
        try clear hx386_5
        try clear hx386_6
        try clear hx386_7
        try clear p2
        try clear p386
        try clear p6
        try clear q386
        try clear q40
        obtain ⟨x69_2, x371000_2, x371001_2, x388002_2, u388002, rfl, HA, HK2, HO_6, HO_388002, BK370, BK387, HB⟩ := hrel
        cases gk with
        | zero => exact absurd HA.out (by simp [impl_HintOf.l0])
        | succ k2 =>
         have H := HA.out
         clear HA
         simp only [impl_HintOf.l0] at H
         by_cases c41 : x69_2 < (y388.length : Int)
         ·rw [if_pos c41] at H
          have c41b0 : decide (x69_2 < (y388.length : Int)) = true := decide_eq_true c41
          clear c41
          by_cases c42 : 0 ≤ x69_2
          ·rw [if_pos c42] at H
           have c42b0 : decide (0 ≤ x69_2) = true := decide_eq_true c42
           clear c42
           by_cases c43 : x69_2 < (y388.length : Int)
           ·rw [if_pos c43] at H
            have c43b0 : decide (x69_2 < (y388.length : Int)) = true := decide_eq_true c43
            clear c43
            have HC44 := Aside0.mk H
            clear H
            have p392 : 0 ≤ (x69_2 : Int) := of_decide_eq_true as_
            have q392 : x69_2 < (y388.length : Int) := of_decide_eq_true as_
            have hl_ : y388.length ≤ t371.length := by rw [Ny388.out]; exact (List.length_take_le' _ _)
            have ht_ : t371.take y388.length = y388 := by rw [Ny388.out, List.length_take, ← List.take_take, List.take_length]
            have hr_ := Kd.C_take (m := y388.length) (Kd.R_reads' HO_6.out).2.2 hl_
            rw [ht_] at hr_
            have HR391 := Aside0.mk hr_
            clear hl_ ht_ hr_
            obtain ⟨ad392, e392, hx392_0, hx392_1, hx392_2, hx392_3, hx392_4, hx392_5, hx392_6, hx392_7⟩ := at_T37 HR391.out x69_2 p392 q392
            obtain rfl : ad386 = ad392 := (by injection e392)
            (try replace hx392_0 := cb_ HB hx392_0)
            (try replace hx392_1 := cb_ HB hx392_1)
            (try replace hx392_2 := cb_ HB hx392_2)
            (try replace hx392_3 := cb_ HB hx392_3)
            (try replace hx392_4 := cb_ HB hx392_4)
            (try replace hx392_5 := cb_ HB hx392_5)
            (try replace hx392_6 := cb_ HB hx392_6)
            (try replace hx392_7 := cb_ HB hx392_7)
            replace p392 := eq_true p392
            replace q392 := eq_true q392
            go_upto_region 9 with (first | ((with_reducible refine gate_dst (N := 11) rfl ?_); (try (refine gate_guard (by rfl) ?_; dsimp only)); refine box_event ?hg (N := 11) ?hd (cs := #[.int .i64 0, .int .i64 0, .int .i64 0, .int .i64 0, .string (⟨#[]⟩ : ByteArray), .string (⟨#[]⟩ : ByteArray), .int .i64 0, .int .i64 0]) (t := 37) ?hr ?_; (case hd => rfl); (case hg => rfl); (case hr => first | (go_simp; done) | (go_simp; rfl)); intro gb393 hg w45 hbox hb; replace HO_6 := Aside0.mk (Kd.R_below (Kd.R_elderB (rr_ HO_6) gb393 (Nat.le_of_eq hg.symm)) hb); replace HO_388002 := rb_ HO_388002 hb; have BK393 := Aside0.mk (hbox); have GW393 := ge_ hg (hu_ HB GE370 GE387); have GE393 := ge_ hg (hu_ HB GE370 GE387); replace HB := bu_ HB GE370 GE387 hb; have NB370_393 := nl_ BK370 hg; have NB393_370 := ng_ BK370 hg; replace BK370 := bb_ BK370 hb; have NB387_393 := nl_ BK387 hg; have NB393_387 := ng_ BK387 hg; replace BK387 := bb_ BK387 hb; (try replace hx392_0 := (hb.cell (World.block_lt_of_cell? _ _ hx392_0)).trans hx392_0); (try replace hx392_1 := (hb.cell (World.block_lt_of_cell? _ _ hx392_1)).trans hx392_1); (try replace hx392_2 := (hb.cell (World.block_lt_of_cell? _ _ hx392_2)).trans hx392_2); (try replace hx392_3 := (hb.cell (World.block_lt_of_cell? _ _ hx392_3)).trans hx392_3); (try replace hx392_4 := (hb.cell (World.block_lt_of_cell? _ _ hx392_4)).trans hx392_4); (try replace hx392_5 := (hb.cell (World.block_lt_of_cell? _ _ hx392_5)).trans hx392_5); (try replace hx392_6 := (hb.cell (World.block_lt_of_cell? _ _ hx392_6)).trans hx392_6); (try replace hx392_7 := (hb.cell (World.block_lt_of_cell? _ _ hx392_7)).trans hx392_7); clear hb hbox hg; have hnb46 := NB393_370.out; have hnc46 := NB370_393.out; have hnb47 := NB393_387.out; have hnc47 := NB387_393.out; obtain ⟨hcz48_0, hcz48_1, hcz48_2, hcz48_3, hcz48_4, hcz48_5, hcz48_6, hcz48_7, hfz48_0, hfz48_1, hfz48_2, hfz48_3, hfz48_4, hfz48_5, hfz48_6, hfz48_7⟩ := bc8_ BK393))
            (try simp only [Act.put, la_, lz_, ls_])
            go_cut [102] (fun v102 wc => ∃ (kq : Nat) (x102_43 : Bool), v102 = .bool x102_43 ∧ Aside0 (impl_HintOf.j2 kq a0 t371 y388 (y388.length : Int) x69_2 x102_43 t372 ((rd_T37 t371 (ji31)).f2.f1) x388002_2 ((rd_T37 y388 x69_2).f0) ((rd_T37 y388 x69_2).f1) ((rd_T37 y388 x69_2).f2.f0) ((rd_T37 y388 x69_2).f2.f1) ((rd_T37 y388 x69_2).f2.f2) ((rd_T37 y388 x69_2).f2.f3) ((rd_T37 y388 x69_2).f2.f4) ((rd_T37 y388 x69_2).f2.f5) = some (r1, r2, r3, r4)) ∧ Aside0 (kq ≤ k2) ∧ Aside0 (Kd.R k37 37 wc w.heap.size (fun k_ => k_ ≠ gb393) (.slice (some ad386) t371.length co7) t371) ∧ Aside0 (Kd.R k68 68 wc w.heap.size (fun _ => True) u388002 x388002_2) ∧ Aside0 (wc.heap[gb370]? = some (.cells #[.int .i64 x371000_2, .int .i64 x371001_2, (.slice none 0 0)] 40 (0, 0))) ∧ Aside0 (wc.heap[gb387]? = some (.cells #[.int .i64 t372, .int .i64 ((rd_T37 t371 (ji31)).f2.f1), u388002] 40 (0, 0))) ∧ Aside0 (wc.heap[gb393]? = some (.cells #[.int .i64 ((rd_T37 y388 x69_2).f0), .int .i64 ((rd_T37 y388 x69_2).f1), .int .i64 ((rd_T37 y388 x69_2).f2.f0), .int .i64 ((rd_T37 y388 x69_2).f2.f1), .string ((rd_T37 y388 x69_2).f2.f2), .string ((rd_T37 y388 x69_2).f2.f3), .int .i64 ((rd_T37 y388 x69_2).f2.f4), .int .i64 ((rd_T37 y388 x69_2).f2.f5)] 37 (0, 0))) ∧ Aside0 (Below w.heap.size w wc))
            case first =>
             have H := HC44.out
             clear HC44
             by_cases c49 : ((rd_T37 y388 x69_2).f2.f0) = 4
             ·rw [if_pos c49] at H
              have c49b0 : (((rd_T37 y388 x69_2).f2.f0) == 4) = true := beq_iff_eq.mpr c49
              have c49b1 : (((rd_T37 y388 x69_2).f2.f0) != 4) = false := bne_eq_false_iff_eq.mpr c49
              clear c49
              (first | rw [c49b0] | (simp only [i64_w, i32_w]; rw [c49b0]) | skip)
              by_cases c50 : ((rd_T37 y388 x69_2).f2.f1) > ((rd_T37 t371 (ji31)).f2.f1)
              ·rw [if_pos c50] at H
               have c50b0 : decide (((rd_T37 t371 (ji31)).f2.f1) < ((rd_T37 y388 x69_2).f2.f1)) = true := decide_eq_true c50
               clear c50
               have H' := Aside0.mk H
               clear H
               try go_wp2
               generalize hW_ : ((((((((w45.setCell ⟨gb393, 0, none⟩ (.int .i64 ((rd_T37 y388 x69_2).f0))).setCell ⟨gb393, 1, none⟩ (.int .i64 ((rd_T37 y388 x69_2).f1))).setCell ⟨gb393, 2, none⟩ (.int .i64 ((rd_T37 y388 x69_2).f2.f0))).setCell ⟨gb393, 3, none⟩ (.int .i64 ((rd_T37 y388 x69_2).f2.f1))).setCell ⟨gb393, 4, none⟩ (.string ((rd_T37 y388 x69_2).f2.f2))).setCell ⟨gb393, 5, none⟩ (.string ((rd_T37 y388 x69_2).f2.f3))).setCell ⟨gb393, 6, none⟩ (.int .i64 ((rd_T37 y388 x69_2).f2.f4))).setCell ⟨gb393, 7, none⟩ (.int .i64 ((rd_T37 y388 x69_2).f2.f5))) = w51
               replace HO_6 := un_ (fun k_ => k_ ≠ gb393) HO_6 gb393 hW_
               replace HO_388002 := ur_ (fun _ => True) HO_388002 BK393 hW_
               replace BK370 := uf_ BK370 NB370_393 hW_
               replace BK387 := uf_ BK387 NB387_393 hW_
               replace BK393 := up_ #[.int .i64 ((rd_T37 y388 x69_2).f0), .int .i64 ((rd_T37 y388 x69_2).f1), .int .i64 ((rd_T37 y388 x69_2).f2.f0), .int .i64 ((rd_T37 y388 x69_2).f2.f1), .string ((rd_T37 y388 x69_2).f2.f2), .string ((rd_T37 y388 x69_2).f2.f3), .int .i64 ((rd_T37 y388 x69_2).f2.f4), .int .i64 ((rd_T37 y388 x69_2).f2.f5)] BK393 hW_
               replace HB := us_ hW_ (hv_ HB GE370 GE387 GE393)
               clear hW_
               replace HO_6 := rd_ HO_6
               replace HO_388002 := rd_ HO_388002
               replace BK370 := bd_ BK370
               replace BK387 := bd_ BK387
               replace BK393 := bd_ BK393
               replace HB := hd_ HB
               refine start_ (n := 29) (S := k8_ gb393 (.int .i64 ((rd_T37 y388 x69_2).f0)) (.int .i64 ((rd_T37 y388 x69_2).f1)) (.int .i64 ((rd_T37 y388 x69_2).f2.f0)) (.int .i64 ((rd_T37 y388 x69_2).f2.f1)) (.string ((rd_T37 y388 x69_2).f2.f2)) (.string ((rd_T37 y388 x69_2).f2.f3)) (.int .i64 ((rd_T37 y388 x69_2).f2.f4)) (.int .i64 ((rd_T37 y388 x69_2).f2.f5)) (k3e_ gb387 (.int .i64 t372) (.int .i64 ((rd_T37 t371 (ji31)).f2.f1)) (u388002))) (ds := []) (on_ 0 29) (by kernel_rfl) rfl rfl (p8_ BK393 (p3e_ BK387)) (fun hHeld => ?_); refine with_tabW impl_HintOf.tab9 impl_HintOf.bits9 (fun HT_ HW_ => ?_)
               generalize w51.drew = w52 at HO_6 HO_388002 BK370 BK387 BK393 HB hHeld ⊢
               refine pv_' 0 74 (on_ 1 28) rfl rfl HT_ ?_
               refine pv_' 1 75 (on_ 2 27) rfl rfl HT_ ?_
               refine take_ (i := 2) (N := some 76) (v := ?_) (a' := ?_) (on_ 3 26) rfl rfl (take_ofW HT_.out HW_.out (by kernel_rfl)) (fun _ _ _ h => h) (Or.inl ⟨by rfl, ?_⟩) hHeld ?_ ?_
               rotate_left
               ·rintro w' ⟨s0, s1, s2, s3, s4, s5, s6, s7, s8, s9, s10⟩
                go_simp
                with_reducible rfl
               rotate_left
               ·simp only [Act.put, la_, lz_, ls_, i64_w, i32_w]
                rfl
               refine pv_' 3 77 (on_ 4 25) rfl rfl HT_ ?_
               refine pv_' 4 78 (on_ 5 24) rfl rfl HT_ ?_
               refine pv_' 5 79 (on_ 6 23) rfl rfl HT_ ?_
               refine pv_' 6 80 (on_ 7 22) rfl rfl HT_ ?_
               refine pv_' 8 82 #[i',i',i',i',i',i',i',o',i',o',o',o',o',o',o',o',o',o',o',o',o',o',o',o',o',o',o',o',o'] rfl rfl HT_ ?_
               refine take_ (i := 7) (N := some 81) (v := ?_) (a' := ?_) (on_ 9 20) rfl rfl (take_ofW HT_.out HW_.out (by kernel_rfl)) (fun _ _ _ h => h) (Or.inl ⟨by rfl, ?_⟩) hHeld ?_ ?_
               rotate_left
               ·rintro w' ⟨s0, s1, s2, s3, s4, s5, s6, s7, s8, s9, s10⟩
                go_simp
                with_reducible rfl
               rotate_left
               ·simp only [Act.put, la_, lz_, ls_, i64_w, i32_w]
                rfl
               refine take_ (i := 9) (N := some 83) (v := ?_) (a' := ?_) (on_ 10 19) rfl rfl (take_ofW HT_.out HW_.out (by kernel_rfl)) (fun _ _ _ h => h) (Or.inl ⟨by rfl, ?_⟩) hHeld ?_ ?_
               rotate_left
               ·rintro w' ⟨s0, s1, s2, s3, s4, s5, s6, s7, s8, s9, s10⟩
                go_simp
                with_reducible rfl
               rotate_left
               ·simp only [Act.put, la_, lz_, ls_, i64_w, i32_w]
                rfl
               refine pv_' 10 84 (on_ 11 18) rfl rfl HT_ ?_
               refine pv_' 11 85 (on_ 12 17) rfl rfl HT_ ?_
               refine pv_' 12 86 (on_ 13 16) rfl rfl HT_ ?_
               refine pun_' 13 87 (on_ 14 15) rfl rfl HT_ ?_
               refine pun_' 14 88 (on_ 15 14) rfl rfl HT_ ?_
               refine pun_' 15 89 (on_ 16 13) rfl rfl HT_ ?_
               refine pun_' 16 90 (on_ 17 12) rfl rfl HT_ ?_
               refine pun_' 17 91 (on_ 18 11) rfl rfl HT_ ?_
               refine pun_' 18 92 (on_ 19 10) rfl rfl HT_ ?_
               refine pun_' 19 93 (on_ 20 9) rfl rfl HT_ ?_
               refine pun_' 20 94 (on_ 21 8) rfl rfl HT_ ?_
               refine pun_' 21 95 (on_ 22 7) rfl rfl HT_ ?_
               refine pun_' 22 96 (on_ 23 6) rfl rfl HT_ ?_
               refine pun_' 23 97 (on_ 24 5) rfl rfl HT_ ?_
               refine pun_' 24 98 (on_ 25 4) rfl rfl HT_ ?_
               refine pun_' 25 99 (on_ 26 3) rfl rfl HT_ ?_
               refine pun_' 26 100 (on_ 27 2) rfl rfl HT_ ?_
               refine pun_' 27 101 (on_ 28 1) rfl rfl HT_ ?_
               refine pv_' 28 102 (on_ 29 0) rfl rfl HT_ ?_
               refine done_ (done_of HT_.out (by kernel_rfl)) ?_
               have Nji31_ := Aside0.mk hji31
               clear hji31
               (try clear hji31w)
               try go_wp2
               have hji31 := Nji31_.out
               clear Nji31_
               (try have hji31w := (i64_w _).trans hji31)
               go_meet
               case rel => exact ⟨_, (true), rs_, (by first | exact H' | (simp only [hji31]; exact H')), ⟨by have := HJ3.out; have := HK2.out; first | exact Nat.le_refl _ | exact Nat.le_of_succ_le this | omega⟩, ⟨rr_ HO_6⟩, ⟨rr_ HO_388002⟩, ⟨bk_ BK370⟩, ⟨bk_ BK387⟩, ⟨bk_ BK393⟩, ⟨by repeat (first | (with_reducible first | exact HB.out | apply below_alloc | apply pw_below_drewN | apply below_drew1 | refine below_set ?_ GE370.out | refine below_set ?_ GE387.out | refine below_set ?_ GE393.out) | exact HB.out)⟩⟩
              ·rw [if_neg c50] at H
               have c50b0 : decide (((rd_T37 t371 (ji31)).f2.f1) < ((rd_T37 y388 x69_2).f2.f1)) = false := decide_eq_false c50
               clear c50
               by_cases c53 : x69_2 > 0
               ·rw [if_pos c53] at H
                have c53b0 : decide (0 < x69_2) = true := decide_eq_true c53
                clear c53
                obtain ⟨ji54, hji54⟩ : ∃ j_ : Int, (wrap64 (x69_2 - 1)) = j_ := ⟨_, rfl⟩
                replace H : (if 0 ≤ (ji54) then (if (ji54) < (t371.length : Int) then (impl_HintOf.j2 k2 a0 t371 y388 (y388.length : Int) x69_2 (!(Op.bytesLess (((rd_T37 t371 (ji54)).f2.f2).toList) (((rd_T37 y388 x69_2).f2.f2).toList))) t372 ((rd_T37 t371 (ji31)).f2.f1) x388002_2 ((rd_T37 y388 x69_2).f0) ((rd_T37 y388 x69_2).f1) ((rd_T37 y388 x69_2).f2.f0) ((rd_T37 y388 x69_2).f2.f1) ((rd_T37 y388 x69_2).f2.f2) ((rd_T37 y388 x69_2).f2.f3) ((rd_T37 y388 x69_2).f2.f4) ((rd_T37 y388 x69_2).f2.f5)) else (none)) else (none)) = some (r1, r2, r3, r4) := by first | (rw [hji54] at H; exact H) | (simp only [hji54] at H ⊢; exact H)
                have hji54w : (IntKind.i64.wrap (x69_2 - 1)) = ji54 := (i64_w _).trans hji54
                by_cases c55 : 0 ≤ (ji54)
                ·rw [if_pos c55] at H
                 have c55b0 : decide (0 ≤ (ji54)) = true := decide_eq_true c55
                 clear c55
                 by_cases c56 : (ji54) < (t371.length : Int)
                 ·rw [if_pos c56] at H
                  have c56b0 : decide ((ji54) < (t371.length : Int)) = true := decide_eq_true c56
                  clear c56
                  have H' := Aside0.mk H
                  clear H
                  try go_wp2
                  generalize hW_ : ((((((((w45.setCell ⟨gb393, 0, none⟩ (.int .i64 ((rd_T37 y388 x69_2).f0))).setCell ⟨gb393, 1, none⟩ (.int .i64 ((rd_T37 y388 x69_2).f1))).setCell ⟨gb393, 2, none⟩ (.int .i64 ((rd_T37 y388 x69_2).f2.f0))).setCell ⟨gb393, 3, none⟩ (.int .i64 ((rd_T37 y388 x69_2).f2.f1))).setCell ⟨gb393, 4, none⟩ (.string ((rd_T37 y388 x69_2).f2.f2))).setCell ⟨gb393, 5, none⟩ (.string ((rd_T37 y388 x69_2).f2.f3))).setCell ⟨gb393, 6, none⟩ (.int .i64 ((rd_T37 y388 x69_2).f2.f4))).setCell ⟨gb393, 7, none⟩ (.int .i64 ((rd_T37 y388 x69_2).f2.f5))) = w57
                  replace HO_6 := un_ (fun k_ => k_ ≠ gb393) HO_6 gb393 hW_
                  replace HO_388002 := ur_ (fun _ => True) HO_388002 BK393 hW_
                  replace BK370 := uf_ BK370 NB370_393 hW_
                  replace BK387 := uf_ BK387 NB387_393 hW_
                  replace BK393 := up_ #[.int .i64 ((rd_T37 y388 x69_2).f0), .int .i64 ((rd_T37 y388 x69_2).f1), .int .i64 ((rd_T37 y388 x69_2).f2.f0), .int .i64 ((rd_T37 y388 x69_2).f2.f1), .string ((rd_T37 y388 x69_2).f2.f2), .string ((rd_T37 y388 x69_2).f2.f3), .int .i64 ((rd_T37 y388 x69_2).f2.f4), .int .i64 ((rd_T37 y388 x69_2).f2.f5)] BK393 hW_
                  replace HB := us_ hW_ (hv_ HB GE370 GE387 GE393)
                  clear hW_
                  replace HO_6 := rd_ HO_6
                  replace HO_388002 := rd_ HO_388002
                  replace BK370 := bd_ BK370
                  replace BK387 := bd_ BK387
                  replace BK393 := bd_ BK393
                  replace HB := hd_ HB
                  have p394 : 0 ≤ ((ji54) : Int) := of_decide_eq_true as_
                  have q394 : (ji54) < (t371.length : Int) := of_decide_eq_true as_
                  obtain ⟨ad394, e394, hx394_0, hx394_1, hx394_2, hx394_3, hx394_4, hx394_5, hx394_6, hx394_7⟩ := at_T37 (Kd.R_reads' HO_6.out).2.2 (ji54) p394 q394
                  obtain rfl : ad386 = ad394 := (by injection e394)
                  replace p394 := eq_true p394
                  replace q394 := eq_true q394
                  refine start_ (n := 29) (S := k8_ gb393 (.int .i64 ((rd_T37 y388 x69_2).f0)) (.int .i64 ((rd_T37 y388 x69_2).f1)) (.int .i64 ((rd_T37 y388 x69_2).f2.f0)) (.int .i64 ((rd_T37 y388 x69_2).f2.f1)) (.string ((rd_T37 y388 x69_2).f2.f2)) (.string ((rd_T37 y388 x69_2).f2.f3)) (.int .i64 ((rd_T37 y388 x69_2).f2.f4)) (.int .i64 ((rd_T37 y388 x69_2).f2.f5)) (k3_ gb387 (.int .i64 t372) (.int .i64 ((rd_T37 t371 (ji31)).f2.f1)) (u388002) (e8e_ (ad386.add (((ji54)).toNat * 8)) (.int .i64 ((rd_T37 t371 (ji54)).f0)) (.int .i64 ((rd_T37 t371 (ji54)).f1)) (.int .i64 ((rd_T37 t371 (ji54)).f2.f0)) (.int .i64 ((rd_T37 t371 (ji54)).f2.f1)) (.string ((rd_T37 t371 (ji54)).f2.f2)) (.string ((rd_T37 t371 (ji54)).f2.f3)) (.int .i64 ((rd_T37 t371 (ji54)).f2.f4)) (.int .i64 ((rd_T37 t371 (ji54)).f2.f5))))) (ds := []) (on_ 0 29) (by kernel_rfl) rfl rfl (p8_ BK393 (p3_ BK387 (q8e_ hx394_0 hx394_1 hx394_2 hx394_3 hx394_4 hx394_5 hx394_6 hx394_7))) (fun hHeld => ?_); refine with_tabW impl_HintOf.tab9 impl_HintOf.bits9 (fun HT_ HW_ => ?_)
                  generalize w57.drew = w58 at HO_6 HO_388002 BK370 BK387 BK393 HB hx394_0 hx394_1 hx394_2 hx394_3 hx394_4 hx394_5 hx394_6 hx394_7 hHeld ⊢
                  refine pv_' 0 74 (on_ 1 28) rfl rfl HT_ ?_
                  refine pv_' 1 75 (on_ 2 27) rfl rfl HT_ ?_
                  refine take_ (i := 2) (N := some 76) (v := ?_) (a' := ?_) (on_ 3 26) rfl rfl (take_ofW HT_.out HW_.out (by kernel_rfl)) (fun _ _ _ h => h) (Or.inl ⟨by rfl, ?_⟩) hHeld ?_ ?_
                  rotate_left
                  ·rintro w' ⟨s0, s1, s2, s3, s4, s5, s6, s7, s8, s9, s10, s11, s12, s13, s14, s15, s16, s17, s18⟩
                   go_simp
                   with_reducible rfl
                  rotate_left
                  ·simp only [Act.put, la_, lz_, ls_, i64_w, i32_w]
                   rfl
                  refine pv_' 3 77 (on_ 4 25) rfl rfl HT_ ?_
                  refine pv_' 4 78 (on_ 5 24) rfl rfl HT_ ?_
                  refine pv_' 5 79 (on_ 6 23) rfl rfl HT_ ?_
                  refine pv_' 6 80 (on_ 7 22) rfl rfl HT_ ?_
                  refine pv_' 8 82 #[i',i',i',i',i',i',i',o',i',o',o',o',o',o',o',o',o',o',o',o',o',o',o',o',o',o',o',o',o'] rfl rfl HT_ ?_
                  refine take_ (i := 7) (N := some 81) (v := ?_) (a' := ?_) (on_ 9 20) rfl rfl (take_ofW HT_.out HW_.out (by kernel_rfl)) (fun _ _ _ h => h) (Or.inl ⟨by rfl, ?_⟩) hHeld ?_ ?_
                  rotate_left
                  ·rintro w' ⟨s0, s1, s2, s3, s4, s5, s6, s7, s8, s9, s10, s11, s12, s13, s14, s15, s16, s17, s18⟩
                   go_simp
                   with_reducible rfl
                  rotate_left
                  ·simp only [Act.put, la_, lz_, ls_, i64_w, i32_w]
                   rfl
                  refine take_ (i := 9) (N := some 83) (v := ?_) (a' := ?_) (on_ 10 19) rfl rfl (take_ofW HT_.out HW_.out (by kernel_rfl)) (fun _ _ _ h => h) (Or.inl ⟨by rfl, ?_⟩) hHeld ?_ ?_
                  rotate_left
                  ·rintro w' ⟨s0, s1, s2, s3, s4, s5, s6, s7, s8, s9, s10, s11, s12, s13, s14, s15, s16, s17, s18⟩
                   go_simp
                   with_reducible rfl
                  rotate_left
                  ·simp only [Act.put, la_, lz_, ls_, i64_w, i32_w]
                   rfl
                  refine pv_' 10 84 (on_ 11 18) rfl rfl HT_ ?_
                  refine pv_' 11 85 (on_ 12 17) rfl rfl HT_ ?_
                  refine pv_' 12 86 (on_ 13 16) rfl rfl HT_ ?_
                  refine pv_' 13 87 (on_ 14 15) rfl rfl HT_ ?_
                  refine pv_' 14 88 (on_ 15 14) rfl rfl HT_ ?_
                  refine pv_' 15 89 (on_ 16 13) rfl rfl HT_ ?_
                  refine pv_' 16 90 (on_ 17 12) rfl rfl HT_ ?_
                  refine pv_' 17 91 (on_ 18 11) rfl rfl HT_ ?_
                  refine pv_' 18 92 (on_ 19 10) rfl rfl HT_ ?_
                  refine pv_' 19 93 (on_ 20 9) rfl rfl HT_ ?_
                  refine pv_' 20 94 (on_ 21 8) rfl rfl HT_ ?_
                  refine pv_' 21 95 (on_ 22 7) rfl rfl HT_ ?_
                  refine pv_' 23 97 #[i',i',i',i',i',i',i',i',i',i',i',i',i',i',i',i',i',i',i',i',i',i',o',i',o',o',o',o',o'] rfl rfl HT_ ?_
                  refine pv_' 24 98 #[i',i',i',i',i',i',i',i',i',i',i',i',i',i',i',i',i',i',i',i',i',i',o',i',i',o',o',o',o'] rfl rfl HT_ ?_
                  refine take_ (i := 22) (N := some 96) (v := ?_) (a' := ?_) (on_ 25 4) rfl rfl (take_ofW HT_.out HW_.out (by kernel_rfl)) (fun _ _ _ h => h) (Or.inl ⟨by rfl, ?_⟩) hHeld ?_ ?_
                  rotate_left
                  ·rintro w' ⟨s0, s1, s2, s3, s4, s5, s6, s7, s8, s9, s10, s11, s12, s13, s14, s15, s16, s17, s18⟩
                   go_simp
                   with_reducible rfl
                  rotate_left
                  ·simp only [Act.put, la_, lz_, ls_, i64_w, i32_w]
                   rfl
                  refine take_ (i := 25) (N := some 99) (v := ?_) (a' := ?_) (on_ 26 3) rfl rfl (take_ofW HT_.out HW_.out (by kernel_rfl)) (fun _ _ _ h => h) (Or.inl ⟨by rfl, ?_⟩) hHeld ?_ ?_
                  rotate_left
                  ·rintro w' ⟨s0, s1, s2, s3, s4, s5, s6, s7, s8, s9, s10, s11, s12, s13, s14, s15, s16, s17, s18⟩
                   go_simp
                   with_reducible rfl
                  rotate_left
                  ·simp only [Act.put, la_, lz_, ls_, i64_w, i32_w]
                   rfl
                  refine pv_' 26 100 (on_ 27 2) rfl rfl HT_ ?_
                  refine pv_' 27 101 (on_ 28 1) rfl rfl HT_ ?_
                  refine pv_' 28 102 (on_ 29 0) rfl rfl HT_ ?_
                  refine done_ (done_of HT_.out (by kernel_rfl)) ?_
                  have Nji54_ := Aside0.mk hji54
                  clear hji54
                  (try clear hji54w)
                  have Nji31_ := Aside0.mk hji31
                  clear hji31
                  (try clear hji31w)
                  try go_wp2
                  have hji31 := Nji31_.out
                  clear Nji31_
                  (try have hji31w := (i64_w _).trans hji31)
                  have hji54 := Nji54_.out
                  clear Nji54_
                  (try have hji54w := (i64_w _).trans hji54)
                  go_meet
                  case rel => exact ⟨_, (!(Op.bytesLess (((rd_T37 t371 (ji54)).f2.f2).toList) (((rd_T37 y388 x69_2).f2.f2).toList))), (by first | rfl | (simp; done) | (simp only [← hji54] <;> (first | rfl | simp)) | (simp [*]; done)), (by first | exact H' | (simp only [hji54, hji31]; exact H')), ⟨by have := HJ3.out; have := HK2.out; first | exact Nat.le_refl _ | exact Nat.le_of_succ_le this | omega⟩, ⟨rr_ HO_6⟩, ⟨rr_ HO_388002⟩, ⟨bk_ BK370⟩, ⟨bk_ BK387⟩, ⟨bk_ BK393⟩, ⟨by repeat (first | (with_reducible first | exact HB.out | apply below_alloc | apply pw_below_drewN | apply below_drew1 | refine below_set ?_ GE370.out | refine below_set ?_ GE387.out | refine below_set ?_ GE393.out) | exact HB.out)⟩⟩
                 ·rw [if_neg c56] at H
                  exact absurd H (by simp)
                ·rw [if_neg c55] at H
                 exact absurd H (by simp)
               ·rw [if_neg c53] at H
                have c53b0 : decide (0 < x69_2) = false := decide_eq_false c53
                clear c53
                have H' := Aside0.mk H
                clear H
                try go_wp2
                generalize hW_ : ((((((((w45.setCell ⟨gb393, 0, none⟩ (.int .i64 ((rd_T37 y388 x69_2).f0))).setCell ⟨gb393, 1, none⟩ (.int .i64 ((rd_T37 y388 x69_2).f1))).setCell ⟨gb393, 2, none⟩ (.int .i64 ((rd_T37 y388 x69_2).f2.f0))).setCell ⟨gb393, 3, none⟩ (.int .i64 ((rd_T37 y388 x69_2).f2.f1))).setCell ⟨gb393, 4, none⟩ (.string ((rd_T37 y388 x69_2).f2.f2))).setCell ⟨gb393, 5, none⟩ (.string ((rd_T37 y388 x69_2).f2.f3))).setCell ⟨gb393, 6, none⟩ (.int .i64 ((rd_T37 y388 x69_2).f2.f4))).setCell ⟨gb393, 7, none⟩ (.int .i64 ((rd_T37 y388 x69_2).f2.f5))) = w59
                replace HO_6 := un_ (fun k_ => k_ ≠ gb393) HO_6 gb393 hW_
                replace HO_388002 := ur_ (fun _ => True) HO_388002 BK393 hW_
                replace BK370 := uf_ BK370 NB370_393 hW_
                replace BK387 := uf_ BK387 NB387_393 hW_
                replace BK393 := up_ #[.int .i64 ((rd_T37 y388 x69_2).f0), .int .i64 ((rd_T37 y388 x69_2).f1), .int .i64 ((rd_T37 y388 x69_2).f2.f0), .int .i64 ((rd_T37 y388 x69_2).f2.f1), .string ((rd_T37 y388 x69_2).f2.f2), .string ((rd_T37 y388 x69_2).f2.f3), .int .i64 ((rd_T37 y388 x69_2).f2.f4), .int .i64 ((rd_T37 y388 x69_2).f2.f5)] BK393 hW_
                replace HB := us_ hW_ (hv_ HB GE370 GE387 GE393)
                clear hW_
                replace HO_6 := rd_ HO_6
                replace HO_388002 := rd_ HO_388002
                replace BK370 := bd_ BK370
                replace BK387 := bd_ BK387
                replace BK393 := bd_ BK393
                replace HB := hd_ HB
                refine start_ (n := 29) (S := k8_ gb393 (.int .i64 ((rd_T37 y388 x69_2).f0)) (.int .i64 ((rd_T37 y388 x69_2).f1)) (.int .i64 ((rd_T37 y388 x69_2).f2.f0)) (.int .i64 ((rd_T37 y388 x69_2).f2.f1)) (.string ((rd_T37 y388 x69_2).f2.f2)) (.string ((rd_T37 y388 x69_2).f2.f3)) (.int .i64 ((rd_T37 y388 x69_2).f2.f4)) (.int .i64 ((rd_T37 y388 x69_2).f2.f5)) (k3e_ gb387 (.int .i64 t372) (.int .i64 ((rd_T37 t371 (ji31)).f2.f1)) (u388002))) (ds := []) (on_ 0 29) (by kernel_rfl) rfl rfl (p8_ BK393 (p3e_ BK387)) (fun hHeld => ?_); refine with_tabW impl_HintOf.tab9 impl_HintOf.bits9 (fun HT_ HW_ => ?_)
                generalize w59.drew = w60 at HO_6 HO_388002 BK370 BK387 BK393 HB hHeld ⊢
                refine pv_' 0 74 (on_ 1 28) rfl rfl HT_ ?_
                refine pv_' 1 75 (on_ 2 27) rfl rfl HT_ ?_
                refine take_ (i := 2) (N := some 76) (v := ?_) (a' := ?_) (on_ 3 26) rfl rfl (take_ofW HT_.out HW_.out (by kernel_rfl)) (fun _ _ _ h => h) (Or.inl ⟨by rfl, ?_⟩) hHeld ?_ ?_
                rotate_left
                ·rintro w' ⟨s0, s1, s2, s3, s4, s5, s6, s7, s8, s9, s10⟩
                 go_simp
                 with_reducible rfl
                rotate_left
                ·simp only [Act.put, la_, lz_, ls_, i64_w, i32_w]
                 rfl
                refine pv_' 3 77 (on_ 4 25) rfl rfl HT_ ?_
                refine pv_' 4 78 (on_ 5 24) rfl rfl HT_ ?_
                refine pv_' 5 79 (on_ 6 23) rfl rfl HT_ ?_
                refine pv_' 6 80 (on_ 7 22) rfl rfl HT_ ?_
                refine pv_' 8 82 #[i',i',i',i',i',i',i',o',i',o',o',o',o',o',o',o',o',o',o',o',o',o',o',o',o',o',o',o',o'] rfl rfl HT_ ?_
                refine take_ (i := 7) (N := some 81) (v := ?_) (a' := ?_) (on_ 9 20) rfl rfl (take_ofW HT_.out HW_.out (by kernel_rfl)) (fun _ _ _ h => h) (Or.inl ⟨by rfl, ?_⟩) hHeld ?_ ?_
                rotate_left
                ·rintro w' ⟨s0, s1, s2, s3, s4, s5, s6, s7, s8, s9, s10⟩
                 go_simp
                 with_reducible rfl
                rotate_left
                ·simp only [Act.put, la_, lz_, ls_, i64_w, i32_w]
                 rfl
                refine take_ (i := 9) (N := some 83) (v := ?_) (a' := ?_) (on_ 10 19) rfl rfl (take_ofW HT_.out HW_.out (by kernel_rfl)) (fun _ _ _ h => h) (Or.inl ⟨by rfl, ?_⟩) hHeld ?_ ?_
                rotate_left
                ·rintro w' ⟨s0, s1, s2, s3, s4, s5, s6, s7, s8, s9, s10⟩
                 go_simp
                 with_reducible rfl
                rotate_left
                ·simp only [Act.put, la_, lz_, ls_, i64_w, i32_w]
                 rfl
                refine pv_' 10 84 (on_ 11 18) rfl rfl HT_ ?_
                refine pv_' 11 85 (on_ 12 17) rfl rfl HT_ ?_
                refine pv_' 12 86 (on_ 13 16) rfl rfl HT_ ?_
                refine pv_' 13 87 (on_ 14 15) rfl rfl HT_ ?_
                refine pv_' 14 88 (on_ 15 14) rfl rfl HT_ ?_
                refine pv_' 15 89 (on_ 16 13) rfl rfl HT_ ?_
                refine pun_' 16 90 (on_ 17 12) rfl rfl HT_ ?_
                refine pun_' 17 91 (on_ 18 11) rfl rfl HT_ ?_
                refine pun_' 18 92 (on_ 19 10) rfl rfl HT_ ?_
                refine pun_' 19 93 (on_ 20 9) rfl rfl HT_ ?_
                refine pun_' 20 94 (on_ 21 8) rfl rfl HT_ ?_
                refine pun_' 21 95 (on_ 22 7) rfl rfl HT_ ?_
                refine pun_' 22 96 (on_ 23 6) rfl rfl HT_ ?_
                refine pun_' 23 97 (on_ 24 5) rfl rfl HT_ ?_
                refine pun_' 24 98 (on_ 25 4) rfl rfl HT_ ?_
                refine pun_' 25 99 (on_ 26 3) rfl rfl HT_ ?_
                refine pun_' 26 100 (on_ 27 2) rfl rfl HT_ ?_
                refine pv_' 27 101 (on_ 28 1) rfl rfl HT_ ?_
                refine pv_' 28 102 (on_ 29 0) rfl rfl HT_ ?_
                refine done_ (done_of HT_.out (by kernel_rfl)) ?_
                have Nji31_ := Aside0.mk hji31
                clear hji31
                (try clear hji31w)
                try go_wp2
                have hji31 := Nji31_.out
                clear Nji31_
                (try have hji31w := (i64_w _).trans hji31)
                go_meet
                case rel => exact ⟨_, (false), rs_, (by first | exact H' | (simp only [hji54, hji31]; exact H')), ⟨by have := HJ3.out; have := HK2.out; first | exact Nat.le_refl _ | exact Nat.le_of_succ_le this | omega⟩, ⟨rr_ HO_6⟩, ⟨rr_ HO_388002⟩, ⟨bk_ BK370⟩, ⟨bk_ BK387⟩, ⟨bk_ BK393⟩, ⟨by repeat (first | (with_reducible first | exact HB.out | apply below_alloc | apply pw_below_drewN | apply below_drew1 | refine below_set ?_ GE370.out | refine below_set ?_ GE387.out | refine below_set ?_ GE393.out) | exact HB.out)⟩⟩
             ·rw [if_neg c49] at H
              have c49b0 : (((rd_T37 y388 x69_2).f2.f0) == 4) = false := beq_eq_false_iff_ne.mpr c49
              have c49b1 : (((rd_T37 y388 x69_2).f2.f0) != 4) = true := bne_iff_ne.mpr c49
              (first | rw [c49b0] | (simp only [i64_w, i32_w]; rw [c49b0]) | skip)
              have H' := Aside0.mk H
              clear H
              try go_wp2
              generalize hW_ : ((((((((w45.setCell ⟨gb393, 0, none⟩ (.int .i64 ((rd_T37 y388 x69_2).f0))).setCell ⟨gb393, 1, none⟩ (.int .i64 ((rd_T37 y388 x69_2).f1))).setCell ⟨gb393, 2, none⟩ (.int .i64 ((rd_T37 y388 x69_2).f2.f0))).setCell ⟨gb393, 3, none⟩ (.int .i64 ((rd_T37 y388 x69_2).f2.f1))).setCell ⟨gb393, 4, none⟩ (.string ((rd_T37 y388 x69_2).f2.f2))).setCell ⟨gb393, 5, none⟩ (.string ((rd_T37 y388 x69_2).f2.f3))).setCell ⟨gb393, 6, none⟩ (.int .i64 ((rd_T37 y388 x69_2).f2.f4))).setCell ⟨gb393, 7, none⟩ (.int .i64 ((rd_T37 y388 x69_2).f2.f5))) = w61
              replace HO_6 := un_ (fun k_ => k_ ≠ gb393) HO_6 gb393 hW_
              replace HO_388002 := ur_ (fun _ => True) HO_388002 BK393 hW_
              replace BK370 := uf_ BK370 NB370_393 hW_
              replace BK387 := uf_ BK387 NB387_393 hW_
              replace BK393 := up_ #[.int .i64 ((rd_T37 y388 x69_2).f0), .int .i64 ((rd_T37 y388 x69_2).f1), .int .i64 ((rd_T37 y388 x69_2).f2.f0), .int .i64 ((rd_T37 y388 x69_2).f2.f1), .string ((rd_T37 y388 x69_2).f2.f2), .string ((rd_T37 y388 x69_2).f2.f3), .int .i64 ((rd_T37 y388 x69_2).f2.f4), .int .i64 ((rd_T37 y388 x69_2).f2.f5)] BK393 hW_
              replace HB := us_ hW_ (hv_ HB GE370 GE387 GE393)
              clear hW_
              replace HO_6 := rd_ HO_6
              replace HO_388002 := rd_ HO_388002
              replace BK370 := bd_ BK370
              replace BK387 := bd_ BK387
              replace BK393 := bd_ BK393
              replace HB := hd_ HB
              refine start_ (n := 29) (S := k8e_ gb393 (.int .i64 ((rd_T37 y388 x69_2).f0)) (.int .i64 ((rd_T37 y388 x69_2).f1)) (.int .i64 ((rd_T37 y388 x69_2).f2.f0)) (.int .i64 ((rd_T37 y388 x69_2).f2.f1)) (.string ((rd_T37 y388 x69_2).f2.f2)) (.string ((rd_T37 y388 x69_2).f2.f3)) (.int .i64 ((rd_T37 y388 x69_2).f2.f4)) (.int .i64 ((rd_T37 y388 x69_2).f2.f5))) (ds := []) (on_ 0 29) (by kernel_rfl) rfl rfl (p8e_ BK393) (fun hHeld => ?_); refine with_tabW impl_HintOf.tab9 impl_HintOf.bits9 (fun HT_ HW_ => ?_)
              generalize w61.drew = w62 at HO_6 HO_388002 BK370 BK387 BK393 HB hHeld ⊢
              refine pv_' 0 74 (on_ 1 28) rfl rfl HT_ ?_
              refine pv_' 1 75 (on_ 2 27) rfl rfl HT_ ?_
              refine take_ (i := 2) (N := some 76) (v := ?_) (a' := ?_) (on_ 3 26) rfl rfl (take_ofW HT_.out HW_.out (by kernel_rfl)) (fun _ _ _ h => h) (Or.inl ⟨by rfl, ?_⟩) hHeld ?_ ?_
              rotate_left
              ·rintro w' ⟨s0, s1, s2, s3, s4, s5, s6, s7⟩
               go_simp
               with_reducible rfl
              rotate_left
              ·simp only [Act.put, la_, lz_, ls_, i64_w, i32_w]
               rfl
              refine pv_' 3 77 (on_ 4 25) rfl rfl HT_ ?_
              refine pv_' 4 78 (on_ 5 24) rfl rfl HT_ ?_
              refine pun_' 5 79 (on_ 6 23) rfl rfl HT_ ?_
              refine pun_' 6 80 (on_ 7 22) rfl rfl HT_ ?_
              refine pun_' 7 81 (on_ 8 21) rfl rfl HT_ ?_
              refine pun_' 8 82 (on_ 9 20) rfl rfl HT_ ?_
              refine pun_' 9 83 (on_ 10 19) rfl rfl HT_ ?_
              refine pun_' 10 84 (on_ 11 18) rfl rfl HT_ ?_
              refine pv_' 11 85 (on_ 12 17) rfl rfl HT_ ?_
              refine pv_' 12 86 (on_ 13 16) rfl rfl HT_ ?_
              refine pun_' 13 87 (on_ 14 15) rfl rfl HT_ ?_
              refine pun_' 14 88 (on_ 15 14) rfl rfl HT_ ?_
              refine pun_' 15 89 (on_ 16 13) rfl rfl HT_ ?_
              refine pun_' 16 90 (on_ 17 12) rfl rfl HT_ ?_
              refine pun_' 17 91 (on_ 18 11) rfl rfl HT_ ?_
              refine pun_' 18 92 (on_ 19 10) rfl rfl HT_ ?_
              refine pun_' 19 93 (on_ 20 9) rfl rfl HT_ ?_
              refine pun_' 20 94 (on_ 21 8) rfl rfl HT_ ?_
              refine pun_' 21 95 (on_ 22 7) rfl rfl HT_ ?_
              refine pun_' 22 96 (on_ 23 6) rfl rfl HT_ ?_
              refine pun_' 23 97 (on_ 24 5) rfl rfl HT_ ?_
              refine pun_' 24 98 (on_ 25 4) rfl rfl HT_ ?_
              refine pun_' 25 99 (on_ 26 3) rfl rfl HT_ ?_
              refine pun_' 26 100 (on_ 27 2) rfl rfl HT_ ?_
              refine pun_' 27 101 (on_ 28 1) rfl rfl HT_ ?_
              refine pv_' 28 102 (on_ 29 0) rfl rfl HT_ ?_
              refine done_ (done_of HT_.out (by kernel_rfl)) ?_
              have Nji31_ := Aside0.mk hji31
              clear hji31
              (try clear hji31w)
              try go_wp2
              have hji31 := Nji31_.out
              clear Nji31_
              (try have hji31w := (i64_w _).trans hji31)
              go_meet
              case rel => exact ⟨_, (true), rs_, (by first | exact H' | (simp only [hji31]; exact H')), ⟨by have := HJ3.out; have := HK2.out; first | exact Nat.le_refl _ | exact Nat.le_of_succ_le this | omega⟩, ⟨rr_ HO_6⟩, ⟨rr_ HO_388002⟩, ⟨bk_ BK370⟩, ⟨bk_ BK387⟩, ⟨bk_ BK393⟩, ⟨by repeat (first | (with_reducible first | exact HB.out | apply below_alloc | apply pw_below_drewN | apply below_drew1 | refine below_set ?_ GE370.out | refine below_set ?_ GE387.out | refine below_set ?_ GE393.out) | exact HB.out)⟩⟩
            case rest =>
             clear HC44
             try clear p2
             try clear c4
             try clear c5
             try clear c49
             try clear c49b0
             try clear c49b1
             try clear c53
             try clear c53b0
             try clear c55
             try clear c56
             obtain ⟨kq, x102_43, rfl, HA, HJ43, HO_6, HO_388002, BK370, BK387, BK393, HB⟩ := hcut
             cases kq with
             | zero => exact absurd HA.out (by simp [impl_HintOf.j2])
             | succ kj43 =>
              have H := HA.out
              clear HA
              simp only [impl_HintOf.j2] at H
              by_cases c63 : x102_43 = true
              ·subst c63
               have H1 : (some (0, 0, ([] : List (S68)), false)) = some (r1, r2, r3, r4) := by rw [if_pos rfl] at H; exact H
               clear H
               have H := H1
               clear H1
               simp only [Option.some.injEq, Prod.mk.injEq] at H
               obtain ⟨rfl, rfl, rfl, rfl⟩ := H
               have hnb64 := NB370_387.out
               have hnc64 := NB387_370.out
               have hnb65 := NB370_393.out
               have hnc65 := NB393_370.out
               obtain ⟨hcz66_0, hcz66_1, hcz66_2, hfz66_0, hfz66_1, hfz66_2⟩ := bc3_ BK370
               go_wp2
               refine bodyPost_ret (results_ct rfl _ _ gb370 40 #[.int .i64 0, .int .i64 0, .slice none 0 0] (0, 0) _ rfl (by (with_reducible repeat (first | refine blk_drewN ?_ _ | refine blk_drew ?_ | refine blk_alloc ?_ _)); refine blk_put (cs := #[.int .i64 0, .int .i64 0, .slice none 0 0]) ?_ 2 _ rfl; (with_reducible repeat (first | refine blk_drewN ?_ _ | refine blk_drew ?_ | refine blk_alloc ?_ _)); refine blk_put (cs := #[.int .i64 0, .int .i64 x371001_2, .slice none 0 0]) ?_ 1 _ rfl; (with_reducible repeat (first | refine blk_drewN ?_ _ | refine blk_drew ?_ | refine blk_alloc ?_ _)); refine blk_put (cs := #[.int .i64 x371000_2, .int .i64 x371001_2, .slice none 0 0]) ?_ 0 _ rfl; (with_reducible repeat (first | refine blk_drewN ?_ _ | refine blk_drew ?_ | refine blk_alloc ?_ _)); exact BK370.out) Try.underlying40 rfl (by kernel_rfl)) rfl ?_
               exact ⟨_, by first | rfl | (simp [errW_none, errW_some] <;> rfl) | (simp only [← hji31]; first | rfl | (simp [errW_none, errW_some] <;> rfl)) | (simp [*, errW_none, errW_some] <;> rfl), by first | exact Kd.R_nil _ _ _ _ _ | exact Kd.N_nil _ _ _ _ _ | exact Kd.V_nil _ _ _ _ _ | exact Kd.Q_nil _ _ _ _ _ | exact Kd.S_nil _ _ _ _ _, by repeat (first | (with_reducible first | exact HB.out | apply below_alloc | apply pw_below_drewN | apply below_drew1 | refine below_set ?_ GE370.out | refine below_set ?_ GE387.out | refine below_set ?_ GE393.out) | exact HB.out)⟩
              ·replace c63 := Bool.eq_false_iff.mpr c63
               subst c63
               have H1 : (if x388002_2.length < 2932031007402 then (impl_HintOf.l0 kj43 a0 t371 y388 (y388.length : Int) (wrap64 (x69_2 + 1)) t372 ((rd_T37 t371 (ji31)).f2.f1) (x388002_2 ++ [(⟨((rd_T37 y388 x69_2).f2.f2), a0, ((rd_T37 y388 x69_2).f0), ((rd_T37 y388 x69_2).f1), ((rd_T37 y388 x69_2).f2.f1)⟩ : S68)])) else (none)) = some (r1, r2, r3, r4) := by rw [if_neg (show ¬ (false = true) by decide)] at H; exact H
               clear H
               have H := H1
               clear H1
               by_cases c67 : x388002_2.length < 2932031007402
               ·rw [if_pos c67] at H
                have LMc67 := Aside0.mk c67
                clear c67
                obtain ⟨y395, hy395⟩ : ∃ y_ : List (S68), y_ = (x388002_2 ++ [(⟨((rd_T37 y388 x69_2).f2.f2), a0, ((rd_T37 y388 x69_2).f0), ((rd_T37 y388 x69_2).f1), ((rd_T37 y388 x69_2).f2.f1)⟩ : S68)]) := ⟨_, rfl⟩
                replace H : (impl_HintOf.l0 kj43 a0 t371 y388 (y388.length : Int) (wrap64 (x69_2 + 1)) t372 ((rd_T37 t371 (ji31)).f2.f1) y395) = some (r1, r2, r3, r4) := by first | (rw [hy395]; with_reducible exact H) | (have H2_ := (Option.bind_some _ _).symm.trans H; rw [hy395]; with_reducible exact H2_) | (have H2_ := (Option.bind_some _ _).symm.trans H; with_reducible exact H2_) | with_reducible exact H | (rw [hy395]; exact H) | exact H
                have Ny395 := Aside0.mk hy395
                clear hy395
                have H' := Aside0.mk H
                clear H
                have hnb68 := NB387_370.out
                have hnc68 := NB370_387.out
                have hnb69 := NB387_393.out
                have hnc69 := NB393_387.out
                obtain ⟨hcz70_0, hcz70_1, hcz70_2, hfz70_0, hfz70_1, hfz70_2⟩ := bc3_ BK387
                have hnb71 := NB393_370.out
                have hnc71 := NB370_393.out
                obtain ⟨hcz72_0, hcz72_1, hcz72_2, hcz72_3, hcz72_4, hcz72_5, hcz72_6, hcz72_7, hfz72_0, hfz72_1, hfz72_2, hfz72_3, hfz72_4, hfz72_5, hfz72_6, hfz72_7⟩ := bc8_ BK393
                go_wp2_with (first | ((with_reducible refine gate_builtin (b := .append) (xs := #[.tmp 105, .tmp 118]) rfl ?_); (try (refine gate_guard (by rfl) ?_; dsimp only)); at_builtin; refine Kd.R_append k68 (w0 := w) w.heap.size rfl (.tmp 105) (.tmp 118) 38 68 (.agg #[(.string ⟨#[]⟩), (.int .i64 0), (.int .i64 0), (.int .i64 0), (.int .i64 0)]) 48 rfl Try.underlying38 info68 rfl (by decide) (by omega) u388002 x388002_2 (⟨((rd_T37 y388 x69_2).f2.f2), a0, ((rd_T37 y388 x69_2).f0), ((rd_T37 y388 x69_2).f1), ((rd_T37 y388 x69_2).f2.f1)⟩ : S68) [.string ((rd_T37 y388 x69_2).f2.f2), .int .i64 a0, .int .i64 ((rd_T37 y388 x69_2).f0), .int .i64 ((rd_T37 y388 x69_2).f1), .int .i64 ((rd_T37 y388 x69_2).f2.f1)] (fun _ => True) (fun _ => False) rfl rfl ?aP (fun _ hk => hk.elim) ?aF ?aO ?aB ?aS ?aL ?_; (case aP => exact k68_mkM _ _ _ (⟨((rd_T37 y388 x69_2).f2.f2), a0, ((rd_T37 y388 x69_2).f0), ((rd_T37 y388 x69_2).f1), ((rd_T37 y388 x69_2).f2.f1)⟩ : S68)); (case aB => exact (hv_ HB GE370 GE387 GE393)); (case aF => exact (fun _ _ => trivial)); (case aO => exact (rr_ HO_388002)); (case aS => exact (below_size (hv_ HB GE370 GE387 GE393))); (case aL => have := LMc67.out; omega); intro v396 w73 ho hb hg hat; rw [← Ny395.out] at ho; replace HO_6 := Aside0.mk (Kd.R_over' (rr_ HO_6) (Kd.R_typed (rr_ HO_388002)) (by decide) hg); replace BK370 := bg_ BK370 hg (Kd.R_ne HO_388002.out BK370.out (by decide)); replace BK387 := bg_ BK387 hg (Kd.R_ne HO_388002.out BK387.out (by decide)); replace BK393 := bg_ BK393 hg (Kd.R_ne HO_388002.out BK393.out (by decide)); replace HB := Aside0.mk (hb); have HO397 := Aside0.mk (ho); clear HO_388002; clear ho hb hg hat; obtain ⟨Ao74, co74, eo74⟩ := Kd.R_slice HO397.out; subst eo74; obtain ⟨hcz75_0, hcz75_1, hcz75_2, hfz75_0, hfz75_1, hfz75_2⟩ := bc3_ BK387))
                go_roundg kj43
                case measure => have := HJ3.out; have := HK2.out; have := HJ43.out; omega
                case rel => exact ⟨(wrap64 (x69_2 + 1)), (x371000_2), (x371001_2), (y395), (.slice Ao74 y395.length co74), rs_, (by first | exact H' | (simp only [hji31]; exact H')), ⟨by have := HJ3.out; have := HK2.out; have := HJ43.out; omega⟩, ⟨by (with_reducible repeat (first | apply Kd.R_alloc | apply Kd.R_drewN | apply Kd.R_drew)); exact Kd.R_mono (Kd.R_far (p := ⟨gb387, 2, none⟩) (Kd.R_types HO_6.out BK387.out (by decide)) (fun _ hk => hk.2) (.slice Ao74 y395.length co74)) (fun _ hk => trivial)⟩, ⟨by (with_reducible repeat (first | apply Kd.R_alloc | apply Kd.R_drewN | apply Kd.R_drew)); exact Kd.R_mono (Kd.R_far (p := ⟨gb387, 2, none⟩) (Kd.R_types HO397.out BK387.out (by decide)) (fun _ hk => hk.2) (.slice Ao74 y395.length co74)) (fun _ hk => trivial)⟩, ⟨by (with_reducible repeat (first | refine blk_drewN ?_ _ | refine blk_drew ?_ | refine blk_alloc ?_ _)); refine blk_far ?_ NB370_387.out _; (with_reducible repeat (first | refine blk_drewN ?_ _ | refine blk_drew ?_ | refine blk_alloc ?_ _)); exact BK370.out⟩, ⟨by (with_reducible repeat (first | refine blk_drewN ?_ _ | refine blk_drew ?_ | refine blk_alloc ?_ _)); refine blk_put (cs := #[.int .i64 t372, .int .i64 ((rd_T37 t371 (ji31)).f2.f1), u388002]) ?_ 2 _ rfl; (with_reducible repeat (first | refine blk_drewN ?_ _ | refine blk_drew ?_ | refine blk_alloc ?_ _)); exact BK387.out⟩, ⟨by repeat (first | (with_reducible first | exact HB.out | apply below_alloc | apply pw_below_drewN | apply below_drew1 | refine below_set ?_ GE370.out | refine below_set ?_ GE387.out | refine below_set ?_ GE393.out) | exact HB.out)⟩⟩
               ·rw [if_neg c67] at H
                exact absurd H (by simp)
           ·rw [if_neg c43] at H
            exact absurd H (by simp)
          ·rw [if_neg c42] at H
           exact absurd H (by simp)
         ·rw [if_neg c41] at H
          have c41b0 : decide (x69_2 < (y388.length : Int)) = false := decide_eq_false c41
          clear c41
          simp only [Option.some.injEq, Prod.mk.injEq] at H
          obtain ⟨rfl, rfl, rfl, rfl⟩ := H
          have hnb76 := NB387_370.out
          have hnc76 := NB370_387.out
          obtain ⟨hcz77_0, hcz77_1, hcz77_2, hfz77_0, hfz77_1, hfz77_2⟩ := bc3_ BK387
          obtain ⟨hcz78_0, hcz78_1, hcz78_2, hfz78_0, hfz78_1, hfz78_2⟩ := bc3_ BK370
          obtain ⟨Ao79, co79, eo79⟩ := Kd.R_slice HO_388002.out
          subst eo79
          go_wp2
          refine bodyPost_ret (results_ct rfl _ _ gb370 40 #[.int .i64 t372, .int .i64 ((rd_T37 t371 (ji31)).f2.f1), .slice Ao79 x388002_2.length co79] (0, 0) _ rfl (by (with_reducible repeat (first | refine blk_drewN ?_ _ | refine blk_drew ?_ | refine blk_alloc ?_ _)); refine blk_put (cs := #[.int .i64 t372, .int .i64 ((rd_T37 t371 (ji31)).f2.f1), .slice none 0 0]) ?_ 2 _ rfl; (with_reducible repeat (first | refine blk_drewN ?_ _ | refine blk_drew ?_ | refine blk_alloc ?_ _)); refine blk_put (cs := #[.int .i64 t372, .int .i64 x371001_2, .slice none 0 0]) ?_ 1 _ rfl; (with_reducible repeat (first | refine blk_drewN ?_ _ | refine blk_drew ?_ | refine blk_alloc ?_ _)); refine blk_put (cs := #[.int .i64 x371000_2, .int .i64 x371001_2, .slice none 0 0]) ?_ 0 _ rfl; (with_reducible repeat (first | refine blk_drewN ?_ _ | refine blk_drew ?_ | refine blk_alloc ?_ _)); exact BK370.out) Try.underlying40 rfl (by kernel_rfl)) rfl ?_
          exact ⟨_, by first | rfl | (simp [errW_none, errW_some] <;> rfl) | (simp only [← hji31]; first | rfl | (simp [errW_none, errW_some] <;> rfl)) | (simp [*, errW_none, errW_some] <;> rfl), by (with_reducible repeat (first | apply Kd.R_alloc | apply Kd.R_drewN | apply Kd.R_drew)); exact Kd.R_mono (Kd.R_far (p := ⟨gb370, 2, none⟩) (Kd.R_far (p := ⟨gb370, 1, none⟩) (Kd.R_far (p := ⟨gb370, 0, none⟩) (Kd.R_types HO_388002.out BK370.out (by decide)) (fun _ hk => hk.2) (.int .i64 t372)) (fun _ hk => hk.2) (.int .i64 ((rd_T37 t371 (ji31)).f2.f1))) (fun _ hk => hk.2) (.slice Ao79 x388002_2.length co79)) (fun _ hk => trivial), by repeat (first | (with_reducible first | exact HB.out | apply below_alloc | apply pw_below_drewN | apply below_drew1 | refine below_set ?_ GE370.out | refine below_set ?_ GE387.out) | exact HB.out)⟩
      ·rw [if_neg c35] at H
       exact absurd H (by simp)
     ·rw [if_neg c33] at H
      exact absurd H (by simp)
    ·rw [if_neg c32] at H
     exact absurd H (by simp)

end Go.Proofs.Ytnjmehiploelnaa.PFnExactHintFits
