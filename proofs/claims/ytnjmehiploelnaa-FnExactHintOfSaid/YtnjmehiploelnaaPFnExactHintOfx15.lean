-- Laid by a program of this session, a copy of the kit's printer with additions (wip/patch_print.py): myhead. Lean checks it.
import Derived.Test.YtnjmehiploelnaaPFnExactHintOfx0
import Derived.Test.YtnjmehiploelnaaPFnExactHintOfx9
import Derived.Test.YtnjmehiploelnaaPFnExactHintOfx12
import Derived.Test.YtnjmehiploelnaaPFnExactHintOfx14
namespace Go.Proofs.Ytnjmehiploelnaa.PFnExactHintOf
open Go.RowKit Go.Proofs.YtnjmehiploelnaaW.PrintWords Go.Proofs.YtnjmehiploelnaaW.PrintLast Go.Proofs.YtnjmehiploelnaaW.PrintMore
theorem bl_swq42677 : ∀ x y : List UInt8, (Op.bytesLess x y || x == y) = !(Op.bytesLess y x)
 | [], [] => by simp [Op.bytesLess]
 | [], _ :: _ => by simp [Op.bytesLess]
 | _ :: _, [] => by simp [Op.bytesLess]
 | a :: x, b :: y => by
  have ih := bl_swq42677 x y
  by_cases e : a = b
  ·subst e
   simp only [Op.bytesLess, List.cons_beq_cons, BEq.rfl, Bool.true_and, UInt8.lt_irrefl, decide_false, Bool.false_or]
   exact ih
  ·have e' : ¬ b = a := fun h => e h.symm
   have h1 : (a == b) = false := by simpa using e
   have h2 : (b == a) = false := by simpa using e'
   simp only [Op.bytesLess, List.cons_beq_cons, h1, h2, Bool.false_and, Bool.or_false]
   by_cases l : a < b
   ·have : ¬ b < a := fun h => UInt8.lt_asymm h l
    simp [l, this]
   ·have : b < a := UInt8.lt_of_le_of_ne (UInt8.not_lt.1 l) e'
    simp [l, this]
theorem bl_leqq42677 (t : TypeId) (a b : ByteArray) : binOp .leq t (.string a) (.string b) = pure (.bool (!(Op.bytesLess b.toList a.toList))) := by simp only [binOp, Op.stringOp, bl_swq42677]
theorem bl_gtrq42677 (t : TypeId) (a b : ByteArray) : binOp .gtr t (.string a) (.string b) = pure (.bool (Op.bytesLess b.toList a.toList)) := by simp only [binOp, Op.stringOp, bl_swq42677, Bool.not_not]
theorem bl_geqq42677 (t : TypeId) (a b : ByteArray) : binOp .geq t (.string a) (.string b) = pure (.bool (!(Op.bytesLess a.toList b.toList))) := by simp only [binOp, Op.stringOp]
attribute [local go_sem] bl_leqq42677 bl_gtrq42677 bl_geqq42677
attribute [local go_sem] max2_int min2_int max_two min_two max_three min_three max_four min_four   -- for this text's walks alone
set_option linter.unusedVariables false
set_option linter.unusedSimpArgs false

/-! ### impl_HintOf: function 16 -/
mutual
def impl_HintOf.j0 : Nat → Int → List (S37) → Int → Int → Bool → Option (Int × Int × (List (S68)) × Bool)
 | 0, _, _, _, _, _ => none
 | k + 1, x0, x6, x7, x8, x55 => if x55 = true then (some (0, 0, ([] : List (S68)), false)) else (if 0 ≤ x8 then (if x8 < (x6.length : Int) then (if x8 ≤ (x6.length : Int) then ((some (x6.take (x8 : Int).toNat : List (S37))).bind fun y345 => (impl_HintOf.l0 k x0 x6 y345 (y345.length : Int) 0 x7 ((rd_T37 x6 x8).f2.f1) ([] : List (S68)))) else (none)) else (none)) else (none))
def impl_HintOf.l0 : Nat → Int → List (S37) → List (S37) → Int → Int → Int → Int → List (S68) → Option (Int × Int × (List (S68)) × Bool)
 | 0, _, _, _, _, _, _, _, _ => none
 | k + 1, x0, x6, x67, x68, x69, x345000, x345001, x345002 => if x69 < x68 then (if 0 ≤ x69 then (if x69 < (x67.length : Int) then (if ((rd_T37 x67 x69).f2.f0) = 4 then (if ((rd_T37 x67 x69).f2.f1) > x345001 then (impl_HintOf.j2 k x0 x6 x67 x68 x69 true x345000 x345001 x345002 ((rd_T37 x67 x69).f0) ((rd_T37 x67 x69).f1) ((rd_T37 x67 x69).f2.f0) ((rd_T37 x67 x69).f2.f1) ((rd_T37 x67 x69).f2.f2) ((rd_T37 x67 x69).f2.f3) ((rd_T37 x67 x69).f2.f4) ((rd_T37 x67 x69).f2.f5)) else (if x69 > 0 then (if 0 ≤ (wrap64 (x69 - 1)) then (if (wrap64 (x69 - 1)) < (x6.length : Int) then (impl_HintOf.j2 k x0 x6 x67 x68 x69 (!(Op.bytesLess (((rd_T37 x6 (wrap64 (x69 - 1))).f2.f2).toList) (((rd_T37 x67 x69).f2.f2).toList))) x345000 x345001 x345002 ((rd_T37 x67 x69).f0) ((rd_T37 x67 x69).f1) ((rd_T37 x67 x69).f2.f0) ((rd_T37 x67 x69).f2.f1) ((rd_T37 x67 x69).f2.f2) ((rd_T37 x67 x69).f2.f3) ((rd_T37 x67 x69).f2.f4) ((rd_T37 x67 x69).f2.f5)) else (none)) else (none)) else (impl_HintOf.j2 k x0 x6 x67 x68 x69 false x345000 x345001 x345002 ((rd_T37 x67 x69).f0) ((rd_T37 x67 x69).f1) ((rd_T37 x67 x69).f2.f0) ((rd_T37 x67 x69).f2.f1) ((rd_T37 x67 x69).f2.f2) ((rd_T37 x67 x69).f2.f3) ((rd_T37 x67 x69).f2.f4) ((rd_T37 x67 x69).f2.f5)))) else (impl_HintOf.j2 k x0 x6 x67 x68 x69 true x345000 x345001 x345002 ((rd_T37 x67 x69).f0) ((rd_T37 x67 x69).f1) ((rd_T37 x67 x69).f2.f0) ((rd_T37 x67 x69).f2.f1) ((rd_T37 x67 x69).f2.f2) ((rd_T37 x67 x69).f2.f3) ((rd_T37 x67 x69).f2.f4) ((rd_T37 x67 x69).f2.f5))) else (none)) else (none)) else (some (x345000, x345001, x345002, true))
def impl_HintOf.j2 : Nat → Int → List (S37) → List (S37) → Int → Int → Bool → Int → Int → List (S68) → Int → Int → Int → Int → ByteArray → ByteArray → Int → Int → Option (Int × Int × (List (S68)) × Bool)
 | 0, _, _, _, _, _, _, _, _, _, _, _, _, _, _, _, _, _ => none
 | k + 1, x0, x6, x67, x68, x69, x102, x345000, x345001, x345002, x351000, x351001, x351002, x351003, x351004, x351005, x351006, x351007 => if x102 = true then (some (0, 0, ([] : List (S68)), false)) else (if x345002.length < 2932031007402 then (impl_HintOf.l0 k x0 x6 x67 x68 (wrap64 (x69 + 1)) x345000 x345001 (x345002 ++ [(⟨x351004, x0, x351000, x351001, x351003⟩ : S68)])) else (none))
end
def impl_HintOf.f (k : Nat) (a0 : Int) (a1 : ByteArray) : Option (Int × Int × (List (S68)) × Bool) := (impl_ScanRecs.f k a1).bind fun bt328 => (if (wrap64 ((bt328.1.length : Int) - 1)) < 0 then (impl_HintOf.j0 k a0 bt328.1 bt328.2 (wrap64 ((bt328.1.length : Int) - 1)) true) else (if bt328.2 = (a1.size : Int) then ((impl_in.f a0 1 100000).bind fun t332 => (if t332 = true then (if 0 ≤ (wrap64 ((bt328.1.length : Int) - 1)) then (if (wrap64 ((bt328.1.length : Int) - 1)) < (bt328.1.length : Int) then (if ((rd_T37 bt328.1 (wrap64 ((bt328.1.length : Int) - 1))).f2.f0) = 5 then (if (wrap64 ((bt328.1.length : Int) - 1)) ≤ (bt328.1.length : Int) then ((impl_placed.f k a0 (bt328.1.take ((wrap64 ((bt328.1.length : Int) - 1)) : Int).toNat)).bind fun t339 => ((impl_fits.f k ((rd_T37 bt328.1 (wrap64 ((bt328.1.length : Int) - 1))).f2.f0) ((rd_T37 bt328.1 (wrap64 ((bt328.1.length : Int) - 1))).f2.f1) ((rd_T37 bt328.1 (wrap64 ((bt328.1.length : Int) - 1))).f2.f2) ((rd_T37 bt328.1 (wrap64 ((bt328.1.length : Int) - 1))).f2.f3) ((rd_T37 bt328.1 (wrap64 ((bt328.1.length : Int) - 1))).f2.f4) ((rd_T37 bt328.1 (wrap64 ((bt328.1.length : Int) - 1))).f2.f5) t339).bind fun t342 => (impl_HintOf.j0 k a0 bt328.1 bt328.2 (wrap64 ((bt328.1.length : Int) - 1)) (!t342)))) else (none)) else (impl_HintOf.j0 k a0 bt328.1 bt328.2 (wrap64 ((bt328.1.length : Int) - 1)) true)) else (none)) else (none)) else (impl_HintOf.j0 k a0 bt328.1 bt328.2 (wrap64 ((bt328.1.length : Int) - 1)) true))) else (impl_HintOf.j0 k a0 bt328.1 bt328.2 (wrap64 ((bt328.1.length : Int) - 1)) true)))
theorem impl_HintOf.mono_l : ∀ k, (∀ y0 y1 y2 y3 y4, LeO (impl_HintOf.j0 k y0 y1 y2 y3 y4) (impl_HintOf.j0 (k + 1) y0 y1 y2 y3 y4)) ∧ (∀ y0 y1 y2 y3 y4 y5 y6 y7, LeO (impl_HintOf.l0 k y0 y1 y2 y3 y4 y5 y6 y7) (impl_HintOf.l0 (k + 1) y0 y1 y2 y3 y4 y5 y6 y7)) ∧ (∀ y0 y1 y2 y3 y4 y5 y6 y7 y8 y9 y10 y11 y12 y13 y14 y15 y16, LeO (impl_HintOf.j2 k y0 y1 y2 y3 y4 y5 y6 y7 y8 y9 y10 y11 y12 y13 y14 y15 y16) (impl_HintOf.j2 (k + 1) y0 y1 y2 y3 y4 y5 y6 y7 y8 y9 y10 y11 y12 y13 y14 y15 y16))
 | 0 => ⟨fun _ _ _ _ _ r h => by simp [impl_HintOf.j0] at h, fun _ _ _ _ _ _ _ _ r h => by simp [impl_HintOf.l0] at h, fun _ _ _ _ _ _ _ _ _ _ _ _ _ _ _ _ _ r h => by simp [impl_HintOf.j2] at h⟩
 | k + 1 => by
  obtain ⟨ih0, ih1, ih2⟩ := impl_HintOf.mono_l k
  refine ⟨?_, ?_, ?_⟩
  ·intro y0 y1 y2 y3 y4
   unfold impl_HintOf.j0
   repeat' first | (with_reducible first | exact ih0 .. | exact ih1 .. | exact ih2 .. | exact impl_ScanRecs.mono .. | exact impl_fits.mono .. | exact impl_placed.mono .. | exact LeO.refl .. | exact LeO.none .. | refine LeO.ite ?_ ?_ | refine LeO.bind ?_ (fun _ => ?_)) | exact ih0 .. | exact ih1 .. | exact ih2 .. | exact impl_ScanRecs.mono .. | exact impl_fits.mono .. | exact impl_placed.mono .. | exact LeO.none .. | refine LeO.ite ?_ ?_ | refine LeO.bind ?_ (fun _ => ?_)
  ·intro y0 y1 y2 y3 y4 y5 y6 y7
   unfold impl_HintOf.l0
   repeat' first | (with_reducible first | exact ih0 .. | exact ih1 .. | exact ih2 .. | exact impl_ScanRecs.mono .. | exact impl_fits.mono .. | exact impl_placed.mono .. | exact LeO.refl .. | exact LeO.none .. | refine LeO.ite ?_ ?_ | refine LeO.bind ?_ (fun _ => ?_)) | exact ih0 .. | exact ih1 .. | exact ih2 .. | exact impl_ScanRecs.mono .. | exact impl_fits.mono .. | exact impl_placed.mono .. | exact LeO.none .. | refine LeO.ite ?_ ?_ | refine LeO.bind ?_ (fun _ => ?_)
  ·intro y0 y1 y2 y3 y4 y5 y6 y7 y8 y9 y10 y11 y12 y13 y14 y15 y16
   unfold impl_HintOf.j2
   repeat' first | (with_reducible first | exact ih0 .. | exact ih1 .. | exact ih2 .. | exact impl_ScanRecs.mono .. | exact impl_fits.mono .. | exact impl_placed.mono .. | exact LeO.refl .. | exact LeO.none .. | refine LeO.ite ?_ ?_ | refine LeO.bind ?_ (fun _ => ?_)) | exact ih0 .. | exact ih1 .. | exact ih2 .. | exact impl_ScanRecs.mono .. | exact impl_fits.mono .. | exact impl_placed.mono .. | exact LeO.none .. | refine LeO.ite ?_ ?_ | refine LeO.bind ?_ (fun _ => ?_)
theorem impl_HintOf.mono : ∀ a0 a1 k, LeO (impl_HintOf.f k a0 a1) (impl_HintOf.f (k + 1) a0 a1) := by
 intro a0 a1 k
 obtain ⟨ih0, ih1, ih2⟩ := impl_HintOf.mono_l k
 unfold impl_HintOf.f
 repeat' first | (with_reducible first | exact ih0 .. | exact ih1 .. | exact ih2 .. | exact impl_ScanRecs.mono .. | exact impl_fits.mono .. | exact impl_placed.mono .. | exact LeO.refl .. | exact LeO.none .. | refine LeO.ite ?_ ?_ | refine LeO.bind ?_ (fun _ => ?_)) | exact ih0 .. | exact ih1 .. | exact ih2 .. | exact impl_ScanRecs.mono .. | exact impl_fits.mono .. | exact impl_placed.mono .. | exact LeO.none .. | refine LeO.ite ?_ ?_ | refine LeO.bind ?_ (fun _ => ?_)
def impl_HintOf.T3 : Bool × List (List Nat × List Nat) := (true, [([], []), ([0], [0]), ([1], [1]), ([2], [2]), ([2], [2]), ([4, 2], [2, 4]), ([3, 5, 2], [2, 3, 5]), ([2, 6], [2, 6]), ([7, 2], [7]), ([8], [8]), ([9, 8, 8], [8, 9]), ([10, 8], [8, 10]), ([8, 11], [8, 11]), ([12, 10], [12]), ([13], [13]), ([13], [13]), ([14, 15, 13], [13, 14, 15]), ([16, 13], [13, 16]), ([17, 13], [13, 17]), ([18, 13], [13, 18]), ([19, 13], [13, 19]), ([13, 20], [13, 20]), ([21, 13], [21]), ([22], [22]), ([22], [22]), ([23, 24, 22], [22, 23, 24]), ([25, 22], [22, 25]), ([26, 22], [22, 26]), ([22], [22]), ([22], [22]), ([22], [22]), ([29, 30, 22], [22, 29, 30]), ([28, 31, 22, 22], [22, 28, 31]), ([27, 32, 32, 22], [22, 27, 32]), ([33, 22], [22, 33]), ([22, 34], [22, 34])])
def impl_HintOf.B3 : List Nat := [0, 1, 3, 7, 7, 23, 63, 127, 255, 511, 1023, 2047, 4095, 8191, 16383, 16383, 65535, 131071, 262143, 524287, 1048575, 2097151, 4194303, 8388607, 8388607, 33554431, 67108863, 134217727, 8388607, 8388607, 8388607, 1619001343, 4034920447, 8589934591, 17179869183, 34359738367]
theorem impl_HintOf.tab3 : rtab .any (opsOf Try.f16 3) = impl_HintOf.T3 := by kernel_rfl
theorem impl_HintOf.bits3 : waitsOk impl_HintOf.T3.2 impl_HintOf.B3 = true := by kernel_rfl
def impl_HintOf.T9 : Bool × List (List Nat × List Nat) := (true, [([], []), ([0], [0]), ([1], [1]), ([2], [2]), ([3], [3]), ([4], [4]), ([5, 4], [4, 5]), ([6, 4], [4, 6]), ([4], [4]), ([8, 4], [4, 8]), ([7, 9, 4], [4, 7, 9]), ([4, 10], [4, 10]), ([11, 4], [11]), ([12], [12]), ([13, 12], [12, 13]), ([14, 12, 12], [12, 14]), ([15], [15]), ([15], [15]), ([17, 15], [15, 17]), ([16, 18, 15], [15, 16, 18]), ([19, 15], [15, 19]), ([20, 15], [15, 20]), ([21, 15], [15, 21]), ([15], [15]), ([23, 15], [15, 23]), ([24, 15], [15, 24]), ([22, 25, 15], [15, 22, 25]), ([15, 26, 12], [12, 15, 26]), ([12, 27], [12, 27])])
def impl_HintOf.B9 : List Nat := [0, 1, 3, 7, 15, 31, 63, 127, 31, 287, 1023, 2047, 4095, 8191, 16383, 32767, 65535, 65535, 196607, 524287, 1048575, 2097151, 4194303, 65535, 8454143, 25231359, 67108863, 134217727, 268435455]
theorem impl_HintOf.tab9 : rtab .any (opsOf Try.f16 9) = impl_HintOf.T9 := by kernel_rfl
theorem impl_HintOf.bits9 : waitsOk impl_HintOf.T9.2 impl_HintOf.B9 = true := by kernel_rfl
set_option maxHeartbeats 80000000 in
set_option maxRecDepth 100000 in
theorem impl_HintOf.calls (k : Nat) (a0 : Int) (a1 : ByteArray) (r1 : Int) (r2 : Int) (r3 : List (S68)) (r4 : Bool) (w : World) (h : impl_HintOf.f k a0 a1 = some (r1, r2, r3, r4)) :
  Calls Try.prog 16 #[.int .i64 a0, .string a1] w fun e w' => ∃ v2_ : Value, e = .returned (.tuple #[.agg #[.int .i64 r1, .int .i64 r2, v2_], .bool r4]) ∧ Kd.R k68 68 w' w.heap.size (fun _ => True) v2_ r3 ∧ Below w.heap.size w w' := by
 have hu40 := Try.underlying40
 have hu33 := Try.underlying33
 have hu37 := Try.underlying37
 have hu68 := Try.underlying68
 have HB := Aside0.mk (Below.refl w.heap.size w)
 have H : ((impl_ScanRecs.f k a1).bind fun bt328 => (if (wrap64 ((bt328.1.length : Int) - 1)) < 0 then (impl_HintOf.j0 k a0 bt328.1 bt328.2 (wrap64 ((bt328.1.length : Int) - 1)) true) else (if bt328.2 = (a1.size : Int) then ((impl_in.f a0 1 100000).bind fun t332 => (if t332 = true then (if 0 ≤ (wrap64 ((bt328.1.length : Int) - 1)) then (if (wrap64 ((bt328.1.length : Int) - 1)) < (bt328.1.length : Int) then (if ((rd_T37 bt328.1 (wrap64 ((bt328.1.length : Int) - 1))).f2.f0) = 5 then (if (wrap64 ((bt328.1.length : Int) - 1)) ≤ (bt328.1.length : Int) then ((impl_placed.f k a0 (bt328.1.take ((wrap64 ((bt328.1.length : Int) - 1)) : Int).toNat)).bind fun t339 => ((impl_fits.f k ((rd_T37 bt328.1 (wrap64 ((bt328.1.length : Int) - 1))).f2.f0) ((rd_T37 bt328.1 (wrap64 ((bt328.1.length : Int) - 1))).f2.f1) ((rd_T37 bt328.1 (wrap64 ((bt328.1.length : Int) - 1))).f2.f2) ((rd_T37 bt328.1 (wrap64 ((bt328.1.length : Int) - 1))).f2.f3) ((rd_T37 bt328.1 (wrap64 ((bt328.1.length : Int) - 1))).f2.f4) ((rd_T37 bt328.1 (wrap64 ((bt328.1.length : Int) - 1))).f2.f5) t339).bind fun t342 => (impl_HintOf.j0 k a0 bt328.1 bt328.2 (wrap64 ((bt328.1.length : Int) - 1)) (!t342)))) else (none)) else (impl_HintOf.j0 k a0 bt328.1 bt328.2 (wrap64 ((bt328.1.length : Int) - 1)) true)) else (none)) else (none)) else (impl_HintOf.j0 k a0 bt328.1 bt328.2 (wrap64 ((bt328.1.length : Int) - 1)) true))) else (impl_HintOf.j0 k a0 bt328.1 bt328.2 (wrap64 ((bt328.1.length : Int) - 1)) true)))) = some (r1, r2, r3, r4) := h
 clear h
 replace H := Option.bind_eq_some_iff.mp H
 obtain ⟨⟨t328, t329⟩, A30, H⟩ := H
 replace H : (if (wrap64 ((t328.length : Int) - 1)) < 0 then (impl_HintOf.j0 k a0 t328 t329 (wrap64 ((t328.length : Int) - 1)) true) else (if t329 = (a1.size : Int) then ((impl_in.f a0 1 100000).bind fun t332 => (if t332 = true then (if 0 ≤ (wrap64 ((t328.length : Int) - 1)) then (if (wrap64 ((t328.length : Int) - 1)) < (t328.length : Int) then (if ((rd_T37 t328 (wrap64 ((t328.length : Int) - 1))).f2.f0) = 5 then (if (wrap64 ((t328.length : Int) - 1)) ≤ (t328.length : Int) then ((impl_placed.f k a0 (t328.take ((wrap64 ((t328.length : Int) - 1)) : Int).toNat)).bind fun t339 => ((impl_fits.f k ((rd_T37 t328 (wrap64 ((t328.length : Int) - 1))).f2.f0) ((rd_T37 t328 (wrap64 ((t328.length : Int) - 1))).f2.f1) ((rd_T37 t328 (wrap64 ((t328.length : Int) - 1))).f2.f2) ((rd_T37 t328 (wrap64 ((t328.length : Int) - 1))).f2.f3) ((rd_T37 t328 (wrap64 ((t328.length : Int) - 1))).f2.f4) ((rd_T37 t328 (wrap64 ((t328.length : Int) - 1))).f2.f5) t339).bind fun t342 => (impl_HintOf.j0 k a0 t328 t329 (wrap64 ((t328.length : Int) - 1)) (!t342)))) else (none)) else (impl_HintOf.j0 k a0 t328 t329 (wrap64 ((t328.length : Int) - 1)) true)) else (none)) else (none)) else (impl_HintOf.j0 k a0 t328 t329 (wrap64 ((t328.length : Int) - 1)) true))) else (impl_HintOf.j0 k a0 t328 t329 (wrap64 ((t328.length : Int) - 1)) true))) = some (r1, r2, r3, r4) := H
 have A3 := Aside0.mk A30
 clear A30
 have HC4 := Aside0.mk H
 clear H
 go_enter Try.func16, Try.ntmps16
 go_upto_region 3 with (first | ((with_reducible refine gate_dst (N := 4) rfl ?_); (try (refine gate_guard (by rfl) ?_; dsimp only)); refine box_event ?hg (N := 4) ?hd (cs := #[.int .i64 0, .int .i64 0, .slice none 0 0]) (t := 40) ?hr ?_; (case hd => rfl); (case hg => rfl); (case hr => first | (go_simp; done) | (go_simp; rfl)); intro gb327 hg w5 hbox hb; have BK327 := Aside0.mk (hbox); have GW327 := ge_ hg (hb_ HB); have GE327 := ge_ hg (hb_ HB); replace HB := bs_ HB hb; clear hb hbox hg) | ((with_reducible refine gate_callee (f := 11) rfl ?_); refine goesL_ (some 14) rfl rfl Try.func11 (by kernel_rfl) rfl #[.string a1] rfl ar_ ?_; (with_reducible refine (impl_ScanRecs.calls k a1 t328 t329 _ A3.out).mono ?_); rintro e w6 ⟨v330, rfl, ho0, hb⟩; refine ⟨_, rfl, ?_⟩; have HO331 := Aside0.mk (Kd.R_lower ho0 (below_size (hs_ HB GE327))); replace BK327 := bb_ BK327 hb; replace HB := bt_ HB GE327 hb; (try clear hb); (try clear hb2); (try clear hk); (try clear hi); (try clear ho0); obtain ⟨Ao7, co7, eo7⟩ := Kd.R_slice HO331.out; subst eo7))
 (try simp only [Act.put, la_, lz_, ls_])
 go_cut [55] (fun v55 wc => ∃ (kq : Nat) (x55_3 : Bool), v55 = .bool x55_3 ∧ Aside0 (impl_HintOf.j0 kq a0 t328 t329 (wrap64 ((t328.length : Int) - 1)) x55_3 = some (r1, r2, r3, r4)) ∧ Aside0 (kq ≤ k) ∧ Aside0 (Kd.R k37 37 wc w.heap.size (fun _ => True) (.slice Ao7 t328.length co7) t328) ∧ Aside0 (wc.heap[gb327]? = some (.cells #[.int .i64 0, .int .i64 0, (.slice none 0 0)] 40 (0, 0))) ∧ Aside0 (Below w.heap.size w wc))
 case first =>
  have H := HC4.out
  clear HC4
  by_cases c8 : (wrap64 ((t328.length : Int) - 1)) < 0
  ·rw [if_pos c8] at H
   have c8b0 : decide ((wrap64 ((t328.length : Int) - 1)) < 0) = true := decide_eq_true c8
   clear c8
   (first | rw [c8b0] | (simp only [i64_w, i32_w]; rw [c8b0]) | skip)
   have H' := Aside0.mk H
   clear H
   try go_wp2
   replace HO331 := rd_ HO331
   replace BK327 := bd_ BK327
   replace HB := hd_ HB
   refine start_ (n := 36) (S := fun w' => True) (ds := []) (on_ 0 36) (by kernel_rfl) rfl rfl trivial (fun hHeld => ?_); refine with_tabW impl_HintOf.tab3 impl_HintOf.bits3 (fun HT_ HW_ => ?_)
   generalize w6.drew = w9 at HO331 BK327 HB hHeld ⊢
   refine pv_' 0 20 (on_ 1 35) rfl rfl HT_ ?_
   refine pv_' 1 21 (on_ 2 34) rfl rfl HT_ ?_
   refine pv_' 2 22 (on_ 3 33) rfl rfl HT_ ?_
   refine pun_' 3 23 (on_ 4 32) rfl rfl HT_ ?_
   refine pun_' 4 24 (on_ 5 31) rfl rfl HT_ ?_
   refine pun_' 5 25 (on_ 6 30) rfl rfl HT_ ?_
   refine pun_' 6 26 (on_ 7 29) rfl rfl HT_ ?_
   refine pv_' 7 27 (on_ 8 28) rfl rfl HT_ ?_
   refine pv_' 8 28 (on_ 9 27) rfl rfl HT_ ?_
   refine pun_' 9 29 (on_ 10 26) rfl rfl HT_ ?_
   refine pun_' 10 30 (on_ 11 25) rfl rfl HT_ ?_
   refine pun_' 11 31 (on_ 12 24) rfl rfl HT_ ?_
   refine pv_' 12 32 (on_ 13 23) rfl rfl HT_ ?_
   refine pv_' 13 33 (on_ 14 22) rfl rfl HT_ ?_
   refine pun_' 14 34 (on_ 15 21) rfl rfl HT_ ?_
   refine pun_' 15 35 (on_ 16 20) rfl rfl HT_ ?_
   refine pun_' 16 36 (on_ 17 19) rfl rfl HT_ ?_
   refine pun_' 17 37 (on_ 18 18) rfl rfl HT_ ?_
   refine pun_' 18 38 (on_ 19 17) rfl rfl HT_ ?_
   refine pun_' 19 39 (on_ 20 16) rfl rfl HT_ ?_
   refine pun_' 20 40 (on_ 21 15) rfl rfl HT_ ?_
   refine pv_' 21 41 (on_ 22 14) rfl rfl HT_ ?_
   refine pv_' 22 42 (on_ 23 13) rfl rfl HT_ ?_
   refine pun_' 23 43 (on_ 24 12) rfl rfl HT_ ?_
   refine pun_' 24 44 (on_ 25 11) rfl rfl HT_ ?_
   refine pun_' 25 45 (on_ 26 10) rfl rfl HT_ ?_
   refine pun_' 26 46 (on_ 27 9) rfl rfl HT_ ?_
   refine pun_' 27 47 (on_ 28 8) rfl rfl HT_ ?_
   refine pun_' 28 48 (on_ 29 7) rfl rfl HT_ ?_
   refine pun_' 29 49 (on_ 30 6) rfl rfl HT_ ?_
   refine pun_' 30 50 (on_ 31 5) rfl rfl HT_ ?_
   refine pun_' 31 51 (on_ 32 4) rfl rfl HT_ ?_
   refine pun_' 32 52 (on_ 33 3) rfl rfl HT_ ?_
   refine pun_' 33 53 (on_ 34 2) rfl rfl HT_ ?_
   refine pun_' 34 54 (on_ 35 1) rfl rfl HT_ ?_
   refine pv_' 35 55 (on_ 36 0) rfl rfl HT_ ?_
   refine done_ (done_of HT_.out (by kernel_rfl)) ?_
   try go_wp2
   go_meet
   case rel => exact ⟨_, (true), rs_, H', ⟨by first | exact Nat.le_refl _ | exact Nat.le_of_succ_le this | omega⟩, ⟨rr_ HO331⟩, ⟨bk_ BK327⟩, ⟨hs_ HB GE327⟩⟩
  ·rw [if_neg c8] at H
   have c8b0 : decide ((wrap64 ((t328.length : Int) - 1)) < 0) = false := decide_eq_false c8
   clear c8
   (first | rw [c8b0] | (simp only [i64_w, i32_w]; rw [c8b0]) | skip)
   by_cases c10 : t329 = (a1.size : Int)
   ·rw [if_pos c10] at H
    have c10b0 : (t329 == (a1.size : Int)) = true := beq_iff_eq.mpr c10
    have c10b1 : (t329 != (a1.size : Int)) = false := bne_eq_false_iff_eq.mpr c10
    clear c10
    replace H := Option.bind_eq_some_iff.mp H
    obtain ⟨t332, A110, H⟩ := H
    replace H : (if t332 = true then (if 0 ≤ (wrap64 ((t328.length : Int) - 1)) then (if (wrap64 ((t328.length : Int) - 1)) < (t328.length : Int) then (if ((rd_T37 t328 (wrap64 ((t328.length : Int) - 1))).f2.f0) = 5 then (if (wrap64 ((t328.length : Int) - 1)) ≤ (t328.length : Int) then ((impl_placed.f k a0 (t328.take ((wrap64 ((t328.length : Int) - 1)) : Int).toNat)).bind fun t339 => ((impl_fits.f k ((rd_T37 t328 (wrap64 ((t328.length : Int) - 1))).f2.f0) ((rd_T37 t328 (wrap64 ((t328.length : Int) - 1))).f2.f1) ((rd_T37 t328 (wrap64 ((t328.length : Int) - 1))).f2.f2) ((rd_T37 t328 (wrap64 ((t328.length : Int) - 1))).f2.f3) ((rd_T37 t328 (wrap64 ((t328.length : Int) - 1))).f2.f4) ((rd_T37 t328 (wrap64 ((t328.length : Int) - 1))).f2.f5) t339).bind fun t342 => (impl_HintOf.j0 k a0 t328 t329 (wrap64 ((t328.length : Int) - 1)) (!t342)))) else (none)) else (impl_HintOf.j0 k a0 t328 t329 (wrap64 ((t328.length : Int) - 1)) true)) else (none)) else (none)) else (impl_HintOf.j0 k a0 t328 t329 (wrap64 ((t328.length : Int) - 1)) true)) = some (r1, r2, r3, r4) := H
    have A11 := Aside0.mk A110
    clear A110
    by_cases c12 : t332 = true
    ·subst c12
     have H1 : (if 0 ≤ (wrap64 ((t328.length : Int) - 1)) then (if (wrap64 ((t328.length : Int) - 1)) < (t328.length : Int) then (if ((rd_T37 t328 (wrap64 ((t328.length : Int) - 1))).f2.f0) = 5 then (if (wrap64 ((t328.length : Int) - 1)) ≤ (t328.length : Int) then ((impl_placed.f k a0 (t328.take ((wrap64 ((t328.length : Int) - 1)) : Int).toNat)).bind fun t339 => ((impl_fits.f k ((rd_T37 t328 (wrap64 ((t328.length : Int) - 1))).f2.f0) ((rd_T37 t328 (wrap64 ((t328.length : Int) - 1))).f2.f1) ((rd_T37 t328 (wrap64 ((t328.length : Int) - 1))).f2.f2) ((rd_T37 t328 (wrap64 ((t328.length : Int) - 1))).f2.f3) ((rd_T37 t328 (wrap64 ((t328.length : Int) - 1))).f2.f4) ((rd_T37 t328 (wrap64 ((t328.length : Int) - 1))).f2.f5) t339).bind fun t342 => (impl_HintOf.j0 k a0 t328 t329 (wrap64 ((t328.length : Int) - 1)) (!t342)))) else (none)) else (impl_HintOf.j0 k a0 t328 t329 (wrap64 ((t328.length : Int) - 1)) true)) else (none)) else (none)) = some (r1, r2, r3, r4) := by rw [if_pos rfl] at H; exact H
     clear H
     have H := H1
     clear H1
     obtain ⟨ji13, hji13⟩ : ∃ j_ : Int, (wrap64 ((t328.length : Int) - 1)) = j_ := ⟨_, rfl⟩
     replace H : (if 0 ≤ (ji13) then (if (ji13) < (t328.length : Int) then (if ((rd_T37 t328 (ji13)).f2.f0) = 5 then (if (ji13) ≤ (t328.length : Int) then ((impl_placed.f k a0 (t328.take ((ji13) : Int).toNat)).bind fun t339 => ((impl_fits.f k ((rd_T37 t328 (ji13)).f2.f0) ((rd_T37 t328 (ji13)).f2.f1) ((rd_T37 t328 (ji13)).f2.f2) ((rd_T37 t328 (ji13)).f2.f3) ((rd_T37 t328 (ji13)).f2.f4) ((rd_T37 t328 (ji13)).f2.f5) t339).bind fun t342 => (impl_HintOf.j0 k a0 t328 t329 ji13 (!t342)))) else (none)) else (impl_HintOf.j0 k a0 t328 t329 ji13 true)) else (none)) else (none)) = some (r1, r2, r3, r4) := by first | (rw [hji13] at H; exact H) | (simp only [hji13] at H ⊢; exact H)
     (try rw [hji13] at c8b0)
     (try rw [hji13] at A11)
     have hji13w : (IntKind.i64.wrap ((t328.length : Int) - 1)) = ji13 := (i64_w _).trans hji13
     by_cases c14 : 0 ≤ (ji13)
     ·rw [if_pos c14] at H
      have c14b0 : decide (0 ≤ (ji13)) = true := decide_eq_true c14
      clear c14
      by_cases c15 : (ji13) < (t328.length : Int)
      ·rw [if_pos c15] at H
       have c15b0 : decide ((ji13) < (t328.length : Int)) = true := decide_eq_true c15
       clear c15
       by_cases c16 : ((rd_T37 t328 (ji13)).f2.f0) = 5
       ·rw [if_pos c16] at H
        have c16b0 : (((rd_T37 t328 (ji13)).f2.f0) == 5) = true := beq_iff_eq.mpr c16
        have c16b1 : (((rd_T37 t328 (ji13)).f2.f0) != 5) = false := bne_eq_false_iff_eq.mpr c16
        clear c16
        have c17b0 := eq_true (of_decide_eq_true as_ : 0 ≤ (ji13))
        by_cases c18 : (ji13) ≤ (t328.length : Int)
        ·rw [if_pos c18] at H
         have c18b0 := eq_true c18
         have c18b1 : decide ((ji13) ≤ (t328.length : Int)) = true := decide_eq_true c18
         clear c18
         obtain ⟨y335, hy335⟩ : ∃ y_ : List (S37), y_ = (t328.take ((ji13) : Int).toNat) := ⟨_, rfl⟩
         replace H : ((impl_placed.f k a0 y335).bind fun t339 => ((impl_fits.f k ((rd_T37 t328 (ji13)).f2.f0) ((rd_T37 t328 (ji13)).f2.f1) ((rd_T37 t328 (ji13)).f2.f2) ((rd_T37 t328 (ji13)).f2.f3) ((rd_T37 t328 (ji13)).f2.f4) ((rd_T37 t328 (ji13)).f2.f5) t339).bind fun t342 => (impl_HintOf.j0 k a0 t328 t329 ji13 (!t342)))) = some (r1, r2, r3, r4) := by first | (rw [hy335]; with_reducible exact H) | (have H2_ := (Option.bind_some _ _).symm.trans H; rw [hy335]; with_reducible exact H2_) | (have H2_ := (Option.bind_some _ _).symm.trans H; with_reducible exact H2_) | with_reducible exact H | (rw [hy335]; exact H) | exact H
         have Ny335 := Aside0.mk hy335
         clear hy335
         replace H := Option.bind_eq_some_iff.mp H
         obtain ⟨t339, A190, H⟩ := H
         replace H : ((impl_fits.f k ((rd_T37 t328 (ji13)).f2.f0) ((rd_T37 t328 (ji13)).f2.f1) ((rd_T37 t328 (ji13)).f2.f2) ((rd_T37 t328 (ji13)).f2.f3) ((rd_T37 t328 (ji13)).f2.f4) ((rd_T37 t328 (ji13)).f2.f5) t339).bind fun t342 => (impl_HintOf.j0 k a0 t328 t329 ji13 (!t342))) = some (r1, r2, r3, r4) := H
         have A19 := Aside0.mk A190
         clear A190
         replace H := Option.bind_eq_some_iff.mp H
         obtain ⟨t342, A200, H⟩ := H
         replace H : (impl_HintOf.j0 k a0 t328 t329 ji13 (!t342)) = some (r1, r2, r3, r4) := H
         have A20 := Aside0.mk A200
         clear A200
         have H' := Aside0.mk H
         clear H
         try go_wp2
         replace HO331 := rd_ HO331
         replace BK327 := bd_ BK327
         replace HB := hd_ HB
         have p333 : 0 ≤ ((ji13) : Int) := of_decide_eq_true as_
         have q333 : (ji13) < (t328.length : Int) := of_decide_eq_true as_
         obtain ⟨ad333, e333, hx333_0, hx333_1, hx333_2, hx333_3, hx333_4, hx333_5, hx333_6, hx333_7⟩ := at_T37 (Kd.R_reads' HO331.out).2.2 (ji13) p333 q333
         cases e333
         replace p333 := eq_true p333
         replace q333 := eq_true q333
         have p334 : 0 ≤ ((ji13) : Int) := of_decide_eq_true as_
         have q334 : (ji13) < (t328.length : Int) := of_decide_eq_true as_
         obtain ⟨ad334, e334, hx334_0, hx334_1, hx334_2, hx334_3, hx334_4, hx334_5, hx334_6, hx334_7⟩ := at_T37 (Kd.R_reads' HO331.out).2.2 (ji13) p334 q334
         obtain rfl : ad333 = ad334 := (by injection e334)
         replace p334 := eq_true p334
         replace q334 := eq_true q334
         refine start_ (n := 36) (S := e8_ (ad333.add (((ji13)).toNat * 8)) (.int .i64 ((rd_T37 t328 (ji13)).f0)) (.int .i64 ((rd_T37 t328 (ji13)).f1)) (.int .i64 ((rd_T37 t328 (ji13)).f2.f0)) (.int .i64 ((rd_T37 t328 (ji13)).f2.f1)) (.string ((rd_T37 t328 (ji13)).f2.f2)) (.string ((rd_T37 t328 (ji13)).f2.f3)) (.int .i64 ((rd_T37 t328 (ji13)).f2.f4)) (.int .i64 ((rd_T37 t328 (ji13)).f2.f5)) (e8e_ (ad333.add (((ji13)).toNat * 8)) (.int .i64 ((rd_T37 t328 (ji13)).f0)) (.int .i64 ((rd_T37 t328 (ji13)).f1)) (.int .i64 ((rd_T37 t328 (ji13)).f2.f0)) (.int .i64 ((rd_T37 t328 (ji13)).f2.f1)) (.string ((rd_T37 t328 (ji13)).f2.f2)) (.string ((rd_T37 t328 (ji13)).f2.f3)) (.int .i64 ((rd_T37 t328 (ji13)).f2.f4)) (.int .i64 ((rd_T37 t328 (ji13)).f2.f5)))) (ds := []) (on_ 0 36) (by kernel_rfl) rfl rfl (q8_ hx333_0 hx333_1 hx333_2 hx333_3 hx333_4 hx333_5 hx333_6 hx333_7 (q8e_ hx334_0 hx334_1 hx334_2 hx334_3 hx334_4 hx334_5 hx334_6 hx334_7)) (fun hHeld => ?_); refine with_tabW impl_HintOf.tab3 impl_HintOf.bits3 (fun HT_ HW_ => ?_)
         generalize w6.drew = w21 at HO331 BK327 HB hx333_0 hx333_1 hx333_2 hx333_3 hx333_4 hx333_5 hx333_6 hx333_7 hx334_0 hx334_1 hx334_2 hx334_3 hx334_4 hx334_5 hx334_6 hx334_7 hHeld ⊢
         refine pv_' 0 20 (on_ 1 35) rfl rfl HT_ ?_
         refine pv_' 1 21 (on_ 2 34) rfl rfl HT_ ?_
         refine pv_' 2 22 (on_ 3 33) rfl rfl HT_ ?_
         refine pv_' 3 23 (on_ 4 32) rfl rfl HT_ ?_
         refine pv_' 4 24 (on_ 5 31) rfl rfl HT_ ?_
         refine pv_' 5 25 (on_ 6 30) rfl rfl HT_ ?_
         refine pv_' 6 26 (on_ 7 29) rfl rfl HT_ ?_
         refine pv_' 7 27 (on_ 8 28) rfl rfl HT_ ?_
         refine pv_' 8 28 (on_ 9 27) rfl rfl HT_ ?_
         refine pv_' 9 29 (on_ 10 26) rfl rfl HT_ ?_
         refine one_ (i := 10) (N := some 30) (on_ 11 25) rfl rfl (one_of HT_.out (by kernel_rfl)) (by decide) (fun K hK => ?_)
         refine goes_ Try.func36 (by kernel_rfl) rfl #[.int .i64 a0, .int .i64 1, .int .i64 100000] (by rfl) rfl rfl ar_ ?_
         with_reducible refine (impl_in.calls a0 1 100000 true _ A11.out).mono ?_
         rintro e w' ⟨rfl, ⟨nd, rfl⟩⟩
         refine ⟨_, rfl, ?_⟩
         have q22 : ((ji13) : Int) ≤ ((t328.length : Int) : Int) := of_decide_eq_true as_
         obtain ⟨i022, hi022, _, hsz22, _⟩ := info_parts info37
         have hroom22 : t328.length ≤ co7 := (Kd.R_reads' HO331.out).2.1
         have hC22 : Kd.C k37 _ (some ad333) t328.length t328 := (Kd.R_reads' HO331.out).2.2
         have hcut22 := cut_to (P := Try.prog) 28 37 .i64 Try.underlying28 hi022 (some ad333) t328.length co7 (ji13) (of_decide_eq_true as_) q22 hroom22
         have hr22 := Kd.C_take (m := ((ji13) : Int).toNat) hC22 (by omega)
         have hy22 : y335.length = ((ji13) : Int).toNat := (by rw [Ny335.out, List.length_take]; omega)
         rw [← Ny335.out] at hr22
         rw [← hy22] at hcut22
         have HR338 := Aside0.mk hr22
         have HC338 := Aside0.mk (show y335.length ≤ co7 from by omega)
         clear hr22 hC22 hroom22 hi022 hsz22
         have KY22 := Aside0.mk hy22
         clear hy22
         have KL22 := Aside0.mk (show ((ji13) : Int).toNat ≤ t328.length from by omega)
         replace q22 := eq_true q22
         refine hK.out _ _ (q8_ hHeld.1 hHeld.2.1 hHeld.2.2.1 hHeld.2.2.2.1 hHeld.2.2.2.2.1 hHeld.2.2.2.2.2.1 hHeld.2.2.2.2.2.2.1 hHeld.2.2.2.2.2.2.2.1 (q8e_ hHeld.2.2.2.2.2.2.2.2.1 hHeld.2.2.2.2.2.2.2.2.2.1 hHeld.2.2.2.2.2.2.2.2.2.2.1 hHeld.2.2.2.2.2.2.2.2.2.2.2.1 hHeld.2.2.2.2.2.2.2.2.2.2.2.2.1 hHeld.2.2.2.2.2.2.2.2.2.2.2.2.2.1 hHeld.2.2.2.2.2.2.2.2.2.2.2.2.2.2.1 hHeld.2.2.2.2.2.2.2.2.2.2.2.2.2.2.2)) (fun hHeld => ?_)
         clear hK K
         refine norm_ (a' := ?_) ?_ ?_
         rotate_left
         ·show Act.put _ (some 30) _ = _
          simp only [Act.put, la_, lz_, ls_, i64_w, i32_w]
          rfl
         refine pv_' 11 31 (on_ 12 24) rfl rfl HT_ ?_
         refine pv_' 12 32 (on_ 13 23) rfl rfl HT_ ?_
         refine pv_' 13 33 (on_ 14 22) rfl rfl HT_ ?_
         refine pv_' 14 34 (on_ 15 21) rfl rfl HT_ ?_
         refine pv_' 15 35 (on_ 16 20) rfl rfl HT_ ?_
         refine pv_' 16 36 (on_ 17 19) rfl rfl HT_ ?_
         refine pv_' 17 37 (on_ 18 18) rfl rfl HT_ ?_
         refine pv_' 18 38 (on_ 19 17) rfl rfl HT_ ?_
         refine take_ (i := 19) (N := some 39) (v := ?_) (a' := ?_) (on_ 20 16) rfl rfl (take_ofW HT_.out HW_.out (by kernel_rfl)) (fun _ _ _ h => h) (Or.inl ⟨by rfl, ?_⟩) hHeld ?_ ?_
         rotate_left
         ·rintro w' ⟨s0, s1, s2, s3, s4, s5, s6, s7, s8, s9, s10, s11, s12, s13, s14, s15⟩
          go_simp
          with_reducible rfl
         rotate_left
         ·simp only [Act.put, la_, lz_, ls_, i64_w, i32_w]
          rfl
         refine pv_' 20 40 (on_ 21 15) rfl rfl HT_ ?_
         refine pv_' 21 41 (on_ 22 14) rfl rfl HT_ ?_
         refine pv_' 22 42 (on_ 23 13) rfl rfl HT_ ?_
         refine pv_' 23 43 (on_ 24 12) rfl rfl HT_ ?_
         refine pv_' 24 44 (on_ 25 11) rfl rfl HT_ ?_
         refine pv_' 25 45 (on_ 26 10) rfl rfl HT_ ?_
         refine pv_' 26 46 (on_ 27 9) rfl rfl HT_ ?_
         refine pv_' 28 48 #[i',i',i',i',i',i',i',i',i',i',i',i',i',i',i',i',i',i',i',i',i',i',i',i',i',i',i',o',i',o',o',o',o',o',o',o'] rfl rfl HT_ ?_
         refine pv_' 29 49 #[i',i',i',i',i',i',i',i',i',i',i',i',i',i',i',i',i',i',i',i',i',i',i',i',i',i',i',o',i',i',o',o',o',o',o',o'] rfl rfl HT_ ?_
         refine pv_' 30 50 #[i',i',i',i',i',i',i',i',i',i',i',i',i',i',i',i',i',i',i',i',i',i',i',i',i',i',i',o',i',i',i',o',o',o',o',o'] rfl rfl HT_ ?_
         refine pv_' 31 51 #[i',i',i',i',i',i',i',i',i',i',i',i',i',i',i',i',i',i',i',i',i',i',i',i',i',i',i',o',i',i',i',i',o',o',o',o'] rfl rfl HT_ ?_
         refine take_ (i := 27) (N := some 47) (v := ?_) (a' := ?_) (on_ 32 4) rfl rfl (take_ofW HT_.out HW_.out (by kernel_rfl)) (fun _ _ _ h => h) (Or.inl ⟨by rfl, ?_⟩) hHeld ?_ ?_
         rotate_left
         ·rintro w' ⟨s0, s1, s2, s3, s4, s5, s6, s7, s8, s9, s10, s11, s12, s13, s14, s15⟩
          go_simp
          with_reducible rfl
         rotate_left
         ·simp only [Act.put, la_, lz_, ls_, i64_w, i32_w]
          rfl
         refine one_ (i := 32) (N := some 52) (on_ 33 3) rfl rfl (one_of HT_.out (by kernel_rfl)) (by decide) (fun K hK => ?_)
         refine goes_ Try.func40 (by kernel_rfl) rfl #[.int .i64 a0, .slice (some ad333) y335.length co7] (by rfl) rfl rfl ar_ ?_
         with_reducible refine (impl_placed.calls k a0 _ _ y335 t339 _ ?side1 ?side2 A19.out).mono ?_
         (case side1 => repeat (first | exact (by repeat (first | (with_reducible exact HR338.out) | (with_reducible refine Kd.C_alloc ?_ _) | (with_reducible refine Kd.C_drewN ?_ _) | (with_reducible refine Kd.C_drew ?_) | exact HR338.out)) | (with_reducible refine Kd.C_alloc ?_ _) | (with_reducible refine Kd.C_drewN ?_ _) | (with_reducible refine Kd.C_drew ?_)))
         (case side2 => exact HC338.out)
         rintro e w23 ⟨v340, rfl, ho0, hb⟩
         have HS0_ := (hb.cell (World.block_lt_of_cell? _ _ (hHeld.1))).trans (hHeld.1)
         have HS1_ := (hb.cell (World.block_lt_of_cell? _ _ (hHeld.2.1))).trans (hHeld.2.1)
         have HS2_ := (hb.cell (World.block_lt_of_cell? _ _ (hHeld.2.2.1))).trans (hHeld.2.2.1)
         have HS3_ := (hb.cell (World.block_lt_of_cell? _ _ (hHeld.2.2.2.1))).trans (hHeld.2.2.2.1)
         have HS4_ := (hb.cell (World.block_lt_of_cell? _ _ (hHeld.2.2.2.2.1))).trans (hHeld.2.2.2.2.1)
         have HS5_ := (hb.cell (World.block_lt_of_cell? _ _ (hHeld.2.2.2.2.2.1))).trans (hHeld.2.2.2.2.2.1)
         have HS6_ := (hb.cell (World.block_lt_of_cell? _ _ (hHeld.2.2.2.2.2.2.1))).trans (hHeld.2.2.2.2.2.2.1)
         have HS7_ := (hb.cell (World.block_lt_of_cell? _ _ (hHeld.2.2.2.2.2.2.2.1))).trans (hHeld.2.2.2.2.2.2.2.1)
         have HS8_ := (hb.cell (World.block_lt_of_cell? _ _ (hHeld.2.2.2.2.2.2.2.2.1))).trans (hHeld.2.2.2.2.2.2.2.2.1)
         have HS9_ := (hb.cell (World.block_lt_of_cell? _ _ (hHeld.2.2.2.2.2.2.2.2.2.1))).trans (hHeld.2.2.2.2.2.2.2.2.2.1)
         have HS10_ := (hb.cell (World.block_lt_of_cell? _ _ (hHeld.2.2.2.2.2.2.2.2.2.2.1))).trans (hHeld.2.2.2.2.2.2.2.2.2.2.1)
         have HS11_ := (hb.cell (World.block_lt_of_cell? _ _ (hHeld.2.2.2.2.2.2.2.2.2.2.2.1))).trans (hHeld.2.2.2.2.2.2.2.2.2.2.2.1)
         have HS12_ := (hb.cell (World.block_lt_of_cell? _ _ (hHeld.2.2.2.2.2.2.2.2.2.2.2.2.1))).trans (hHeld.2.2.2.2.2.2.2.2.2.2.2.2.1)
         have HS13_ := (hb.cell (World.block_lt_of_cell? _ _ (hHeld.2.2.2.2.2.2.2.2.2.2.2.2.2.1))).trans (hHeld.2.2.2.2.2.2.2.2.2.2.2.2.2.1)
         have HS14_ := (hb.cell (World.block_lt_of_cell? _ _ (hHeld.2.2.2.2.2.2.2.2.2.2.2.2.2.2.1))).trans (hHeld.2.2.2.2.2.2.2.2.2.2.2.2.2.2.1)
         have HS15_ := (hb.cell (World.block_lt_of_cell? _ _ (hHeld.2.2.2.2.2.2.2.2.2.2.2.2.2.2.2))).trans (hHeld.2.2.2.2.2.2.2.2.2.2.2.2.2.2.2)
         refine ⟨_, rfl, ?_⟩
         replace HO331 := rb_ HO331 hb
         have HO341 := Aside0.mk (Kd.R_lower ho0 (below_size (hs_ HB GE327)))
         replace BK327 := bb_ BK327 hb
         replace HR338 := Aside0.mk (Kd.C_below (by repeat (first | (with_reducible exact HR338.out) | (with_reducible refine Kd.C_alloc ?_ _) | (with_reducible refine Kd.C_drewN ?_ _) | (with_reducible refine Kd.C_drew ?_) | exact HR338.out)) hb)
         replace HB := bt_ HB GE327 hb
         (try clear hb)
         (try clear hb2)
         (try clear hk)
         (try clear hi)
         (try clear ho0)
         obtain ⟨Ao24, co24, eo24⟩ := Kd.R_slice HO341.out
         (first | subst eo24 | (injection eo24 with f1_ f2_ f3_; have f4_ := f1_.symm; have f5_ := f3_.symm; clear f1_ f2_ f3_; subst f4_; subst f5_))
         refine hK.out _ _ (q8_ HS0_ HS1_ HS2_ HS3_ HS4_ HS5_ HS6_ HS7_ (q8e_ HS8_ HS9_ HS10_ HS11_ HS12_ HS13_ HS14_ HS15_)) (fun hHeld => ?_)
         clear hK K
         refine norm_ (a' := ?_) ?_ ?_
         rotate_left
         ·show Act.put _ (some 52) _ = _
          simp only [Act.put, la_, lz_, ls_, i64_w, i32_w]
          rfl
         refine one_ (i := 33) (N := some 53) (on_ 34 2) rfl rfl (one_of HT_.out (by kernel_rfl)) (by decide) (fun K hK => ?_)
         refine goes_ Try.func39 (by kernel_rfl) rfl #[.agg #[.int .i64 ((rd_T37 t328 (ji13)).f2.f0), .int .i64 ((rd_T37 t328 (ji13)).f2.f1), .string ((rd_T37 t328 (ji13)).f2.f2), .string ((rd_T37 t328 (ji13)).f2.f3), .int .i64 ((rd_T37 t328 (ji13)).f2.f4), .int .i64 ((rd_T37 t328 (ji13)).f2.f5)], .slice Ao24 t339.length co24] (by rfl) rfl rfl (by (try simp only [List.map_toArray, List.map_cons, List.map_nil]); first | done | (simp only [hji13]; rfl) | rfl | (simp only [List.length_drop, List.length_take]; rfl)) ?_
         with_reducible refine (impl_fits.calls k ((rd_T37 t328 (ji13)).f2.f0) ((rd_T37 t328 (ji13)).f2.f1) ((rd_T37 t328 (ji13)).f2.f2) ((rd_T37 t328 (ji13)).f2.f3) ((rd_T37 t328 (ji13)).f2.f4) ((rd_T37 t328 (ji13)).f2.f5) _ _ t339 t342 _ ?side1 ?side2 A20.out).mono ?_
         (case side1 => repeat (first | exact (Kd.R_reads' HO341.out).2.2 | (with_reducible refine Kd.C_alloc ?_ _) | (with_reducible refine Kd.C_drewN ?_ _) | (with_reducible refine Kd.C_drew ?_)))
         (case side2 => exact (Kd.R_reads' HO341.out).2.1)
         rintro e w25 ⟨rfl, hb⟩
         have HS0_ := (hb.cell (World.block_lt_of_cell? _ _ (hHeld.1))).trans (hHeld.1)
         have HS1_ := (hb.cell (World.block_lt_of_cell? _ _ (hHeld.2.1))).trans (hHeld.2.1)
         have HS2_ := (hb.cell (World.block_lt_of_cell? _ _ (hHeld.2.2.1))).trans (hHeld.2.2.1)
         have HS3_ := (hb.cell (World.block_lt_of_cell? _ _ (hHeld.2.2.2.1))).trans (hHeld.2.2.2.1)
         have HS4_ := (hb.cell (World.block_lt_of_cell? _ _ (hHeld.2.2.2.2.1))).trans (hHeld.2.2.2.2.1)
         have HS5_ := (hb.cell (World.block_lt_of_cell? _ _ (hHeld.2.2.2.2.2.1))).trans (hHeld.2.2.2.2.2.1)
         have HS6_ := (hb.cell (World.block_lt_of_cell? _ _ (hHeld.2.2.2.2.2.2.1))).trans (hHeld.2.2.2.2.2.2.1)
         have HS7_ := (hb.cell (World.block_lt_of_cell? _ _ (hHeld.2.2.2.2.2.2.2.1))).trans (hHeld.2.2.2.2.2.2.2.1)
         have HS8_ := (hb.cell (World.block_lt_of_cell? _ _ (hHeld.2.2.2.2.2.2.2.2.1))).trans (hHeld.2.2.2.2.2.2.2.2.1)
         have HS9_ := (hb.cell (World.block_lt_of_cell? _ _ (hHeld.2.2.2.2.2.2.2.2.2.1))).trans (hHeld.2.2.2.2.2.2.2.2.2.1)
         have HS10_ := (hb.cell (World.block_lt_of_cell? _ _ (hHeld.2.2.2.2.2.2.2.2.2.2.1))).trans (hHeld.2.2.2.2.2.2.2.2.2.2.1)
         have HS11_ := (hb.cell (World.block_lt_of_cell? _ _ (hHeld.2.2.2.2.2.2.2.2.2.2.2.1))).trans (hHeld.2.2.2.2.2.2.2.2.2.2.2.1)
         have HS12_ := (hb.cell (World.block_lt_of_cell? _ _ (hHeld.2.2.2.2.2.2.2.2.2.2.2.2.1))).trans (hHeld.2.2.2.2.2.2.2.2.2.2.2.2.1)
         have HS13_ := (hb.cell (World.block_lt_of_cell? _ _ (hHeld.2.2.2.2.2.2.2.2.2.2.2.2.2.1))).trans (hHeld.2.2.2.2.2.2.2.2.2.2.2.2.2.1)
         have HS14_ := (hb.cell (World.block_lt_of_cell? _ _ (hHeld.2.2.2.2.2.2.2.2.2.2.2.2.2.2.1))).trans (hHeld.2.2.2.2.2.2.2.2.2.2.2.2.2.2.1)
         have HS15_ := (hb.cell (World.block_lt_of_cell? _ _ (hHeld.2.2.2.2.2.2.2.2.2.2.2.2.2.2.2))).trans (hHeld.2.2.2.2.2.2.2.2.2.2.2.2.2.2.2)
         refine ⟨_, rfl, ?_⟩
         replace HO331 := rb_ HO331 hb
         replace HO341 := rb_ HO341 hb
         replace BK327 := bb_ BK327 hb
         replace HR338 := Aside0.mk (Kd.C_below (by repeat (first | (with_reducible exact HR338.out) | (with_reducible refine Kd.C_alloc ?_ _) | (with_reducible refine Kd.C_drewN ?_ _) | (with_reducible refine Kd.C_drew ?_) | exact HR338.out)) hb)
         replace HB := bt_ HB GE327 hb
         (try clear hb)
         (try clear hb2)
         (try clear hk)
         (try clear hi)
         refine hK.out _ _ (q8_ HS0_ HS1_ HS2_ HS3_ HS4_ HS5_ HS6_ HS7_ (q8e_ HS8_ HS9_ HS10_ HS11_ HS12_ HS13_ HS14_ HS15_)) (fun hHeld => ?_)
         clear hK K
         refine norm_ (a' := ?_) ?_ ?_
         rotate_left
         ·show Act.put _ (some 53) _ = _
          simp only [Act.put, la_, lz_, ls_, i64_w, i32_w]
          rfl
         refine pv_' 34 54 (on_ 35 1) rfl rfl HT_ ?_
         refine pv_' 35 55 (on_ 36 0) rfl rfl HT_ ?_
         refine done_ (done_of HT_.out (by kernel_rfl)) ?_
         have Nji13_ := Aside0.mk hji13
         clear hji13
         (try clear hji13w)
         try go_wp2
         have hji13 := Nji13_.out
         clear Nji13_
         (try have hji13w := (i64_w _).trans hji13)
         go_meet
         case rel => exact ⟨_, (!t342), rs_, (by first | exact H' | (simp only [hji13]; exact H')), ⟨by first | exact Nat.le_refl _ | exact Nat.le_of_succ_le this | omega⟩, ⟨rr_ HO331⟩, ⟨bk_ BK327⟩, ⟨hs_ HB GE327⟩⟩
        ·rw [if_neg c18] at H
         exact absurd H (by simp)
       ·rw [if_neg c16] at H
        have c16b0 : (((rd_T37 t328 (ji13)).f2.f0) == 5) = false := beq_eq_false_iff_ne.mpr c16
        have c16b1 : (((rd_T37 t328 (ji13)).f2.f0) != 5) = true := bne_iff_ne.mpr c16
        have H' := Aside0.mk H
        clear H
        try go_wp2
        replace HO331 := rd_ HO331
        replace BK327 := bd_ BK327
        replace HB := hd_ HB
        have p333 : 0 ≤ ((ji13) : Int) := of_decide_eq_true as_
        have q333 : (ji13) < (t328.length : Int) := of_decide_eq_true as_
        obtain ⟨ad333, e333, hx333_0, hx333_1, hx333_2, hx333_3, hx333_4, hx333_5, hx333_6, hx333_7⟩ := at_T37 (Kd.R_reads' HO331.out).2.2 (ji13) p333 q333
        cases e333
        replace p333 := eq_true p333
        replace q333 := eq_true q333
        refine start_ (n := 36) (S := e8e_ (ad333.add (((ji13)).toNat * 8)) (.int .i64 ((rd_T37 t328 (ji13)).f0)) (.int .i64 ((rd_T37 t328 (ji13)).f1)) (.int .i64 ((rd_T37 t328 (ji13)).f2.f0)) (.int .i64 ((rd_T37 t328 (ji13)).f2.f1)) (.string ((rd_T37 t328 (ji13)).f2.f2)) (.string ((rd_T37 t328 (ji13)).f2.f3)) (.int .i64 ((rd_T37 t328 (ji13)).f2.f4)) (.int .i64 ((rd_T37 t328 (ji13)).f2.f5))) (ds := []) (on_ 0 36) (by kernel_rfl) rfl rfl (q8e_ hx333_0 hx333_1 hx333_2 hx333_3 hx333_4 hx333_5 hx333_6 hx333_7) (fun hHeld => ?_); refine with_tabW impl_HintOf.tab3 impl_HintOf.bits3 (fun HT_ HW_ => ?_)
        generalize w6.drew = w26 at HO331 BK327 HB hx333_0 hx333_1 hx333_2 hx333_3 hx333_4 hx333_5 hx333_6 hx333_7 hHeld ⊢
        refine pv_' 0 20 (on_ 1 35) rfl rfl HT_ ?_
        refine pv_' 1 21 (on_ 2 34) rfl rfl HT_ ?_
        refine pv_' 2 22 (on_ 3 33) rfl rfl HT_ ?_
        refine pv_' 3 23 (on_ 4 32) rfl rfl HT_ ?_
        refine pv_' 4 24 (on_ 5 31) rfl rfl HT_ ?_
        refine pv_' 5 25 (on_ 6 30) rfl rfl HT_ ?_
        refine pv_' 6 26 (on_ 7 29) rfl rfl HT_ ?_
        refine pv_' 7 27 (on_ 8 28) rfl rfl HT_ ?_
        refine pv_' 8 28 (on_ 9 27) rfl rfl HT_ ?_
        refine pv_' 9 29 (on_ 10 26) rfl rfl HT_ ?_
        refine one_ (i := 10) (N := some 30) (on_ 11 25) rfl rfl (one_of HT_.out (by kernel_rfl)) (by decide) (fun K hK => ?_)
        refine goes_ Try.func36 (by kernel_rfl) rfl #[.int .i64 a0, .int .i64 1, .int .i64 100000] (by rfl) rfl rfl ar_ ?_
        with_reducible refine (impl_in.calls a0 1 100000 true _ A11.out).mono ?_
        rintro e w' ⟨rfl, ⟨nd, rfl⟩⟩
        refine ⟨_, rfl, ?_⟩
        refine hK.out _ _ (q8e_ hHeld.1 hHeld.2.1 hHeld.2.2.1 hHeld.2.2.2.1 hHeld.2.2.2.2.1 hHeld.2.2.2.2.2.1 hHeld.2.2.2.2.2.2.1 hHeld.2.2.2.2.2.2.2) (fun hHeld => ?_)
        clear hK K
        refine norm_ (a' := ?_) ?_ ?_
        rotate_left
        ·show Act.put _ (some 30) _ = _
         simp only [Act.put, la_, lz_, ls_, i64_w, i32_w]
         rfl
        refine pv_' 11 31 (on_ 12 24) rfl rfl HT_ ?_
        refine pv_' 12 32 (on_ 13 23) rfl rfl HT_ ?_
        refine pv_' 13 33 (on_ 14 22) rfl rfl HT_ ?_
        refine pv_' 14 34 (on_ 15 21) rfl rfl HT_ ?_
        refine pv_' 15 35 (on_ 16 20) rfl rfl HT_ ?_
        refine pv_' 16 36 (on_ 17 19) rfl rfl HT_ ?_
        refine pv_' 17 37 (on_ 18 18) rfl rfl HT_ ?_
        refine pv_' 18 38 (on_ 19 17) rfl rfl HT_ ?_
        refine take_ (i := 19) (N := some 39) (v := ?_) (a' := ?_) (on_ 20 16) rfl rfl (take_ofW HT_.out HW_.out (by kernel_rfl)) (fun _ _ _ h => h) (Or.inl ⟨by rfl, ?_⟩) hHeld ?_ ?_
        rotate_left
        ·rintro w' ⟨s0, s1, s2, s3, s4, s5, s6, s7⟩
         go_simp
         with_reducible rfl
        rotate_left
        ·simp only [Act.put, la_, lz_, ls_, i64_w, i32_w]
         rfl
        refine pv_' 20 40 (on_ 21 15) rfl rfl HT_ ?_
        refine pv_' 21 41 (on_ 22 14) rfl rfl HT_ ?_
        refine pv_' 22 42 (on_ 23 13) rfl rfl HT_ ?_
        refine pun_' 23 43 (on_ 24 12) rfl rfl HT_ ?_
        refine pun_' 24 44 (on_ 25 11) rfl rfl HT_ ?_
        refine pun_' 25 45 (on_ 26 10) rfl rfl HT_ ?_
        refine pun_' 26 46 (on_ 27 9) rfl rfl HT_ ?_
        refine pun_' 27 47 (on_ 28 8) rfl rfl HT_ ?_
        refine pun_' 28 48 (on_ 29 7) rfl rfl HT_ ?_
        refine pun_' 29 49 (on_ 30 6) rfl rfl HT_ ?_
        refine pun_' 30 50 (on_ 31 5) rfl rfl HT_ ?_
        refine pun_' 31 51 (on_ 32 4) rfl rfl HT_ ?_
        refine pun_' 32 52 (on_ 33 3) rfl rfl HT_ ?_
        refine pun_' 33 53 (on_ 34 2) rfl rfl HT_ ?_
        refine pun_' 34 54 (on_ 35 1) rfl rfl HT_ ?_
        refine pv_' 35 55 (on_ 36 0) rfl rfl HT_ ?_
        refine done_ (done_of HT_.out (by kernel_rfl)) ?_
        have Nji13_ := Aside0.mk hji13
        clear hji13
        (try clear hji13w)
        try go_wp2
        have hji13 := Nji13_.out
        clear Nji13_
        (try have hji13w := (i64_w _).trans hji13)
        go_meet
        case rel => exact ⟨_, (true), rs_, (by first | exact H' | (simp only [hji13]; exact H')), ⟨by first | exact Nat.le_refl _ | exact Nat.le_of_succ_le this | omega⟩, ⟨rr_ HO331⟩, ⟨bk_ BK327⟩, ⟨hs_ HB GE327⟩⟩
      ·rw [if_neg c15] at H
       exact absurd H (by simp)
     ·rw [if_neg c14] at H
      exact absurd H (by simp)
    ·replace c12 := Bool.eq_false_iff.mpr c12
     subst c12
     have H1 : (impl_HintOf.j0 k a0 t328 t329 (wrap64 ((t328.length : Int) - 1)) true) = some (r1, r2, r3, r4) := by rw [if_neg (show ¬ (false = true) by decide)] at H; exact H
     clear H
     have H := H1
     clear H1
     have H' := Aside0.mk H
     clear H
     try go_wp2
     replace HO331 := rd_ HO331
     replace BK327 := bd_ BK327
     replace HB := hd_ HB
     refine start_ (n := 36) (S := fun w' => True) (ds := []) (on_ 0 36) (by kernel_rfl) rfl rfl trivial (fun hHeld => ?_); refine with_tabW impl_HintOf.tab3 impl_HintOf.bits3 (fun HT_ HW_ => ?_)
     generalize w6.drew = w27 at HO331 BK327 HB hHeld ⊢
     refine pv_' 0 20 (on_ 1 35) rfl rfl HT_ ?_
     refine pv_' 1 21 (on_ 2 34) rfl rfl HT_ ?_
     refine pv_' 2 22 (on_ 3 33) rfl rfl HT_ ?_
     refine pv_' 3 23 (on_ 4 32) rfl rfl HT_ ?_
     refine pv_' 4 24 (on_ 5 31) rfl rfl HT_ ?_
     refine pv_' 5 25 (on_ 6 30) rfl rfl HT_ ?_
     refine pv_' 6 26 (on_ 7 29) rfl rfl HT_ ?_
     refine pv_' 7 27 (on_ 8 28) rfl rfl HT_ ?_
     refine pv_' 8 28 (on_ 9 27) rfl rfl HT_ ?_
     refine pv_' 9 29 (on_ 10 26) rfl rfl HT_ ?_
     refine one_ (i := 10) (N := some 30) (on_ 11 25) rfl rfl (one_of HT_.out (by kernel_rfl)) (by decide) (fun K hK => ?_)
     refine goes_ Try.func36 (by kernel_rfl) rfl #[.int .i64 a0, .int .i64 1, .int .i64 100000] (by rfl) rfl rfl ar_ ?_
     with_reducible refine (impl_in.calls a0 1 100000 false _ A11.out).mono ?_
     rintro e w' ⟨rfl, ⟨nd, rfl⟩⟩
     refine ⟨_, rfl, ?_⟩
     refine hK.out _ _ trivial (fun hHeld => ?_)
     clear hK K
     refine norm_ (a' := ?_) ?_ ?_
     rotate_left
     ·show Act.put _ (some 30) _ = _
      simp only [Act.put, la_, lz_, ls_, i64_w, i32_w]
      rfl
     refine pv_' 11 31 (on_ 12 24) rfl rfl HT_ ?_
     refine pv_' 12 32 (on_ 13 23) rfl rfl HT_ ?_
     refine pv_' 13 33 (on_ 14 22) rfl rfl HT_ ?_
     refine pun_' 14 34 (on_ 15 21) rfl rfl HT_ ?_
     refine pun_' 15 35 (on_ 16 20) rfl rfl HT_ ?_
     refine pun_' 16 36 (on_ 17 19) rfl rfl HT_ ?_
     refine pun_' 17 37 (on_ 18 18) rfl rfl HT_ ?_
     refine pun_' 18 38 (on_ 19 17) rfl rfl HT_ ?_
     refine pun_' 19 39 (on_ 20 16) rfl rfl HT_ ?_
     refine pun_' 20 40 (on_ 21 15) rfl rfl HT_ ?_
     refine pv_' 21 41 (on_ 22 14) rfl rfl HT_ ?_
     refine pv_' 22 42 (on_ 23 13) rfl rfl HT_ ?_
     refine pun_' 23 43 (on_ 24 12) rfl rfl HT_ ?_
     refine pun_' 24 44 (on_ 25 11) rfl rfl HT_ ?_
     refine pun_' 25 45 (on_ 26 10) rfl rfl HT_ ?_
     refine pun_' 26 46 (on_ 27 9) rfl rfl HT_ ?_
     refine pun_' 27 47 (on_ 28 8) rfl rfl HT_ ?_
     refine pun_' 28 48 (on_ 29 7) rfl rfl HT_ ?_
     refine pun_' 29 49 (on_ 30 6) rfl rfl HT_ ?_
     refine pun_' 30 50 (on_ 31 5) rfl rfl HT_ ?_
     refine pun_' 31 51 (on_ 32 4) rfl rfl HT_ ?_
     refine pun_' 32 52 (on_ 33 3) rfl rfl HT_ ?_
     refine pun_' 33 53 (on_ 34 2) rfl rfl HT_ ?_
     refine pun_' 34 54 (on_ 35 1) rfl rfl HT_ ?_
     refine pv_' 35 55 (on_ 36 0) rfl rfl HT_ ?_
     refine done_ (done_of HT_.out (by kernel_rfl)) ?_
     try go_wp2
     go_meet
     case rel => exact ⟨_, (true), rs_, (by first | exact H' | (simp only [hji13]; exact H')), ⟨by first | exact Nat.le_refl _ | exact Nat.le_of_succ_le this | omega⟩, ⟨rr_ HO331⟩, ⟨bk_ BK327⟩, ⟨hs_ HB GE327⟩⟩
   ·rw [if_neg c10] at H
    have c10b0 : (t329 == (a1.size : Int)) = false := beq_eq_false_iff_ne.mpr c10
    have c10b1 : (t329 != (a1.size : Int)) = true := bne_iff_ne.mpr c10
    have H' := Aside0.mk H
    clear H
    try go_wp2
    replace HO331 := rd_ HO331
    replace BK327 := bd_ BK327
    replace HB := hd_ HB
    refine start_ (n := 36) (S := fun w' => True) (ds := []) (on_ 0 36) (by kernel_rfl) rfl rfl trivial (fun hHeld => ?_); refine with_tabW impl_HintOf.tab3 impl_HintOf.bits3 (fun HT_ HW_ => ?_)
    generalize w6.drew = w28 at HO331 BK327 HB hHeld ⊢
    refine pv_' 0 20 (on_ 1 35) rfl rfl HT_ ?_
    refine pv_' 1 21 (on_ 2 34) rfl rfl HT_ ?_
    refine pv_' 2 22 (on_ 3 33) rfl rfl HT_ ?_
    refine pv_' 3 23 (on_ 4 32) rfl rfl HT_ ?_
    refine pv_' 4 24 (on_ 5 31) rfl rfl HT_ ?_
    refine pv_' 5 25 (on_ 6 30) rfl rfl HT_ ?_
    refine pv_' 6 26 (on_ 7 29) rfl rfl HT_ ?_
    refine pv_' 7 27 (on_ 8 28) rfl rfl HT_ ?_
    refine pv_' 8 28 (on_ 9 27) rfl rfl HT_ ?_
    refine pun_' 9 29 (on_ 10 26) rfl rfl HT_ ?_
    refine pun_' 10 30 (on_ 11 25) rfl rfl HT_ ?_
    refine pun_' 11 31 (on_ 12 24) rfl rfl HT_ ?_
    refine pv_' 12 32 (on_ 13 23) rfl rfl HT_ ?_
    refine pv_' 13 33 (on_ 14 22) rfl rfl HT_ ?_
    refine pun_' 14 34 (on_ 15 21) rfl rfl HT_ ?_
    refine pun_' 15 35 (on_ 16 20) rfl rfl HT_ ?_
    refine pun_' 16 36 (on_ 17 19) rfl rfl HT_ ?_
    refine pun_' 17 37 (on_ 18 18) rfl rfl HT_ ?_
    refine pun_' 18 38 (on_ 19 17) rfl rfl HT_ ?_
    refine pun_' 19 39 (on_ 20 16) rfl rfl HT_ ?_
    refine pun_' 20 40 (on_ 21 15) rfl rfl HT_ ?_
    refine pv_' 21 41 (on_ 22 14) rfl rfl HT_ ?_
    refine pv_' 22 42 (on_ 23 13) rfl rfl HT_ ?_
    refine pun_' 23 43 (on_ 24 12) rfl rfl HT_ ?_
    refine pun_' 24 44 (on_ 25 11) rfl rfl HT_ ?_
    refine pun_' 25 45 (on_ 26 10) rfl rfl HT_ ?_
    refine pun_' 26 46 (on_ 27 9) rfl rfl HT_ ?_
    refine pun_' 27 47 (on_ 28 8) rfl rfl HT_ ?_
    refine pun_' 28 48 (on_ 29 7) rfl rfl HT_ ?_
    refine pun_' 29 49 (on_ 30 6) rfl rfl HT_ ?_
    refine pun_' 30 50 (on_ 31 5) rfl rfl HT_ ?_
    refine pun_' 31 51 (on_ 32 4) rfl rfl HT_ ?_
    refine pun_' 32 52 (on_ 33 3) rfl rfl HT_ ?_
    refine pun_' 33 53 (on_ 34 2) rfl rfl HT_ ?_
    refine pun_' 34 54 (on_ 35 1) rfl rfl HT_ ?_
    refine pv_' 35 55 (on_ 36 0) rfl rfl HT_ ?_
    refine done_ (done_of HT_.out (by kernel_rfl)) ?_
    try go_wp2
    go_meet
    case rel => exact ⟨_, (true), rs_, H', ⟨by first | exact Nat.le_refl _ | exact Nat.le_of_succ_le this | omega⟩, ⟨rr_ HO331⟩, ⟨bk_ BK327⟩, ⟨hs_ HB GE327⟩⟩
 case rest =>
  clear HC4
  try clear c1
  try clear p2
  try clear c3
  try clear p6
  try clear c10
  try clear c10b0
  try clear c10b1
  try clear c12
  try clear c14
  try clear c15
  obtain ⟨kq, x55_3, rfl, HA, HJ3, HO_6, BK327, HB⟩ := hcut
  cases kq with
  | zero => exact absurd HA.out (by simp [impl_HintOf.j0])
  | succ kj3 =>
   have H := HA.out
   clear HA
   simp only [impl_HintOf.j0] at H
   by_cases c29 : x55_3 = true
   ·subst c29
    have H1 : (some (0, 0, ([] : List (S68)), false)) = some (r1, r2, r3, r4) := by rw [if_pos rfl] at H; exact H
    clear H
    have H := H1
    clear H1
    simp only [Option.some.injEq, Prod.mk.injEq] at H
    obtain ⟨rfl, rfl, rfl, rfl⟩ := H
    obtain ⟨hcz30_0, hcz30_1, hcz30_2, hfz30_0, hfz30_1, hfz30_2⟩ := bc3_ BK327
    go_wp2
    refine bodyPost_ret (results_ct rfl _ _ gb327 40 #[.int .i64 0, .int .i64 0, .slice none 0 0] (0, 0) _ rfl (by (with_reducible repeat (first | refine blk_drewN ?_ _ | refine blk_drew ?_ | refine blk_alloc ?_ _)); refine blk_put (cs := #[.int .i64 0, .int .i64 0, .slice none 0 0]) ?_ 2 _ rfl; (with_reducible repeat (first | refine blk_drewN ?_ _ | refine blk_drew ?_ | refine blk_alloc ?_ _)); refine blk_put (cs := #[.int .i64 0, .int .i64 0, .slice none 0 0]) ?_ 1 _ rfl; (with_reducible repeat (first | refine blk_drewN ?_ _ | refine blk_drew ?_ | refine blk_alloc ?_ _)); refine blk_put (cs := #[.int .i64 0, .int .i64 0, .slice none 0 0]) ?_ 0 _ rfl; (with_reducible repeat (first | refine blk_drewN ?_ _ | refine blk_drew ?_ | refine blk_alloc ?_ _)); exact BK327.out) Try.underlying40 rfl (by kernel_rfl)) rfl ?_
    exact ⟨_, by first | rfl | (simp [errW_none, errW_some] <;> rfl) | (simp [*, errW_none, errW_some] <;> rfl), by first | exact Kd.R_nil _ _ _ _ _ | exact Kd.N_nil _ _ _ _ _ | exact Kd.V_nil _ _ _ _ _ | exact Kd.Q_nil _ _ _ _ _ | exact Kd.S_nil _ _ _ _ _, hs_ HB GE327⟩
   ·replace c29 := Bool.eq_false_iff.mpr c29
    subst c29
    have H1 : (if 0 ≤ (wrap64 ((t328.length : Int) - 1)) then (if (wrap64 ((t328.length : Int) - 1)) < (t328.length : Int) then (if (wrap64 ((t328.length : Int) - 1)) ≤ (t328.length : Int) then ((some (t328.take ((wrap64 ((t328.length : Int) - 1)) : Int).toNat : List (S37))).bind fun y345 => (impl_HintOf.l0 kj3 a0 t328 y345 (y345.length : Int) 0 t329 ((rd_T37 t328 (wrap64 ((t328.length : Int) - 1))).f2.f1) ([] : List (S68)))) else (none)) else (none)) else (none)) = some (r1, r2, r3, r4) := by rw [if_neg (show ¬ (false = true) by decide)] at H; exact H
    clear H
    have H := H1
    clear H1
    obtain ⟨ji31, hji31⟩ : ∃ j_ : Int, (wrap64 ((t328.length : Int) - 1)) = j_ := ⟨_, rfl⟩
    replace H : (if 0 ≤ (ji31) then (if (ji31) < (t328.length : Int) then (if (ji31) ≤ (t328.length : Int) then ((some (t328.take ((ji31) : Int).toNat : List (S37))).bind fun y345 => (impl_HintOf.l0 kj3 a0 t328 y345 (y345.length : Int) 0 t329 ((rd_T37 t328 (ji31)).f2.f1) ([] : List (S68)))) else (none)) else (none)) else (none)) = some (r1, r2, r3, r4) := by first | (rw [hji31] at H; exact H) | (simp only [hji31] at H ⊢; exact H)
    have hji31w : (IntKind.i64.wrap ((t328.length : Int) - 1)) = ji31 := (i64_w _).trans hji31
    by_cases c32 : 0 ≤ (ji31)
    ·rw [if_pos c32] at H
     have c32b0 : decide (0 ≤ (ji31)) = true := decide_eq_true c32
     clear c32
     by_cases c33 : (ji31) < (t328.length : Int)
     ·rw [if_pos c33] at H
      have c33b0 : decide ((ji31) < (t328.length : Int)) = true := decide_eq_true c33
      clear c33
      have c34b0 := eq_true (of_decide_eq_true as_ : 0 ≤ (ji31))
      by_cases c35 : (ji31) ≤ (t328.length : Int)
      ·rw [if_pos c35] at H
       have c35b0 := eq_true c35
       have c35b1 : decide ((ji31) ≤ (t328.length : Int)) = true := decide_eq_true c35
       clear c35
       obtain ⟨y345, hy345⟩ : ∃ y_ : List (S37), y_ = (t328.take ((ji31) : Int).toNat) := ⟨_, rfl⟩
       replace H : (impl_HintOf.l0 kj3 a0 t328 y345 (y345.length : Int) 0 t329 ((rd_T37 t328 (ji31)).f2.f1) ([] : List (S68))) = some (r1, r2, r3, r4) := by first | (rw [hy345]; with_reducible exact H) | (have H2_ := (Option.bind_some _ _).symm.trans H; rw [hy345]; with_reducible exact H2_) | (have H2_ := (Option.bind_some _ _).symm.trans H; with_reducible exact H2_) | with_reducible exact H | (rw [hy345]; exact H) | exact H
       have Ny345 := Aside0.mk hy345
       clear hy345
       have H' := Aside0.mk H
       clear H
       have p343 : 0 ≤ ((ji31) : Int) := of_decide_eq_true as_
       have q343 : (ji31) < (t328.length : Int) := of_decide_eq_true as_
       obtain ⟨ad343, e343, hx343_0, hx343_1, hx343_2, hx343_3, hx343_4, hx343_5, hx343_6, hx343_7⟩ := at_T37 (Kd.R_reads' HO_6.out).2.2 (ji31) p343 q343
       cases e343
       replace p343 := eq_true p343
       replace q343 := eq_true q343
       go_wp2_with (first | ((with_reducible refine gate_dst (N := 9) rfl ?_); (try (refine gate_guard (by rfl) ?_; dsimp only)); refine box_event ?hg (N := 9) ?hd (cs := #[.int .i64 0, .int .i64 0, .slice none 0 0]) (t := 40) ?hr ?_; (case hd => rfl); (case hg => rfl); (case hr => first | (go_simp; done) | (go_simp; rfl)); intro gb344 hg w36 hbox hb; replace HO_6 := rb_ HO_6 hb; have BK344 := Aside0.mk (hbox); have GW344 := ge_ hg (hs_ HB GE327); have GE344 := ge_ hg (hs_ HB GE327); replace HB := bt_ HB GE327 hb; have NB327_344 := nl_ BK327 hg; have NB344_327 := ng_ BK327 hg; replace BK327 := bb_ BK327 hb; clear hb hbox hg; have hnb37 := NB344_327.out; have hnc37 := NB327_344.out; obtain ⟨hcz38_0, hcz38_1, hcz38_2, hfz38_0, hfz38_1, hfz38_2⟩ := bc3_ BK344) | ((with_reducible refine gate_store (t := 40) (p := 9) rfl ?_); refine store_event (t := 40) (p := 9) (v := ?vo_w39) (w1 := (((w36.setCell ⟨gb344, 0, none⟩ (.int .i64 t329)).setCell ⟨gb344, 1, none⟩ (.int .i64 ((rd_T37 t328 (ji31)).f2.f1))).setCell ⟨gb344, 2, none⟩ (.slice none 0 0))) ?hg ?ho ?hn ?hr ?_; (case ho => rfl); (case hg => rfl); (case hn => rfl); (case hr => first | (go_simp; done) | (go_simp; rfl)); intro w39 hw; have n0_ : Aside0 (Kd.R k37 37 w39 w.heap.size (fun _ => True) (.slice (some ad343) t328.length co7) t328) := ⟨(by rw [hw]; exact (by (with_reducible repeat (first | apply Kd.R_alloc | apply Kd.R_drewN | apply Kd.R_drew)); exact Kd.R_mono (Kd.R_far (p := ⟨gb344, 2, none⟩) (Kd.R_far (p := ⟨gb344, 1, none⟩) (Kd.R_far (p := ⟨gb344, 0, none⟩) (Kd.R_types HO_6.out BK344.out (by decide)) (fun _ hk => hk.2) (.int .i64 t329)) (fun _ hk => hk.2) (.int .i64 ((rd_T37 t328 (ji31)).f2.f1))) (fun _ hk => hk.2) (.slice none 0 0)) (fun _ hk => trivial)))⟩; have n1_ : Aside0 (w39.heap[gb327]? = some (.cells #[.int .i64 0, .int .i64 0, .slice none 0 0] 40 (0, 0))) := ⟨(by rw [hw]; exact (by (with_reducible repeat (first | refine blk_drewN ?_ _ | refine blk_drew ?_ | refine blk_alloc ?_ _)); refine blk_far ?_ NB327_344.out _; (with_reducible repeat (first | refine blk_drewN ?_ _ | refine blk_drew ?_ | refine blk_alloc ?_ _)); refine blk_far ?_ NB327_344.out _; (with_reducible repeat (first | refine blk_drewN ?_ _ | refine blk_drew ?_ | refine blk_alloc ?_ _)); refine blk_far ?_ NB327_344.out _; (with_reducible repeat (first | refine blk_drewN ?_ _ | refine blk_drew ?_ | refine blk_alloc ?_ _)); exact BK327.out))⟩; have n2_ : Aside0 (w39.heap[gb344]? = some (.cells #[.int .i64 t329, .int .i64 ((rd_T37 t328 (ji31)).f2.f1), .slice none 0 0] 40 (0, 0))) := ⟨(by rw [hw]; exact (by (with_reducible repeat (first | refine blk_drewN ?_ _ | refine blk_drew ?_ | refine blk_alloc ?_ _)); refine blk_put (cs := #[.int .i64 t329, .int .i64 ((rd_T37 t328 (ji31)).f2.f1), .slice none 0 0]) ?_ 2 _ rfl; (with_reducible repeat (first | refine blk_drewN ?_ _ | refine blk_drew ?_ | refine blk_alloc ?_ _)); refine blk_put (cs := #[.int .i64 t329, .int .i64 0, .slice none 0 0]) ?_ 1 _ rfl; (with_reducible repeat (first | refine blk_drewN ?_ _ | refine blk_drew ?_ | refine blk_alloc ?_ _)); refine blk_put (cs := #[.int .i64 0, .int .i64 0, .slice none 0 0]) ?_ 0 _ rfl; (with_reducible repeat (first | refine blk_drewN ?_ _ | refine blk_drew ?_ | refine blk_alloc ?_ _)); exact BK344.out))⟩; have n3_ : Aside0 (Below w.heap.size w w39) := ⟨(by rw [hw]; exact (hu_ HB GE327 GE344))⟩; clear hw; clear HO_6; clear BK327; clear BK344; clear HB; have HO_6 := n0_; have BK327 := n1_; have BK344 := n2_; have HB := n3_; clear n0_ n1_ n2_ n3_; have q40 : ((ji31) : Int) ≤ ((t328.length : Int) : Int) := of_decide_eq_true as_; obtain ⟨i040, hi040, _, hsz40, _⟩ := info_parts info37; have hroom40 : t328.length ≤ co7 := (Kd.R_reads' HO_6.out).2.1; have hC40 : Kd.C k37 _ (some ad343) t328.length t328 := (Kd.R_reads' HO_6.out).2.2; have hcut40 := cut_to (P := Try.prog) 28 37 .i64 Try.underlying28 hi040 (some ad343) t328.length co7 (ji31) (of_decide_eq_true as_) q40 hroom40; have hr40 := Kd.C_take (m := ((ji31) : Int).toNat) hC40 (by omega); have hy40 : y345.length = ((ji31) : Int).toNat := (by rw [Ny345.out, List.length_take]; omega); rw [← Ny345.out] at hr40; rw [← hy40] at hcut40; have HR348 := Aside0.mk hr40; have HC348 := Aside0.mk (show y345.length ≤ co7 from by omega); clear hr40 hC40 hroom40 hi040 hsz40; have KY40 := Aside0.mk hy40; clear hy40; have KL40 := Aside0.mk (show ((ji31) : Int).toNat ≤ t328.length from by omega); replace q40 := eq_true q40))
       go_loopg [69] kj3 (fun kq v69 w' => ∃ (x69_2 : Int) (x328000_2 : Int) (x328001_2 : Int) (x345002_2 : List (S68)) (u345002 : Value), v69 = .int .i64 x69_2 ∧ Aside0 (impl_HintOf.l0 kq a0 t328 y345 (y345.length : Int) x69_2 t329 ((rd_T37 t328 (ji31)).f2.f1) x345002_2 = some (r1, r2, r3, r4)) ∧ Aside0 (kq ≤ kj3) ∧ Aside0 (Kd.R k37 37 w' w.heap.size (fun _ => True) (.slice (some ad343) t328.length co7) t328) ∧ Aside0 (Kd.R k68 68 w' w.heap.size (fun _ => True) u345002 x345002_2) ∧ Aside0 (w'.heap[gb327]? = some (.cells #[.int .i64 x328000_2, .int .i64 x328001_2, (.slice none 0 0)] 40 (0, 0))) ∧ Aside0 (w'.heap[gb344]? = some (.cells #[.int .i64 t329, .int .i64 ((rd_T37 t328 (ji31)).f2.f1), u345002] 40 (0, 0))) ∧ Aside0 (Below w.heap.size w w'))
       case atStart => exact ⟨(0), (0), (0), (([] : List (S68))), (.slice none 0 0), rs_, H', ⟨Nat.le_refl _⟩, ⟨rr_ HO_6⟩, ⟨by first | exact Kd.R_nil _ _ _ _ _ | exact Kd.N_nil _ _ _ _ _ | exact Kd.V_nil _ _ _ _ _ | exact Kd.Q_nil _ _ _ _ _ | exact Kd.S_nil _ _ _ _ _⟩, ⟨bk_ BK327⟩, ⟨bk_ BK344⟩, ⟨by repeat (first | (with_reducible first | exact HB.out | apply below_alloc | apply pw_below_drewN | apply below_drew1 | refine below_set ?_ GE327.out | refine below_set ?_ GE344.out) | exact HB.out)⟩⟩
       case round =>
        clear H'
        try clear c1
        try clear c2
        try clear p2
        try clear c3
        try clear p3
        try clear q3
        try clear hx3
        try clear q4
        try clear p6
        try clear c10
        try clear c10b0
        try clear c10b1
        try clear c12
        try clear c14
        try clear c15
        try clear c29
        try clear c32
        try clear c32b0
        try clear c33
        try clear c33b0
        try clear c34
        try clear c34b0
        try clear p34
        try clear q34
        try clear hx34
        try clear c35
        try clear c35b0
        try clear c35b1
        try clear c36
        try clear c37
        try clear q40
        try clear hcz30_0
        try clear hcz30_1
        try clear hcz30_2
        try clear hcz38_0
        try clear hcz38_1
        try clear hcz38_2
        try clear hfz30_0
        try clear hfz30_1
        try clear hfz30_2
        try clear hfz38_0
        try clear hfz38_1
        try clear hfz38_2
        try clear hx343_0
        try clear hx343_1
        try clear hx343_2
        try clear hx343_3
        try clear hx343_4
        try clear hx343_5
        try clear hx343_6
        try clear hx343_7
        try clear p2
        try clear p343
        try clear p6
        try clear q343
        try clear q40
        obtain ⟨x69_2, x328000_2, x328001_2, x345002_2, u345002, rfl, HA, HK2, HO_6, HO_345002, BK327, BK344, HB⟩ := hrel
        cases gk with
        | zero => exact absurd HA.out (by simp [impl_HintOf.l0])
        | succ k2 =>
         have H := HA.out
         clear HA
         simp only [impl_HintOf.l0] at H
         by_cases c41 : x69_2 < (y345.length : Int)
         ·rw [if_pos c41] at H
          have c41b0 : decide (x69_2 < (y345.length : Int)) = true := decide_eq_true c41
          clear c41
          by_cases c42 : 0 ≤ x69_2
          ·rw [if_pos c42] at H
           have c42b0 : decide (0 ≤ x69_2) = true := decide_eq_true c42
           clear c42
           by_cases c43 : x69_2 < (y345.length : Int)
           ·rw [if_pos c43] at H
            have c43b0 : decide (x69_2 < (y345.length : Int)) = true := decide_eq_true c43
            clear c43
            have HC44 := Aside0.mk H
            clear H
            have p349 : 0 ≤ (x69_2 : Int) := of_decide_eq_true as_
            have q349 : x69_2 < (y345.length : Int) := of_decide_eq_true as_
            have hl_ : y345.length ≤ t328.length := by rw [Ny345.out]; exact (List.length_take_le' _ _)
            have ht_ : t328.take y345.length = y345 := by rw [Ny345.out, List.length_take, ← List.take_take, List.take_length]
            have hr_ := Kd.C_take (m := y345.length) (Kd.R_reads' HO_6.out).2.2 hl_
            rw [ht_] at hr_
            have HR348 := Aside0.mk hr_
            clear hl_ ht_ hr_
            obtain ⟨ad349, e349, hx349_0, hx349_1, hx349_2, hx349_3, hx349_4, hx349_5, hx349_6, hx349_7⟩ := at_T37 HR348.out x69_2 p349 q349
            obtain rfl : ad343 = ad349 := (by injection e349)
            (try replace hx349_0 := cb_ HB hx349_0)
            (try replace hx349_1 := cb_ HB hx349_1)
            (try replace hx349_2 := cb_ HB hx349_2)
            (try replace hx349_3 := cb_ HB hx349_3)
            (try replace hx349_4 := cb_ HB hx349_4)
            (try replace hx349_5 := cb_ HB hx349_5)
            (try replace hx349_6 := cb_ HB hx349_6)
            (try replace hx349_7 := cb_ HB hx349_7)
            replace p349 := eq_true p349
            replace q349 := eq_true q349
            go_upto_region 9 with (first | ((with_reducible refine gate_dst (N := 11) rfl ?_); (try (refine gate_guard (by rfl) ?_; dsimp only)); refine box_event ?hg (N := 11) ?hd (cs := #[.int .i64 0, .int .i64 0, .int .i64 0, .int .i64 0, .string (⟨#[]⟩ : ByteArray), .string (⟨#[]⟩ : ByteArray), .int .i64 0, .int .i64 0]) (t := 37) ?hr ?_; (case hd => rfl); (case hg => rfl); (case hr => first | (go_simp; done) | (go_simp; rfl)); intro gb350 hg w45 hbox hb; replace HO_6 := Aside0.mk (Kd.R_below (Kd.R_elderB (rr_ HO_6) gb350 (Nat.le_of_eq hg.symm)) hb); replace HO_345002 := rb_ HO_345002 hb; have BK350 := Aside0.mk (hbox); have GW350 := ge_ hg (hu_ HB GE327 GE344); have GE350 := ge_ hg (hu_ HB GE327 GE344); replace HB := bu_ HB GE327 GE344 hb; have NB327_350 := nl_ BK327 hg; have NB350_327 := ng_ BK327 hg; replace BK327 := bb_ BK327 hb; have NB344_350 := nl_ BK344 hg; have NB350_344 := ng_ BK344 hg; replace BK344 := bb_ BK344 hb; (try replace hx349_0 := (hb.cell (World.block_lt_of_cell? _ _ hx349_0)).trans hx349_0); (try replace hx349_1 := (hb.cell (World.block_lt_of_cell? _ _ hx349_1)).trans hx349_1); (try replace hx349_2 := (hb.cell (World.block_lt_of_cell? _ _ hx349_2)).trans hx349_2); (try replace hx349_3 := (hb.cell (World.block_lt_of_cell? _ _ hx349_3)).trans hx349_3); (try replace hx349_4 := (hb.cell (World.block_lt_of_cell? _ _ hx349_4)).trans hx349_4); (try replace hx349_5 := (hb.cell (World.block_lt_of_cell? _ _ hx349_5)).trans hx349_5); (try replace hx349_6 := (hb.cell (World.block_lt_of_cell? _ _ hx349_6)).trans hx349_6); (try replace hx349_7 := (hb.cell (World.block_lt_of_cell? _ _ hx349_7)).trans hx349_7); clear hb hbox hg; have hnb46 := NB350_327.out; have hnc46 := NB327_350.out; have hnb47 := NB350_344.out; have hnc47 := NB344_350.out; obtain ⟨hcz48_0, hcz48_1, hcz48_2, hcz48_3, hcz48_4, hcz48_5, hcz48_6, hcz48_7, hfz48_0, hfz48_1, hfz48_2, hfz48_3, hfz48_4, hfz48_5, hfz48_6, hfz48_7⟩ := bc8_ BK350))
            (try simp only [Act.put, la_, lz_, ls_])
            go_cut [102] (fun v102 wc => ∃ (kq : Nat) (x102_43 : Bool), v102 = .bool x102_43 ∧ Aside0 (impl_HintOf.j2 kq a0 t328 y345 (y345.length : Int) x69_2 x102_43 t329 ((rd_T37 t328 (ji31)).f2.f1) x345002_2 ((rd_T37 y345 x69_2).f0) ((rd_T37 y345 x69_2).f1) ((rd_T37 y345 x69_2).f2.f0) ((rd_T37 y345 x69_2).f2.f1) ((rd_T37 y345 x69_2).f2.f2) ((rd_T37 y345 x69_2).f2.f3) ((rd_T37 y345 x69_2).f2.f4) ((rd_T37 y345 x69_2).f2.f5) = some (r1, r2, r3, r4)) ∧ Aside0 (kq ≤ k2) ∧ Aside0 (Kd.R k37 37 wc w.heap.size (fun k_ => k_ ≠ gb350) (.slice (some ad343) t328.length co7) t328) ∧ Aside0 (Kd.R k68 68 wc w.heap.size (fun _ => True) u345002 x345002_2) ∧ Aside0 (wc.heap[gb327]? = some (.cells #[.int .i64 x328000_2, .int .i64 x328001_2, (.slice none 0 0)] 40 (0, 0))) ∧ Aside0 (wc.heap[gb344]? = some (.cells #[.int .i64 t329, .int .i64 ((rd_T37 t328 (ji31)).f2.f1), u345002] 40 (0, 0))) ∧ Aside0 (wc.heap[gb350]? = some (.cells #[.int .i64 ((rd_T37 y345 x69_2).f0), .int .i64 ((rd_T37 y345 x69_2).f1), .int .i64 ((rd_T37 y345 x69_2).f2.f0), .int .i64 ((rd_T37 y345 x69_2).f2.f1), .string ((rd_T37 y345 x69_2).f2.f2), .string ((rd_T37 y345 x69_2).f2.f3), .int .i64 ((rd_T37 y345 x69_2).f2.f4), .int .i64 ((rd_T37 y345 x69_2).f2.f5)] 37 (0, 0))) ∧ Aside0 (Below w.heap.size w wc))
            case first =>
             have H := HC44.out
             clear HC44
             by_cases c49 : ((rd_T37 y345 x69_2).f2.f0) = 4
             ·rw [if_pos c49] at H
              have c49b0 : (((rd_T37 y345 x69_2).f2.f0) == 4) = true := beq_iff_eq.mpr c49
              have c49b1 : (((rd_T37 y345 x69_2).f2.f0) != 4) = false := bne_eq_false_iff_eq.mpr c49
              clear c49
              (first | rw [c49b0] | (simp only [i64_w, i32_w]; rw [c49b0]) | skip)
              by_cases c50 : ((rd_T37 y345 x69_2).f2.f1) > ((rd_T37 t328 (ji31)).f2.f1)
              ·rw [if_pos c50] at H
               have c50b0 : decide (((rd_T37 t328 (ji31)).f2.f1) < ((rd_T37 y345 x69_2).f2.f1)) = true := decide_eq_true c50
               clear c50
               have H' := Aside0.mk H
               clear H
               try go_wp2
               generalize hW_ : ((((((((w45.setCell ⟨gb350, 0, none⟩ (.int .i64 ((rd_T37 y345 x69_2).f0))).setCell ⟨gb350, 1, none⟩ (.int .i64 ((rd_T37 y345 x69_2).f1))).setCell ⟨gb350, 2, none⟩ (.int .i64 ((rd_T37 y345 x69_2).f2.f0))).setCell ⟨gb350, 3, none⟩ (.int .i64 ((rd_T37 y345 x69_2).f2.f1))).setCell ⟨gb350, 4, none⟩ (.string ((rd_T37 y345 x69_2).f2.f2))).setCell ⟨gb350, 5, none⟩ (.string ((rd_T37 y345 x69_2).f2.f3))).setCell ⟨gb350, 6, none⟩ (.int .i64 ((rd_T37 y345 x69_2).f2.f4))).setCell ⟨gb350, 7, none⟩ (.int .i64 ((rd_T37 y345 x69_2).f2.f5))) = w51
               replace HO_6 := un_ (fun k_ => k_ ≠ gb350) HO_6 gb350 hW_
               replace HO_345002 := ur_ (fun _ => True) HO_345002 BK350 hW_
               replace BK327 := uf_ BK327 NB327_350 hW_
               replace BK344 := uf_ BK344 NB344_350 hW_
               replace BK350 := up_ #[.int .i64 ((rd_T37 y345 x69_2).f0), .int .i64 ((rd_T37 y345 x69_2).f1), .int .i64 ((rd_T37 y345 x69_2).f2.f0), .int .i64 ((rd_T37 y345 x69_2).f2.f1), .string ((rd_T37 y345 x69_2).f2.f2), .string ((rd_T37 y345 x69_2).f2.f3), .int .i64 ((rd_T37 y345 x69_2).f2.f4), .int .i64 ((rd_T37 y345 x69_2).f2.f5)] BK350 hW_
               replace HB := us_ hW_ (hv_ HB GE327 GE344 GE350)
               clear hW_
               replace HO_6 := rd_ HO_6
               replace HO_345002 := rd_ HO_345002
               replace BK327 := bd_ BK327
               replace BK344 := bd_ BK344
               replace BK350 := bd_ BK350
               replace HB := hd_ HB
               refine start_ (n := 29) (S := k8_ gb350 (.int .i64 ((rd_T37 y345 x69_2).f0)) (.int .i64 ((rd_T37 y345 x69_2).f1)) (.int .i64 ((rd_T37 y345 x69_2).f2.f0)) (.int .i64 ((rd_T37 y345 x69_2).f2.f1)) (.string ((rd_T37 y345 x69_2).f2.f2)) (.string ((rd_T37 y345 x69_2).f2.f3)) (.int .i64 ((rd_T37 y345 x69_2).f2.f4)) (.int .i64 ((rd_T37 y345 x69_2).f2.f5)) (k3e_ gb344 (.int .i64 t329) (.int .i64 ((rd_T37 t328 (ji31)).f2.f1)) (u345002))) (ds := []) (on_ 0 29) (by kernel_rfl) rfl rfl (p8_ BK350 (p3e_ BK344)) (fun hHeld => ?_); refine with_tabW impl_HintOf.tab9 impl_HintOf.bits9 (fun HT_ HW_ => ?_)
               generalize w51.drew = w52 at HO_6 HO_345002 BK327 BK344 BK350 HB hHeld ⊢
               refine pv_' 0 74 (on_ 1 28) rfl rfl HT_ ?_
               refine pv_' 1 75 (on_ 2 27) rfl rfl HT_ ?_
               refine take_ (i := 2) (N := some 76) (v := ?_) (a' := ?_) (on_ 3 26) rfl rfl (take_ofW HT_.out HW_.out (by kernel_rfl)) (fun _ _ _ h => h) (Or.inl ⟨by rfl, ?_⟩) hHeld ?_ ?_
               rotate_left
               ·rintro w' ⟨s0, s1, s2, s3, s4, s5, s6, s7, s8, s9, s10⟩
                go_simp
                with_reducible rfl
               rotate_left
               ·simp only [Act.put, la_, lz_, ls_, i64_w, i32_w]
                rfl
               refine pv_' 3 77 (on_ 4 25) rfl rfl HT_ ?_
               refine pv_' 4 78 (on_ 5 24) rfl rfl HT_ ?_
               refine pv_' 5 79 (on_ 6 23) rfl rfl HT_ ?_
               refine pv_' 6 80 (on_ 7 22) rfl rfl HT_ ?_
               refine pv_' 8 82 #[i',i',i',i',i',i',i',o',i',o',o',o',o',o',o',o',o',o',o',o',o',o',o',o',o',o',o',o',o'] rfl rfl HT_ ?_
               refine take_ (i := 7) (N := some 81) (v := ?_) (a' := ?_) (on_ 9 20) rfl rfl (take_ofW HT_.out HW_.out (by kernel_rfl)) (fun _ _ _ h => h) (Or.inl ⟨by rfl, ?_⟩) hHeld ?_ ?_
               rotate_left
               ·rintro w' ⟨s0, s1, s2, s3, s4, s5, s6, s7, s8, s9, s10⟩
                go_simp
                with_reducible rfl
               rotate_left
               ·simp only [Act.put, la_, lz_, ls_, i64_w, i32_w]
                rfl
               refine take_ (i := 9) (N := some 83) (v := ?_) (a' := ?_) (on_ 10 19) rfl rfl (take_ofW HT_.out HW_.out (by kernel_rfl)) (fun _ _ _ h => h) (Or.inl ⟨by rfl, ?_⟩) hHeld ?_ ?_
               rotate_left
               ·rintro w' ⟨s0, s1, s2, s3, s4, s5, s6, s7, s8, s9, s10⟩
                go_simp
                with_reducible rfl
               rotate_left
               ·simp only [Act.put, la_, lz_, ls_, i64_w, i32_w]
                rfl
               refine pv_' 10 84 (on_ 11 18) rfl rfl HT_ ?_
               refine pv_' 11 85 (on_ 12 17) rfl rfl HT_ ?_
               refine pv_' 12 86 (on_ 13 16) rfl rfl HT_ ?_
               refine pun_' 13 87 (on_ 14 15) rfl rfl HT_ ?_
               refine pun_' 14 88 (on_ 15 14) rfl rfl HT_ ?_
               refine pun_' 15 89 (on_ 16 13) rfl rfl HT_ ?_
               refine pun_' 16 90 (on_ 17 12) rfl rfl HT_ ?_
               refine pun_' 17 91 (on_ 18 11) rfl rfl HT_ ?_
               refine pun_' 18 92 (on_ 19 10) rfl rfl HT_ ?_
               refine pun_' 19 93 (on_ 20 9) rfl rfl HT_ ?_
               refine pun_' 20 94 (on_ 21 8) rfl rfl HT_ ?_
               refine pun_' 21 95 (on_ 22 7) rfl rfl HT_ ?_
               refine pun_' 22 96 (on_ 23 6) rfl rfl HT_ ?_
               refine pun_' 23 97 (on_ 24 5) rfl rfl HT_ ?_
               refine pun_' 24 98 (on_ 25 4) rfl rfl HT_ ?_
               refine pun_' 25 99 (on_ 26 3) rfl rfl HT_ ?_
               refine pun_' 26 100 (on_ 27 2) rfl rfl HT_ ?_
               refine pun_' 27 101 (on_ 28 1) rfl rfl HT_ ?_
               refine pv_' 28 102 (on_ 29 0) rfl rfl HT_ ?_
               refine done_ (done_of HT_.out (by kernel_rfl)) ?_
               have Nji31_ := Aside0.mk hji31
               clear hji31
               (try clear hji31w)
               try go_wp2
               have hji31 := Nji31_.out
               clear Nji31_
               (try have hji31w := (i64_w _).trans hji31)
               go_meet
               case rel => exact ⟨_, (true), rs_, (by first | exact H' | (simp only [hji31]; exact H')), ⟨by have := HJ3.out; have := HK2.out; first | exact Nat.le_refl _ | exact Nat.le_of_succ_le this | omega⟩, ⟨rr_ HO_6⟩, ⟨rr_ HO_345002⟩, ⟨bk_ BK327⟩, ⟨bk_ BK344⟩, ⟨bk_ BK350⟩, ⟨by repeat (first | (with_reducible first | exact HB.out | apply below_alloc | apply pw_below_drewN | apply below_drew1 | refine below_set ?_ GE327.out | refine below_set ?_ GE344.out | refine below_set ?_ GE350.out) | exact HB.out)⟩⟩
              ·rw [if_neg c50] at H
               have c50b0 : decide (((rd_T37 t328 (ji31)).f2.f1) < ((rd_T37 y345 x69_2).f2.f1)) = false := decide_eq_false c50
               clear c50
               by_cases c53 : x69_2 > 0
               ·rw [if_pos c53] at H
                have c53b0 : decide (0 < x69_2) = true := decide_eq_true c53
                clear c53
                obtain ⟨ji54, hji54⟩ : ∃ j_ : Int, (wrap64 (x69_2 - 1)) = j_ := ⟨_, rfl⟩
                replace H : (if 0 ≤ (ji54) then (if (ji54) < (t328.length : Int) then (impl_HintOf.j2 k2 a0 t328 y345 (y345.length : Int) x69_2 (!(Op.bytesLess (((rd_T37 t328 (ji54)).f2.f2).toList) (((rd_T37 y345 x69_2).f2.f2).toList))) t329 ((rd_T37 t328 (ji31)).f2.f1) x345002_2 ((rd_T37 y345 x69_2).f0) ((rd_T37 y345 x69_2).f1) ((rd_T37 y345 x69_2).f2.f0) ((rd_T37 y345 x69_2).f2.f1) ((rd_T37 y345 x69_2).f2.f2) ((rd_T37 y345 x69_2).f2.f3) ((rd_T37 y345 x69_2).f2.f4) ((rd_T37 y345 x69_2).f2.f5)) else (none)) else (none)) = some (r1, r2, r3, r4) := by first | (rw [hji54] at H; exact H) | (simp only [hji54] at H ⊢; exact H)
                have hji54w : (IntKind.i64.wrap (x69_2 - 1)) = ji54 := (i64_w _).trans hji54
                by_cases c55 : 0 ≤ (ji54)
                ·rw [if_pos c55] at H
                 have c55b0 : decide (0 ≤ (ji54)) = true := decide_eq_true c55
                 clear c55
                 by_cases c56 : (ji54) < (t328.length : Int)
                 ·rw [if_pos c56] at H
                  have c56b0 : decide ((ji54) < (t328.length : Int)) = true := decide_eq_true c56
                  clear c56
                  have H' := Aside0.mk H
                  clear H
                  try go_wp2
                  generalize hW_ : ((((((((w45.setCell ⟨gb350, 0, none⟩ (.int .i64 ((rd_T37 y345 x69_2).f0))).setCell ⟨gb350, 1, none⟩ (.int .i64 ((rd_T37 y345 x69_2).f1))).setCell ⟨gb350, 2, none⟩ (.int .i64 ((rd_T37 y345 x69_2).f2.f0))).setCell ⟨gb350, 3, none⟩ (.int .i64 ((rd_T37 y345 x69_2).f2.f1))).setCell ⟨gb350, 4, none⟩ (.string ((rd_T37 y345 x69_2).f2.f2))).setCell ⟨gb350, 5, none⟩ (.string ((rd_T37 y345 x69_2).f2.f3))).setCell ⟨gb350, 6, none⟩ (.int .i64 ((rd_T37 y345 x69_2).f2.f4))).setCell ⟨gb350, 7, none⟩ (.int .i64 ((rd_T37 y345 x69_2).f2.f5))) = w57
                  replace HO_6 := un_ (fun k_ => k_ ≠ gb350) HO_6 gb350 hW_
                  replace HO_345002 := ur_ (fun _ => True) HO_345002 BK350 hW_
                  replace BK327 := uf_ BK327 NB327_350 hW_
                  replace BK344 := uf_ BK344 NB344_350 hW_
                  replace BK350 := up_ #[.int .i64 ((rd_T37 y345 x69_2).f0), .int .i64 ((rd_T37 y345 x69_2).f1), .int .i64 ((rd_T37 y345 x69_2).f2.f0), .int .i64 ((rd_T37 y345 x69_2).f2.f1), .string ((rd_T37 y345 x69_2).f2.f2), .string ((rd_T37 y345 x69_2).f2.f3), .int .i64 ((rd_T37 y345 x69_2).f2.f4), .int .i64 ((rd_T37 y345 x69_2).f2.f5)] BK350 hW_
                  replace HB := us_ hW_ (hv_ HB GE327 GE344 GE350)
                  clear hW_
                  replace HO_6 := rd_ HO_6
                  replace HO_345002 := rd_ HO_345002
                  replace BK327 := bd_ BK327
                  replace BK344 := bd_ BK344
                  replace BK350 := bd_ BK350
                  replace HB := hd_ HB
                  have p351 : 0 ≤ ((ji54) : Int) := of_decide_eq_true as_
                  have q351 : (ji54) < (t328.length : Int) := of_decide_eq_true as_
                  obtain ⟨ad351, e351, hx351_0, hx351_1, hx351_2, hx351_3, hx351_4, hx351_5, hx351_6, hx351_7⟩ := at_T37 (Kd.R_reads' HO_6.out).2.2 (ji54) p351 q351
                  obtain rfl : ad343 = ad351 := (by injection e351)
                  replace p351 := eq_true p351
                  replace q351 := eq_true q351
                  refine start_ (n := 29) (S := k8_ gb350 (.int .i64 ((rd_T37 y345 x69_2).f0)) (.int .i64 ((rd_T37 y345 x69_2).f1)) (.int .i64 ((rd_T37 y345 x69_2).f2.f0)) (.int .i64 ((rd_T37 y345 x69_2).f2.f1)) (.string ((rd_T37 y345 x69_2).f2.f2)) (.string ((rd_T37 y345 x69_2).f2.f3)) (.int .i64 ((rd_T37 y345 x69_2).f2.f4)) (.int .i64 ((rd_T37 y345 x69_2).f2.f5)) (k3_ gb344 (.int .i64 t329) (.int .i64 ((rd_T37 t328 (ji31)).f2.f1)) (u345002) (e8e_ (ad343.add (((ji54)).toNat * 8)) (.int .i64 ((rd_T37 t328 (ji54)).f0)) (.int .i64 ((rd_T37 t328 (ji54)).f1)) (.int .i64 ((rd_T37 t328 (ji54)).f2.f0)) (.int .i64 ((rd_T37 t328 (ji54)).f2.f1)) (.string ((rd_T37 t328 (ji54)).f2.f2)) (.string ((rd_T37 t328 (ji54)).f2.f3)) (.int .i64 ((rd_T37 t328 (ji54)).f2.f4)) (.int .i64 ((rd_T37 t328 (ji54)).f2.f5))))) (ds := []) (on_ 0 29) (by kernel_rfl) rfl rfl (p8_ BK350 (p3_ BK344 (q8e_ hx351_0 hx351_1 hx351_2 hx351_3 hx351_4 hx351_5 hx351_6 hx351_7))) (fun hHeld => ?_); refine with_tabW impl_HintOf.tab9 impl_HintOf.bits9 (fun HT_ HW_ => ?_)
                  generalize w57.drew = w58 at HO_6 HO_345002 BK327 BK344 BK350 HB hx351_0 hx351_1 hx351_2 hx351_3 hx351_4 hx351_5 hx351_6 hx351_7 hHeld ⊢
                  refine pv_' 0 74 (on_ 1 28) rfl rfl HT_ ?_
                  refine pv_' 1 75 (on_ 2 27) rfl rfl HT_ ?_
                  refine take_ (i := 2) (N := some 76) (v := ?_) (a' := ?_) (on_ 3 26) rfl rfl (take_ofW HT_.out HW_.out (by kernel_rfl)) (fun _ _ _ h => h) (Or.inl ⟨by rfl, ?_⟩) hHeld ?_ ?_
                  rotate_left
                  ·rintro w' ⟨s0, s1, s2, s3, s4, s5, s6, s7, s8, s9, s10, s11, s12, s13, s14, s15, s16, s17, s18⟩
                   go_simp
                   with_reducible rfl
                  rotate_left
                  ·simp only [Act.put, la_, lz_, ls_, i64_w, i32_w]
                   rfl
                  refine pv_' 3 77 (on_ 4 25) rfl rfl HT_ ?_
                  refine pv_' 4 78 (on_ 5 24) rfl rfl HT_ ?_
                  refine pv_' 5 79 (on_ 6 23) rfl rfl HT_ ?_
                  refine pv_' 6 80 (on_ 7 22) rfl rfl HT_ ?_
                  refine pv_' 8 82 #[i',i',i',i',i',i',i',o',i',o',o',o',o',o',o',o',o',o',o',o',o',o',o',o',o',o',o',o',o'] rfl rfl HT_ ?_
                  refine take_ (i := 7) (N := some 81) (v := ?_) (a' := ?_) (on_ 9 20) rfl rfl (take_ofW HT_.out HW_.out (by kernel_rfl)) (fun _ _ _ h => h) (Or.inl ⟨by rfl, ?_⟩) hHeld ?_ ?_
                  rotate_left
                  ·rintro w' ⟨s0, s1, s2, s3, s4, s5, s6, s7, s8, s9, s10, s11, s12, s13, s14, s15, s16, s17, s18⟩
                   go_simp
                   with_reducible rfl
                  rotate_left
                  ·simp only [Act.put, la_, lz_, ls_, i64_w, i32_w]
                   rfl
                  refine take_ (i := 9) (N := some 83) (v := ?_) (a' := ?_) (on_ 10 19) rfl rfl (take_ofW HT_.out HW_.out (by kernel_rfl)) (fun _ _ _ h => h) (Or.inl ⟨by rfl, ?_⟩) hHeld ?_ ?_
                  rotate_left
                  ·rintro w' ⟨s0, s1, s2, s3, s4, s5, s6, s7, s8, s9, s10, s11, s12, s13, s14, s15, s16, s17, s18⟩
                   go_simp
                   with_reducible rfl
                  rotate_left
                  ·simp only [Act.put, la_, lz_, ls_, i64_w, i32_w]
                   rfl
                  refine pv_' 10 84 (on_ 11 18) rfl rfl HT_ ?_
                  refine pv_' 11 85 (on_ 12 17) rfl rfl HT_ ?_
                  refine pv_' 12 86 (on_ 13 16) rfl rfl HT_ ?_
                  refine pv_' 13 87 (on_ 14 15) rfl rfl HT_ ?_
                  refine pv_' 14 88 (on_ 15 14) rfl rfl HT_ ?_
                  refine pv_' 15 89 (on_ 16 13) rfl rfl HT_ ?_
                  refine pv_' 16 90 (on_ 17 12) rfl rfl HT_ ?_
                  refine pv_' 17 91 (on_ 18 11) rfl rfl HT_ ?_
                  refine pv_' 18 92 (on_ 19 10) rfl rfl HT_ ?_
                  refine pv_' 19 93 (on_ 20 9) rfl rfl HT_ ?_
                  refine pv_' 20 94 (on_ 21 8) rfl rfl HT_ ?_
                  refine pv_' 21 95 (on_ 22 7) rfl rfl HT_ ?_
                  refine pv_' 23 97 #[i',i',i',i',i',i',i',i',i',i',i',i',i',i',i',i',i',i',i',i',i',i',o',i',o',o',o',o',o'] rfl rfl HT_ ?_
                  refine pv_' 24 98 #[i',i',i',i',i',i',i',i',i',i',i',i',i',i',i',i',i',i',i',i',i',i',o',i',i',o',o',o',o'] rfl rfl HT_ ?_
                  refine take_ (i := 22) (N := some 96) (v := ?_) (a' := ?_) (on_ 25 4) rfl rfl (take_ofW HT_.out HW_.out (by kernel_rfl)) (fun _ _ _ h => h) (Or.inl ⟨by rfl, ?_⟩) hHeld ?_ ?_
                  rotate_left
                  ·rintro w' ⟨s0, s1, s2, s3, s4, s5, s6, s7, s8, s9, s10, s11, s12, s13, s14, s15, s16, s17, s18⟩
                   go_simp
                   with_reducible rfl
                  rotate_left
                  ·simp only [Act.put, la_, lz_, ls_, i64_w, i32_w]
                   rfl
                  refine take_ (i := 25) (N := some 99) (v := ?_) (a' := ?_) (on_ 26 3) rfl rfl (take_ofW HT_.out HW_.out (by kernel_rfl)) (fun _ _ _ h => h) (Or.inl ⟨by rfl, ?_⟩) hHeld ?_ ?_
                  rotate_left
                  ·rintro w' ⟨s0, s1, s2, s3, s4, s5, s6, s7, s8, s9, s10, s11, s12, s13, s14, s15, s16, s17, s18⟩
                   go_simp
                   with_reducible rfl
                  rotate_left
                  ·simp only [Act.put, la_, lz_, ls_, i64_w, i32_w]
                   rfl
                  refine pv_' 26 100 (on_ 27 2) rfl rfl HT_ ?_
                  refine pv_' 27 101 (on_ 28 1) rfl rfl HT_ ?_
                  refine pv_' 28 102 (on_ 29 0) rfl rfl HT_ ?_
                  refine done_ (done_of HT_.out (by kernel_rfl)) ?_
                  have Nji54_ := Aside0.mk hji54
                  clear hji54
                  (try clear hji54w)
                  have Nji31_ := Aside0.mk hji31
                  clear hji31
                  (try clear hji31w)
                  try go_wp2
                  have hji31 := Nji31_.out
                  clear Nji31_
                  (try have hji31w := (i64_w _).trans hji31)
                  have hji54 := Nji54_.out
                  clear Nji54_
                  (try have hji54w := (i64_w _).trans hji54)
                  go_meet
                  case rel => exact ⟨_, (!(Op.bytesLess (((rd_T37 t328 (ji54)).f2.f2).toList) (((rd_T37 y345 x69_2).f2.f2).toList))), (by first | rfl | (simp; done) | (simp only [← hji54] <;> (first | rfl | simp)) | (simp [*]; done)), (by first | exact H' | (simp only [hji54, hji31]; exact H')), ⟨by have := HJ3.out; have := HK2.out; first | exact Nat.le_refl _ | exact Nat.le_of_succ_le this | omega⟩, ⟨rr_ HO_6⟩, ⟨rr_ HO_345002⟩, ⟨bk_ BK327⟩, ⟨bk_ BK344⟩, ⟨bk_ BK350⟩, ⟨by repeat (first | (with_reducible first | exact HB.out | apply below_alloc | apply pw_below_drewN | apply below_drew1 | refine below_set ?_ GE327.out | refine below_set ?_ GE344.out | refine below_set ?_ GE350.out) | exact HB.out)⟩⟩
                 ·rw [if_neg c56] at H
                  exact absurd H (by simp)
                ·rw [if_neg c55] at H
                 exact absurd H (by simp)
               ·rw [if_neg c53] at H
                have c53b0 : decide (0 < x69_2) = false := decide_eq_false c53
                clear c53
                have H' := Aside0.mk H
                clear H
                try go_wp2
                generalize hW_ : ((((((((w45.setCell ⟨gb350, 0, none⟩ (.int .i64 ((rd_T37 y345 x69_2).f0))).setCell ⟨gb350, 1, none⟩ (.int .i64 ((rd_T37 y345 x69_2).f1))).setCell ⟨gb350, 2, none⟩ (.int .i64 ((rd_T37 y345 x69_2).f2.f0))).setCell ⟨gb350, 3, none⟩ (.int .i64 ((rd_T37 y345 x69_2).f2.f1))).setCell ⟨gb350, 4, none⟩ (.string ((rd_T37 y345 x69_2).f2.f2))).setCell ⟨gb350, 5, none⟩ (.string ((rd_T37 y345 x69_2).f2.f3))).setCell ⟨gb350, 6, none⟩ (.int .i64 ((rd_T37 y345 x69_2).f2.f4))).setCell ⟨gb350, 7, none⟩ (.int .i64 ((rd_T37 y345 x69_2).f2.f5))) = w59
                replace HO_6 := un_ (fun k_ => k_ ≠ gb350) HO_6 gb350 hW_
                replace HO_345002 := ur_ (fun _ => True) HO_345002 BK350 hW_
                replace BK327 := uf_ BK327 NB327_350 hW_
                replace BK344 := uf_ BK344 NB344_350 hW_
                replace BK350 := up_ #[.int .i64 ((rd_T37 y345 x69_2).f0), .int .i64 ((rd_T37 y345 x69_2).f1), .int .i64 ((rd_T37 y345 x69_2).f2.f0), .int .i64 ((rd_T37 y345 x69_2).f2.f1), .string ((rd_T37 y345 x69_2).f2.f2), .string ((rd_T37 y345 x69_2).f2.f3), .int .i64 ((rd_T37 y345 x69_2).f2.f4), .int .i64 ((rd_T37 y345 x69_2).f2.f5)] BK350 hW_
                replace HB := us_ hW_ (hv_ HB GE327 GE344 GE350)
                clear hW_
                replace HO_6 := rd_ HO_6
                replace HO_345002 := rd_ HO_345002
                replace BK327 := bd_ BK327
                replace BK344 := bd_ BK344
                replace BK350 := bd_ BK350
                replace HB := hd_ HB
                refine start_ (n := 29) (S := k8_ gb350 (.int .i64 ((rd_T37 y345 x69_2).f0)) (.int .i64 ((rd_T37 y345 x69_2).f1)) (.int .i64 ((rd_T37 y345 x69_2).f2.f0)) (.int .i64 ((rd_T37 y345 x69_2).f2.f1)) (.string ((rd_T37 y345 x69_2).f2.f2)) (.string ((rd_T37 y345 x69_2).f2.f3)) (.int .i64 ((rd_T37 y345 x69_2).f2.f4)) (.int .i64 ((rd_T37 y345 x69_2).f2.f5)) (k3e_ gb344 (.int .i64 t329) (.int .i64 ((rd_T37 t328 (ji31)).f2.f1)) (u345002))) (ds := []) (on_ 0 29) (by kernel_rfl) rfl rfl (p8_ BK350 (p3e_ BK344)) (fun hHeld => ?_); refine with_tabW impl_HintOf.tab9 impl_HintOf.bits9 (fun HT_ HW_ => ?_)
                generalize w59.drew = w60 at HO_6 HO_345002 BK327 BK344 BK350 HB hHeld ⊢
                refine pv_' 0 74 (on_ 1 28) rfl rfl HT_ ?_
                refine pv_' 1 75 (on_ 2 27) rfl rfl HT_ ?_
                refine take_ (i := 2) (N := some 76) (v := ?_) (a' := ?_) (on_ 3 26) rfl rfl (take_ofW HT_.out HW_.out (by kernel_rfl)) (fun _ _ _ h => h) (Or.inl ⟨by rfl, ?_⟩) hHeld ?_ ?_
                rotate_left
                ·rintro w' ⟨s0, s1, s2, s3, s4, s5, s6, s7, s8, s9, s10⟩
                 go_simp
                 with_reducible rfl
                rotate_left
                ·simp only [Act.put, la_, lz_, ls_, i64_w, i32_w]
                 rfl
                refine pv_' 3 77 (on_ 4 25) rfl rfl HT_ ?_
                refine pv_' 4 78 (on_ 5 24) rfl rfl HT_ ?_
                refine pv_' 5 79 (on_ 6 23) rfl rfl HT_ ?_
                refine pv_' 6 80 (on_ 7 22) rfl rfl HT_ ?_
                refine pv_' 8 82 #[i',i',i',i',i',i',i',o',i',o',o',o',o',o',o',o',o',o',o',o',o',o',o',o',o',o',o',o',o'] rfl rfl HT_ ?_
                refine take_ (i := 7) (N := some 81) (v := ?_) (a' := ?_) (on_ 9 20) rfl rfl (take_ofW HT_.out HW_.out (by kernel_rfl)) (fun _ _ _ h => h) (Or.inl ⟨by rfl, ?_⟩) hHeld ?_ ?_
                rotate_left
                ·rintro w' ⟨s0, s1, s2, s3, s4, s5, s6, s7, s8, s9, s10⟩
                 go_simp
                 with_reducible rfl
                rotate_left
                ·simp only [Act.put, la_, lz_, ls_, i64_w, i32_w]
                 rfl
                refine take_ (i := 9) (N := some 83) (v := ?_) (a' := ?_) (on_ 10 19) rfl rfl (take_ofW HT_.out HW_.out (by kernel_rfl)) (fun _ _ _ h => h) (Or.inl ⟨by rfl, ?_⟩) hHeld ?_ ?_
                rotate_left
                ·rintro w' ⟨s0, s1, s2, s3, s4, s5, s6, s7, s8, s9, s10⟩
                 go_simp
                 with_reducible rfl
                rotate_left
                ·simp only [Act.put, la_, lz_, ls_, i64_w, i32_w]
                 rfl
                refine pv_' 10 84 (on_ 11 18) rfl rfl HT_ ?_
                refine pv_' 11 85 (on_ 12 17) rfl rfl HT_ ?_
                refine pv_' 12 86 (on_ 13 16) rfl rfl HT_ ?_
                refine pv_' 13 87 (on_ 14 15) rfl rfl HT_ ?_
                refine pv_' 14 88 (on_ 15 14) rfl rfl HT_ ?_
                refine pv_' 15 89 (on_ 16 13) rfl rfl HT_ ?_
                refine pun_' 16 90 (on_ 17 12) rfl rfl HT_ ?_
                refine pun_' 17 91 (on_ 18 11) rfl rfl HT_ ?_
                refine pun_' 18 92 (on_ 19 10) rfl rfl HT_ ?_
                refine pun_' 19 93 (on_ 20 9) rfl rfl HT_ ?_
                refine pun_' 20 94 (on_ 21 8) rfl rfl HT_ ?_
                refine pun_' 21 95 (on_ 22 7) rfl rfl HT_ ?_
                refine pun_' 22 96 (on_ 23 6) rfl rfl HT_ ?_
                refine pun_' 23 97 (on_ 24 5) rfl rfl HT_ ?_
                refine pun_' 24 98 (on_ 25 4) rfl rfl HT_ ?_
                refine pun_' 25 99 (on_ 26 3) rfl rfl HT_ ?_
                refine pun_' 26 100 (on_ 27 2) rfl rfl HT_ ?_
                refine pv_' 27 101 (on_ 28 1) rfl rfl HT_ ?_
                refine pv_' 28 102 (on_ 29 0) rfl rfl HT_ ?_
                refine done_ (done_of HT_.out (by kernel_rfl)) ?_
                have Nji31_ := Aside0.mk hji31
                clear hji31
                (try clear hji31w)
                try go_wp2
                have hji31 := Nji31_.out
                clear Nji31_
                (try have hji31w := (i64_w _).trans hji31)
                go_meet
                case rel => exact ⟨_, (false), rs_, (by first | exact H' | (simp only [hji54, hji31]; exact H')), ⟨by have := HJ3.out; have := HK2.out; first | exact Nat.le_refl _ | exact Nat.le_of_succ_le this | omega⟩, ⟨rr_ HO_6⟩, ⟨rr_ HO_345002⟩, ⟨bk_ BK327⟩, ⟨bk_ BK344⟩, ⟨bk_ BK350⟩, ⟨by repeat (first | (with_reducible first | exact HB.out | apply below_alloc | apply pw_below_drewN | apply below_drew1 | refine below_set ?_ GE327.out | refine below_set ?_ GE344.out | refine below_set ?_ GE350.out) | exact HB.out)⟩⟩
             ·rw [if_neg c49] at H
              have c49b0 : (((rd_T37 y345 x69_2).f2.f0) == 4) = false := beq_eq_false_iff_ne.mpr c49
              have c49b1 : (((rd_T37 y345 x69_2).f2.f0) != 4) = true := bne_iff_ne.mpr c49
              (first | rw [c49b0] | (simp only [i64_w, i32_w]; rw [c49b0]) | skip)
              have H' := Aside0.mk H
              clear H
              try go_wp2
              generalize hW_ : ((((((((w45.setCell ⟨gb350, 0, none⟩ (.int .i64 ((rd_T37 y345 x69_2).f0))).setCell ⟨gb350, 1, none⟩ (.int .i64 ((rd_T37 y345 x69_2).f1))).setCell ⟨gb350, 2, none⟩ (.int .i64 ((rd_T37 y345 x69_2).f2.f0))).setCell ⟨gb350, 3, none⟩ (.int .i64 ((rd_T37 y345 x69_2).f2.f1))).setCell ⟨gb350, 4, none⟩ (.string ((rd_T37 y345 x69_2).f2.f2))).setCell ⟨gb350, 5, none⟩ (.string ((rd_T37 y345 x69_2).f2.f3))).setCell ⟨gb350, 6, none⟩ (.int .i64 ((rd_T37 y345 x69_2).f2.f4))).setCell ⟨gb350, 7, none⟩ (.int .i64 ((rd_T37 y345 x69_2).f2.f5))) = w61
              replace HO_6 := un_ (fun k_ => k_ ≠ gb350) HO_6 gb350 hW_
              replace HO_345002 := ur_ (fun _ => True) HO_345002 BK350 hW_
              replace BK327 := uf_ BK327 NB327_350 hW_
              replace BK344 := uf_ BK344 NB344_350 hW_
              replace BK350 := up_ #[.int .i64 ((rd_T37 y345 x69_2).f0), .int .i64 ((rd_T37 y345 x69_2).f1), .int .i64 ((rd_T37 y345 x69_2).f2.f0), .int .i64 ((rd_T37 y345 x69_2).f2.f1), .string ((rd_T37 y345 x69_2).f2.f2), .string ((rd_T37 y345 x69_2).f2.f3), .int .i64 ((rd_T37 y345 x69_2).f2.f4), .int .i64 ((rd_T37 y345 x69_2).f2.f5)] BK350 hW_
              replace HB := us_ hW_ (hv_ HB GE327 GE344 GE350)
              clear hW_
              replace HO_6 := rd_ HO_6
              replace HO_345002 := rd_ HO_345002
              replace BK327 := bd_ BK327
              replace BK344 := bd_ BK344
              replace BK350 := bd_ BK350
              replace HB := hd_ HB
              refine start_ (n := 29) (S := k8e_ gb350 (.int .i64 ((rd_T37 y345 x69_2).f0)) (.int .i64 ((rd_T37 y345 x69_2).f1)) (.int .i64 ((rd_T37 y345 x69_2).f2.f0)) (.int .i64 ((rd_T37 y345 x69_2).f2.f1)) (.string ((rd_T37 y345 x69_2).f2.f2)) (.string ((rd_T37 y345 x69_2).f2.f3)) (.int .i64 ((rd_T37 y345 x69_2).f2.f4)) (.int .i64 ((rd_T37 y345 x69_2).f2.f5))) (ds := []) (on_ 0 29) (by kernel_rfl) rfl rfl (p8e_ BK350) (fun hHeld => ?_); refine with_tabW impl_HintOf.tab9 impl_HintOf.bits9 (fun HT_ HW_ => ?_)
              generalize w61.drew = w62 at HO_6 HO_345002 BK327 BK344 BK350 HB hHeld ⊢
              refine pv_' 0 74 (on_ 1 28) rfl rfl HT_ ?_
              refine pv_' 1 75 (on_ 2 27) rfl rfl HT_ ?_
              refine take_ (i := 2) (N := some 76) (v := ?_) (a' := ?_) (on_ 3 26) rfl rfl (take_ofW HT_.out HW_.out (by kernel_rfl)) (fun _ _ _ h => h) (Or.inl ⟨by rfl, ?_⟩) hHeld ?_ ?_
              rotate_left
              ·rintro w' ⟨s0, s1, s2, s3, s4, s5, s6, s7⟩
               go_simp
               with_reducible rfl
              rotate_left
              ·simp only [Act.put, la_, lz_, ls_, i64_w, i32_w]
               rfl
              refine pv_' 3 77 (on_ 4 25) rfl rfl HT_ ?_
              refine pv_' 4 78 (on_ 5 24) rfl rfl HT_ ?_
              refine pun_' 5 79 (on_ 6 23) rfl rfl HT_ ?_
              refine pun_' 6 80 (on_ 7 22) rfl rfl HT_ ?_
              refine pun_' 7 81 (on_ 8 21) rfl rfl HT_ ?_
              refine pun_' 8 82 (on_ 9 20) rfl rfl HT_ ?_
              refine pun_' 9 83 (on_ 10 19) rfl rfl HT_ ?_
              refine pun_' 10 84 (on_ 11 18) rfl rfl HT_ ?_
              refine pv_' 11 85 (on_ 12 17) rfl rfl HT_ ?_
              refine pv_' 12 86 (on_ 13 16) rfl rfl HT_ ?_
              refine pun_' 13 87 (on_ 14 15) rfl rfl HT_ ?_
              refine pun_' 14 88 (on_ 15 14) rfl rfl HT_ ?_
              refine pun_' 15 89 (on_ 16 13) rfl rfl HT_ ?_
              refine pun_' 16 90 (on_ 17 12) rfl rfl HT_ ?_
              refine pun_' 17 91 (on_ 18 11) rfl rfl HT_ ?_
              refine pun_' 18 92 (on_ 19 10) rfl rfl HT_ ?_
              refine pun_' 19 93 (on_ 20 9) rfl rfl HT_ ?_
              refine pun_' 20 94 (on_ 21 8) rfl rfl HT_ ?_
              refine pun_' 21 95 (on_ 22 7) rfl rfl HT_ ?_
              refine pun_' 22 96 (on_ 23 6) rfl rfl HT_ ?_
              refine pun_' 23 97 (on_ 24 5) rfl rfl HT_ ?_
              refine pun_' 24 98 (on_ 25 4) rfl rfl HT_ ?_
              refine pun_' 25 99 (on_ 26 3) rfl rfl HT_ ?_
              refine pun_' 26 100 (on_ 27 2) rfl rfl HT_ ?_
              refine pun_' 27 101 (on_ 28 1) rfl rfl HT_ ?_
              refine pv_' 28 102 (on_ 29 0) rfl rfl HT_ ?_
              refine done_ (done_of HT_.out (by kernel_rfl)) ?_
              have Nji31_ := Aside0.mk hji31
              clear hji31
              (try clear hji31w)
              try go_wp2
              have hji31 := Nji31_.out
              clear Nji31_
              (try have hji31w := (i64_w _).trans hji31)
              go_meet
              case rel => exact ⟨_, (true), rs_, (by first | exact H' | (simp only [hji31]; exact H')), ⟨by have := HJ3.out; have := HK2.out; first | exact Nat.le_refl _ | exact Nat.le_of_succ_le this | omega⟩, ⟨rr_ HO_6⟩, ⟨rr_ HO_345002⟩, ⟨bk_ BK327⟩, ⟨bk_ BK344⟩, ⟨bk_ BK350⟩, ⟨by repeat (first | (with_reducible first | exact HB.out | apply below_alloc | apply pw_below_drewN | apply below_drew1 | refine below_set ?_ GE327.out | refine below_set ?_ GE344.out | refine below_set ?_ GE350.out) | exact HB.out)⟩⟩
            case rest =>
             clear HC44
             try clear p2
             try clear c4
             try clear c5
             try clear c49
             try clear c49b0
             try clear c49b1
             try clear c53
             try clear c53b0
             try clear c55
             try clear c56
             obtain ⟨kq, x102_43, rfl, HA, HJ43, HO_6, HO_345002, BK327, BK344, BK350, HB⟩ := hcut
             cases kq with
             | zero => exact absurd HA.out (by simp [impl_HintOf.j2])
             | succ kj43 =>
              have H := HA.out
              clear HA
              simp only [impl_HintOf.j2] at H
              by_cases c63 : x102_43 = true
              ·subst c63
               have H1 : (some (0, 0, ([] : List (S68)), false)) = some (r1, r2, r3, r4) := by rw [if_pos rfl] at H; exact H
               clear H
               have H := H1
               clear H1
               simp only [Option.some.injEq, Prod.mk.injEq] at H
               obtain ⟨rfl, rfl, rfl, rfl⟩ := H
               have hnb64 := NB327_344.out
               have hnc64 := NB344_327.out
               have hnb65 := NB327_350.out
               have hnc65 := NB350_327.out
               obtain ⟨hcz66_0, hcz66_1, hcz66_2, hfz66_0, hfz66_1, hfz66_2⟩ := bc3_ BK327
               go_wp2
               refine bodyPost_ret (results_ct rfl _ _ gb327 40 #[.int .i64 0, .int .i64 0, .slice none 0 0] (0, 0) _ rfl (by (with_reducible repeat (first | refine blk_drewN ?_ _ | refine blk_drew ?_ | refine blk_alloc ?_ _)); refine blk_put (cs := #[.int .i64 0, .int .i64 0, .slice none 0 0]) ?_ 2 _ rfl; (with_reducible repeat (first | refine blk_drewN ?_ _ | refine blk_drew ?_ | refine blk_alloc ?_ _)); refine blk_put (cs := #[.int .i64 0, .int .i64 x328001_2, .slice none 0 0]) ?_ 1 _ rfl; (with_reducible repeat (first | refine blk_drewN ?_ _ | refine blk_drew ?_ | refine blk_alloc ?_ _)); refine blk_put (cs := #[.int .i64 x328000_2, .int .i64 x328001_2, .slice none 0 0]) ?_ 0 _ rfl; (with_reducible repeat (first | refine blk_drewN ?_ _ | refine blk_drew ?_ | refine blk_alloc ?_ _)); exact BK327.out) Try.underlying40 rfl (by kernel_rfl)) rfl ?_
               exact ⟨_, by first | rfl | (simp [errW_none, errW_some] <;> rfl) | (simp only [← hji31]; first | rfl | (simp [errW_none, errW_some] <;> rfl)) | (simp [*, errW_none, errW_some] <;> rfl), by first | exact Kd.R_nil _ _ _ _ _ | exact Kd.N_nil _ _ _ _ _ | exact Kd.V_nil _ _ _ _ _ | exact Kd.Q_nil _ _ _ _ _ | exact Kd.S_nil _ _ _ _ _, by repeat (first | (with_reducible first | exact HB.out | apply below_alloc | apply pw_below_drewN | apply below_drew1 | refine below_set ?_ GE327.out | refine below_set ?_ GE344.out | refine below_set ?_ GE350.out) | exact HB.out)⟩
              ·replace c63 := Bool.eq_false_iff.mpr c63
               subst c63
               have H1 : (if x345002_2.length < 2932031007402 then (impl_HintOf.l0 kj43 a0 t328 y345 (y345.length : Int) (wrap64 (x69_2 + 1)) t329 ((rd_T37 t328 (ji31)).f2.f1) (x345002_2 ++ [(⟨((rd_T37 y345 x69_2).f2.f2), a0, ((rd_T37 y345 x69_2).f0), ((rd_T37 y345 x69_2).f1), ((rd_T37 y345 x69_2).f2.f1)⟩ : S68)])) else (none)) = some (r1, r2, r3, r4) := by rw [if_neg (show ¬ (false = true) by decide)] at H; exact H
               clear H
               have H := H1
               clear H1
               by_cases c67 : x345002_2.length < 2932031007402
               ·rw [if_pos c67] at H
                have LMc67 := Aside0.mk c67
                clear c67
                obtain ⟨y352, hy352⟩ : ∃ y_ : List (S68), y_ = (x345002_2 ++ [(⟨((rd_T37 y345 x69_2).f2.f2), a0, ((rd_T37 y345 x69_2).f0), ((rd_T37 y345 x69_2).f1), ((rd_T37 y345 x69_2).f2.f1)⟩ : S68)]) := ⟨_, rfl⟩
                replace H : (impl_HintOf.l0 kj43 a0 t328 y345 (y345.length : Int) (wrap64 (x69_2 + 1)) t329 ((rd_T37 t328 (ji31)).f2.f1) y352) = some (r1, r2, r3, r4) := by first | (rw [hy352]; with_reducible exact H) | (have H2_ := (Option.bind_some _ _).symm.trans H; rw [hy352]; with_reducible exact H2_) | (have H2_ := (Option.bind_some _ _).symm.trans H; with_reducible exact H2_) | with_reducible exact H | (rw [hy352]; exact H) | exact H
                have Ny352 := Aside0.mk hy352
                clear hy352
                have H' := Aside0.mk H
                clear H
                have hnb68 := NB344_327.out
                have hnc68 := NB327_344.out
                have hnb69 := NB344_350.out
                have hnc69 := NB350_344.out
                obtain ⟨hcz70_0, hcz70_1, hcz70_2, hfz70_0, hfz70_1, hfz70_2⟩ := bc3_ BK344
                have hnb71 := NB350_327.out
                have hnc71 := NB327_350.out
                obtain ⟨hcz72_0, hcz72_1, hcz72_2, hcz72_3, hcz72_4, hcz72_5, hcz72_6, hcz72_7, hfz72_0, hfz72_1, hfz72_2, hfz72_3, hfz72_4, hfz72_5, hfz72_6, hfz72_7⟩ := bc8_ BK350
                go_wp2_with (first | ((with_reducible refine gate_builtin (b := .append) (xs := #[.tmp 105, .tmp 118]) rfl ?_); (try (refine gate_guard (by rfl) ?_; dsimp only)); at_builtin; refine Kd.R_append k68 (w0 := w) w.heap.size rfl (.tmp 105) (.tmp 118) 38 68 (.agg #[(.string ⟨#[]⟩), (.int .i64 0), (.int .i64 0), (.int .i64 0), (.int .i64 0)]) 48 rfl Try.underlying38 info68 rfl (by decide) (by omega) u345002 x345002_2 (⟨((rd_T37 y345 x69_2).f2.f2), a0, ((rd_T37 y345 x69_2).f0), ((rd_T37 y345 x69_2).f1), ((rd_T37 y345 x69_2).f2.f1)⟩ : S68) [.string ((rd_T37 y345 x69_2).f2.f2), .int .i64 a0, .int .i64 ((rd_T37 y345 x69_2).f0), .int .i64 ((rd_T37 y345 x69_2).f1), .int .i64 ((rd_T37 y345 x69_2).f2.f1)] (fun _ => True) (fun _ => False) rfl rfl ?aP (fun _ hk => hk.elim) ?aF ?aO ?aB ?aS ?aL ?_; (case aP => exact k68_mkM _ _ _ (⟨((rd_T37 y345 x69_2).f2.f2), a0, ((rd_T37 y345 x69_2).f0), ((rd_T37 y345 x69_2).f1), ((rd_T37 y345 x69_2).f2.f1)⟩ : S68)); (case aB => exact (hv_ HB GE327 GE344 GE350)); (case aF => exact (fun _ _ => trivial)); (case aO => exact (rr_ HO_345002)); (case aS => exact (below_size (hv_ HB GE327 GE344 GE350))); (case aL => have := LMc67.out; omega); intro v353 w73 ho hb hg hat; rw [← Ny352.out] at ho; replace HO_6 := Aside0.mk (Kd.R_over' (rr_ HO_6) (Kd.R_typed (rr_ HO_345002)) (by decide) hg); replace BK327 := bg_ BK327 hg (Kd.R_ne HO_345002.out BK327.out (by decide)); replace BK344 := bg_ BK344 hg (Kd.R_ne HO_345002.out BK344.out (by decide)); replace BK350 := bg_ BK350 hg (Kd.R_ne HO_345002.out BK350.out (by decide)); replace HB := Aside0.mk (hb); have HO354 := Aside0.mk (ho); clear HO_345002; clear ho hb hg hat; obtain ⟨Ao74, co74, eo74⟩ := Kd.R_slice HO354.out; subst eo74; obtain ⟨hcz75_0, hcz75_1, hcz75_2, hfz75_0, hfz75_1, hfz75_2⟩ := bc3_ BK344))
                go_roundg kj43
                case measure => have := HJ3.out; have := HK2.out; have := HJ43.out; omega
                case rel => exact ⟨(wrap64 (x69_2 + 1)), (x328000_2), (x328001_2), (y352), (.slice Ao74 y352.length co74), rs_, (by first | exact H' | (simp only [hji31]; exact H')), ⟨by have := HJ3.out; have := HK2.out; have := HJ43.out; omega⟩, ⟨by (with_reducible repeat (first | apply Kd.R_alloc | apply Kd.R_drewN | apply Kd.R_drew)); exact Kd.R_mono (Kd.R_far (p := ⟨gb344, 2, none⟩) (Kd.R_types HO_6.out BK344.out (by decide)) (fun _ hk => hk.2) (.slice Ao74 y352.length co74)) (fun _ hk => trivial)⟩, ⟨by (with_reducible repeat (first | apply Kd.R_alloc | apply Kd.R_drewN | apply Kd.R_drew)); exact Kd.R_mono (Kd.R_far (p := ⟨gb344, 2, none⟩) (Kd.R_types HO354.out BK344.out (by decide)) (fun _ hk => hk.2) (.slice Ao74 y352.length co74)) (fun _ hk => trivial)⟩, ⟨by (with_reducible repeat (first | refine blk_drewN ?_ _ | refine blk_drew ?_ | refine blk_alloc ?_ _)); refine blk_far ?_ NB327_344.out _; (with_reducible repeat (first | refine blk_drewN ?_ _ | refine blk_drew ?_ | refine blk_alloc ?_ _)); exact BK327.out⟩, ⟨by (with_reducible repeat (first | refine blk_drewN ?_ _ | refine blk_drew ?_ | refine blk_alloc ?_ _)); refine blk_put (cs := #[.int .i64 t329, .int .i64 ((rd_T37 t328 (ji31)).f2.f1), u345002]) ?_ 2 _ rfl; (with_reducible repeat (first | refine blk_drewN ?_ _ | refine blk_drew ?_ | refine blk_alloc ?_ _)); exact BK344.out⟩, ⟨by repeat (first | (with_reducible first | exact HB.out | apply below_alloc | apply pw_below_drewN | apply below_drew1 | refine below_set ?_ GE327.out | refine below_set ?_ GE344.out | refine below_set ?_ GE350.out) | exact HB.out)⟩⟩
               ·rw [if_neg c67] at H
                exact absurd H (by simp)
           ·rw [if_neg c43] at H
            exact absurd H (by simp)
          ·rw [if_neg c42] at H
           exact absurd H (by simp)
         ·rw [if_neg c41] at H
          have c41b0 : decide (x69_2 < (y345.length : Int)) = false := decide_eq_false c41
          clear c41
          simp only [Option.some.injEq, Prod.mk.injEq] at H
          obtain ⟨rfl, rfl, rfl, rfl⟩ := H
          have hnb76 := NB344_327.out
          have hnc76 := NB327_344.out
          obtain ⟨hcz77_0, hcz77_1, hcz77_2, hfz77_0, hfz77_1, hfz77_2⟩ := bc3_ BK344
          obtain ⟨hcz78_0, hcz78_1, hcz78_2, hfz78_0, hfz78_1, hfz78_2⟩ := bc3_ BK327
          obtain ⟨Ao79, co79, eo79⟩ := Kd.R_slice HO_345002.out
          subst eo79
          go_wp2
          refine bodyPost_ret (results_ct rfl _ _ gb327 40 #[.int .i64 t329, .int .i64 ((rd_T37 t328 (ji31)).f2.f1), .slice Ao79 x345002_2.length co79] (0, 0) _ rfl (by (with_reducible repeat (first | refine blk_drewN ?_ _ | refine blk_drew ?_ | refine blk_alloc ?_ _)); refine blk_put (cs := #[.int .i64 t329, .int .i64 ((rd_T37 t328 (ji31)).f2.f1), .slice none 0 0]) ?_ 2 _ rfl; (with_reducible repeat (first | refine blk_drewN ?_ _ | refine blk_drew ?_ | refine blk_alloc ?_ _)); refine blk_put (cs := #[.int .i64 t329, .int .i64 x328001_2, .slice none 0 0]) ?_ 1 _ rfl; (with_reducible repeat (first | refine blk_drewN ?_ _ | refine blk_drew ?_ | refine blk_alloc ?_ _)); refine blk_put (cs := #[.int .i64 x328000_2, .int .i64 x328001_2, .slice none 0 0]) ?_ 0 _ rfl; (with_reducible repeat (first | refine blk_drewN ?_ _ | refine blk_drew ?_ | refine blk_alloc ?_ _)); exact BK327.out) Try.underlying40 rfl (by kernel_rfl)) rfl ?_
          exact ⟨_, by first | rfl | (simp [errW_none, errW_some] <;> rfl) | (simp only [← hji31]; first | rfl | (simp [errW_none, errW_some] <;> rfl)) | (simp [*, errW_none, errW_some] <;> rfl), by (with_reducible repeat (first | apply Kd.R_alloc | apply Kd.R_drewN | apply Kd.R_drew)); exact Kd.R_mono (Kd.R_far (p := ⟨gb327, 2, none⟩) (Kd.R_far (p := ⟨gb327, 1, none⟩) (Kd.R_far (p := ⟨gb327, 0, none⟩) (Kd.R_types HO_345002.out BK327.out (by decide)) (fun _ hk => hk.2) (.int .i64 t329)) (fun _ hk => hk.2) (.int .i64 ((rd_T37 t328 (ji31)).f2.f1))) (fun _ hk => hk.2) (.slice Ao79 x345002_2.length co79)) (fun _ hk => trivial), by repeat (first | (with_reducible first | exact HB.out | apply below_alloc | apply pw_below_drewN | apply below_drew1 | refine below_set ?_ GE327.out | refine below_set ?_ GE344.out) | exact HB.out)⟩
      ·rw [if_neg c35] at H
       exact absurd H (by simp)
     ·rw [if_neg c33] at H
      exact absurd H (by simp)
    ·rw [if_neg c32] at H
     exact absurd H (by simp)

end Go.Proofs.Ytnjmehiploelnaa.PFnExactHintOf
