-- Laid by a program of this session, a copy of the kit's printer with additions (wip/patch_print.py): myhead. Lean checks it.
import Derived.Test.YtnjmehiploelnaaPFnExactHintFitsx0
import Derived.Test.YtnjmehiploelnaaPFnExactHintFitsx9
namespace Go.Proofs.Ytnjmehiploelnaa.PFnExactHintFits
open Go.RowKit Go.Proofs.YtnjmehiploelnaaW.PrintWords Go.Proofs.YtnjmehiploelnaaW.PrintLast Go.Proofs.YtnjmehiploelnaaW.PrintMore
theorem bl_swq16701 : ∀ x y : List UInt8, (Op.bytesLess x y || x == y) = !(Op.bytesLess y x)
 | [], [] => by simp [Op.bytesLess]
 | [], _ :: _ => by simp [Op.bytesLess]
 | _ :: _, [] => by simp [Op.bytesLess]
 | a :: x, b :: y => by
  have ih := bl_swq16701 x y
  by_cases e : a = b
  ·subst e
   simp only [Op.bytesLess, List.cons_beq_cons, BEq.rfl, Bool.true_and, UInt8.lt_irrefl, decide_false, Bool.false_or]
   exact ih
  ·have e' : ¬ b = a := fun h => e h.symm
   have h1 : (a == b) = false := by simpa using e
   have h2 : (b == a) = false := by simpa using e'
   simp only [Op.bytesLess, List.cons_beq_cons, h1, h2, Bool.false_and, Bool.or_false]
   by_cases l : a < b
   ·have : ¬ b < a := fun h => UInt8.lt_asymm h l
    simp [l, this]
   ·have : b < a := UInt8.lt_of_le_of_ne (UInt8.not_lt.1 l) e'
    simp [l, this]
theorem bl_leqq16701 (t : TypeId) (a b : ByteArray) : binOp .leq t (.string a) (.string b) = pure (.bool (!(Op.bytesLess b.toList a.toList))) := by simp only [binOp, Op.stringOp, bl_swq16701]
theorem bl_gtrq16701 (t : TypeId) (a b : ByteArray) : binOp .gtr t (.string a) (.string b) = pure (.bool (Op.bytesLess b.toList a.toList)) := by simp only [binOp, Op.stringOp, bl_swq16701, Bool.not_not]
theorem bl_geqq16701 (t : TypeId) (a b : ByteArray) : binOp .geq t (.string a) (.string b) = pure (.bool (!(Op.bytesLess a.toList b.toList))) := by simp only [binOp, Op.stringOp]
attribute [local go_sem] bl_leqq16701 bl_gtrq16701 bl_geqq16701
attribute [local go_sem] max2_int min2_int max_two min_two max_three min_three max_four min_four   -- for this text's walks alone
set_option linter.unusedVariables false
set_option linter.unusedSimpArgs false

/-! ### spec_HintOf: function 15 -/
mutual
def spec_HintOf.j0 : Nat → Int → ByteArray → List (S37) → Bool → Option (Int × Int × (List (S68)) × Bool)
 | 0, _, _, _, _ => none
 | k + 1, x0, x1, x6, x42 => if x42 = true then (some (0, 0, ([] : List (S68)), false)) else (if 0 ≤ (wrap64 ((x6.length : Int) - 1)) then (if (wrap64 ((x6.length : Int) - 1)) < (x6.length : Int) then (spec_HintOf.l0 k x0 x6 (([] : List (S33))) 0 (x1.size : Int) ((rd_T37 x6 (wrap64 ((x6.length : Int) - 1))).f2.f1) ([] : List (S68))) else (none)) else (none))
def spec_HintOf.l0 : Nat → Int → List (S37) → List (S33) → Int → Int → Int → List (S68) → Option (Int × Int × (List (S68)) × Bool)
 | 0, _, _, _, _, _, _, _ => none
 | k + 1, x0, x6, x9, x10, x212000, x212001, x212002 => if (wrap64 (x10 + 1)) < (x6.length : Int) then (if 0 ≤ x10 then (if x10 < (x6.length : Int) then (if ((rd_T37 x6 x10).f2.f0) = 4 then (if ((rd_T37 x6 x10).f2.f1) > x212001 then (spec_HintOf.j2 k x0 x6 x9 x10 true x212000 x212001 x212002 ((rd_T37 x6 x10).f2.f0) ((rd_T37 x6 x10).f2.f1) ((rd_T37 x6 x10).f2.f2) ((rd_T37 x6 x10).f2.f3) ((rd_T37 x6 x10).f2.f4) ((rd_T37 x6 x10).f2.f5)) else (if x10 > 0 then (if 0 ≤ (wrap64 (x10 - 1)) then (if (wrap64 (x10 - 1)) < (x6.length : Int) then (spec_HintOf.j2 k x0 x6 x9 x10 (!(Op.bytesLess (((rd_T37 x6 (wrap64 (x10 - 1))).f2.f2).toList) (((rd_T37 x6 x10).f2.f2).toList))) x212000 x212001 x212002 ((rd_T37 x6 x10).f2.f0) ((rd_T37 x6 x10).f2.f1) ((rd_T37 x6 x10).f2.f2) ((rd_T37 x6 x10).f2.f3) ((rd_T37 x6 x10).f2.f4) ((rd_T37 x6 x10).f2.f5)) else (none)) else (none)) else (spec_HintOf.j2 k x0 x6 x9 x10 false x212000 x212001 x212002 ((rd_T37 x6 x10).f2.f0) ((rd_T37 x6 x10).f2.f1) ((rd_T37 x6 x10).f2.f2) ((rd_T37 x6 x10).f2.f3) ((rd_T37 x6 x10).f2.f4) ((rd_T37 x6 x10).f2.f5)))) else (spec_HintOf.j2 k x0 x6 x9 x10 true x212000 x212001 x212002 ((rd_T37 x6 x10).f2.f0) ((rd_T37 x6 x10).f2.f1) ((rd_T37 x6 x10).f2.f2) ((rd_T37 x6 x10).f2.f3) ((rd_T37 x6 x10).f2.f4) ((rd_T37 x6 x10).f2.f5))) else (none)) else (none)) else (if 0 ≤ (wrap64 ((x6.length : Int) - 1)) then (if (wrap64 ((x6.length : Int) - 1)) < (x6.length : Int) then (if ((rd_T37 x6 (wrap64 ((x6.length : Int) - 1))).f2.f4) = (x9.length : Int) then ((spec_SumOf.f k x9).bind fun t228 => (if ((rd_T37 x6 (wrap64 ((x6.length : Int) - 1))).f2.f5) = t228 then (some (x212000, x212001, x212002, true)) else (some (0, 0, ([] : List (S68)), false)))) else (some (0, 0, ([] : List (S68)), false))) else (none)) else (none))
def spec_HintOf.j2 : Nat → Int → List (S37) → List (S33) → Int → Bool → Int → Int → List (S68) → Int → Int → ByteArray → ByteArray → Int → Int → Option (Int × Int × (List (S68)) × Bool)
 | 0, _, _, _, _, _, _, _, _, _, _, _, _, _, _ => none
 | k + 1, x0, x6, x9, x10, x93, x212000, x212001, x212002, x217000, x217001, x217002, x217003, x217004, x217005 => if x93 = true then (some (0, 0, ([] : List (S68)), false)) else (if x9.length < 2199023255552 then (if 0 ≤ x10 then (if x10 < (x6.length : Int) then (if x212002.length < 2932031007402 then (spec_HintOf.l0 k x0 x6 (x9 ++ [(⟨x217000, x217001, x217002, x217003, x217004, x217005⟩ : S33)]) (wrap64 (x10 + 1)) x212000 x212001 (x212002 ++ [(⟨x217002, x0, (rd_T37 x6 x10).f0, (rd_T37 x6 x10).f1, x217001⟩ : S68)])) else (none)) else (none)) else (none)) else (none))
end
def spec_HintOf.f (k : Nat) (a0 : Int) (a1 : ByteArray) : Option (Int × Int × (List (S68)) × Bool) := (spec_ScanRecs.f k a1).bind fun bt204 => (if bt204.2 = (a1.size : Int) then (if (bt204.1.length : Int) = 0 then (spec_HintOf.j0 k a0 a1 bt204.1 true) else (if 0 ≤ (wrap64 ((bt204.1.length : Int) - 1)) then (if (wrap64 ((bt204.1.length : Int) - 1)) < (bt204.1.length : Int) then (if ((rd_T37 bt204.1 (wrap64 ((bt204.1.length : Int) - 1))).f2.f0) = 5 then ((spec_SegName.f k a0).bind fun t209 => (spec_HintOf.j0 k a0 a1 bt204.1 (t209.toList == ([] : List UInt8)))) else (spec_HintOf.j0 k a0 a1 bt204.1 true)) else (none)) else (none))) else (spec_HintOf.j0 k a0 a1 bt204.1 true))
theorem spec_HintOf.mono_l : ∀ k, (∀ y0 y1 y2 y3, LeO (spec_HintOf.j0 k y0 y1 y2 y3) (spec_HintOf.j0 (k + 1) y0 y1 y2 y3)) ∧ (∀ y0 y1 y2 y3 y4 y5 y6, LeO (spec_HintOf.l0 k y0 y1 y2 y3 y4 y5 y6) (spec_HintOf.l0 (k + 1) y0 y1 y2 y3 y4 y5 y6)) ∧ (∀ y0 y1 y2 y3 y4 y5 y6 y7 y8 y9 y10 y11 y12 y13, LeO (spec_HintOf.j2 k y0 y1 y2 y3 y4 y5 y6 y7 y8 y9 y10 y11 y12 y13) (spec_HintOf.j2 (k + 1) y0 y1 y2 y3 y4 y5 y6 y7 y8 y9 y10 y11 y12 y13))
 | 0 => ⟨fun _ _ _ _ r h => by simp [spec_HintOf.j0] at h, fun _ _ _ _ _ _ _ r h => by simp [spec_HintOf.l0] at h, fun _ _ _ _ _ _ _ _ _ _ _ _ _ _ r h => by simp [spec_HintOf.j2] at h⟩
 | k + 1 => by
  obtain ⟨ih0, ih1, ih2⟩ := spec_HintOf.mono_l k
  refine ⟨?_, ?_, ?_⟩
  ·intro y0 y1 y2 y3
   unfold spec_HintOf.j0
   repeat' first | (with_reducible first | exact ih0 .. | exact ih1 .. | exact ih2 .. | exact spec_ScanRecs.mono .. | exact spec_SegName.mono .. | exact spec_SumOf.mono .. | exact LeO.refl .. | exact LeO.none .. | refine LeO.ite ?_ ?_ | refine LeO.bind ?_ (fun _ => ?_)) | exact ih0 .. | exact ih1 .. | exact ih2 .. | exact spec_ScanRecs.mono .. | exact spec_SegName.mono .. | exact spec_SumOf.mono .. | exact LeO.none .. | refine LeO.ite ?_ ?_ | refine LeO.bind ?_ (fun _ => ?_)
  ·intro y0 y1 y2 y3 y4 y5 y6
   unfold spec_HintOf.l0
   repeat' first | (with_reducible first | exact ih0 .. | exact ih1 .. | exact ih2 .. | exact spec_ScanRecs.mono .. | exact spec_SegName.mono .. | exact spec_SumOf.mono .. | exact LeO.refl .. | exact LeO.none .. | refine LeO.ite ?_ ?_ | refine LeO.bind ?_ (fun _ => ?_)) | exact ih0 .. | exact ih1 .. | exact ih2 .. | exact spec_ScanRecs.mono .. | exact spec_SegName.mono .. | exact spec_SumOf.mono .. | exact LeO.none .. | refine LeO.ite ?_ ?_ | refine LeO.bind ?_ (fun _ => ?_)
  ·intro y0 y1 y2 y3 y4 y5 y6 y7 y8 y9 y10 y11 y12 y13
   unfold spec_HintOf.j2
   repeat' first | (with_reducible first | exact ih0 .. | exact ih1 .. | exact ih2 .. | exact spec_ScanRecs.mono .. | exact spec_SegName.mono .. | exact spec_SumOf.mono .. | exact LeO.refl .. | exact LeO.none .. | refine LeO.ite ?_ ?_ | refine LeO.bind ?_ (fun _ => ?_)) | exact ih0 .. | exact ih1 .. | exact ih2 .. | exact spec_ScanRecs.mono .. | exact spec_SegName.mono .. | exact spec_SumOf.mono .. | exact LeO.none .. | refine LeO.ite ?_ ?_ | refine LeO.bind ?_ (fun _ => ?_)
theorem spec_HintOf.mono : ∀ a0 a1 k, LeO (spec_HintOf.f k a0 a1) (spec_HintOf.f (k + 1) a0 a1) := by
 intro a0 a1 k
 obtain ⟨ih0, ih1, ih2⟩ := spec_HintOf.mono_l k
 unfold spec_HintOf.f
 repeat' first | (with_reducible first | exact ih0 .. | exact ih1 .. | exact ih2 .. | exact spec_ScanRecs.mono .. | exact spec_SegName.mono .. | exact spec_SumOf.mono .. | exact LeO.refl .. | exact LeO.none .. | refine LeO.ite ?_ ?_ | refine LeO.bind ?_ (fun _ => ?_)) | exact ih0 .. | exact ih1 .. | exact ih2 .. | exact spec_ScanRecs.mono .. | exact spec_SegName.mono .. | exact spec_SumOf.mono .. | exact LeO.none .. | refine LeO.ite ?_ ?_ | refine LeO.bind ?_ (fun _ => ?_)
def spec_HintOf.T10 : Bool × List (List Nat × List Nat) := (true, [([], []), ([0], [0]), ([1], [1]), ([2], [2]), ([3], [3]), ([4, 3], [3, 4]), ([3], [3]), ([6, 3], [3, 6]), ([5, 7, 3], [3, 5, 7]), ([3, 8], [3, 8]), ([9, 3], [9]), ([10], [10]), ([11, 10], [10, 11]), ([12, 10, 10], [10, 12]), ([13], [13]), ([14, 13], [13, 14]), ([13], [13]), ([13], [13]), ([17, 13], [13, 17]), ([16, 18, 13], [13, 16, 18]), ([19, 13], [13, 19]), ([20, 13], [13, 20]), ([21, 13], [13, 21]), ([15, 22, 13], [13, 15, 22]), ([13, 23, 10], [10, 13, 23]), ([10, 24], [10, 24])])
def spec_HintOf.B10 : List Nat := [0, 1, 3, 7, 15, 31, 15, 79, 255, 511, 1023, 2047, 4095, 8191, 16383, 32767, 16383, 16383, 147455, 475135, 999423, 2047999, 4145151, 8388607, 16777215, 33554431]
theorem spec_HintOf.tab10 : rtab .any (opsOf Try.f15 10) = spec_HintOf.T10 := by kernel_rfl
theorem spec_HintOf.bits10 : waitsOk spec_HintOf.T10.2 spec_HintOf.B10 = true := by kernel_rfl
def spec_HintOf.T13 : Bool × List (List Nat × List Nat) := (true, [([], []), ([0], [0]), ([], []), ([2], [2]), ([], []), ([], []), ([], []), ([5, 6], [5, 6]), ([7], [7]), ([8], [8]), ([], []), ([], []), ([10, 11], [10, 11]), ([12], [12]), ([13], [13]), ([], []), ([15], [15]), ([3, 4, 9, 14, 16], [3, 4, 9, 14, 16]), ([17], [17]), ([1, 18], [1, 18]), ([0, 1, 2, 3, 4, 5, 6, 7, 8, 9, 10, 11, 12, 13, 14, 15, 16, 17, 18, 19], []), ([20, 19, 19, 0, 1, 2, 3, 4, 5, 6, 7, 8, 9, 10, 11, 12, 13, 14, 15, 16, 17, 18, 19], [19, 20])])
def spec_HintOf.B13 : List Nat := [0, 1, 0, 4, 0, 0, 0, 96, 224, 480, 0, 0, 3072, 7168, 15360, 0, 32768, 131068, 262140, 524287, 1048575, 2097151]
theorem spec_HintOf.tab13 : rtab .any (opsOf Try.f15 13) = spec_HintOf.T13 := by kernel_rfl
theorem spec_HintOf.bits13 : waitsOk spec_HintOf.T13.2 spec_HintOf.B13 = true := by kernel_rfl
def spec_HintOf.T15 : Bool × List (List Nat × List Nat) := (true, [([], []), ([0], [0]), ([], []), ([2], [2]), ([1, 3], [1, 3]), ([4], [4]), ([5], [5]), ([6, 5], [5, 6]), ([5], [5]), ([8, 5, 5], [5, 8]), ([7, 9, 5], [5, 7, 9]), ([5, 10], [5, 10])])
def spec_HintOf.B15 : List Nat := [0, 1, 0, 4, 15, 31, 63, 127, 63, 319, 1023, 2047]
theorem spec_HintOf.tab15 : rtab .any (opsOf Try.f15 15) = spec_HintOf.T15 := by kernel_rfl
theorem spec_HintOf.bits15 : waitsOk spec_HintOf.T15.2 spec_HintOf.B15 = true := by kernel_rfl
set_option maxHeartbeats 80000000 in
set_option maxRecDepth 100000 in
theorem spec_HintOf.calls (k : Nat) (a0 : Int) (a1 : ByteArray) (r1 : Int) (r2 : Int) (r3 : List (S68)) (r4 : Bool) (w : World) (h : spec_HintOf.f k a0 a1 = some (r1, r2, r3, r4)) :
  Calls Try.prog 15 #[.int .i64 a0, .string a1] w fun e w' => ∃ v2_ : Value, e = .returned (.tuple #[.agg #[.int .i64 r1, .int .i64 r2, v2_], .bool r4]) ∧ Kd.R k68 68 w' w.heap.size (fun _ => True) v2_ r3 ∧ Below w.heap.size w w' := by
 have hu40 := Try.underlying40
 have hu33 := Try.underlying33
 have hu68 := Try.underlying68
 have HB := Aside0.mk (Below.refl w.heap.size w)
 have H : ((spec_ScanRecs.f k a1).bind fun bt204 => (if bt204.2 = (a1.size : Int) then (if (bt204.1.length : Int) = 0 then (spec_HintOf.j0 k a0 a1 bt204.1 true) else (if 0 ≤ (wrap64 ((bt204.1.length : Int) - 1)) then (if (wrap64 ((bt204.1.length : Int) - 1)) < (bt204.1.length : Int) then (if ((rd_T37 bt204.1 (wrap64 ((bt204.1.length : Int) - 1))).f2.f0) = 5 then ((spec_SegName.f k a0).bind fun t209 => (spec_HintOf.j0 k a0 a1 bt204.1 (t209.toList == ([] : List UInt8)))) else (spec_HintOf.j0 k a0 a1 bt204.1 true)) else (none)) else (none))) else (spec_HintOf.j0 k a0 a1 bt204.1 true))) = some (r1, r2, r3, r4) := h
 clear h
 replace H := Option.bind_eq_some_iff.mp H
 obtain ⟨⟨t204, t205⟩, A30, H⟩ := H
 replace H : (if t205 = (a1.size : Int) then (if (t204.length : Int) = 0 then (spec_HintOf.j0 k a0 a1 t204 true) else (if 0 ≤ (wrap64 ((t204.length : Int) - 1)) then (if (wrap64 ((t204.length : Int) - 1)) < (t204.length : Int) then (if ((rd_T37 t204 (wrap64 ((t204.length : Int) - 1))).f2.f0) = 5 then ((spec_SegName.f k a0).bind fun t209 => (spec_HintOf.j0 k a0 a1 t204 (t209.toList == ([] : List UInt8)))) else (spec_HintOf.j0 k a0 a1 t204 true)) else (none)) else (none))) else (spec_HintOf.j0 k a0 a1 t204 true)) = some (r1, r2, r3, r4) := H
 have A3 := Aside0.mk A30
 clear A30
 have HC4 := Aside0.mk H
 clear H
 go_enter Try.func15, Try.ntmps15
 go_upto_region 2 with (first | ((with_reducible refine gate_dst (N := 4) rfl ?_); (try (refine gate_guard (by rfl) ?_; dsimp only)); refine box_event ?hg (N := 4) ?hd (cs := #[.int .i64 0, .int .i64 0, .slice none 0 0]) (t := 40) ?hr ?_; (case hd => rfl); (case hg => rfl); (case hr => first | (go_simp; done) | (go_simp; rfl)); intro gb203 hg w5 hbox hb; have BK203 := Aside0.mk (hbox); have GW203 := ge_ hg (hb_ HB); have GE203 := ge_ hg (hb_ HB); replace HB := bs_ HB hb; clear hb hbox hg) | ((with_reducible refine gate_callee (f := 12) rfl ?_); refine goesL_ (some 15) rfl rfl Try.func12 (by kernel_rfl) rfl #[.string a1] rfl ar_ ?_; (with_reducible refine (spec_ScanRecs.calls k a1 t204 t205 _ A3.out).mono ?_); rintro e w6 ⟨v206, rfl, ho0, hb⟩; refine ⟨_, rfl, ?_⟩; have HO207 := Aside0.mk (Kd.R_lower ho0 (below_size (hs_ HB GE203))); replace BK203 := bb_ BK203 hb; replace HB := bt_ HB GE203 hb; (try clear hb); (try clear hb2); (try clear hk); (try clear hi); (try clear ho0)))
 (try simp only [Act.put, la_, lz_, ls_])
 go_cut [42] (fun v42 wc => ∃ (kq : Nat) (x42_3 : Bool), v42 = .bool x42_3 ∧ Aside0 (spec_HintOf.j0 kq a0 a1 t204 x42_3 = some (r1, r2, r3, r4)) ∧ Aside0 (kq ≤ k) ∧ Aside0 (Kd.R k37 37 wc w.heap.size (fun _ => True) v206 t204) ∧ Aside0 (wc.heap[gb203]? = some (.cells #[.int .i64 0, .int .i64 0, (.slice none 0 0)] 40 (0, 0))) ∧ Aside0 (Below w.heap.size w wc))
 case first =>
  have H := HC4.out
  clear HC4
  by_cases c7 : t205 = (a1.size : Int)
  ·rw [if_pos c7] at H
   have c7b0 : (t205 == (a1.size : Int)) = true := beq_iff_eq.mpr c7
   have c7b1 : (t205 != (a1.size : Int)) = false := bne_eq_false_iff_eq.mpr c7
   clear c7
   (first | rw [c7b0] | (simp only [i64_w, i32_w]; rw [c7b0]) | skip)
   by_cases c8 : (t204.length : Int) = 0
   ·rw [if_pos c8] at H
    have c8b0 : ((t204.length : Int) == 0) = true := beq_iff_eq.mpr c8
    have c8b1 : ((t204.length : Int) != 0) = false := bne_eq_false_iff_eq.mpr c8
    clear c8
    have H' := Aside0.mk H
    clear H
    obtain ⟨Ao9, co9, eo9⟩ := Kd.R_slice HO207.out
    subst eo9
    go_wp2
    go_meet
    case rel => exact ⟨_, (true), rs_, H', ⟨by first | exact Nat.le_refl _ | exact Nat.le_of_succ_le this | omega⟩, ⟨rr_ HO207⟩, ⟨bk_ BK203⟩, ⟨hs_ HB GE203⟩⟩
   ·rw [if_neg c8] at H
    have c8b0 : ((t204.length : Int) == 0) = false := beq_eq_false_iff_ne.mpr c8
    have c8b1 : ((t204.length : Int) != 0) = true := bne_iff_ne.mpr c8
    have c8b2 : ¬ (t204 = []) := fun h_ => c8 (by rw [h_]; rfl)
    obtain ⟨ji10, hji10⟩ : ∃ j_ : Int, (wrap64 ((t204.length : Int) - 1)) = j_ := ⟨_, rfl⟩
    replace H : (if 0 ≤ (ji10) then (if (ji10) < (t204.length : Int) then (if ((rd_T37 t204 (ji10)).f2.f0) = 5 then ((spec_SegName.f k a0).bind fun t209 => (spec_HintOf.j0 k a0 a1 t204 (t209.toList == ([] : List UInt8)))) else (spec_HintOf.j0 k a0 a1 t204 true)) else (none)) else (none)) = some (r1, r2, r3, r4) := by first | (rw [hji10] at H; exact H) | (simp only [hji10] at H ⊢; exact H)
    have hji10w : (IntKind.i64.wrap ((t204.length : Int) - 1)) = ji10 := (i64_w _).trans hji10
    by_cases c11 : 0 ≤ (ji10)
    ·rw [if_pos c11] at H
     have c11b0 : decide (0 ≤ (ji10)) = true := decide_eq_true c11
     clear c11
     by_cases c12 : (ji10) < (t204.length : Int)
     ·rw [if_pos c12] at H
      have c12b0 : decide ((ji10) < (t204.length : Int)) = true := decide_eq_true c12
      clear c12
      by_cases c13 : ((rd_T37 t204 (ji10)).f2.f0) = 5
      ·rw [if_pos c13] at H
       have c13b0 : (((rd_T37 t204 (ji10)).f2.f0) == 5) = true := beq_iff_eq.mpr c13
       have c13b1 : (((rd_T37 t204 (ji10)).f2.f0) != 5) = false := bne_eq_false_iff_eq.mpr c13
       clear c13
       replace H := Option.bind_eq_some_iff.mp H
       obtain ⟨t209, A140, H⟩ := H
       replace H : (spec_HintOf.j0 k a0 a1 t204 (t209.toList == ([] : List UInt8))) = some (r1, r2, r3, r4) := H
       have A14 := Aside0.mk A140
       clear A140
       have H' := Aside0.mk H
       clear H
       obtain ⟨Ao15, co15, eo15⟩ := Kd.R_slice HO207.out
       subst eo15
       have p208 : 0 ≤ ((ji10) : Int) := of_decide_eq_true as_
       have q208 : (ji10) < (t204.length : Int) := of_decide_eq_true as_
       obtain ⟨ad208, e208, hx208_0, hx208_1, hx208_2, hx208_3, hx208_4, hx208_5, hx208_6, hx208_7⟩ := at_T37 (Kd.R_reads' HO207.out).2.2 (ji10) p208 q208
       cases e208
       replace p208 := eq_true p208
       replace q208 := eq_true q208
       go_wp2_with (first | (go_at_call 37; (with_reducible refine (spec_SegName.calls k a0 t209 _ A14.out).mono ?_); rintro e w16 ⟨rfl, hb⟩; replace HO207 := rb_ HO207 hb; replace BK203 := bb_ BK203 hb; replace HB := bt_ HB GE203 hb; (try clear hb); (try clear hb2); (try clear hk); (try clear hi)))
       go_meet
       case rel => exact ⟨_, ((t209.toList == ([] : List UInt8))), rs_, (by first | exact H' | (simp only [hji10]; exact H')), ⟨by first | exact Nat.le_refl _ | exact Nat.le_of_succ_le this | omega⟩, ⟨rr_ HO207⟩, ⟨bk_ BK203⟩, ⟨hs_ HB GE203⟩⟩
      ·rw [if_neg c13] at H
       have c13b0 : (((rd_T37 t204 (ji10)).f2.f0) == 5) = false := beq_eq_false_iff_ne.mpr c13
       have c13b1 : (((rd_T37 t204 (ji10)).f2.f0) != 5) = true := bne_iff_ne.mpr c13
       have H' := Aside0.mk H
       clear H
       obtain ⟨Ao17, co17, eo17⟩ := Kd.R_slice HO207.out
       subst eo17
       have p208 : 0 ≤ ((ji10) : Int) := of_decide_eq_true as_
       have q208 : (ji10) < (t204.length : Int) := of_decide_eq_true as_
       obtain ⟨ad208, e208, hx208_0, hx208_1, hx208_2, hx208_3, hx208_4, hx208_5, hx208_6, hx208_7⟩ := at_T37 (Kd.R_reads' HO207.out).2.2 (ji10) p208 q208
       cases e208
       replace p208 := eq_true p208
       replace q208 := eq_true q208
       go_wp2
       go_meet
       case rel => exact ⟨_, (true), rs_, (by first | exact H' | (simp only [hji10]; exact H')), ⟨by first | exact Nat.le_refl _ | exact Nat.le_of_succ_le this | omega⟩, ⟨rr_ HO207⟩, ⟨bk_ BK203⟩, ⟨hs_ HB GE203⟩⟩
     ·rw [if_neg c12] at H
      exact absurd H (by simp)
    ·rw [if_neg c11] at H
     exact absurd H (by simp)
  ·rw [if_neg c7] at H
   have c7b0 : (t205 == (a1.size : Int)) = false := beq_eq_false_iff_ne.mpr c7
   have c7b1 : (t205 != (a1.size : Int)) = true := bne_iff_ne.mpr c7
   (first | rw [c7b0] | (simp only [i64_w, i32_w]; rw [c7b0]) | skip)
   have H' := Aside0.mk H
   clear H
   go_wp2
   go_meet
   case rel => exact ⟨_, (true), rs_, H', ⟨by first | exact Nat.le_refl _ | exact Nat.le_of_succ_le this | omega⟩, ⟨rr_ HO207⟩, ⟨bk_ BK203⟩, ⟨hs_ HB GE203⟩⟩
 case rest =>
  clear HC4
  try clear c1
  try clear p2
  try clear q2
  try clear hx2
  try clear p6
  try clear c7
  try clear c7b0
  try clear c7b1
  try clear c8
  try clear c8b0
  try clear c8b1
  try clear c8b2
  try clear c11
  try clear c11b0
  try clear c12
  try clear c12b0
  try clear c13
  try clear c13b0
  try clear c13b1
  try clear c15
  try clear hx208_0
  try clear hx208_1
  try clear hx208_2
  try clear hx208_3
  try clear hx208_4
  try clear hx208_5
  try clear hx208_6
  try clear hx208_7
  try clear p208
  try clear q208
  obtain ⟨kq, x42_3, rfl, HA, HJ3, HO_6, BK203, HB⟩ := hcut
  cases kq with
  | zero => exact absurd HA.out (by simp [spec_HintOf.j0])
  | succ kj3 =>
   have H := HA.out
   clear HA
   simp only [spec_HintOf.j0] at H
   by_cases c18 : x42_3 = true
   ·subst c18
    have H1 : (some (0, 0, ([] : List (S68)), false)) = some (r1, r2, r3, r4) := by rw [if_pos rfl] at H; exact H
    clear H
    have H := H1
    clear H1
    simp only [Option.some.injEq, Prod.mk.injEq] at H
    obtain ⟨rfl, rfl, rfl, rfl⟩ := H
    obtain ⟨hcz19_0, hcz19_1, hcz19_2, hfz19_0, hfz19_1, hfz19_2⟩ := bc3_ BK203
    go_wp2
    refine bodyPost_ret (results_ct rfl _ _ gb203 40 #[.int .i64 0, .int .i64 0, .slice none 0 0] (0, 0) _ rfl (by (with_reducible repeat (first | refine blk_drewN ?_ _ | refine blk_drew ?_ | refine blk_alloc ?_ _)); refine blk_put (cs := #[.int .i64 0, .int .i64 0, .slice none 0 0]) ?_ 2 _ rfl; (with_reducible repeat (first | refine blk_drewN ?_ _ | refine blk_drew ?_ | refine blk_alloc ?_ _)); refine blk_put (cs := #[.int .i64 0, .int .i64 0, .slice none 0 0]) ?_ 1 _ rfl; (with_reducible repeat (first | refine blk_drewN ?_ _ | refine blk_drew ?_ | refine blk_alloc ?_ _)); refine blk_put (cs := #[.int .i64 0, .int .i64 0, .slice none 0 0]) ?_ 0 _ rfl; (with_reducible repeat (first | refine blk_drewN ?_ _ | refine blk_drew ?_ | refine blk_alloc ?_ _)); exact BK203.out) Try.underlying40 rfl (by kernel_rfl)) rfl ?_
    exact ⟨_, by first | rfl | (simp [errW_none, errW_some] <;> rfl) | (simp [*, errW_none, errW_some] <;> rfl), by first | exact Kd.R_nil _ _ _ _ _ | exact Kd.N_nil _ _ _ _ _ | exact Kd.V_nil _ _ _ _ _ | exact Kd.Q_nil _ _ _ _ _ | exact Kd.S_nil _ _ _ _ _, hs_ HB GE203⟩
   ·replace c18 := Bool.eq_false_iff.mpr c18
    subst c18
    have H1 : (if 0 ≤ (wrap64 ((t204.length : Int) - 1)) then (if (wrap64 ((t204.length : Int) - 1)) < (t204.length : Int) then (spec_HintOf.l0 kj3 a0 t204 (([] : List (S33))) 0 (a1.size : Int) ((rd_T37 t204 (wrap64 ((t204.length : Int) - 1))).f2.f1) ([] : List (S68))) else (none)) else (none)) = some (r1, r2, r3, r4) := by rw [if_neg (show ¬ (false = true) by decide)] at H; exact H
    clear H
    have H := H1
    clear H1
    obtain ⟨ji20, hji20⟩ : ∃ j_ : Int, (wrap64 ((t204.length : Int) - 1)) = j_ := ⟨_, rfl⟩
    replace H : (if 0 ≤ (ji20) then (if (ji20) < (t204.length : Int) then (spec_HintOf.l0 kj3 a0 t204 (([] : List (S33))) 0 (a1.size : Int) ((rd_T37 t204 (ji20)).f2.f1) ([] : List (S68))) else (none)) else (none)) = some (r1, r2, r3, r4) := by first | (rw [hji20] at H; exact H) | (simp only [hji20] at H ⊢; exact H)
    have hji20w : (IntKind.i64.wrap ((t204.length : Int) - 1)) = ji20 := (i64_w _).trans hji20
    by_cases c21 : 0 ≤ (ji20)
    ·rw [if_pos c21] at H
     have c21b0 : decide (0 ≤ (ji20)) = true := decide_eq_true c21
     clear c21
     by_cases c22 : (ji20) < (t204.length : Int)
     ·rw [if_pos c22] at H
      have c22b0 : decide ((ji20) < (t204.length : Int)) = true := decide_eq_true c22
      clear c22
      obtain ⟨y212, hy212⟩ : ∃ y_ : List (S33), y_ = (([] : List (S33))) := ⟨_, rfl⟩
      replace H : (spec_HintOf.l0 kj3 a0 t204 y212 0 (a1.size : Int) ((rd_T37 t204 (ji20)).f2.f1) ([] : List (S68))) = some (r1, r2, r3, r4) := by first | (rw [hy212]; with_reducible exact H) | (have H2_ := (Option.bind_some _ _).symm.trans H; rw [hy212]; with_reducible exact H2_) | (have H2_ := (Option.bind_some _ _).symm.trans H; with_reducible exact H2_) | with_reducible exact H | (rw [hy212]; exact H) | exact H
      have Ny212 := Aside0.mk hy212
      clear hy212
      have H' := Aside0.mk H
      clear H
      obtain ⟨Ao23, co23, eo23⟩ := Kd.R_slice HO_6.out
      subst eo23
      have p210 : 0 ≤ ((ji20) : Int) := of_decide_eq_true as_
      have q210 : (ji20) < (t204.length : Int) := of_decide_eq_true as_
      obtain ⟨ad210, e210, hx210_0, hx210_1, hx210_2, hx210_3, hx210_4, hx210_5, hx210_6, hx210_7⟩ := at_T37 (Kd.R_reads' HO_6.out).2.2 (ji20) p210 q210
      cases e210
      replace p210 := eq_true p210
      replace q210 := eq_true q210
      go_wp2_with (first | ((with_reducible refine gate_dst (N := 8) rfl ?_); (try (refine gate_guard (by rfl) ?_; dsimp only)); refine box_event ?hg (N := 8) ?hd (cs := #[.int .i64 0, .int .i64 0, .slice none 0 0]) (t := 40) ?hr ?_; (case hd => rfl); (case hg => rfl); (case hr => first | (go_simp; done) | (go_simp; rfl)); intro gb211 hg w24 hbox hb; replace HO_6 := rb_ HO_6 hb; have BK211 := Aside0.mk (hbox); have GW211 := ge_ hg (hs_ HB GE203); have GE211 := ge_ hg (hs_ HB GE203); replace HB := bt_ HB GE203 hb; have NB203_211 := nl_ BK203 hg; have NB211_203 := ng_ BK203 hg; replace BK203 := bb_ BK203 hb; clear hb hbox hg; have hnb25 := NB211_203.out; have hnc25 := NB203_211.out; obtain ⟨hcz26_0, hcz26_1, hcz26_2, hfz26_0, hfz26_1, hfz26_2⟩ := bc3_ BK211) | ((with_reducible refine gate_dst (N := 55) rfl ?_); (try (refine gate_guard (by rfl) ?_; dsimp only)); refine Kd.R_lit k33 _ 33 ?hg (N := 55) ?hd (xs := ([] : List (S33))) (inner := []) (ok := fun _ => True) (okp := fun _ => True) ?hr ?hp (fun _ hk => hk) trivial (Below.refl _ _) (Nat.le_refl _) (by simp) ?_; (case hd => rfl); (case hg => rfl); (case hr => first | (go_simp; done) | (go_simp; rfl)); (case hp => exact (Reps.none _ _)); intro v213 w27 ho28 hb hg_ hnew_; clear hg_ hnew_; (first | rw [← Ny212.out] at ho28 | (simp only [Int.reduceToNat] at ho28; rw [← Ny212.out] at ho28)); replace HO_6 := rfb_ HO_6 BK211 hb; have HO214 := Aside0.mk (Kd.R_lower ho28 (below_size (hu_ HB GE203 GE211))); replace BK203 := bf_ BK203 NB203_211 hb; replace BK211 := bp_ #[.int .i64 (a1.size : Int), .int .i64 ((rd_T37 t204 (ji20)).f2.f1), .slice none 0 0] BK211 hb; replace HB := bu_ HB GE203 GE211 hb; clear hb ho28))
      go_loopg [9, 10] kj3 (fun kq v9 v10 w' => ∃ (x9_2 : List (S33)) (x10_2 : Int) (x204000_2 : Int) (x204001_2 : Int) (x212002_2 : List (S68)) (u212002 : Value), v10 = .int .i64 x10_2 ∧ Aside0 (spec_HintOf.l0 kq a0 t204 x9_2 x10_2 (a1.size : Int) ((rd_T37 t204 (ji20)).f2.f1) x212002_2 = some (r1, r2, r3, r4)) ∧ Aside0 (kq ≤ kj3) ∧ Aside0 (Kd.R k37 37 w' w.heap.size (fun _ => True) (.slice (some ad210) t204.length co23) t204) ∧ Aside0 (Kd.R k33 33 w' w.heap.size (fun _ => True) v9 x9_2) ∧ Aside0 (Kd.R k68 68 w' w.heap.size (fun _ => True) u212002 x212002_2) ∧ Aside0 (w'.heap[gb203]? = some (.cells #[.int .i64 x204000_2, .int .i64 x204001_2, (.slice none 0 0)] 40 (0, 0))) ∧ Aside0 (w'.heap[gb211]? = some (.cells #[.int .i64 (a1.size : Int), .int .i64 ((rd_T37 t204 (ji20)).f2.f1), u212002] 40 (0, 0))) ∧ Aside0 (Below w.heap.size w w'))
      case atStart => exact ⟨(y212), (0), (0), (0), (([] : List (S68))), (.slice none 0 0), rs_, H', ⟨Nat.le_refl _⟩, ⟨rr_ HO_6⟩, ⟨rr_ HO214⟩, ⟨by first | exact Kd.R_nil _ _ _ _ _ | exact Kd.N_nil _ _ _ _ _ | exact Kd.V_nil _ _ _ _ _ | exact Kd.Q_nil _ _ _ _ _ | exact Kd.S_nil _ _ _ _ _⟩, ⟨bk_ BK203⟩, ⟨bk_ BK211⟩, ⟨by repeat (first | (with_reducible first | exact HB.out | apply below_alloc | apply pw_below_drewN | apply below_drew1 | refine below_set ?_ GE203.out | refine below_set ?_ GE211.out) | exact HB.out)⟩⟩
      case round =>
       clear H'
       try clear c1
       try clear c2
       try clear p2
       try clear q2
       try clear hx2
       try clear p6
       try clear c7
       try clear c7b0
       try clear c7b1
       try clear c8
       try clear c8b0
       try clear c8b1
       try clear c8b2
       try clear c11
       try clear c11b0
       try clear c12
       try clear c12b0
       try clear c13
       try clear c13b0
       try clear c13b1
       try clear c15
       try clear c18
       try clear p20
       try clear q20
       try clear hx20
       try clear c21
       try clear c21b0
       try clear p21
       try clear q21
       try clear hx21
       try clear c22
       try clear c22b0
       try clear c25
       try clear hcz19_0
       try clear hcz19_1
       try clear hcz19_2
       try clear hcz26_0
       try clear hcz26_1
       try clear hcz26_2
       try clear hfz19_0
       try clear hfz19_1
       try clear hfz19_2
       try clear hfz26_0
       try clear hfz26_1
       try clear hfz26_2
       try clear hx208_0
       try clear hx208_1
       try clear hx208_2
       try clear hx208_3
       try clear hx208_4
       try clear hx208_5
       try clear hx208_6
       try clear hx208_7
       try clear hx210_0
       try clear hx210_1
       try clear hx210_2
       try clear hx210_3
       try clear hx210_4
       try clear hx210_5
       try clear hx210_6
       try clear hx210_7
       try clear p2
       try clear p208
       try clear p210
       try clear p6
       try clear q2
       try clear q208
       try clear q210
       obtain ⟨x9_2, x10_2, x204000_2, x204001_2, x212002_2, u212002, rfl, HA, HK2, HO_6, HO_9, HO_212002, BK203, BK211, HB⟩ := hrel
       cases gk with
       | zero => exact absurd HA.out (by simp [spec_HintOf.l0])
       | succ k2 =>
        have H := HA.out
        clear HA
        simp only [spec_HintOf.l0] at H
        by_cases c29 : (wrap64 (x10_2 + 1)) < (t204.length : Int)
        ·rw [if_pos c29] at H
         have c29b0 : decide ((wrap64 (x10_2 + 1)) < (t204.length : Int)) = true := decide_eq_true c29
         clear c29
         by_cases c30 : 0 ≤ x10_2
         ·rw [if_pos c30] at H
          have c30b0 : decide (0 ≤ x10_2) = true := decide_eq_true c30
          clear c30
          by_cases c31 : x10_2 < (t204.length : Int)
          ·rw [if_pos c31] at H
           have c31b0 : decide (x10_2 < (t204.length : Int)) = true := decide_eq_true c31
           clear c31
           have HC32 := Aside0.mk H
           clear H
           have p215 : 0 ≤ (x10_2 : Int) := of_decide_eq_true as_
           have q215 : x10_2 < (t204.length : Int) := of_decide_eq_true as_
           obtain ⟨ad215, e215, hx215_0, hx215_1, hx215_2, hx215_3, hx215_4, hx215_5, hx215_6, hx215_7⟩ := at_T37 (Kd.R_reads' HO_6.out).2.2 x10_2 p215 q215
           obtain rfl : ad210 = ad215 := (by injection e215)
           replace p215 := eq_true p215
           replace q215 := eq_true q215
           go_upto_region 10 with (first | ((with_reducible refine gate_dst (N := 11) rfl ?_); (try (refine gate_guard (by rfl) ?_; dsimp only)); refine box_event ?hg (N := 11) ?hd (cs := #[.int .i64 0, .int .i64 0, .string (⟨#[]⟩ : ByteArray), .string (⟨#[]⟩ : ByteArray), .int .i64 0, .int .i64 0]) (t := 33) ?hr ?_; (case hd => rfl); (case hg => rfl); (case hr => first | (go_simp; done) | (go_simp; rfl)); intro gb216 hg w33 hbox hb; replace HO_6 := rb_ HO_6 hb; replace HO_9 := Aside0.mk (Kd.R_below (Kd.R_elderB (rr_ HO_9) gb216 (Nat.le_of_eq hg.symm)) hb); replace HO_212002 := rb_ HO_212002 hb; have BK216 := Aside0.mk (hbox); have GW216 := ge_ hg (hu_ HB GE203 GE211); have GE216 := ge_ hg (hu_ HB GE203 GE211); replace HB := bu_ HB GE203 GE211 hb; have NB203_216 := nl_ BK203 hg; have NB216_203 := ng_ BK203 hg; replace BK203 := bb_ BK203 hb; have NB211_216 := nl_ BK211 hg; have NB216_211 := ng_ BK211 hg; replace BK211 := bb_ BK211 hb; clear hb hbox hg; have hnb34 := NB216_203.out; have hnc34 := NB203_216.out; have hnb35 := NB216_211.out; have hnc35 := NB211_216.out; obtain ⟨hcz36_0, hcz36_1, hcz36_2, hcz36_3, hcz36_4, hcz36_5, hfz36_0, hfz36_1, hfz36_2, hfz36_3, hfz36_4, hfz36_5⟩ := bc6_ BK216))
           (try simp only [Act.put, la_, lz_, ls_])
           go_cut [93] (fun v93 wc => ∃ (kq : Nat) (x93_31 : Bool), v93 = .bool x93_31 ∧ Aside0 (spec_HintOf.j2 kq a0 t204 x9_2 x10_2 x93_31 (a1.size : Int) ((rd_T37 t204 (ji20)).f2.f1) x212002_2 ((rd_T37 t204 x10_2).f2.f0) ((rd_T37 t204 x10_2).f2.f1) ((rd_T37 t204 x10_2).f2.f2) ((rd_T37 t204 x10_2).f2.f3) ((rd_T37 t204 x10_2).f2.f4) ((rd_T37 t204 x10_2).f2.f5) = some (r1, r2, r3, r4)) ∧ Aside0 (kq ≤ k2) ∧ Aside0 (Kd.R k37 37 wc w.heap.size (fun _ => True) (.slice (some ad210) t204.length co23) t204) ∧ Aside0 (Kd.R k33 33 wc w.heap.size (fun k_ => k_ ≠ gb216) u9 x9_2) ∧ Aside0 (Kd.R k68 68 wc w.heap.size (fun _ => True) u212002 x212002_2) ∧ Aside0 (wc.heap[gb203]? = some (.cells #[.int .i64 x204000_2, .int .i64 x204001_2, (.slice none 0 0)] 40 (0, 0))) ∧ Aside0 (wc.heap[gb211]? = some (.cells #[.int .i64 (a1.size : Int), .int .i64 ((rd_T37 t204 (ji20)).f2.f1), u212002] 40 (0, 0))) ∧ Aside0 (wc.heap[gb216]? = some (.cells #[.int .i64 ((rd_T37 t204 x10_2).f2.f0), .int .i64 ((rd_T37 t204 x10_2).f2.f1), .string ((rd_T37 t204 x10_2).f2.f2), .string ((rd_T37 t204 x10_2).f2.f3), .int .i64 ((rd_T37 t204 x10_2).f2.f4), .int .i64 ((rd_T37 t204 x10_2).f2.f5)] 33 (0, 0))) ∧ Aside0 (Below w.heap.size w wc))
           case first =>
            have H := HC32.out
            clear HC32
            by_cases c37 : ((rd_T37 t204 x10_2).f2.f0) = 4
            ·rw [if_pos c37] at H
             have c37b0 : (((rd_T37 t204 x10_2).f2.f0) == 4) = true := beq_iff_eq.mpr c37
             have c37b1 : (((rd_T37 t204 x10_2).f2.f0) != 4) = false := bne_eq_false_iff_eq.mpr c37
             clear c37
             (first | rw [c37b0] | (simp only [i64_w, i32_w]; rw [c37b0]) | skip)
             by_cases c38 : ((rd_T37 t204 x10_2).f2.f1) > ((rd_T37 t204 (ji20)).f2.f1)
             ·rw [if_pos c38] at H
              have c38b0 : decide (((rd_T37 t204 (ji20)).f2.f1) < ((rd_T37 t204 x10_2).f2.f1)) = true := decide_eq_true c38
              clear c38
              have H' := Aside0.mk H
              clear H
              try go_wp2
              generalize hW_ : ((((((w33.setCell ⟨gb216, 0, none⟩ (.int .i64 ((rd_T37 t204 x10_2).f2.f0))).setCell ⟨gb216, 1, none⟩ (.int .i64 ((rd_T37 t204 x10_2).f2.f1))).setCell ⟨gb216, 2, none⟩ (.string ((rd_T37 t204 x10_2).f2.f2))).setCell ⟨gb216, 3, none⟩ (.string ((rd_T37 t204 x10_2).f2.f3))).setCell ⟨gb216, 4, none⟩ (.int .i64 ((rd_T37 t204 x10_2).f2.f4))).setCell ⟨gb216, 5, none⟩ (.int .i64 ((rd_T37 t204 x10_2).f2.f5))) = w39
              replace HO_6 := ur_ (fun _ => True) HO_6 BK216 hW_
              replace HO_9 := un_ (fun k_ => k_ ≠ gb216) HO_9 gb216 hW_
              replace HO_212002 := ur_ (fun _ => True) HO_212002 BK216 hW_
              replace BK203 := uf_ BK203 NB203_216 hW_
              replace BK211 := uf_ BK211 NB211_216 hW_
              replace BK216 := up_ #[.int .i64 ((rd_T37 t204 x10_2).f2.f0), .int .i64 ((rd_T37 t204 x10_2).f2.f1), .string ((rd_T37 t204 x10_2).f2.f2), .string ((rd_T37 t204 x10_2).f2.f3), .int .i64 ((rd_T37 t204 x10_2).f2.f4), .int .i64 ((rd_T37 t204 x10_2).f2.f5)] BK216 hW_
              replace HB := us_ hW_ (hv_ HB GE203 GE211 GE216)
              clear hW_
              replace HO_6 := rd_ HO_6
              replace HO_9 := rd_ HO_9
              replace HO_212002 := rd_ HO_212002
              replace BK203 := bd_ BK203
              replace BK211 := bd_ BK211
              replace BK216 := bd_ BK216
              replace HB := hd_ HB
              refine start_ (n := 26) (S := k6_ gb216 (.int .i64 ((rd_T37 t204 x10_2).f2.f0)) (.int .i64 ((rd_T37 t204 x10_2).f2.f1)) (.string ((rd_T37 t204 x10_2).f2.f2)) (.string ((rd_T37 t204 x10_2).f2.f3)) (.int .i64 ((rd_T37 t204 x10_2).f2.f4)) (.int .i64 ((rd_T37 t204 x10_2).f2.f5)) (k3e_ gb211 (.int .i64 (a1.size : Int)) (.int .i64 ((rd_T37 t204 (ji20)).f2.f1)) (u212002))) (ds := []) (on_ 0 26) (by kernel_rfl) rfl rfl (p6_ BK216 (p3e_ BK211)) (fun hHeld => ?_); refine with_tabW spec_HintOf.tab10 spec_HintOf.bits10 (fun HT_ HW_ => ?_)
              generalize w39.drew = w40 at HO_6 HO_9 HO_212002 BK203 BK211 BK216 HB hHeld ⊢
              refine pv_' 0 68 (on_ 1 25) rfl rfl HT_ ?_
              refine take_ (i := 1) (N := some 69) (v := ?_) (a' := ?_) (on_ 2 24) rfl rfl (take_ofW HT_.out HW_.out (by kernel_rfl)) (fun _ _ _ h => h) (Or.inl ⟨by rfl, ?_⟩) hHeld ?_ ?_
              rotate_left
              ·rintro w' ⟨s0, s1, s2, s3, s4, s5, s6, s7, s8⟩
               go_simp
               with_reducible rfl
              rotate_left
              ·simp only [Act.put, la_, lz_, ls_, i64_w, i32_w]
               rfl
              refine pv_' 2 70 (on_ 3 23) rfl rfl HT_ ?_
              refine pv_' 3 71 (on_ 4 22) rfl rfl HT_ ?_
              refine pv_' 4 72 (on_ 5 21) rfl rfl HT_ ?_
              refine pv_' 6 74 #[i',i',i',i',i',o',i',o',o',o',o',o',o',o',o',o',o',o',o',o',o',o',o',o',o',o'] rfl rfl HT_ ?_
              refine take_ (i := 5) (N := some 73) (v := ?_) (a' := ?_) (on_ 7 19) rfl rfl (take_ofW HT_.out HW_.out (by kernel_rfl)) (fun _ _ _ h => h) (Or.inl ⟨by rfl, ?_⟩) hHeld ?_ ?_
              rotate_left
              ·rintro w' ⟨s0, s1, s2, s3, s4, s5, s6, s7, s8⟩
               go_simp
               with_reducible rfl
              rotate_left
              ·simp only [Act.put, la_, lz_, ls_, i64_w, i32_w]
               rfl
              refine take_ (i := 7) (N := some 75) (v := ?_) (a' := ?_) (on_ 8 18) rfl rfl (take_ofW HT_.out HW_.out (by kernel_rfl)) (fun _ _ _ h => h) (Or.inl ⟨by rfl, ?_⟩) hHeld ?_ ?_
              rotate_left
              ·rintro w' ⟨s0, s1, s2, s3, s4, s5, s6, s7, s8⟩
               go_simp
               with_reducible rfl
              rotate_left
              ·simp only [Act.put, la_, lz_, ls_, i64_w, i32_w]
               rfl
              refine pv_' 8 76 (on_ 9 17) rfl rfl HT_ ?_
              refine pv_' 9 77 (on_ 10 16) rfl rfl HT_ ?_
              refine pv_' 10 78 (on_ 11 15) rfl rfl HT_ ?_
              refine pun_' 11 79 (on_ 12 14) rfl rfl HT_ ?_
              refine pun_' 12 80 (on_ 13 13) rfl rfl HT_ ?_
              refine pun_' 13 81 (on_ 14 12) rfl rfl HT_ ?_
              refine pun_' 14 82 (on_ 15 11) rfl rfl HT_ ?_
              refine pun_' 15 83 (on_ 16 10) rfl rfl HT_ ?_
              refine pun_' 16 84 (on_ 17 9) rfl rfl HT_ ?_
              refine pun_' 17 85 (on_ 18 8) rfl rfl HT_ ?_
              refine pun_' 18 86 (on_ 19 7) rfl rfl HT_ ?_
              refine pun_' 19 87 (on_ 20 6) rfl rfl HT_ ?_
              refine pun_' 20 88 (on_ 21 5) rfl rfl HT_ ?_
              refine pun_' 21 89 (on_ 22 4) rfl rfl HT_ ?_
              refine pun_' 22 90 (on_ 23 3) rfl rfl HT_ ?_
              refine pun_' 23 91 (on_ 24 2) rfl rfl HT_ ?_
              refine pun_' 24 92 (on_ 25 1) rfl rfl HT_ ?_
              refine pv_' 25 93 (on_ 26 0) rfl rfl HT_ ?_
              refine done_ (done_of HT_.out (by kernel_rfl)) ?_
              have Nji20_ := Aside0.mk hji20
              clear hji20
              (try clear hji20w)
              try go_wp2
              have hji20 := Nji20_.out
              clear Nji20_
              (try have hji20w := (i64_w _).trans hji20)
              go_meet
              case rel => exact ⟨_, (true), rs_, (by first | exact H' | (simp only [hji20]; exact H')), ⟨by have := HJ3.out; have := HK2.out; first | exact Nat.le_refl _ | exact Nat.le_of_succ_le this | omega⟩, ⟨rr_ HO_6⟩, ⟨rr_ HO_9⟩, ⟨rr_ HO_212002⟩, ⟨bk_ BK203⟩, ⟨bk_ BK211⟩, ⟨bk_ BK216⟩, ⟨by repeat (first | (with_reducible first | exact HB.out | apply below_alloc | apply pw_below_drewN | apply below_drew1 | refine below_set ?_ GE203.out | refine below_set ?_ GE211.out | refine below_set ?_ GE216.out) | exact HB.out)⟩⟩
             ·rw [if_neg c38] at H
              have c38b0 : decide (((rd_T37 t204 (ji20)).f2.f1) < ((rd_T37 t204 x10_2).f2.f1)) = false := decide_eq_false c38
              clear c38
              by_cases c41 : x10_2 > 0
              ·rw [if_pos c41] at H
               have c41b0 : decide (0 < x10_2) = true := decide_eq_true c41
               clear c41
               obtain ⟨ji42, hji42⟩ : ∃ j_ : Int, (wrap64 (x10_2 - 1)) = j_ := ⟨_, rfl⟩
               replace H : (if 0 ≤ (ji42) then (if (ji42) < (t204.length : Int) then (spec_HintOf.j2 k2 a0 t204 x9_2 x10_2 (!(Op.bytesLess (((rd_T37 t204 (ji42)).f2.f2).toList) (((rd_T37 t204 x10_2).f2.f2).toList))) (a1.size : Int) ((rd_T37 t204 (ji20)).f2.f1) x212002_2 ((rd_T37 t204 x10_2).f2.f0) ((rd_T37 t204 x10_2).f2.f1) ((rd_T37 t204 x10_2).f2.f2) ((rd_T37 t204 x10_2).f2.f3) ((rd_T37 t204 x10_2).f2.f4) ((rd_T37 t204 x10_2).f2.f5)) else (none)) else (none)) = some (r1, r2, r3, r4) := by first | (rw [hji42] at H; exact H) | (simp only [hji42] at H ⊢; exact H)
               have hji42w : (IntKind.i64.wrap (x10_2 - 1)) = ji42 := (i64_w _).trans hji42
               by_cases c43 : 0 ≤ (ji42)
               ·rw [if_pos c43] at H
                have c43b0 : decide (0 ≤ (ji42)) = true := decide_eq_true c43
                clear c43
                by_cases c44 : (ji42) < (t204.length : Int)
                ·rw [if_pos c44] at H
                 have c44b0 : decide ((ji42) < (t204.length : Int)) = true := decide_eq_true c44
                 clear c44
                 have H' := Aside0.mk H
                 clear H
                 try go_wp2
                 generalize hW_ : ((((((w33.setCell ⟨gb216, 0, none⟩ (.int .i64 ((rd_T37 t204 x10_2).f2.f0))).setCell ⟨gb216, 1, none⟩ (.int .i64 ((rd_T37 t204 x10_2).f2.f1))).setCell ⟨gb216, 2, none⟩ (.string ((rd_T37 t204 x10_2).f2.f2))).setCell ⟨gb216, 3, none⟩ (.string ((rd_T37 t204 x10_2).f2.f3))).setCell ⟨gb216, 4, none⟩ (.int .i64 ((rd_T37 t204 x10_2).f2.f4))).setCell ⟨gb216, 5, none⟩ (.int .i64 ((rd_T37 t204 x10_2).f2.f5))) = w45
                 replace HO_6 := ur_ (fun _ => True) HO_6 BK216 hW_
                 replace HO_9 := un_ (fun k_ => k_ ≠ gb216) HO_9 gb216 hW_
                 replace HO_212002 := ur_ (fun _ => True) HO_212002 BK216 hW_
                 replace BK203 := uf_ BK203 NB203_216 hW_
                 replace BK211 := uf_ BK211 NB211_216 hW_
                 replace BK216 := up_ #[.int .i64 ((rd_T37 t204 x10_2).f2.f0), .int .i64 ((rd_T37 t204 x10_2).f2.f1), .string ((rd_T37 t204 x10_2).f2.f2), .string ((rd_T37 t204 x10_2).f2.f3), .int .i64 ((rd_T37 t204 x10_2).f2.f4), .int .i64 ((rd_T37 t204 x10_2).f2.f5)] BK216 hW_
                 replace HB := us_ hW_ (hv_ HB GE203 GE211 GE216)
                 clear hW_
                 replace HO_6 := rd_ HO_6
                 replace HO_9 := rd_ HO_9
                 replace HO_212002 := rd_ HO_212002
                 replace BK203 := bd_ BK203
                 replace BK211 := bd_ BK211
                 replace BK216 := bd_ BK216
                 replace HB := hd_ HB
                 have p217 : 0 ≤ ((ji42) : Int) := of_decide_eq_true as_
                 have q217 : (ji42) < (t204.length : Int) := of_decide_eq_true as_
                 obtain ⟨ad217, e217, hx217_0, hx217_1, hx217_2, hx217_3, hx217_4, hx217_5, hx217_6, hx217_7⟩ := at_T37 (Kd.R_reads' HO_6.out).2.2 (ji42) p217 q217
                 obtain rfl : ad210 = ad217 := (by injection e217)
                 replace p217 := eq_true p217
                 replace q217 := eq_true q217
                 refine start_ (n := 26) (S := k6_ gb216 (.int .i64 ((rd_T37 t204 x10_2).f2.f0)) (.int .i64 ((rd_T37 t204 x10_2).f2.f1)) (.string ((rd_T37 t204 x10_2).f2.f2)) (.string ((rd_T37 t204 x10_2).f2.f3)) (.int .i64 ((rd_T37 t204 x10_2).f2.f4)) (.int .i64 ((rd_T37 t204 x10_2).f2.f5)) (k3_ gb211 (.int .i64 (a1.size : Int)) (.int .i64 ((rd_T37 t204 (ji20)).f2.f1)) (u212002) (e8e_ (ad210.add (((ji42)).toNat * 8)) (.int .i64 ((rd_T37 t204 (ji42)).f0)) (.int .i64 ((rd_T37 t204 (ji42)).f1)) (.int .i64 ((rd_T37 t204 (ji42)).f2.f0)) (.int .i64 ((rd_T37 t204 (ji42)).f2.f1)) (.string ((rd_T37 t204 (ji42)).f2.f2)) (.string ((rd_T37 t204 (ji42)).f2.f3)) (.int .i64 ((rd_T37 t204 (ji42)).f2.f4)) (.int .i64 ((rd_T37 t204 (ji42)).f2.f5))))) (ds := []) (on_ 0 26) (by kernel_rfl) rfl rfl (p6_ BK216 (p3_ BK211 (q8e_ hx217_0 hx217_1 hx217_2 hx217_3 hx217_4 hx217_5 hx217_6 hx217_7))) (fun hHeld => ?_); refine with_tabW spec_HintOf.tab10 spec_HintOf.bits10 (fun HT_ HW_ => ?_)
                 generalize w45.drew = w46 at HO_6 HO_9 HO_212002 BK203 BK211 BK216 HB hx217_0 hx217_1 hx217_2 hx217_3 hx217_4 hx217_5 hx217_6 hx217_7 hHeld ⊢
                 refine pv_' 0 68 (on_ 1 25) rfl rfl HT_ ?_
                 refine take_ (i := 1) (N := some 69) (v := ?_) (a' := ?_) (on_ 2 24) rfl rfl (take_ofW HT_.out HW_.out (by kernel_rfl)) (fun _ _ _ h => h) (Or.inl ⟨by rfl, ?_⟩) hHeld ?_ ?_
                 rotate_left
                 ·rintro w' ⟨s0, s1, s2, s3, s4, s5, s6, s7, s8, s9, s10, s11, s12, s13, s14, s15, s16⟩
                  go_simp
                  with_reducible rfl
                 rotate_left
                 ·simp only [Act.put, la_, lz_, ls_, i64_w, i32_w]
                  rfl
                 refine pv_' 2 70 (on_ 3 23) rfl rfl HT_ ?_
                 refine pv_' 3 71 (on_ 4 22) rfl rfl HT_ ?_
                 refine pv_' 4 72 (on_ 5 21) rfl rfl HT_ ?_
                 refine pv_' 6 74 #[i',i',i',i',i',o',i',o',o',o',o',o',o',o',o',o',o',o',o',o',o',o',o',o',o',o'] rfl rfl HT_ ?_
                 refine take_ (i := 5) (N := some 73) (v := ?_) (a' := ?_) (on_ 7 19) rfl rfl (take_ofW HT_.out HW_.out (by kernel_rfl)) (fun _ _ _ h => h) (Or.inl ⟨by rfl, ?_⟩) hHeld ?_ ?_
                 rotate_left
                 ·rintro w' ⟨s0, s1, s2, s3, s4, s5, s6, s7, s8, s9, s10, s11, s12, s13, s14, s15, s16⟩
                  go_simp
                  with_reducible rfl
                 rotate_left
                 ·simp only [Act.put, la_, lz_, ls_, i64_w, i32_w]
                  rfl
                 refine take_ (i := 7) (N := some 75) (v := ?_) (a' := ?_) (on_ 8 18) rfl rfl (take_ofW HT_.out HW_.out (by kernel_rfl)) (fun _ _ _ h => h) (Or.inl ⟨by rfl, ?_⟩) hHeld ?_ ?_
                 rotate_left
                 ·rintro w' ⟨s0, s1, s2, s3, s4, s5, s6, s7, s8, s9, s10, s11, s12, s13, s14, s15, s16⟩
                  go_simp
                  with_reducible rfl
                 rotate_left
                 ·simp only [Act.put, la_, lz_, ls_, i64_w, i32_w]
                  rfl
                 refine pv_' 8 76 (on_ 9 17) rfl rfl HT_ ?_
                 refine pv_' 9 77 (on_ 10 16) rfl rfl HT_ ?_
                 refine pv_' 10 78 (on_ 11 15) rfl rfl HT_ ?_
                 refine pv_' 11 79 (on_ 12 14) rfl rfl HT_ ?_
                 refine pv_' 12 80 (on_ 13 13) rfl rfl HT_ ?_
                 refine pv_' 13 81 (on_ 14 12) rfl rfl HT_ ?_
                 refine pv_' 14 82 (on_ 15 11) rfl rfl HT_ ?_
                 refine pv_' 16 84 #[i',i',i',i',i',i',i',i',i',i',i',i',i',i',i',o',i',o',o',o',o',o',o',o',o',o'] rfl rfl HT_ ?_
                 refine pv_' 17 85 #[i',i',i',i',i',i',i',i',i',i',i',i',i',i',i',o',i',i',o',o',o',o',o',o',o',o'] rfl rfl HT_ ?_
                 refine pv_' 18 86 #[i',i',i',i',i',i',i',i',i',i',i',i',i',i',i',o',i',i',i',o',o',o',o',o',o',o'] rfl rfl HT_ ?_
                 refine pv_' 19 87 #[i',i',i',i',i',i',i',i',i',i',i',i',i',i',i',o',i',i',i',i',o',o',o',o',o',o'] rfl rfl HT_ ?_
                 refine pv_' 20 88 #[i',i',i',i',i',i',i',i',i',i',i',i',i',i',i',o',i',i',i',i',i',o',o',o',o',o'] rfl rfl HT_ ?_
                 refine pv_' 21 89 #[i',i',i',i',i',i',i',i',i',i',i',i',i',i',i',o',i',i',i',i',i',i',o',o',o',o'] rfl rfl HT_ ?_
                 refine take_ (i := 15) (N := some 83) (v := ?_) (a' := ?_) (on_ 22 4) rfl rfl (take_ofW HT_.out HW_.out (by kernel_rfl)) (fun _ _ _ h => h) (Or.inl ⟨by rfl, ?_⟩) hHeld ?_ ?_
                 rotate_left
                 ·rintro w' ⟨s0, s1, s2, s3, s4, s5, s6, s7, s8, s9, s10, s11, s12, s13, s14, s15, s16⟩
                  go_simp
                  with_reducible rfl
                 rotate_left
                 ·simp only [Act.put, la_, lz_, ls_, i64_w, i32_w]
                  rfl
                 refine take_ (i := 22) (N := some 90) (v := ?_) (a' := ?_) (on_ 23 3) rfl rfl (take_ofW HT_.out HW_.out (by kernel_rfl)) (fun _ _ _ h => h) (Or.inl ⟨by rfl, ?_⟩) hHeld ?_ ?_
                 rotate_left
                 ·rintro w' ⟨s0, s1, s2, s3, s4, s5, s6, s7, s8, s9, s10, s11, s12, s13, s14, s15, s16⟩
                  go_simp
                  with_reducible rfl
                 rotate_left
                 ·simp only [Act.put, la_, lz_, ls_, i64_w, i32_w]
                  rfl
                 refine pv_' 23 91 (on_ 24 2) rfl rfl HT_ ?_
                 refine pv_' 24 92 (on_ 25 1) rfl rfl HT_ ?_
                 refine pv_' 25 93 (on_ 26 0) rfl rfl HT_ ?_
                 refine done_ (done_of HT_.out (by kernel_rfl)) ?_
                 have Nji42_ := Aside0.mk hji42
                 clear hji42
                 (try clear hji42w)
                 have Nji20_ := Aside0.mk hji20
                 clear hji20
                 (try clear hji20w)
                 try go_wp2
                 have hji20 := Nji20_.out
                 clear Nji20_
                 (try have hji20w := (i64_w _).trans hji20)
                 have hji42 := Nji42_.out
                 clear Nji42_
                 (try have hji42w := (i64_w _).trans hji42)
                 go_meet
                 case rel => exact ⟨_, (!(Op.bytesLess (((rd_T37 t204 (ji42)).f2.f2).toList) (((rd_T37 t204 x10_2).f2.f2).toList))), (by first | rfl | (simp; done) | (simp only [← hji42] <;> (first | rfl | simp)) | (simp [*]; done)), (by first | exact H' | (simp only [hji42, hji20]; exact H')), ⟨by have := HJ3.out; have := HK2.out; first | exact Nat.le_refl _ | exact Nat.le_of_succ_le this | omega⟩, ⟨rr_ HO_6⟩, ⟨rr_ HO_9⟩, ⟨rr_ HO_212002⟩, ⟨bk_ BK203⟩, ⟨bk_ BK211⟩, ⟨bk_ BK216⟩, ⟨by repeat (first | (with_reducible first | exact HB.out | apply below_alloc | apply pw_below_drewN | apply below_drew1 | refine below_set ?_ GE203.out | refine below_set ?_ GE211.out | refine below_set ?_ GE216.out) | exact HB.out)⟩⟩
                ·rw [if_neg c44] at H
                 exact absurd H (by simp)
               ·rw [if_neg c43] at H
                exact absurd H (by simp)
              ·rw [if_neg c41] at H
               have c41b0 : decide (0 < x10_2) = false := decide_eq_false c41
               clear c41
               have H' := Aside0.mk H
               clear H
               try go_wp2
               generalize hW_ : ((((((w33.setCell ⟨gb216, 0, none⟩ (.int .i64 ((rd_T37 t204 x10_2).f2.f0))).setCell ⟨gb216, 1, none⟩ (.int .i64 ((rd_T37 t204 x10_2).f2.f1))).setCell ⟨gb216, 2, none⟩ (.string ((rd_T37 t204 x10_2).f2.f2))).setCell ⟨gb216, 3, none⟩ (.string ((rd_T37 t204 x10_2).f2.f3))).setCell ⟨gb216, 4, none⟩ (.int .i64 ((rd_T37 t204 x10_2).f2.f4))).setCell ⟨gb216, 5, none⟩ (.int .i64 ((rd_T37 t204 x10_2).f2.f5))) = w47
               replace HO_6 := ur_ (fun _ => True) HO_6 BK216 hW_
               replace HO_9 := un_ (fun k_ => k_ ≠ gb216) HO_9 gb216 hW_
               replace HO_212002 := ur_ (fun _ => True) HO_212002 BK216 hW_
               replace BK203 := uf_ BK203 NB203_216 hW_
               replace BK211 := uf_ BK211 NB211_216 hW_
               replace BK216 := up_ #[.int .i64 ((rd_T37 t204 x10_2).f2.f0), .int .i64 ((rd_T37 t204 x10_2).f2.f1), .string ((rd_T37 t204 x10_2).f2.f2), .string ((rd_T37 t204 x10_2).f2.f3), .int .i64 ((rd_T37 t204 x10_2).f2.f4), .int .i64 ((rd_T37 t204 x10_2).f2.f5)] BK216 hW_
               replace HB := us_ hW_ (hv_ HB GE203 GE211 GE216)
               clear hW_
               replace HO_6 := rd_ HO_6
               replace HO_9 := rd_ HO_9
               replace HO_212002 := rd_ HO_212002
               replace BK203 := bd_ BK203
               replace BK211 := bd_ BK211
               replace BK216 := bd_ BK216
               replace HB := hd_ HB
               refine start_ (n := 26) (S := k6_ gb216 (.int .i64 ((rd_T37 t204 x10_2).f2.f0)) (.int .i64 ((rd_T37 t204 x10_2).f2.f1)) (.string ((rd_T37 t204 x10_2).f2.f2)) (.string ((rd_T37 t204 x10_2).f2.f3)) (.int .i64 ((rd_T37 t204 x10_2).f2.f4)) (.int .i64 ((rd_T37 t204 x10_2).f2.f5)) (k3e_ gb211 (.int .i64 (a1.size : Int)) (.int .i64 ((rd_T37 t204 (ji20)).f2.f1)) (u212002))) (ds := []) (on_ 0 26) (by kernel_rfl) rfl rfl (p6_ BK216 (p3e_ BK211)) (fun hHeld => ?_); refine with_tabW spec_HintOf.tab10 spec_HintOf.bits10 (fun HT_ HW_ => ?_)
               generalize w47.drew = w48 at HO_6 HO_9 HO_212002 BK203 BK211 BK216 HB hHeld ⊢
               refine pv_' 0 68 (on_ 1 25) rfl rfl HT_ ?_
               refine take_ (i := 1) (N := some 69) (v := ?_) (a' := ?_) (on_ 2 24) rfl rfl (take_ofW HT_.out HW_.out (by kernel_rfl)) (fun _ _ _ h => h) (Or.inl ⟨by rfl, ?_⟩) hHeld ?_ ?_
               rotate_left
               ·rintro w' ⟨s0, s1, s2, s3, s4, s5, s6, s7, s8⟩
                go_simp
                with_reducible rfl
               rotate_left
               ·simp only [Act.put, la_, lz_, ls_, i64_w, i32_w]
                rfl
               refine pv_' 2 70 (on_ 3 23) rfl rfl HT_ ?_
               refine pv_' 3 71 (on_ 4 22) rfl rfl HT_ ?_
               refine pv_' 4 72 (on_ 5 21) rfl rfl HT_ ?_
               refine pv_' 6 74 #[i',i',i',i',i',o',i',o',o',o',o',o',o',o',o',o',o',o',o',o',o',o',o',o',o',o'] rfl rfl HT_ ?_
               refine take_ (i := 5) (N := some 73) (v := ?_) (a' := ?_) (on_ 7 19) rfl rfl (take_ofW HT_.out HW_.out (by kernel_rfl)) (fun _ _ _ h => h) (Or.inl ⟨by rfl, ?_⟩) hHeld ?_ ?_
               rotate_left
               ·rintro w' ⟨s0, s1, s2, s3, s4, s5, s6, s7, s8⟩
                go_simp
                with_reducible rfl
               rotate_left
               ·simp only [Act.put, la_, lz_, ls_, i64_w, i32_w]
                rfl
               refine take_ (i := 7) (N := some 75) (v := ?_) (a' := ?_) (on_ 8 18) rfl rfl (take_ofW HT_.out HW_.out (by kernel_rfl)) (fun _ _ _ h => h) (Or.inl ⟨by rfl, ?_⟩) hHeld ?_ ?_
               rotate_left
               ·rintro w' ⟨s0, s1, s2, s3, s4, s5, s6, s7, s8⟩
                go_simp
                with_reducible rfl
               rotate_left
               ·simp only [Act.put, la_, lz_, ls_, i64_w, i32_w]
                rfl
               refine pv_' 8 76 (on_ 9 17) rfl rfl HT_ ?_
               refine pv_' 9 77 (on_ 10 16) rfl rfl HT_ ?_
               refine pv_' 10 78 (on_ 11 15) rfl rfl HT_ ?_
               refine pv_' 11 79 (on_ 12 14) rfl rfl HT_ ?_
               refine pv_' 12 80 (on_ 13 13) rfl rfl HT_ ?_
               refine pv_' 13 81 (on_ 14 12) rfl rfl HT_ ?_
               refine pun_' 14 82 (on_ 15 11) rfl rfl HT_ ?_
               refine pun_' 15 83 (on_ 16 10) rfl rfl HT_ ?_
               refine pun_' 16 84 (on_ 17 9) rfl rfl HT_ ?_
               refine pun_' 17 85 (on_ 18 8) rfl rfl HT_ ?_
               refine pun_' 18 86 (on_ 19 7) rfl rfl HT_ ?_
               refine pun_' 19 87 (on_ 20 6) rfl rfl HT_ ?_
               refine pun_' 20 88 (on_ 21 5) rfl rfl HT_ ?_
               refine pun_' 21 89 (on_ 22 4) rfl rfl HT_ ?_
               refine pun_' 22 90 (on_ 23 3) rfl rfl HT_ ?_
               refine pun_' 23 91 (on_ 24 2) rfl rfl HT_ ?_
               refine pv_' 24 92 (on_ 25 1) rfl rfl HT_ ?_
               refine pv_' 25 93 (on_ 26 0) rfl rfl HT_ ?_
               refine done_ (done_of HT_.out (by kernel_rfl)) ?_
               have Nji20_ := Aside0.mk hji20
               clear hji20
               (try clear hji20w)
               try go_wp2
               have hji20 := Nji20_.out
               clear Nji20_
               (try have hji20w := (i64_w _).trans hji20)
               go_meet
               case rel => exact ⟨_, (false), rs_, (by first | exact H' | (simp only [hji42, hji20]; exact H')), ⟨by have := HJ3.out; have := HK2.out; first | exact Nat.le_refl _ | exact Nat.le_of_succ_le this | omega⟩, ⟨rr_ HO_6⟩, ⟨rr_ HO_9⟩, ⟨rr_ HO_212002⟩, ⟨bk_ BK203⟩, ⟨bk_ BK211⟩, ⟨bk_ BK216⟩, ⟨by repeat (first | (with_reducible first | exact HB.out | apply below_alloc | apply pw_below_drewN | apply below_drew1 | refine below_set ?_ GE203.out | refine below_set ?_ GE211.out | refine below_set ?_ GE216.out) | exact HB.out)⟩⟩
            ·rw [if_neg c37] at H
             have c37b0 : (((rd_T37 t204 x10_2).f2.f0) == 4) = false := beq_eq_false_iff_ne.mpr c37
             have c37b1 : (((rd_T37 t204 x10_2).f2.f0) != 4) = true := bne_iff_ne.mpr c37
             (first | rw [c37b0] | (simp only [i64_w, i32_w]; rw [c37b0]) | skip)
             have H' := Aside0.mk H
             clear H
             try go_wp2
             generalize hW_ : ((((((w33.setCell ⟨gb216, 0, none⟩ (.int .i64 ((rd_T37 t204 x10_2).f2.f0))).setCell ⟨gb216, 1, none⟩ (.int .i64 ((rd_T37 t204 x10_2).f2.f1))).setCell ⟨gb216, 2, none⟩ (.string ((rd_T37 t204 x10_2).f2.f2))).setCell ⟨gb216, 3, none⟩ (.string ((rd_T37 t204 x10_2).f2.f3))).setCell ⟨gb216, 4, none⟩ (.int .i64 ((rd_T37 t204 x10_2).f2.f4))).setCell ⟨gb216, 5, none⟩ (.int .i64 ((rd_T37 t204 x10_2).f2.f5))) = w49
             replace HO_6 := ur_ (fun _ => True) HO_6 BK216 hW_
             replace HO_9 := un_ (fun k_ => k_ ≠ gb216) HO_9 gb216 hW_
             replace HO_212002 := ur_ (fun _ => True) HO_212002 BK216 hW_
             replace BK203 := uf_ BK203 NB203_216 hW_
             replace BK211 := uf_ BK211 NB211_216 hW_
             replace BK216 := up_ #[.int .i64 ((rd_T37 t204 x10_2).f2.f0), .int .i64 ((rd_T37 t204 x10_2).f2.f1), .string ((rd_T37 t204 x10_2).f2.f2), .string ((rd_T37 t204 x10_2).f2.f3), .int .i64 ((rd_T37 t204 x10_2).f2.f4), .int .i64 ((rd_T37 t204 x10_2).f2.f5)] BK216 hW_
             replace HB := us_ hW_ (hv_ HB GE203 GE211 GE216)
             clear hW_
             replace HO_6 := rd_ HO_6
             replace HO_9 := rd_ HO_9
             replace HO_212002 := rd_ HO_212002
             replace BK203 := bd_ BK203
             replace BK211 := bd_ BK211
             replace BK216 := bd_ BK216
             replace HB := hd_ HB
             refine start_ (n := 26) (S := k6e_ gb216 (.int .i64 ((rd_T37 t204 x10_2).f2.f0)) (.int .i64 ((rd_T37 t204 x10_2).f2.f1)) (.string ((rd_T37 t204 x10_2).f2.f2)) (.string ((rd_T37 t204 x10_2).f2.f3)) (.int .i64 ((rd_T37 t204 x10_2).f2.f4)) (.int .i64 ((rd_T37 t204 x10_2).f2.f5))) (ds := []) (on_ 0 26) (by kernel_rfl) rfl rfl (p6e_ BK216) (fun hHeld => ?_); refine with_tabW spec_HintOf.tab10 spec_HintOf.bits10 (fun HT_ HW_ => ?_)
             generalize w49.drew = w50 at HO_6 HO_9 HO_212002 BK203 BK211 BK216 HB hHeld ⊢
             refine pv_' 0 68 (on_ 1 25) rfl rfl HT_ ?_
             refine take_ (i := 1) (N := some 69) (v := ?_) (a' := ?_) (on_ 2 24) rfl rfl (take_ofW HT_.out HW_.out (by kernel_rfl)) (fun _ _ _ h => h) (Or.inl ⟨by rfl, ?_⟩) hHeld ?_ ?_
             rotate_left
             ·rintro w' ⟨s0, s1, s2, s3, s4, s5⟩
              go_simp
              with_reducible rfl
             rotate_left
             ·simp only [Act.put, la_, lz_, ls_, i64_w, i32_w]
              rfl
             refine pv_' 2 70 (on_ 3 23) rfl rfl HT_ ?_
             refine pv_' 3 71 (on_ 4 22) rfl rfl HT_ ?_
             refine pun_' 4 72 (on_ 5 21) rfl rfl HT_ ?_
             refine pun_' 5 73 (on_ 6 20) rfl rfl HT_ ?_
             refine pun_' 6 74 (on_ 7 19) rfl rfl HT_ ?_
             refine pun_' 7 75 (on_ 8 18) rfl rfl HT_ ?_
             refine pun_' 8 76 (on_ 9 17) rfl rfl HT_ ?_
             refine pv_' 9 77 (on_ 10 16) rfl rfl HT_ ?_
             refine pv_' 10 78 (on_ 11 15) rfl rfl HT_ ?_
             refine pun_' 11 79 (on_ 12 14) rfl rfl HT_ ?_
             refine pun_' 12 80 (on_ 13 13) rfl rfl HT_ ?_
             refine pun_' 13 81 (on_ 14 12) rfl rfl HT_ ?_
             refine pun_' 14 82 (on_ 15 11) rfl rfl HT_ ?_
             refine pun_' 15 83 (on_ 16 10) rfl rfl HT_ ?_
             refine pun_' 16 84 (on_ 17 9) rfl rfl HT_ ?_
             refine pun_' 17 85 (on_ 18 8) rfl rfl HT_ ?_
             refine pun_' 18 86 (on_ 19 7) rfl rfl HT_ ?_
             refine pun_' 19 87 (on_ 20 6) rfl rfl HT_ ?_
             refine pun_' 20 88 (on_ 21 5) rfl rfl HT_ ?_
             refine pun_' 21 89 (on_ 22 4) rfl rfl HT_ ?_
             refine pun_' 22 90 (on_ 23 3) rfl rfl HT_ ?_
             refine pun_' 23 91 (on_ 24 2) rfl rfl HT_ ?_
             refine pun_' 24 92 (on_ 25 1) rfl rfl HT_ ?_
             refine pv_' 25 93 (on_ 26 0) rfl rfl HT_ ?_
             refine done_ (done_of HT_.out (by kernel_rfl)) ?_
             have Nji20_ := Aside0.mk hji20
             clear hji20
             (try clear hji20w)
             try go_wp2
             have hji20 := Nji20_.out
             clear Nji20_
             (try have hji20w := (i64_w _).trans hji20)
             go_meet
             case rel => exact ⟨_, (true), rs_, (by first | exact H' | (simp only [hji20]; exact H')), ⟨by have := HJ3.out; have := HK2.out; first | exact Nat.le_refl _ | exact Nat.le_of_succ_le this | omega⟩, ⟨rr_ HO_6⟩, ⟨rr_ HO_9⟩, ⟨rr_ HO_212002⟩, ⟨bk_ BK203⟩, ⟨bk_ BK211⟩, ⟨bk_ BK216⟩, ⟨by repeat (first | (with_reducible first | exact HB.out | apply below_alloc | apply pw_below_drewN | apply below_drew1 | refine below_set ?_ GE203.out | refine below_set ?_ GE211.out | refine below_set ?_ GE216.out) | exact HB.out)⟩⟩
           case rest =>
            clear HC32
            try clear p2
            try clear c3
            try clear c4
            try clear c37
            try clear c37b0
            try clear c37b1
            try clear c41
            try clear c41b0
            try clear c43
            try clear c44
            obtain ⟨kq, x93_31, rfl, HA, HJ31, HO_6, HO_9, HO_212002, BK203, BK211, BK216, HB⟩ := hcut
            cases kq with
            | zero => exact absurd HA.out (by simp [spec_HintOf.j2])
            | succ kj31 =>
             have H := HA.out
             clear HA
             simp only [spec_HintOf.j2] at H
             by_cases c51 : x93_31 = true
             ·subst c51
              have H1 : (some (0, 0, ([] : List (S68)), false)) = some (r1, r2, r3, r4) := by rw [if_pos rfl] at H; exact H
              clear H
              have H := H1
              clear H1
              simp only [Option.some.injEq, Prod.mk.injEq] at H
              obtain ⟨rfl, rfl, rfl, rfl⟩ := H
              have hnb52 := NB203_211.out
              have hnc52 := NB211_203.out
              have hnb53 := NB203_216.out
              have hnc53 := NB216_203.out
              obtain ⟨hcz54_0, hcz54_1, hcz54_2, hfz54_0, hfz54_1, hfz54_2⟩ := bc3_ BK203
              go_wp2
              refine bodyPost_ret (results_ct rfl _ _ gb203 40 #[.int .i64 0, .int .i64 0, .slice none 0 0] (0, 0) _ rfl (by (with_reducible repeat (first | refine blk_drewN ?_ _ | refine blk_drew ?_ | refine blk_alloc ?_ _)); refine blk_put (cs := #[.int .i64 0, .int .i64 0, .slice none 0 0]) ?_ 2 _ rfl; (with_reducible repeat (first | refine blk_drewN ?_ _ | refine blk_drew ?_ | refine blk_alloc ?_ _)); refine blk_put (cs := #[.int .i64 0, .int .i64 x204001_2, .slice none 0 0]) ?_ 1 _ rfl; (with_reducible repeat (first | refine blk_drewN ?_ _ | refine blk_drew ?_ | refine blk_alloc ?_ _)); refine blk_put (cs := #[.int .i64 x204000_2, .int .i64 x204001_2, .slice none 0 0]) ?_ 0 _ rfl; (with_reducible repeat (first | refine blk_drewN ?_ _ | refine blk_drew ?_ | refine blk_alloc ?_ _)); exact BK203.out) Try.underlying40 rfl (by kernel_rfl)) rfl ?_
              exact ⟨_, by first | rfl | (simp [errW_none, errW_some] <;> rfl) | (simp only [← hji20]; first | rfl | (simp [errW_none, errW_some] <;> rfl)) | (simp [*, errW_none, errW_some] <;> rfl), by first | exact Kd.R_nil _ _ _ _ _ | exact Kd.N_nil _ _ _ _ _ | exact Kd.V_nil _ _ _ _ _ | exact Kd.Q_nil _ _ _ _ _ | exact Kd.S_nil _ _ _ _ _, by repeat (first | (with_reducible first | exact HB.out | apply below_alloc | apply pw_below_drewN | apply below_drew1 | refine below_set ?_ GE203.out | refine below_set ?_ GE211.out | refine below_set ?_ GE216.out) | exact HB.out)⟩
             ·replace c51 := Bool.eq_false_iff.mpr c51
              subst c51
              have H1 : (if x9_2.length < 2199023255552 then (if 0 ≤ x10_2 then (if x10_2 < (t204.length : Int) then (if x212002_2.length < 2932031007402 then (spec_HintOf.l0 kj31 a0 t204 (x9_2 ++ [(⟨((rd_T37 t204 x10_2).f2.f0), ((rd_T37 t204 x10_2).f2.f1), ((rd_T37 t204 x10_2).f2.f2), ((rd_T37 t204 x10_2).f2.f3), ((rd_T37 t204 x10_2).f2.f4), ((rd_T37 t204 x10_2).f2.f5)⟩ : S33)]) (wrap64 (x10_2 + 1)) (a1.size : Int) ((rd_T37 t204 (ji20)).f2.f1) (x212002_2 ++ [(⟨((rd_T37 t204 x10_2).f2.f2), a0, (rd_T37 t204 x10_2).f0, (rd_T37 t204 x10_2).f1, ((rd_T37 t204 x10_2).f2.f1)⟩ : S68)])) else (none)) else (none)) else (none)) else (none)) = some (r1, r2, r3, r4) := by rw [if_neg (show ¬ (false = true) by decide)] at H; exact H
              clear H
              have H := H1
              clear H1
              by_cases c55 : x9_2.length < 2199023255552
              ·rw [if_pos c55] at H
               have LMc55 := Aside0.mk c55
               clear c55
               obtain ⟨y218, hy218⟩ : ∃ y_ : List (S33), y_ = (x9_2 ++ [(⟨((rd_T37 t204 x10_2).f2.f0), ((rd_T37 t204 x10_2).f2.f1), ((rd_T37 t204 x10_2).f2.f2), ((rd_T37 t204 x10_2).f2.f3), ((rd_T37 t204 x10_2).f2.f4), ((rd_T37 t204 x10_2).f2.f5)⟩ : S33)]) := ⟨_, rfl⟩
               replace H : (if 0 ≤ x10_2 then (if x10_2 < (t204.length : Int) then (if x212002_2.length < 2932031007402 then (spec_HintOf.l0 kj31 a0 t204 y218 (wrap64 (x10_2 + 1)) (a1.size : Int) ((rd_T37 t204 (ji20)).f2.f1) (x212002_2 ++ [(⟨((rd_T37 t204 x10_2).f2.f2), a0, (rd_T37 t204 x10_2).f0, (rd_T37 t204 x10_2).f1, ((rd_T37 t204 x10_2).f2.f1)⟩ : S68)])) else (none)) else (none)) else (none)) = some (r1, r2, r3, r4) := by first | (rw [hy218]; with_reducible exact H) | (have H2_ := (Option.bind_some _ _).symm.trans H; rw [hy218]; with_reducible exact H2_) | (have H2_ := (Option.bind_some _ _).symm.trans H; with_reducible exact H2_) | with_reducible exact H | (rw [hy218]; exact H) | exact H
               have Ny218 := Aside0.mk hy218
               clear hy218
               by_cases c56 : 0 ≤ x10_2
               ·rw [if_pos c56] at H
                have c56b0 : decide (0 ≤ x10_2) = true := decide_eq_true c56
                clear c56
                by_cases c57 : x10_2 < (t204.length : Int)
                ·rw [if_pos c57] at H
                 have c57b0 : decide (x10_2 < (t204.length : Int)) = true := decide_eq_true c57
                 clear c57
                 by_cases c58 : x212002_2.length < 2932031007402
                 ·rw [if_pos c58] at H
                  have LMc58 := Aside0.mk c58
                  clear c58
                  obtain ⟨y223, hy223⟩ : ∃ y_ : List (S68), y_ = (x212002_2 ++ [(⟨((rd_T37 t204 x10_2).f2.f2), a0, (rd_T37 t204 x10_2).f0, (rd_T37 t204 x10_2).f1, ((rd_T37 t204 x10_2).f2.f1)⟩ : S68)]) := ⟨_, rfl⟩
                  replace H : (spec_HintOf.l0 kj31 a0 t204 y218 (wrap64 (x10_2 + 1)) (a1.size : Int) ((rd_T37 t204 (ji20)).f2.f1) y223) = some (r1, r2, r3, r4) := by first | (rw [hy223]; with_reducible exact H) | (have H2_ := (Option.bind_some _ _).symm.trans H; rw [hy223]; with_reducible exact H2_) | (have H2_ := (Option.bind_some _ _).symm.trans H; with_reducible exact H2_) | with_reducible exact H | (rw [hy223]; exact H) | exact H
                  have Ny223 := Aside0.mk hy223
                  clear hy223
                  have H' := Aside0.mk H
                  clear H
                  have hnb59 := NB216_203.out
                  have hnc59 := NB203_216.out
                  have hnb60 := NB216_211.out
                  have hnc60 := NB211_216.out
                  obtain ⟨hcz61_0, hcz61_1, hcz61_2, hcz61_3, hcz61_4, hcz61_5, hfz61_0, hfz61_1, hfz61_2, hfz61_3, hfz61_4, hfz61_5⟩ := bc6_ BK216
                  try go_wp2_with (first | ((with_reducible refine gate_builtin (b := .append) (xs := #[.tmp 95, .tmp 97]) rfl ?_); (try (refine gate_guard (by rfl) ?_; dsimp only)); at_builtin; refine Kd.R_append k33 (w0 := w) w.heap.size rfl (.tmp 95) (.tmp 97) 66 33 (.agg #[(.int .i64 0), (.int .i64 0), (.string ⟨#[]⟩), (.string ⟨#[]⟩), (.int .i64 0), (.int .i64 0)]) 64 rfl Try.underlying66 info33 rfl (by decide) (by omega) u9 x9_2 (⟨((rd_T37 t204 x10_2).f2.f0), ((rd_T37 t204 x10_2).f2.f1), ((rd_T37 t204 x10_2).f2.f2), ((rd_T37 t204 x10_2).f2.f3), ((rd_T37 t204 x10_2).f2.f4), ((rd_T37 t204 x10_2).f2.f5)⟩ : S33) [.int .i64 ((rd_T37 t204 x10_2).f2.f0), .int .i64 ((rd_T37 t204 x10_2).f2.f1), .string ((rd_T37 t204 x10_2).f2.f2), .string ((rd_T37 t204 x10_2).f2.f3), .int .i64 ((rd_T37 t204 x10_2).f2.f4), .int .i64 ((rd_T37 t204 x10_2).f2.f5)] (fun k_ => k_ ≠ gb216) (fun _ => False) rfl rfl ?aP (fun _ hk => hk.elim) ?aF ?aO ?aB ?aS ?aL ?_; (case aP => exact k33_mkM _ _ _ (⟨((rd_T37 t204 x10_2).f2.f0), ((rd_T37 t204 x10_2).f2.f1), ((rd_T37 t204 x10_2).f2.f2), ((rd_T37 t204 x10_2).f2.f3), ((rd_T37 t204 x10_2).f2.f4), ((rd_T37 t204 x10_2).f2.f5)⟩ : S33)); (case aB => exact (hv_ HB GE203 GE211 GE216)); (case aF => exact (fun k_ hk => Kd.freshB (g := gb216) (o := .cells #[.int .i64 ((rd_T37 t204 x10_2).f2.f0), .int .i64 ((rd_T37 t204 x10_2).f2.f1), .string ((rd_T37 t204 x10_2).f2.f2), .string ((rd_T37 t204 x10_2).f2.f3), .int .i64 ((rd_T37 t204 x10_2).f2.f4), .int .i64 ((rd_T37 t204 x10_2).f2.f5)] 33 (0, 0)) (bk_ BK216) k_ hk)); (case aO => exact (rr_ HO_9)); (case aS => exact (below_size (hv_ HB GE203 GE211 GE216))); (case aL => have := LMc55.out; omega); intro v219 w62 ho hb hg hat; rw [← Ny218.out] at ho; replace HO_6 := Aside0.mk (Kd.R_over' (rr_ HO_6) (Kd.R_typed (rr_ HO_9)) (by decide) hg); replace HO_212002 := Aside0.mk (Kd.R_over' (rr_ HO_212002) (Kd.R_typed (rr_ HO_9)) (by decide) hg); replace BK203 := bg_ BK203 hg (Kd.R_ne HO_9.out BK203.out (by decide)); replace BK211 := bg_ BK211 hg (Kd.R_ne HO_9.out BK211.out (by decide)); replace BK216 := bg_ BK216 hg (Kd.R_away HO_9.out (fun _ hk => hk)); replace HB := Aside0.mk (hb); have HO220 := Aside0.mk (ho); clear HO_9; clear ho hb hg hat))
                  replace HO_6 := rd_ HO_6
                  replace HO_212002 := rd_ HO_212002
                  replace HO220 := rd_ HO220
                  replace BK203 := bd_ BK203
                  replace BK211 := bd_ BK211
                  replace BK216 := bd_ BK216
                  replace HB := hd_ HB
                  have p221 : 0 ≤ (x10_2 : Int) := of_decide_eq_true as_
                  have q221 : x10_2 < (t204.length : Int) := of_decide_eq_true as_
                  obtain ⟨ad221, e221, hx221_0, hx221_1, hx221_2, hx221_3, hx221_4, hx221_5, hx221_6, hx221_7⟩ := at_T37 (Kd.R_reads' HO_6.out).2.2 x10_2 p221 q221
                  obtain rfl : ad210 = ad221 := (by injection e221)
                  replace p221 := eq_true p221
                  replace q221 := eq_true q221
                  have p222 : 0 ≤ (x10_2 : Int) := of_decide_eq_true as_
                  have q222 : x10_2 < (t204.length : Int) := of_decide_eq_true as_
                  obtain ⟨ad222, e222, hx222_0, hx222_1, hx222_2, hx222_3, hx222_4, hx222_5, hx222_6, hx222_7⟩ := at_T37 (Kd.R_reads' HO_6.out).2.2 x10_2 p222 q222
                  obtain rfl : ad210 = ad222 := (by injection e222)
                  replace p222 := eq_true p222
                  replace q222 := eq_true q222
                  refine start_ (n := 22) (S := k3_ gb211 (.int .i64 (a1.size : Int)) (.int .i64 ((rd_T37 t204 (ji20)).f2.f1)) (u212002) (k6_ gb216 (.int .i64 ((rd_T37 t204 x10_2).f2.f0)) (.int .i64 ((rd_T37 t204 x10_2).f2.f1)) (.string ((rd_T37 t204 x10_2).f2.f2)) (.string ((rd_T37 t204 x10_2).f2.f3)) (.int .i64 ((rd_T37 t204 x10_2).f2.f4)) (.int .i64 ((rd_T37 t204 x10_2).f2.f5)) (e8_ (ad210.add ((x10_2).toNat * 8)) (.int .i64 ((rd_T37 t204 x10_2).f0)) (.int .i64 ((rd_T37 t204 x10_2).f1)) (.int .i64 ((rd_T37 t204 x10_2).f2.f0)) (.int .i64 ((rd_T37 t204 x10_2).f2.f1)) (.string ((rd_T37 t204 x10_2).f2.f2)) (.string ((rd_T37 t204 x10_2).f2.f3)) (.int .i64 ((rd_T37 t204 x10_2).f2.f4)) (.int .i64 ((rd_T37 t204 x10_2).f2.f5)) (e8e_ (ad210.add ((x10_2).toNat * 8)) (.int .i64 ((rd_T37 t204 x10_2).f0)) (.int .i64 ((rd_T37 t204 x10_2).f1)) (.int .i64 ((rd_T37 t204 x10_2).f2.f0)) (.int .i64 ((rd_T37 t204 x10_2).f2.f1)) (.string ((rd_T37 t204 x10_2).f2.f2)) (.string ((rd_T37 t204 x10_2).f2.f3)) (.int .i64 ((rd_T37 t204 x10_2).f2.f4)) (.int .i64 ((rd_T37 t204 x10_2).f2.f5)))))) (ds := [19, 21]) (on_ 0 22) (by kernel_rfl) rfl rfl (p3_ BK211 (p6_ BK216 (q8_ hx221_0 hx221_1 hx221_2 hx221_3 hx221_4 hx221_5 hx221_6 hx221_7 (q8e_ hx222_0 hx222_1 hx222_2 hx222_3 hx222_4 hx222_5 hx222_6 hx222_7)))) (fun hHeld => ?_); refine with_tabW spec_HintOf.tab13 spec_HintOf.bits13 (fun HT_ HW_ => ?_)
                  generalize w62.drew = w63 at HO_6 HO_212002 HO220 BK203 BK211 BK216 HB hx221_0 hx221_1 hx221_2 hx221_3 hx221_4 hx221_5 hx221_6 hx221_7 hx222_0 hx222_1 hx222_2 hx222_3 hx222_4 hx222_5 hx222_6 hx222_7 hHeld ⊢
                  refine pv_' 0 99 (on_ 1 21) rfl rfl HT_ ?_
                  refine pv_' 2 101 #[i',o',i',o',o',o',o',o',o',o',o',o',o',o',o',o',o',o',o',o',o',o'] rfl rfl HT_ ?_
                  refine pv_' 4 103 #[i',o',i',o',i',o',o',o',o',o',o',o',o',o',o',o',o',o',o',o',o',o'] rfl rfl HT_ ?_
                  refine pv_' 5 104 #[i',o',i',o',i',i',o',o',o',o',o',o',o',o',o',o',o',o',o',o',o',o'] rfl rfl HT_ ?_
                  refine pv_' 6 105 #[i',o',i',o',i',i',i',o',o',o',o',o',o',o',o',o',o',o',o',o',o',o'] rfl rfl HT_ ?_
                  refine pv_' 7 106 #[i',o',i',o',i',i',i',i',o',o',o',o',o',o',o',o',o',o',o',o',o',o'] rfl rfl HT_ ?_
                  refine pv_' 8 107 #[i',o',i',o',i',i',i',i',i',o',o',o',o',o',o',o',o',o',o',o',o',o'] rfl rfl HT_ ?_
                  refine pv_' 10 109 #[i',o',i',o',i',i',i',i',i',o',i',o',o',o',o',o',o',o',o',o',o',o'] rfl rfl HT_ ?_
                  refine pv_' 11 110 #[i',o',i',o',i',i',i',i',i',o',i',i',o',o',o',o',o',o',o',o',o',o'] rfl rfl HT_ ?_
                  refine pv_' 12 111 #[i',o',i',o',i',i',i',i',i',o',i',i',i',o',o',o',o',o',o',o',o',o'] rfl rfl HT_ ?_
                  refine pv_' 13 112 #[i',o',i',o',i',i',i',i',i',o',i',i',i',i',o',o',o',o',o',o',o',o'] rfl rfl HT_ ?_
                  refine pv_' 15 114 #[i',o',i',o',i',i',i',i',i',o',i',i',i',i',o',i',o',o',o',o',o',o'] rfl rfl HT_ ?_
                  refine take_ (i := 1) (N := some 100) (v := ?_) (a' := ?_) #[i',i',i',o',i',i',i',i',i',o',i',i',i',i',o',i',o',o',o',o',o',o'] rfl rfl (take_ofW HT_.out HW_.out (by kernel_rfl)) (fun _ _ _ h => h) (Or.inl ⟨by rfl, ?_⟩) hHeld ?_ ?_
                  rotate_left
                  ·rintro w' ⟨s0, s1, s2, s3, s4, s5, s6, s7, s8, s9, s10, s11, s12, s13, s14, s15, s16, s17, s18, s19, s20, s21, s22, s23, s24⟩
                   go_simp
                   with_reducible rfl
                  rotate_left
                  ·simp only [Act.put, la_, lz_, ls_, i64_w, i32_w]
                   rfl
                  refine take_ (i := 3) (N := some 102) (v := ?_) (a' := ?_) #[i',i',i',i',i',i',i',i',i',o',i',i',i',i',o',i',o',o',o',o',o',o'] rfl rfl (take_ofW HT_.out HW_.out (by kernel_rfl)) (fun _ _ _ h => h) (Or.inl ⟨by rfl, ?_⟩) hHeld ?_ ?_
                  rotate_left
                  ·rintro w' ⟨s0, s1, s2, s3, s4, s5, s6, s7, s8, s9, s10, s11, s12, s13, s14, s15, s16, s17, s18, s19, s20, s21, s22, s23, s24⟩
                   go_simp
                   with_reducible rfl
                  rotate_left
                  ·simp only [Act.put, la_, lz_, ls_, i64_w, i32_w]
                   rfl
                  refine take_ (i := 9) (N := some 108) (v := ?_) (a' := ?_) #[i',i',i',i',i',i',i',i',i',i',i',i',i',i',o',i',o',o',o',o',o',o'] rfl rfl (take_ofW HT_.out HW_.out (by kernel_rfl)) (fun _ _ _ h => h) (Or.inl ⟨by rfl, ?_⟩) hHeld ?_ ?_
                  rotate_left
                  ·rintro w' ⟨s0, s1, s2, s3, s4, s5, s6, s7, s8, s9, s10, s11, s12, s13, s14, s15, s16, s17, s18, s19, s20, s21, s22, s23, s24⟩
                   go_simp
                   with_reducible rfl
                  rotate_left
                  ·simp only [Act.put, la_, lz_, ls_, i64_w, i32_w]
                   rfl
                  refine take_ (i := 14) (N := some 113) (v := ?_) (a' := ?_) (on_ 16 6) rfl rfl (take_ofW HT_.out HW_.out (by kernel_rfl)) (fun _ _ _ h => h) (Or.inl ⟨by rfl, ?_⟩) hHeld ?_ ?_
                  rotate_left
                  ·rintro w' ⟨s0, s1, s2, s3, s4, s5, s6, s7, s8, s9, s10, s11, s12, s13, s14, s15, s16, s17, s18, s19, s20, s21, s22, s23, s24⟩
                   go_simp
                   with_reducible rfl
                  rotate_left
                  ·simp only [Act.put, la_, lz_, ls_, i64_w, i32_w]
                   rfl
                  refine take_ (i := 16) (N := some 115) (v := ?_) (a' := ?_) (on_ 17 5) rfl rfl (take_ofW HT_.out HW_.out (by kernel_rfl)) (fun _ _ _ h => h) (Or.inl ⟨by rfl, ?_⟩) hHeld ?_ ?_
                  rotate_left
                  ·rintro w' ⟨s0, s1, s2, s3, s4, s5, s6, s7, s8, s9, s10, s11, s12, s13, s14, s15, s16, s17, s18, s19, s20, s21, s22, s23, s24⟩
                   go_simp
                   with_reducible rfl
                  rotate_left
                  ·simp only [Act.put, la_, lz_, ls_, i64_w, i32_w]
                   rfl
                  refine pv_' 17 116 (on_ 18 4) rfl rfl HT_ ?_
                  refine one_ (i := 18) (N := some 117) (on_ 19 3) rfl rfl (one_of HT_.out (by kernel_rfl)) (by decide) (fun K hK => ?_)
                  refine value_ (w1 := ?_) (v := ?_) (by rfl) rfl ?_ ?_
                  rotate_left 2
                  ·go_simp
                   constructor
                   ·rfl
                   ·rfl
                  refine hK.out _ _ (r3_ ((blk_cell (blk_alloc BK211.out _) 0).trans rfl) ((blk_cell (blk_alloc BK211.out _) 1).trans rfl) ((blk_cell (blk_alloc BK211.out _) 2).trans rfl) (r6_ ((blk_cell (blk_alloc BK216.out _) 0).trans rfl) ((blk_cell (blk_alloc BK216.out _) 1).trans rfl) ((blk_cell (blk_alloc BK216.out _) 2).trans rfl) ((blk_cell (blk_alloc BK216.out _) 3).trans rfl) ((blk_cell (blk_alloc BK216.out _) 4).trans rfl) ((blk_cell (blk_alloc BK216.out _) 5).trans rfl) (q8_ ((World.cell?_alloc_lt _ _ _ (World.block_lt_of_cell? _ _ (hHeld.2.2.2.2.2.2.2.2.2.1))).trans (hHeld.2.2.2.2.2.2.2.2.2.1)) ((World.cell?_alloc_lt _ _ _ (World.block_lt_of_cell? _ _ (hHeld.2.2.2.2.2.2.2.2.2.2.1))).trans (hHeld.2.2.2.2.2.2.2.2.2.2.1)) ((World.cell?_alloc_lt _ _ _ (World.block_lt_of_cell? _ _ (hHeld.2.2.2.2.2.2.2.2.2.2.2.1))).trans (hHeld.2.2.2.2.2.2.2.2.2.2.2.1)) ((World.cell?_alloc_lt _ _ _ (World.block_lt_of_cell? _ _ (hHeld.2.2.2.2.2.2.2.2.2.2.2.2.1))).trans (hHeld.2.2.2.2.2.2.2.2.2.2.2.2.1)) ((World.cell?_alloc_lt _ _ _ (World.block_lt_of_cell? _ _ (hHeld.2.2.2.2.2.2.2.2.2.2.2.2.2.1))).trans (hHeld.2.2.2.2.2.2.2.2.2.2.2.2.2.1)) ((World.cell?_alloc_lt _ _ _ (World.block_lt_of_cell? _ _ (hHeld.2.2.2.2.2.2.2.2.2.2.2.2.2.2.1))).trans (hHeld.2.2.2.2.2.2.2.2.2.2.2.2.2.2.1)) ((World.cell?_alloc_lt _ _ _ (World.block_lt_of_cell? _ _ (hHeld.2.2.2.2.2.2.2.2.2.2.2.2.2.2.2.1))).trans (hHeld.2.2.2.2.2.2.2.2.2.2.2.2.2.2.2.1)) ((World.cell?_alloc_lt _ _ _ (World.block_lt_of_cell? _ _ (hHeld.2.2.2.2.2.2.2.2.2.2.2.2.2.2.2.2.1))).trans (hHeld.2.2.2.2.2.2.2.2.2.2.2.2.2.2.2.2.1)) (q8e_ ((World.cell?_alloc_lt _ _ _ (World.block_lt_of_cell? _ _ (hHeld.2.2.2.2.2.2.2.2.2.2.2.2.2.2.2.2.2.1))).trans (hHeld.2.2.2.2.2.2.2.2.2.2.2.2.2.2.2.2.2.1)) ((World.cell?_alloc_lt _ _ _ (World.block_lt_of_cell? _ _ (hHeld.2.2.2.2.2.2.2.2.2.2.2.2.2.2.2.2.2.2.1))).trans (hHeld.2.2.2.2.2.2.2.2.2.2.2.2.2.2.2.2.2.2.1)) ((World.cell?_alloc_lt _ _ _ (World.block_lt_of_cell? _ _ (hHeld.2.2.2.2.2.2.2.2.2.2.2.2.2.2.2.2.2.2.2.1))).trans (hHeld.2.2.2.2.2.2.2.2.2.2.2.2.2.2.2.2.2.2.2.1)) ((World.cell?_alloc_lt _ _ _ (World.block_lt_of_cell? _ _ (hHeld.2.2.2.2.2.2.2.2.2.2.2.2.2.2.2.2.2.2.2.2.1))).trans (hHeld.2.2.2.2.2.2.2.2.2.2.2.2.2.2.2.2.2.2.2.2.1)) ((World.cell?_alloc_lt _ _ _ (World.block_lt_of_cell? _ _ (hHeld.2.2.2.2.2.2.2.2.2.2.2.2.2.2.2.2.2.2.2.2.2.1))).trans (hHeld.2.2.2.2.2.2.2.2.2.2.2.2.2.2.2.2.2.2.2.2.2.1)) ((World.cell?_alloc_lt _ _ _ (World.block_lt_of_cell? _ _ (hHeld.2.2.2.2.2.2.2.2.2.2.2.2.2.2.2.2.2.2.2.2.2.2.1))).trans (hHeld.2.2.2.2.2.2.2.2.2.2.2.2.2.2.2.2.2.2.2.2.2.2.1)) ((World.cell?_alloc_lt _ _ _ (World.block_lt_of_cell? _ _ (hHeld.2.2.2.2.2.2.2.2.2.2.2.2.2.2.2.2.2.2.2.2.2.2.2.1))).trans (hHeld.2.2.2.2.2.2.2.2.2.2.2.2.2.2.2.2.2.2.2.2.2.2.2.1)) ((World.cell?_alloc_lt _ _ _ (World.block_lt_of_cell? _ _ (hHeld.2.2.2.2.2.2.2.2.2.2.2.2.2.2.2.2.2.2.2.2.2.2.2.2))).trans (hHeld.2.2.2.2.2.2.2.2.2.2.2.2.2.2.2.2.2.2.2.2.2.2.2.2)))))) (fun hHeld => ?_)
                  clear hK K
                  refine norm_ (a' := ?_) ?_ ?_
                  rotate_left
                  ·show Act.put _ (some 117) _ = _
                   simp only [Act.put, la_, lz_, ls_, i64_w, i32_w]
                   rfl
                  refine last_ (i := 19) (N := some 118) (on_ 20 2) rfl rfl (one_of HT_.out (by kernel_rfl)) (by decide) (fun K hK => ?_)
                  refine Kd.R_append_step k68 (w0 := w) w.heap.size (by rfl) (.tmp 100) (.tmp 117) 38 68 (.agg #[(.string ⟨#[]⟩), (.int .i64 0), (.int .i64 0), (.int .i64 0), (.int .i64 0)]) 48 rfl Try.underlying38 info68 rfl (by decide) (by omega) u212002 x212002_2 (⟨((rd_T37 t204 x10_2).f2.f2), a0, (rd_T37 t204 x10_2).f0, (rd_T37 t204 x10_2).f1, ((rd_T37 t204 x10_2).f2.f1)⟩ : S68) [.string ((rd_T37 t204 x10_2).f2.f2), .int .i64 a0, .int .i64 ((rd_T37 t204 x10_2).f0), .int .i64 ((rd_T37 t204 x10_2).f1), .int .i64 ((rd_T37 t204 x10_2).f2.f1)] (fun _ => True) (fun _ => False) rfl rfl ?aP (fun _ hk => hk.elim) ?aF ?aO ?aB ?aS ?aL ?_
                  (case aP => exact k68_mkM _ _ _ (⟨((rd_T37 t204 x10_2).f2.f2), a0, (rd_T37 t204 x10_2).f0, (rd_T37 t204 x10_2).f1, ((rd_T37 t204 x10_2).f2.f1)⟩ : S68))
                  (case aB => exact (hv_ HB GE203 GE211 GE216))
                  (case aF => exact (fun _ _ => trivial))
                  (case aO => exact (rr_ HO_212002))
                  (case aS => exact (below_size (hv_ HB GE203 GE211 GE216)))
                  (case aL => have := LMc58.out; omega)
                  intro v224 w64 ho hb hg hat
                  rw [← Ny223.out] at ho
                  replace HO_6 := Aside0.mk (Kd.R_over' (rr_ HO_6) (Kd.R_typed (rr_ HO_212002)) (by decide) hg)
                  replace BK203 := bg_ BK203 hg (Kd.R_ne HO_212002.out BK203.out (by decide))
                  replace BK211 := bg_ BK211 hg (Kd.R_ne HO_212002.out BK211.out (by decide))
                  replace BK216 := bg_ BK216 hg (Kd.R_ne HO_212002.out BK216.out (by decide))
                  replace HO220 := Aside0.mk (Kd.R_over' (rr_ HO220) (Kd.R_typed (rr_ HO_212002)) (by decide) hg)
                  replace HB := Aside0.mk (hb)
                  have HO225 := Aside0.mk (ho)
                  clear HO_212002
                  clear ho hb hg hat
                  obtain ⟨Ao65, co65, eo65⟩ := Kd.R_slice HO225.out
                  (first | subst eo65 | (injection eo65 with f1_ f2_ f3_; have f4_ := f1_.symm; have f5_ := f3_.symm; clear f1_ f2_ f3_; subst f4_; subst f5_))
                  refine hK.out _ _ ?_
                  clear hK K
                  refine norm_ (a' := ?_) ?_ ?_
                  rotate_left
                  ·show Act.put _ (some 118) _ = _
                   simp only [Act.put, la_, lz_, ls_, i64_w, i32_w]
                   rfl
                  refine pv_' 20 119 (on_ 21 1) rfl rfl HT_ ?_
                  refine last_ (i := 21) (N := none) (on_ 22 0) rfl rfl (one_of HT_.out (by kernel_rfl)) (by decide) (fun K hK => ?_)
                  have hs66 : w64.cell? ⟨gb211, 2, none⟩ = some (u212002) := (blk_cell BK211.out 2).trans rfl
                  have hfs66 := blk_frozen BK211.out 2
                  have hns66_0 := NB203_211.out
                  have hns66_2 := NB216_211.out
                  have hms66_0 := NB211_203.out
                  have hms66_2 := NB211_216.out
                  refine skip_ (w1 := ?_) (by rfl) rfl ?_ ?_
                  rotate_left
                  ·go_simp
                   rfl
                  refine hK.out _ _ ?_
                  clear hK K
                  refine done_ (done_of HT_.out (by kernel_rfl)) ?_
                  have Nji20_ := Aside0.mk hji20
                  clear hji20
                  (try clear hji20w)
                  try go_wp2
                  have hji20 := Nji20_.out
                  clear Nji20_
                  (try have hji20w := (i64_w _).trans hji20)
                  go_roundg kj31
                  case measure => have := HJ3.out; have := HK2.out; have := HJ31.out; omega
                  case rel => exact ⟨(y218), (wrap64 (x10_2 + 1)), (x204000_2), (x204001_2), (y223), (.slice Ao65 y223.length co65), rs_, (by first | exact H' | (simp only [hji20]; exact H')), ⟨by have := HJ3.out; have := HK2.out; have := HJ31.out; omega⟩, ⟨by (with_reducible repeat (first | apply Kd.R_alloc | apply Kd.R_drewN | apply Kd.R_drew)); exact Kd.R_mono (Kd.R_far (p := ⟨gb211, 2, none⟩) (Kd.R_types HO_6.out BK211.out (by decide)) (fun _ hk => hk.2) (.slice Ao65 y223.length co65)) (fun _ hk => trivial)⟩, ⟨by (with_reducible repeat (first | apply Kd.R_alloc | apply Kd.R_drewN | apply Kd.R_drew)); exact Kd.R_mono (Kd.R_far (p := ⟨gb211, 2, none⟩) (Kd.R_types HO220.out BK211.out (by decide)) (fun _ hk => hk.2) (.slice Ao65 y223.length co65)) (fun _ hk => trivial)⟩, ⟨by (with_reducible repeat (first | apply Kd.R_alloc | apply Kd.R_drewN | apply Kd.R_drew)); exact Kd.R_mono (Kd.R_far (p := ⟨gb211, 2, none⟩) (Kd.R_types HO225.out BK211.out (by decide)) (fun _ hk => hk.2) (.slice Ao65 y223.length co65)) (fun _ hk => trivial)⟩, ⟨by (with_reducible repeat (first | refine blk_drewN ?_ _ | refine blk_drew ?_ | refine blk_alloc ?_ _)); refine blk_far ?_ NB203_211.out _; (with_reducible repeat (first | refine blk_drewN ?_ _ | refine blk_drew ?_ | refine blk_alloc ?_ _)); exact BK203.out⟩, ⟨by (with_reducible repeat (first | refine blk_drewN ?_ _ | refine blk_drew ?_ | refine blk_alloc ?_ _)); refine blk_put (cs := #[.int .i64 (a1.size : Int), .int .i64 ((rd_T37 t204 (ji20)).f2.f1), u212002]) ?_ 2 _ rfl; (with_reducible repeat (first | refine blk_drewN ?_ _ | refine blk_drew ?_ | refine blk_alloc ?_ _)); exact BK211.out⟩, ⟨by repeat (first | (with_reducible first | exact HB.out | apply below_alloc | apply pw_below_drewN | apply below_drew1 | refine below_set ?_ GE203.out | refine below_set ?_ GE211.out | refine below_set ?_ GE216.out) | exact HB.out)⟩⟩
                 ·rw [if_neg c58] at H
                  exact absurd H (by simp)
                ·rw [if_neg c57] at H
                 exact absurd H (by simp)
               ·rw [if_neg c56] at H
                exact absurd H (by simp)
              ·rw [if_neg c55] at H
               exact absurd H (by simp)
          ·rw [if_neg c31] at H
           exact absurd H (by simp)
         ·rw [if_neg c30] at H
          exact absurd H (by simp)
        ·rw [if_neg c29] at H
         have c29b0 : decide ((wrap64 (x10_2 + 1)) < (t204.length : Int)) = false := decide_eq_false c29
         clear c29
         replace H : (if 0 ≤ (ji20) then (if (ji20) < (t204.length : Int) then (if ((rd_T37 t204 (ji20)).f2.f4) = (x9_2.length : Int) then ((spec_SumOf.f k2 x9_2).bind fun t228 => (if ((rd_T37 t204 (ji20)).f2.f5) = t228 then (some ((a1.size : Int), ((rd_T37 t204 (ji20)).f2.f1), x212002_2, true)) else (some (0, 0, ([] : List (S68)), false)))) else (some (0, 0, ([] : List (S68)), false))) else (none)) else (none)) = some (r1, r2, r3, r4) := by first | (rw [hji20] at H; exact H) | (simp only [hji20] at H ⊢; exact H)
         by_cases c68 : 0 ≤ (ji20)
         ·rw [if_pos c68] at H
          have c68b0 : decide (0 ≤ (ji20)) = true := decide_eq_true c68
          clear c68
          by_cases c69 : (ji20) < (t204.length : Int)
          ·rw [if_pos c69] at H
           have c69b0 : decide ((ji20) < (t204.length : Int)) = true := decide_eq_true c69
           clear c69
           by_cases c70 : ((rd_T37 t204 (ji20)).f2.f4) = (x9_2.length : Int)
           ·rw [if_pos c70] at H
            have c70b0 : (((rd_T37 t204 (ji20)).f2.f4) == (x9_2.length : Int)) = true := beq_iff_eq.mpr c70
            have c70b1 : (((rd_T37 t204 (ji20)).f2.f4) != (x9_2.length : Int)) = false := bne_eq_false_iff_eq.mpr c70
            clear c70
            replace H := Option.bind_eq_some_iff.mp H
            obtain ⟨t228, A710, H⟩ := H
            replace H : (if ((rd_T37 t204 (ji20)).f2.f5) = t228 then (some ((a1.size : Int), ((rd_T37 t204 (ji20)).f2.f1), x212002_2, true)) else (some (0, 0, ([] : List (S68)), false))) = some (r1, r2, r3, r4) := H
            have A71 := Aside0.mk A710
            clear A710
            by_cases c72 : ((rd_T37 t204 (ji20)).f2.f5) = t228
            ·rw [if_pos c72] at H
             have c72b0 : (((rd_T37 t204 (ji20)).f2.f5) == t228) = true := beq_iff_eq.mpr c72
             have c72b1 : (((rd_T37 t204 (ji20)).f2.f5) != t228) = false := bne_eq_false_iff_eq.mpr c72
             clear c72
             simp only [Option.some.injEq, Prod.mk.injEq] at H
             obtain ⟨rfl, rfl, rfl, rfl⟩ := H
             have p226 : 0 ≤ ((ji20) : Int) := of_decide_eq_true as_
             have q226 : (ji20) < (t204.length : Int) := of_decide_eq_true as_
             obtain ⟨ad226, e226, hx226_0, hx226_1, hx226_2, hx226_3, hx226_4, hx226_5, hx226_6, hx226_7⟩ := at_T37 (Kd.R_reads' HO_6.out).2.2 (ji20) p226 q226
             obtain rfl : ad210 = ad226 := (by injection e226)
             replace p226 := eq_true p226
             replace q226 := eq_true q226
             try go_wp2_with (first | ((with_reducible refine gate_dst (N := 12) rfl ?_); (try (refine gate_guard (by rfl) ?_; dsimp only)); refine box_event ?hg (N := 12) ?hd (cs := #[.int .i64 0, .int .i64 0, .string (⟨#[]⟩ : ByteArray), .string (⟨#[]⟩ : ByteArray), .int .i64 0, .int .i64 0]) (t := 33) ?hr ?_; (case hd => rfl); (case hg => rfl); (case hr => first | (go_simp; done) | (go_simp; rfl)); intro gb227 hg w73 hbox hb; replace HO_6 := rb_ HO_6 hb; replace HO_9 := Aside0.mk (Kd.R_below (Kd.R_elderB (rr_ HO_9) gb227 (Nat.le_of_eq hg.symm)) hb); replace HO_212002 := rb_ HO_212002 hb; have BK227 := Aside0.mk (hbox); have GW227 := ge_ hg (hu_ HB GE203 GE211); have GE227 := ge_ hg (hu_ HB GE203 GE211); replace HB := bu_ HB GE203 GE211 hb; have NB203_227 := nl_ BK203 hg; have NB227_203 := ng_ BK203 hg; replace BK203 := bb_ BK203 hb; have NB211_227 := nl_ BK211 hg; have NB227_211 := ng_ BK211 hg; replace BK211 := bb_ BK211 hb; clear hb hbox hg; have hnb74 := NB227_203.out; have hnc74 := NB203_227.out; have hnb75 := NB227_211.out; have hnc75 := NB211_227.out; obtain ⟨hcz76_0, hcz76_1, hcz76_2, hcz76_3, hcz76_4, hcz76_5, hfz76_0, hfz76_1, hfz76_2, hfz76_3, hfz76_4, hfz76_5⟩ := bc6_ BK227))
             generalize hW_ : ((((((w73.setCell ⟨gb227, 0, none⟩ (.int .i64 ((rd_T37 t204 (ji20)).f2.f0))).setCell ⟨gb227, 1, none⟩ (.int .i64 ((rd_T37 t204 (ji20)).f2.f1))).setCell ⟨gb227, 2, none⟩ (.string ((rd_T37 t204 (ji20)).f2.f2))).setCell ⟨gb227, 3, none⟩ (.string ((rd_T37 t204 (ji20)).f2.f3))).setCell ⟨gb227, 4, none⟩ (.int .i64 ((rd_T37 t204 (ji20)).f2.f4))).setCell ⟨gb227, 5, none⟩ (.int .i64 ((rd_T37 t204 (ji20)).f2.f5))) = w77
             replace HO_6 := ur_ (fun _ => True) HO_6 BK227 hW_
             replace HO_9 := un_ (fun k_ => k_ ≠ gb227) HO_9 gb227 hW_
             replace HO_212002 := ur_ (fun _ => True) HO_212002 BK227 hW_
             replace BK203 := uf_ BK203 NB203_227 hW_
             replace BK211 := uf_ BK211 NB211_227 hW_
             replace BK227 := up_ #[.int .i64 ((rd_T37 t204 (ji20)).f2.f0), .int .i64 ((rd_T37 t204 (ji20)).f2.f1), .string ((rd_T37 t204 (ji20)).f2.f2), .string ((rd_T37 t204 (ji20)).f2.f3), .int .i64 ((rd_T37 t204 (ji20)).f2.f4), .int .i64 ((rd_T37 t204 (ji20)).f2.f5)] BK227 hW_
             replace HB := us_ hW_ (hv_ HB GE203 GE211 GE227)
             clear hW_
             replace HO_6 := rd_ HO_6
             replace HO_9 := rd_ HO_9
             replace HO_212002 := rd_ HO_212002
             replace BK203 := bd_ BK203
             replace BK211 := bd_ BK211
             replace BK227 := bd_ BK227
             replace HB := hd_ HB
             obtain ⟨Ao79, co79, eo79⟩ := Kd.R_slice HO_9.out
             (first | subst eo79 | (injection eo79 with f1_ f2_ f3_; have f4_ := f1_.symm; have f5_ := f3_.symm; clear f1_ f2_ f3_; subst f4_; subst f5_))
             refine start_ (n := 12) (S := k6e_ gb227 (.int .i64 ((rd_T37 t204 (ji20)).f2.f0)) (.int .i64 ((rd_T37 t204 (ji20)).f2.f1)) (.string ((rd_T37 t204 (ji20)).f2.f2)) (.string ((rd_T37 t204 (ji20)).f2.f3)) (.int .i64 ((rd_T37 t204 (ji20)).f2.f4)) (.int .i64 ((rd_T37 t204 (ji20)).f2.f5))) (ds := []) (on_ 0 12) (by kernel_rfl) rfl rfl (p6e_ BK227) (fun hHeld => ?_); refine with_tabW spec_HintOf.tab15 spec_HintOf.bits15 (fun HT_ HW_ => ?_)
             generalize w77.drew = w78 at HO_6 HO_9 HO_212002 BK203 BK211 BK227 HB hHeld ⊢
             refine pv_' 0 127 (on_ 1 11) rfl rfl HT_ ?_
             refine pv_' 2 129 #[i',o',i',o',o',o',o',o',o',o',o',o'] rfl rfl HT_ ?_
             refine pv_' 3 130 #[i',o',i',i',o',o',o',o',o',o',o',o'] rfl rfl HT_ ?_
             refine take_ (i := 1) (N := some 128) (v := ?_) (a' := ?_) (on_ 4 8) rfl rfl (take_ofW HT_.out HW_.out (by kernel_rfl)) (fun _ _ _ h => h) (Or.inl ⟨by rfl, ?_⟩) hHeld ?_ ?_
             rotate_left
             ·rintro w' ⟨s0, s1, s2, s3, s4, s5⟩
              go_simp
              with_reducible rfl
             rotate_left
             ·simp only [Act.put, la_, lz_, ls_, i64_w, i32_w]
              rfl
             refine pv_' 4 131 (on_ 5 7) rfl rfl HT_ ?_
             refine pv_' 5 132 (on_ 6 6) rfl rfl HT_ ?_
             refine pv_' 6 133 (on_ 7 5) rfl rfl HT_ ?_
             refine pv_' 8 135 #[i',i',i',i',i',i',i',o',i',o',o',o'] rfl rfl HT_ ?_
             refine take_ (i := 7) (N := some 134) (v := ?_) (a' := ?_) (on_ 9 3) rfl rfl (take_ofW HT_.out HW_.out (by kernel_rfl)) (fun _ _ _ h => h) (Or.inl ⟨by rfl, ?_⟩) hHeld ?_ ?_
             rotate_left
             ·rintro w' ⟨s0, s1, s2, s3, s4, s5⟩
              go_simp
              with_reducible rfl
             rotate_left
             ·simp only [Act.put, la_, lz_, ls_, i64_w, i32_w]
              rfl
             refine one_ (i := 9) (N := some 136) (on_ 10 2) rfl rfl (one_of HT_.out (by kernel_rfl)) (by decide) (fun K hK => ?_)
             refine goes_ Try.func38 (by kernel_rfl) rfl #[.slice Ao79 x9_2.length co79] (by rfl) rfl rfl ar_ ?_
             with_reducible refine (spec_SumOf.calls k2 _ _ x9_2 t228 _ ?side1 ?side2 A71.out).mono ?_
             (case side1 => repeat (first | exact (Kd.R_reads' HO_9.out).2.2 | (with_reducible refine Kd.C_alloc ?_ _) | (with_reducible refine Kd.C_drewN ?_ _) | (with_reducible refine Kd.C_drew ?_)))
             (case side2 => exact (Kd.R_reads' HO_9.out).2.1)
             rintro e w80 ⟨rfl, hb⟩
             refine ⟨_, rfl, ?_⟩
             replace HO_6 := rb_ HO_6 hb
             replace HO_9 := rb_ HO_9 hb
             replace HO_212002 := rb_ HO_212002 hb
             replace BK203 := bb_ BK203 hb
             replace BK211 := bb_ BK211 hb
             replace BK227 := bb_ BK227 hb
             replace HB := Aside0.mk (below_step (hv_ HB GE203 GE211 GE227) hb)
             (try clear hb)
             (try clear hb2)
             (try clear hk)
             (try clear hi)
             refine hK.out _ _ (p6e_ BK227) (fun hHeld => ?_)
             clear hK K
             refine norm_ (a' := ?_) ?_ ?_
             rotate_left
             ·show Act.put _ (some 136) _ = _
              simp only [Act.put, la_, lz_, ls_, i64_w, i32_w]
              rfl
             refine pv_' 10 137 (on_ 11 1) rfl rfl HT_ ?_
             refine pv_' 11 138 (on_ 12 0) rfl rfl HT_ ?_
             refine done_ (done_of HT_.out (by kernel_rfl)) ?_
             have hnb81 := NB211_203.out
             have hnc81 := NB203_211.out
             obtain ⟨hcz82_0, hcz82_1, hcz82_2, hfz82_0, hfz82_1, hfz82_2⟩ := bc3_ BK211
             obtain ⟨hcz83_0, hcz83_1, hcz83_2, hfz83_0, hfz83_1, hfz83_2⟩ := bc3_ BK203
             obtain ⟨Ao84, co84, eo84⟩ := Kd.R_slice HO_212002.out
             subst eo84
             try go_wp2
             refine bodyPost_ret (results_ct rfl _ _ gb203 40 #[.int .i64 (a1.size : Int), .int .i64 ((rd_T37 t204 (ji20)).f2.f1), .slice Ao84 x212002_2.length co84] (0, 0) _ rfl (by (with_reducible repeat (first | refine blk_drewN ?_ _ | refine blk_drew ?_ | refine blk_alloc ?_ _)); refine blk_put (cs := #[.int .i64 (a1.size : Int), .int .i64 ((rd_T37 t204 (ji20)).f2.f1), .slice none 0 0]) ?_ 2 _ rfl; (with_reducible repeat (first | refine blk_drewN ?_ _ | refine blk_drew ?_ | refine blk_alloc ?_ _)); refine blk_put (cs := #[.int .i64 (a1.size : Int), .int .i64 x204001_2, .slice none 0 0]) ?_ 1 _ rfl; (with_reducible repeat (first | refine blk_drewN ?_ _ | refine blk_drew ?_ | refine blk_alloc ?_ _)); refine blk_put (cs := #[.int .i64 x204000_2, .int .i64 x204001_2, .slice none 0 0]) ?_ 0 _ rfl; (with_reducible repeat (first | refine blk_drewN ?_ _ | refine blk_drew ?_ | refine blk_alloc ?_ _)); exact BK203.out) Try.underlying40 rfl (by kernel_rfl)) rfl ?_
             exact ⟨_, by first | rfl | (simp [errW_none, errW_some] <;> rfl) | (simp only [← hji20, ← hji20]; first | rfl | (simp [errW_none, errW_some] <;> rfl)) | (simp [*, errW_none, errW_some] <;> rfl), by (with_reducible repeat (first | apply Kd.R_alloc | apply Kd.R_drewN | apply Kd.R_drew)); exact Kd.R_mono (Kd.R_far (p := ⟨gb203, 2, none⟩) (Kd.R_far (p := ⟨gb203, 1, none⟩) (Kd.R_far (p := ⟨gb203, 0, none⟩) (Kd.R_types HO_212002.out BK203.out (by decide)) (fun _ hk => hk.2) (.int .i64 (a1.size : Int))) (fun _ hk => hk.2) (.int .i64 ((rd_T37 t204 (ji20)).f2.f1))) (fun _ hk => hk.2) (.slice Ao84 x212002_2.length co84)) (fun _ hk => trivial), by repeat (first | (with_reducible first | exact HB.out | apply below_alloc | apply pw_below_drewN | apply below_drew1 | refine below_set ?_ GE203.out | refine below_set ?_ GE211.out | refine below_set ?_ GE227.out) | exact HB.out)⟩
            ·rw [if_neg c72] at H
             have c72b0 : (((rd_T37 t204 (ji20)).f2.f5) == t228) = false := beq_eq_false_iff_ne.mpr c72
             have c72b1 : (((rd_T37 t204 (ji20)).f2.f5) != t228) = true := bne_iff_ne.mpr c72
             simp only [Option.some.injEq, Prod.mk.injEq] at H
             obtain ⟨rfl, rfl, rfl, rfl⟩ := H
             have p226 : 0 ≤ ((ji20) : Int) := of_decide_eq_true as_
             have q226 : (ji20) < (t204.length : Int) := of_decide_eq_true as_
             obtain ⟨ad226, e226, hx226_0, hx226_1, hx226_2, hx226_3, hx226_4, hx226_5, hx226_6, hx226_7⟩ := at_T37 (Kd.R_reads' HO_6.out).2.2 (ji20) p226 q226
             obtain rfl : ad210 = ad226 := (by injection e226)
             replace p226 := eq_true p226
             replace q226 := eq_true q226
             try go_wp2_with (first | ((with_reducible refine gate_dst (N := 12) rfl ?_); (try (refine gate_guard (by rfl) ?_; dsimp only)); refine box_event ?hg (N := 12) ?hd (cs := #[.int .i64 0, .int .i64 0, .string (⟨#[]⟩ : ByteArray), .string (⟨#[]⟩ : ByteArray), .int .i64 0, .int .i64 0]) (t := 33) ?hr ?_; (case hd => rfl); (case hg => rfl); (case hr => first | (go_simp; done) | (go_simp; rfl)); intro gb227 hg w85 hbox hb; replace HO_6 := rb_ HO_6 hb; replace HO_9 := Aside0.mk (Kd.R_below (Kd.R_elderB (rr_ HO_9) gb227 (Nat.le_of_eq hg.symm)) hb); replace HO_212002 := rb_ HO_212002 hb; have BK227 := Aside0.mk (hbox); have GW227 := ge_ hg (hu_ HB GE203 GE211); have GE227 := ge_ hg (hu_ HB GE203 GE211); replace HB := bu_ HB GE203 GE211 hb; have NB203_227 := nl_ BK203 hg; have NB227_203 := ng_ BK203 hg; replace BK203 := bb_ BK203 hb; have NB211_227 := nl_ BK211 hg; have NB227_211 := ng_ BK211 hg; replace BK211 := bb_ BK211 hb; clear hb hbox hg; have hnb86 := NB227_203.out; have hnc86 := NB203_227.out; have hnb87 := NB227_211.out; have hnc87 := NB211_227.out; obtain ⟨hcz88_0, hcz88_1, hcz88_2, hcz88_3, hcz88_4, hcz88_5, hfz88_0, hfz88_1, hfz88_2, hfz88_3, hfz88_4, hfz88_5⟩ := bc6_ BK227))
             generalize hW_ : ((((((w85.setCell ⟨gb227, 0, none⟩ (.int .i64 ((rd_T37 t204 (ji20)).f2.f0))).setCell ⟨gb227, 1, none⟩ (.int .i64 ((rd_T37 t204 (ji20)).f2.f1))).setCell ⟨gb227, 2, none⟩ (.string ((rd_T37 t204 (ji20)).f2.f2))).setCell ⟨gb227, 3, none⟩ (.string ((rd_T37 t204 (ji20)).f2.f3))).setCell ⟨gb227, 4, none⟩ (.int .i64 ((rd_T37 t204 (ji20)).f2.f4))).setCell ⟨gb227, 5, none⟩ (.int .i64 ((rd_T37 t204 (ji20)).f2.f5))) = w89
             replace HO_6 := ur_ (fun _ => True) HO_6 BK227 hW_
             replace HO_9 := un_ (fun k_ => k_ ≠ gb227) HO_9 gb227 hW_
             replace HO_212002 := ur_ (fun _ => True) HO_212002 BK227 hW_
             replace BK203 := uf_ BK203 NB203_227 hW_
             replace BK211 := uf_ BK211 NB211_227 hW_
             replace BK227 := up_ #[.int .i64 ((rd_T37 t204 (ji20)).f2.f0), .int .i64 ((rd_T37 t204 (ji20)).f2.f1), .string ((rd_T37 t204 (ji20)).f2.f2), .string ((rd_T37 t204 (ji20)).f2.f3), .int .i64 ((rd_T37 t204 (ji20)).f2.f4), .int .i64 ((rd_T37 t204 (ji20)).f2.f5)] BK227 hW_
             replace HB := us_ hW_ (hv_ HB GE203 GE211 GE227)
             clear hW_
             replace HO_6 := rd_ HO_6
             replace HO_9 := rd_ HO_9
             replace HO_212002 := rd_ HO_212002
             replace BK203 := bd_ BK203
             replace BK211 := bd_ BK211
             replace BK227 := bd_ BK227
             replace HB := hd_ HB
             obtain ⟨Ao91, co91, eo91⟩ := Kd.R_slice HO_9.out
             (first | subst eo91 | (injection eo91 with f1_ f2_ f3_; have f4_ := f1_.symm; have f5_ := f3_.symm; clear f1_ f2_ f3_; subst f4_; subst f5_))
             refine start_ (n := 12) (S := k6e_ gb227 (.int .i64 ((rd_T37 t204 (ji20)).f2.f0)) (.int .i64 ((rd_T37 t204 (ji20)).f2.f1)) (.string ((rd_T37 t204 (ji20)).f2.f2)) (.string ((rd_T37 t204 (ji20)).f2.f3)) (.int .i64 ((rd_T37 t204 (ji20)).f2.f4)) (.int .i64 ((rd_T37 t204 (ji20)).f2.f5))) (ds := []) (on_ 0 12) (by kernel_rfl) rfl rfl (p6e_ BK227) (fun hHeld => ?_); refine with_tabW spec_HintOf.tab15 spec_HintOf.bits15 (fun HT_ HW_ => ?_)
             generalize w89.drew = w90 at HO_6 HO_9 HO_212002 BK203 BK211 BK227 HB hHeld ⊢
             refine pv_' 0 127 (on_ 1 11) rfl rfl HT_ ?_
             refine pv_' 2 129 #[i',o',i',o',o',o',o',o',o',o',o',o'] rfl rfl HT_ ?_
             refine pv_' 3 130 #[i',o',i',i',o',o',o',o',o',o',o',o'] rfl rfl HT_ ?_
             refine take_ (i := 1) (N := some 128) (v := ?_) (a' := ?_) (on_ 4 8) rfl rfl (take_ofW HT_.out HW_.out (by kernel_rfl)) (fun _ _ _ h => h) (Or.inl ⟨by rfl, ?_⟩) hHeld ?_ ?_
             rotate_left
             ·rintro w' ⟨s0, s1, s2, s3, s4, s5⟩
              go_simp
              with_reducible rfl
             rotate_left
             ·simp only [Act.put, la_, lz_, ls_, i64_w, i32_w]
              rfl
             refine pv_' 4 131 (on_ 5 7) rfl rfl HT_ ?_
             refine pv_' 5 132 (on_ 6 6) rfl rfl HT_ ?_
             refine pv_' 6 133 (on_ 7 5) rfl rfl HT_ ?_
             refine pv_' 8 135 #[i',i',i',i',i',i',i',o',i',o',o',o'] rfl rfl HT_ ?_
             refine take_ (i := 7) (N := some 134) (v := ?_) (a' := ?_) (on_ 9 3) rfl rfl (take_ofW HT_.out HW_.out (by kernel_rfl)) (fun _ _ _ h => h) (Or.inl ⟨by rfl, ?_⟩) hHeld ?_ ?_
             rotate_left
             ·rintro w' ⟨s0, s1, s2, s3, s4, s5⟩
              go_simp
              with_reducible rfl
             rotate_left
             ·simp only [Act.put, la_, lz_, ls_, i64_w, i32_w]
              rfl
             refine one_ (i := 9) (N := some 136) (on_ 10 2) rfl rfl (one_of HT_.out (by kernel_rfl)) (by decide) (fun K hK => ?_)
             refine goes_ Try.func38 (by kernel_rfl) rfl #[.slice Ao91 x9_2.length co91] (by rfl) rfl rfl ar_ ?_
             with_reducible refine (spec_SumOf.calls k2 _ _ x9_2 t228 _ ?side1 ?side2 A71.out).mono ?_
             (case side1 => repeat (first | exact (Kd.R_reads' HO_9.out).2.2 | (with_reducible refine Kd.C_alloc ?_ _) | (with_reducible refine Kd.C_drewN ?_ _) | (with_reducible refine Kd.C_drew ?_)))
             (case side2 => exact (Kd.R_reads' HO_9.out).2.1)
             rintro e w92 ⟨rfl, hb⟩
             refine ⟨_, rfl, ?_⟩
             replace HO_6 := rb_ HO_6 hb
             replace HO_9 := rb_ HO_9 hb
             replace HO_212002 := rb_ HO_212002 hb
             replace BK203 := bb_ BK203 hb
             replace BK211 := bb_ BK211 hb
             replace BK227 := bb_ BK227 hb
             replace HB := Aside0.mk (below_step (hv_ HB GE203 GE211 GE227) hb)
             (try clear hb)
             (try clear hb2)
             (try clear hk)
             (try clear hi)
             refine hK.out _ _ (p6e_ BK227) (fun hHeld => ?_)
             clear hK K
             refine norm_ (a' := ?_) ?_ ?_
             rotate_left
             ·show Act.put _ (some 136) _ = _
              simp only [Act.put, la_, lz_, ls_, i64_w, i32_w]
              rfl
             refine pv_' 10 137 (on_ 11 1) rfl rfl HT_ ?_
             refine pv_' 11 138 (on_ 12 0) rfl rfl HT_ ?_
             refine done_ (done_of HT_.out (by kernel_rfl)) ?_
             have hnb93 := NB203_211.out
             have hnc93 := NB211_203.out
             obtain ⟨hcz94_0, hcz94_1, hcz94_2, hfz94_0, hfz94_1, hfz94_2⟩ := bc3_ BK203
             try go_wp2
             refine bodyPost_ret (results_ct rfl _ _ gb203 40 #[.int .i64 0, .int .i64 0, .slice none 0 0] (0, 0) _ rfl (by (with_reducible repeat (first | refine blk_drewN ?_ _ | refine blk_drew ?_ | refine blk_alloc ?_ _)); refine blk_put (cs := #[.int .i64 0, .int .i64 0, .slice none 0 0]) ?_ 2 _ rfl; (with_reducible repeat (first | refine blk_drewN ?_ _ | refine blk_drew ?_ | refine blk_alloc ?_ _)); refine blk_put (cs := #[.int .i64 0, .int .i64 x204001_2, .slice none 0 0]) ?_ 1 _ rfl; (with_reducible repeat (first | refine blk_drewN ?_ _ | refine blk_drew ?_ | refine blk_alloc ?_ _)); refine blk_put (cs := #[.int .i64 x204000_2, .int .i64 x204001_2, .slice none 0 0]) ?_ 0 _ rfl; (with_reducible repeat (first | refine blk_drewN ?_ _ | refine blk_drew ?_ | refine blk_alloc ?_ _)); exact BK203.out) Try.underlying40 rfl (by kernel_rfl)) rfl ?_
             exact ⟨_, by first | rfl | (simp [errW_none, errW_some] <;> rfl) | (simp only [← hji20, ← hji20]; first | rfl | (simp [errW_none, errW_some] <;> rfl)) | (simp [*, errW_none, errW_some] <;> rfl), by first | exact Kd.R_nil _ _ _ _ _ | exact Kd.N_nil _ _ _ _ _ | exact Kd.V_nil _ _ _ _ _ | exact Kd.Q_nil _ _ _ _ _ | exact Kd.S_nil _ _ _ _ _, by repeat (first | (with_reducible first | exact HB.out | apply below_alloc | apply pw_below_drewN | apply below_drew1 | refine below_set ?_ GE203.out | refine below_set ?_ GE211.out | refine below_set ?_ GE227.out) | exact HB.out)⟩
           ·rw [if_neg c70] at H
            have c70b0 : (((rd_T37 t204 (ji20)).f2.f4) == (x9_2.length : Int)) = false := beq_eq_false_iff_ne.mpr c70
            have c70b1 : (((rd_T37 t204 (ji20)).f2.f4) != (x9_2.length : Int)) = true := bne_iff_ne.mpr c70
            simp only [Option.some.injEq, Prod.mk.injEq] at H
            obtain ⟨rfl, rfl, rfl, rfl⟩ := H
            have p226 : 0 ≤ ((ji20) : Int) := of_decide_eq_true as_
            have q226 : (ji20) < (t204.length : Int) := of_decide_eq_true as_
            obtain ⟨ad226, e226, hx226_0, hx226_1, hx226_2, hx226_3, hx226_4, hx226_5, hx226_6, hx226_7⟩ := at_T37 (Kd.R_reads' HO_6.out).2.2 (ji20) p226 q226
            obtain rfl : ad210 = ad226 := (by injection e226)
            replace p226 := eq_true p226
            replace q226 := eq_true q226
            try go_wp2_with (first | ((with_reducible refine gate_dst (N := 12) rfl ?_); (try (refine gate_guard (by rfl) ?_; dsimp only)); refine box_event ?hg (N := 12) ?hd (cs := #[.int .i64 0, .int .i64 0, .string (⟨#[]⟩ : ByteArray), .string (⟨#[]⟩ : ByteArray), .int .i64 0, .int .i64 0]) (t := 33) ?hr ?_; (case hd => rfl); (case hg => rfl); (case hr => first | (go_simp; done) | (go_simp; rfl)); intro gb227 hg w95 hbox hb; replace HO_6 := rb_ HO_6 hb; replace HO_9 := Aside0.mk (Kd.R_below (Kd.R_elderB (rr_ HO_9) gb227 (Nat.le_of_eq hg.symm)) hb); replace HO_212002 := rb_ HO_212002 hb; have BK227 := Aside0.mk (hbox); have GW227 := ge_ hg (hu_ HB GE203 GE211); have GE227 := ge_ hg (hu_ HB GE203 GE211); replace HB := bu_ HB GE203 GE211 hb; have NB203_227 := nl_ BK203 hg; have NB227_203 := ng_ BK203 hg; replace BK203 := bb_ BK203 hb; have NB211_227 := nl_ BK211 hg; have NB227_211 := ng_ BK211 hg; replace BK211 := bb_ BK211 hb; clear hb hbox hg; have hnb96 := NB227_203.out; have hnc96 := NB203_227.out; have hnb97 := NB227_211.out; have hnc97 := NB211_227.out; obtain ⟨hcz98_0, hcz98_1, hcz98_2, hcz98_3, hcz98_4, hcz98_5, hfz98_0, hfz98_1, hfz98_2, hfz98_3, hfz98_4, hfz98_5⟩ := bc6_ BK227))
            generalize hW_ : ((((((w95.setCell ⟨gb227, 0, none⟩ (.int .i64 ((rd_T37 t204 (ji20)).f2.f0))).setCell ⟨gb227, 1, none⟩ (.int .i64 ((rd_T37 t204 (ji20)).f2.f1))).setCell ⟨gb227, 2, none⟩ (.string ((rd_T37 t204 (ji20)).f2.f2))).setCell ⟨gb227, 3, none⟩ (.string ((rd_T37 t204 (ji20)).f2.f3))).setCell ⟨gb227, 4, none⟩ (.int .i64 ((rd_T37 t204 (ji20)).f2.f4))).setCell ⟨gb227, 5, none⟩ (.int .i64 ((rd_T37 t204 (ji20)).f2.f5))) = w99
            replace HO_6 := ur_ (fun _ => True) HO_6 BK227 hW_
            replace HO_9 := un_ (fun k_ => k_ ≠ gb227) HO_9 gb227 hW_
            replace HO_212002 := ur_ (fun _ => True) HO_212002 BK227 hW_
            replace BK203 := uf_ BK203 NB203_227 hW_
            replace BK211 := uf_ BK211 NB211_227 hW_
            replace BK227 := up_ #[.int .i64 ((rd_T37 t204 (ji20)).f2.f0), .int .i64 ((rd_T37 t204 (ji20)).f2.f1), .string ((rd_T37 t204 (ji20)).f2.f2), .string ((rd_T37 t204 (ji20)).f2.f3), .int .i64 ((rd_T37 t204 (ji20)).f2.f4), .int .i64 ((rd_T37 t204 (ji20)).f2.f5)] BK227 hW_
            replace HB := us_ hW_ (hv_ HB GE203 GE211 GE227)
            clear hW_
            replace HO_6 := rd_ HO_6
            replace HO_9 := rd_ HO_9
            replace HO_212002 := rd_ HO_212002
            replace BK203 := bd_ BK203
            replace BK211 := bd_ BK211
            replace BK227 := bd_ BK227
            replace HB := hd_ HB
            obtain ⟨Ao101, co101, eo101⟩ := Kd.R_slice HO_9.out
            (first | subst eo101 | (injection eo101 with f1_ f2_ f3_; have f4_ := f1_.symm; have f5_ := f3_.symm; clear f1_ f2_ f3_; subst f4_; subst f5_))
            refine start_ (n := 12) (S := k6e_ gb227 (.int .i64 ((rd_T37 t204 (ji20)).f2.f0)) (.int .i64 ((rd_T37 t204 (ji20)).f2.f1)) (.string ((rd_T37 t204 (ji20)).f2.f2)) (.string ((rd_T37 t204 (ji20)).f2.f3)) (.int .i64 ((rd_T37 t204 (ji20)).f2.f4)) (.int .i64 ((rd_T37 t204 (ji20)).f2.f5))) (ds := []) (on_ 0 12) (by kernel_rfl) rfl rfl (p6e_ BK227) (fun hHeld => ?_); refine with_tabW spec_HintOf.tab15 spec_HintOf.bits15 (fun HT_ HW_ => ?_)
            generalize w99.drew = w100 at HO_6 HO_9 HO_212002 BK203 BK211 BK227 HB hHeld ⊢
            refine pv_' 0 127 (on_ 1 11) rfl rfl HT_ ?_
            refine pv_' 2 129 #[i',o',i',o',o',o',o',o',o',o',o',o'] rfl rfl HT_ ?_
            refine pv_' 3 130 #[i',o',i',i',o',o',o',o',o',o',o',o'] rfl rfl HT_ ?_
            refine take_ (i := 1) (N := some 128) (v := ?_) (a' := ?_) (on_ 4 8) rfl rfl (take_ofW HT_.out HW_.out (by kernel_rfl)) (fun _ _ _ h => h) (Or.inl ⟨by rfl, ?_⟩) hHeld ?_ ?_
            rotate_left
            ·rintro w' ⟨s0, s1, s2, s3, s4, s5⟩
             go_simp
             with_reducible rfl
            rotate_left
            ·simp only [Act.put, la_, lz_, ls_, i64_w, i32_w]
             rfl
            refine pv_' 4 131 (on_ 5 7) rfl rfl HT_ ?_
            refine pv_' 5 132 (on_ 6 6) rfl rfl HT_ ?_
            refine pun_' 6 133 (on_ 7 5) rfl rfl HT_ ?_
            refine pun_' 7 134 (on_ 8 4) rfl rfl HT_ ?_
            refine pun_' 8 135 (on_ 9 3) rfl rfl HT_ ?_
            refine pun_' 9 136 (on_ 10 2) rfl rfl HT_ ?_
            refine pun_' 10 137 (on_ 11 1) rfl rfl HT_ ?_
            refine pv_' 11 138 (on_ 12 0) rfl rfl HT_ ?_
            refine done_ (done_of HT_.out (by kernel_rfl)) ?_
            have hnb102 := NB203_211.out
            have hnc102 := NB211_203.out
            obtain ⟨hcz103_0, hcz103_1, hcz103_2, hfz103_0, hfz103_1, hfz103_2⟩ := bc3_ BK203
            try go_wp2
            refine bodyPost_ret (results_ct rfl _ _ gb203 40 #[.int .i64 0, .int .i64 0, .slice none 0 0] (0, 0) _ rfl (by (with_reducible repeat (first | refine blk_drewN ?_ _ | refine blk_drew ?_ | refine blk_alloc ?_ _)); refine blk_put (cs := #[.int .i64 0, .int .i64 0, .slice none 0 0]) ?_ 2 _ rfl; (with_reducible repeat (first | refine blk_drewN ?_ _ | refine blk_drew ?_ | refine blk_alloc ?_ _)); refine blk_put (cs := #[.int .i64 0, .int .i64 x204001_2, .slice none 0 0]) ?_ 1 _ rfl; (with_reducible repeat (first | refine blk_drewN ?_ _ | refine blk_drew ?_ | refine blk_alloc ?_ _)); refine blk_put (cs := #[.int .i64 x204000_2, .int .i64 x204001_2, .slice none 0 0]) ?_ 0 _ rfl; (with_reducible repeat (first | refine blk_drewN ?_ _ | refine blk_drew ?_ | refine blk_alloc ?_ _)); exact BK203.out) Try.underlying40 rfl (by kernel_rfl)) rfl ?_
            exact ⟨_, by first | rfl | (simp [errW_none, errW_some] <;> rfl) | (simp only [← hji20, ← hji20]; first | rfl | (simp [errW_none, errW_some] <;> rfl)) | (simp [*, errW_none, errW_some] <;> rfl), by first | exact Kd.R_nil _ _ _ _ _ | exact Kd.N_nil _ _ _ _ _ | exact Kd.V_nil _ _ _ _ _ | exact Kd.Q_nil _ _ _ _ _ | exact Kd.S_nil _ _ _ _ _, by repeat (first | (with_reducible first | exact HB.out | apply below_alloc | apply pw_below_drewN | apply below_drew1 | refine below_set ?_ GE203.out | refine below_set ?_ GE211.out | refine below_set ?_ GE227.out) | exact HB.out)⟩
          ·rw [if_neg c69] at H
           exact absurd H (by simp)
         ·rw [if_neg c68] at H
          exact absurd H (by simp)
     ·rw [if_neg c22] at H
      exact absurd H (by simp)
    ·rw [if_neg c21] at H
     exact absurd H (by simp)

end Go.Proofs.Ytnjmehiploelnaa.PFnExactHintFits
