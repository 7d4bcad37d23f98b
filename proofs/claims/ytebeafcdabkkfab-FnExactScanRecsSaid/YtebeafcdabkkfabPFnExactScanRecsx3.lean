-- Laid by a program of this session, a copy of the kit's printer with additions (wip/patch_print.py): myhead. Lean checks it.
import Derived.Test.YtebeafcdabkkfabPFnExactScanRecsx0
import Derived.Test.YtebeafcdabkkfabPFnExactScanRecsx2
namespace Go.Proofs.Ytebeafcdabkkfab.PFnExactScanRecs
open Go.RowKit Go.Proofs.YtebeafcdabkkfabW.PrintWords Go.Proofs.YtebeafcdabkkfabW.PrintLast Go.Proofs.YtebeafcdabkkfabW.PrintMore
attribute [local go_sem] max2_int min2_int max_two min_two max_three min_three max_four min_four   -- for this text's walks alone
set_option linter.unusedVariables false
set_option linter.unusedSimpArgs false

/-! ### spec_Frame: function 88 -/
def spec_Frame.f (k : Nat) (a0 : ByteArray) : Option (ByteArray) := if (a0.size : Int) > 200 then (some (⟨#[]⟩ : ByteArray)) else ((spec_Var.f k (a0.size : Int)).bind fun t116 => (if t116.size + a0.size ≤ 9223372036854775807 then ((spec_Crc.f k (t116 ++ a0)).bind fun t117 => ((spec_Fixed.f k t117 4).bind fun t118 => (if t118.size + (t116 ++ a0).size ≤ 9223372036854775807 then (some (t118 ++ (t116 ++ a0))) else (none)))) else (none)))
theorem spec_Frame.mono : ∀ a0 k, LeO (spec_Frame.f k a0) (spec_Frame.f (k + 1) a0) := by
 intro a0 k
 unfold spec_Frame.f
 repeat' first
   | (with_reducible exact spec_Crc.mono _ _)
   | (with_reducible exact spec_Fixed.mono _ _ _)
   | (with_reducible exact spec_Var.mono _ _)
   | (with_reducible exact LeO.refl _)
   | (with_reducible exact LeO.none _)
   | (with_reducible refine LeO.ite ?_ ?_)
   | (with_reducible refine LeO.bind ?_ (fun _ => ?_))
   | exact spec_Crc.mono _ _
   | exact spec_Fixed.mono _ _ _
   | exact spec_Var.mono _ _
   | exact LeO.none _
   | refine LeO.ite ?_ ?_
   | refine LeO.bind ?_ (fun _ => ?_)
set_option maxHeartbeats 8000000 in
set_option maxRecDepth 100000 in
theorem spec_Frame.calls (k : Nat) (a0 : ByteArray) (r : ByteArray) (w : World) (h : spec_Frame.f k a0 = some r) :
  Calls Try.prog 88 #[.string a0] w fun e w' => e = .returned (.string r) ∧ Below w.heap.size w w' := by
 have HB := Aside0.mk (Below.refl w.heap.size w)
 have H : (if (a0.size : Int) > 200 then (some (⟨#[]⟩ : ByteArray)) else ((spec_Var.f k (a0.size : Int)).bind fun t116 => (if t116.size + a0.size ≤ 9223372036854775807 then ((spec_Crc.f k (t116 ++ a0)).bind fun t117 => ((spec_Fixed.f k t117 4).bind fun t118 => (if t118.size + (t116 ++ a0).size ≤ 9223372036854775807 then (some (t118 ++ (t116 ++ a0))) else (none)))) else (none)))) = some r := h
 clear h
 by_cases c2 : (a0.size : Int) > 200
 ·rw [if_pos c2] at H
  have c2b0 : decide (200 < (a0.size : Int)) = true := decide_eq_true c2
  have c2b1 : decide (200 < a0.size) = true := decide_eq_true (by omega)
  clear c2
  obtain rfl := Option.some.inj H
  go_enter Try.func88, Try.ntmps88
  go_wp2
  go_ret
  exact ⟨re_, hb_ HB⟩
 ·rw [if_neg c2] at H
  have c2b0 : decide (200 < (a0.size : Int)) = false := decide_eq_false c2
  have c2b1 : decide (200 < a0.size) = false := decide_eq_false (by omega)
  clear c2
  replace H := Option.bind_eq_some_iff.mp H
  obtain ⟨t116, A30, H⟩ := H
  replace H : (if t116.size + a0.size ≤ 9223372036854775807 then ((spec_Crc.f k (t116 ++ a0)).bind fun t117 => ((spec_Fixed.f k t117 4).bind fun t118 => (if t118.size + (t116 ++ a0).size ≤ 9223372036854775807 then (some (t118 ++ (t116 ++ a0))) else (none)))) else (none)) = some r := H
  have A3 := Aside0.mk A30
  clear A30
  by_cases c4 : t116.size + a0.size ≤ 9223372036854775807
  ·rw [if_pos c4] at H
   have c4b0 := eq_true c4
   have c4b1 : decide (t116.size + a0.size ≤ 9223372036854775807) = true := decide_eq_true c4
   try have c4b2 : (9223372036854775807 < t116.size + a0.size) = False := eq_false (Nat.not_lt.2 c4)
   (try (have c4b3 := c4b2; simp only [ByteArray.size_append] at c4b3))
   replace H := Option.bind_eq_some_iff.mp H
   obtain ⟨t117, A50, H⟩ := H
   replace H : ((spec_Fixed.f k t117 4).bind fun t118 => (if t118.size + (t116 ++ a0).size ≤ 9223372036854775807 then (some (t118 ++ (t116 ++ a0))) else (none))) = some r := H
   have A5 := Aside0.mk A50
   clear A50
   replace H := Option.bind_eq_some_iff.mp H
   obtain ⟨t118, A60, H⟩ := H
   replace H : (if t118.size + (t116 ++ a0).size ≤ 9223372036854775807 then (some (t118 ++ (t116 ++ a0))) else (none)) = some r := H
   have A6 := Aside0.mk A60
   clear A60
   by_cases c7 : t118.size + (t116 ++ a0).size ≤ 9223372036854775807
   ·rw [if_pos c7] at H
    have c7b0 := eq_true c7
    have c7b1 : decide (t118.size + (t116 ++ a0).size ≤ 9223372036854775807) = true := decide_eq_true c7
    try have c7b2 : (9223372036854775807 < t118.size + (t116 ++ a0).size) = False := eq_false (Nat.not_lt.2 c7)
    (try (have c7b3 := c7b2; simp only [ByteArray.size_append] at c7b3))
    obtain rfl := Option.some.inj H
    go_enter Try.func88, Try.ntmps88
    go_wp2_with (first | ((with_reducible refine gate_callee (f := 112) rfl ?_); refine goesL_ (some 9) rfl rfl Try.func112 (by kernel_rfl) rfl #[.int .i64 (a0.size : Int)] rfl ar_ ?_; (with_reducible refine (spec_Var.calls k (a0.size : Int) t116 _ A3.out).mono ?_); rintro e w8 ⟨rfl, hb⟩; refine ⟨_, rfl, ?_⟩; have n0_ := Aside0.mk (below_step (hb_ HB) hb); clear HB; have HB := n0_; clear n0_; (try clear hb); (try clear hb2); (try clear hk); (try clear hi)) | ((with_reducible refine gate_callee (f := 103) rfl ?_); refine goesL_ (some 13) rfl rfl Try.func103 (by kernel_rfl) rfl #[.string (t116 ++ a0)] rfl ar_ ?_; (with_reducible refine (spec_Crc.calls k (t116 ++ a0) t117 _ A5.out).mono ?_); rintro e w' ⟨rfl, ⟨nd, rfl⟩⟩; refine ⟨_, rfl, ?_⟩) | ((with_reducible refine gate_callee (f := 113) rfl ?_); refine goesL_ (some 14) rfl rfl Try.func113 (by kernel_rfl) rfl #[.int .i64 t117, .int .i64 4] rfl ar_ ?_; (with_reducible refine (spec_Fixed.calls k t117 4 t118 _ A6.out).mono ?_); rintro e w9 ⟨rfl, hb⟩; refine ⟨_, rfl, ?_⟩; have n0_ := Aside0.mk (below_step (hb_ HB) hb); clear HB; have HB := n0_; clear n0_; (try clear hb); (try clear hb2); (try clear hk); (try clear hi)))
    go_ret
    exact ⟨re_, hb_ HB⟩
   ·rw [if_neg c7] at H
    exact absurd H (by simp)
  ·rw [if_neg c4] at H
   exact absurd H (by simp)

/-! ### spec_Unframe: function 54 -/
def spec_Unframe.j0 : Nat → ByteArray → Int → Int → Bool → Option (ByteArray × Int)
 | 0, _, _, _, _ => none
 | k + 1, x0, x4, x5, x30 => if x30 = true then (some ((⟨#[]⟩ : ByteArray), 0)) else (if 0 ≤ (wrap64 (4 + x5)) then (if (wrap64 (4 + x5)) ≤ (wrap64 ((wrap64 (4 + x5)) + x4)) then (if (wrap64 ((wrap64 (4 + x5)) + x4)) ≤ (x0.size : Int) then (if 0 ≤ (wrap64 ((wrap64 (4 + x5)) + x4)) then ((spec_Frame.f k (x0.extract ((wrap64 (4 + x5)) : Int).toNat ((wrap64 ((wrap64 (4 + x5)) + x4)) : Int).toNat)).bind fun t121 => (if (x0.extract 0 ((wrap64 ((wrap64 (4 + x5)) + x4)) : Int).toNat).toList = t121.toList then (some (x0.extract ((wrap64 (4 + x5)) : Int).toNat ((wrap64 ((wrap64 (4 + x5)) + x4)) : Int).toNat, wrap64 ((wrap64 (4 + x5)) + x4))) else (some ((⟨#[]⟩ : ByteArray), 0)))) else (none)) else (none)) else (none)) else (none))
def spec_Unframe.f (k : Nat) (a0 : ByteArray) : Option (ByteArray × Int) := if (a0.size : Int) < 5 then (some ((⟨#[]⟩ : ByteArray), 0)) else (if 4 ≤ (a0.size : Int) then ((spec_ReadVar.f k (a0.extract 4 a0.size)).bind fun bt119 => (if bt119.2 = 0 then (spec_Unframe.j0 k a0 bt119.1 bt119.2 true) else (if bt119.1 > 200 then (spec_Unframe.j0 k a0 bt119.1 bt119.2 true) else (spec_Unframe.j0 k a0 bt119.1 bt119.2 (decide (bt119.1 > (wrap64 ((wrap64 ((a0.size : Int) - 4)) - bt119.2)))))))) else (none))
theorem spec_Unframe.mono_l : ∀ k, (∀ y0 y1 y2 y3, LeO (spec_Unframe.j0 k y0 y1 y2 y3) (spec_Unframe.j0 (k + 1) y0 y1 y2 y3))
 | 0 => fun _ _ _ _ r h => by simp [spec_Unframe.j0] at h
 | k + 1 => by
  have ih0 := spec_Unframe.mono_l k
  ·intro y0 y1 y2 y3
   unfold spec_Unframe.j0
   repeat' first
   | (with_reducible exact ih0 _ _ _ _)
   | (with_reducible exact spec_Frame.mono _ _)
   | (with_reducible exact spec_ReadVar.mono _ _)
   | (with_reducible exact LeO.refl _)
   | (with_reducible exact LeO.none _)
   | (with_reducible refine LeO.ite ?_ ?_)
   | (with_reducible refine LeO.bind ?_ (fun _ => ?_))
   | exact ih0 _ _ _ _
   | exact spec_Frame.mono _ _
   | exact spec_ReadVar.mono _ _
   | exact LeO.none _
   | refine LeO.ite ?_ ?_
   | refine LeO.bind ?_ (fun _ => ?_)
theorem spec_Unframe.mono : ∀ a0 k, LeO (spec_Unframe.f k a0) (spec_Unframe.f (k + 1) a0) := by
 intro a0 k
 have ih0 := spec_Unframe.mono_l k
 unfold spec_Unframe.f
 repeat' first
   | (with_reducible exact ih0 _ _ _ _)
   | (with_reducible exact spec_Frame.mono _ _)
   | (with_reducible exact spec_ReadVar.mono _ _)
   | (with_reducible exact LeO.refl _)
   | (with_reducible exact LeO.none _)
   | (with_reducible refine LeO.ite ?_ ?_)
   | (with_reducible refine LeO.bind ?_ (fun _ => ?_))
   | exact ih0 _ _ _ _
   | exact spec_Frame.mono _ _
   | exact spec_ReadVar.mono _ _
   | exact LeO.none _
   | refine LeO.ite ?_ ?_
   | refine LeO.bind ?_ (fun _ => ?_)
def spec_Unframe.T7 : Bool × List (List Nat × List Nat) := (true, [([], []), ([], []), ([1], [1]), ([], []), ([2, 3], [2, 3]), ([0, 4], [0, 4]), ([], []), ([6], [6]), ([5, 7], [5, 7])])
def spec_Unframe.B7 : List Nat := [0, 0, 2, 0, 14, 31, 0, 64, 255]
theorem spec_Unframe.tab7 : rtab .any (opsOf Try.f54 7) = spec_Unframe.T7 := by kernel_rfl
theorem spec_Unframe.bits7 : waitsOk spec_Unframe.T7.2 spec_Unframe.B7 = true := by kernel_rfl
set_option maxHeartbeats 8000000 in
set_option maxRecDepth 100000 in
theorem spec_Unframe.calls (k : Nat) (a0 : ByteArray) (r1 : ByteArray) (r2 : Int) (w : World) (h : spec_Unframe.f k a0 = some (r1, r2)) :
  Calls Try.prog 54 #[.string a0] w fun e w' => e = .returned (.tuple #[.string r1, .int .i64 r2]) ∧ Below w.heap.size w w' := by
 have HB := Aside0.mk (Below.refl w.heap.size w)
 have H : (if (a0.size : Int) < 5 then (some ((⟨#[]⟩ : ByteArray), 0)) else (if 4 ≤ (a0.size : Int) then ((spec_ReadVar.f k (a0.extract 4 a0.size)).bind fun bt119 => (if bt119.2 = 0 then (spec_Unframe.j0 k a0 bt119.1 bt119.2 true) else (if bt119.1 > 200 then (spec_Unframe.j0 k a0 bt119.1 bt119.2 true) else (spec_Unframe.j0 k a0 bt119.1 bt119.2 (decide (bt119.1 > (wrap64 ((wrap64 ((a0.size : Int) - 4)) - bt119.2)))))))) else (none))) = some (r1, r2) := h
 clear h
 by_cases c2 : (a0.size : Int) < 5
 ·rw [if_pos c2] at H
  have c2b0 : decide ((a0.size : Int) < 5) = true := decide_eq_true c2
  have c2b1 : decide (a0.size < 5) = true := decide_eq_true (by omega)
  clear c2
  simp only [Option.some.injEq, Prod.mk.injEq] at H
  obtain ⟨rfl, rfl⟩ := H
  go_enter Try.func54, Try.ntmps54
  go_wp2
  go_ret2
  exact ⟨re_, hb_ HB⟩
 ·rw [if_neg c2] at H
  have c2b0 : decide ((a0.size : Int) < 5) = false := decide_eq_false c2
  have c2b1 : decide (a0.size < 5) = false := decide_eq_false (by omega)
  clear c2
  by_cases c3 : 4 ≤ (a0.size : Int)
  ·rw [if_pos c3] at H
   have c3b0 := eq_true c3
   have c3b1 : decide (4 ≤ (a0.size : Int)) = true := decide_eq_true c3
   clear c3
   replace H := Option.bind_eq_some_iff.mp H
   obtain ⟨⟨t119, t120⟩, A40, H⟩ := H
   replace H : (if t120 = 0 then (spec_Unframe.j0 k a0 t119 t120 true) else (if t119 > 200 then (spec_Unframe.j0 k a0 t119 t120 true) else (spec_Unframe.j0 k a0 t119 t120 (decide (t119 > (wrap64 ((wrap64 ((a0.size : Int) - 4)) - t120))))))) = some (r1, r2) := H
   have A4 := Aside0.mk A40
   clear A40
   have HC5 := Aside0.mk H
   clear H
   go_enter Try.func54, Try.ntmps54
   go_upto_region 4 with (first | ((with_reducible refine gate_callee (f := 87) rfl ?_); refine goesL_ (some 13) rfl rfl Try.func87 (by kernel_rfl) rfl #[.string (a0.extract 4 a0.size)] rfl ar_ ?_; (with_reducible refine (spec_ReadVar.calls k (a0.extract 4 a0.size) t119 t120 _ A4.out).mono ?_); rintro e w6 ⟨rfl, hb⟩; refine ⟨_, rfl, ?_⟩; have n0_ := Aside0.mk (below_step (hb_ HB) hb); clear HB; have HB := n0_; clear n0_; (try clear hb); (try clear hb2); (try clear hk); (try clear hi)))
   (try simp only [Act.put, la_, lz_, ls_])
   go_cut [30] (fun v30 wc => ∃ (kq : Nat) (x30_4 : Bool), v30 = .bool x30_4 ∧ Aside0 (spec_Unframe.j0 kq a0 t119 t120 x30_4 = some (r1, r2)) ∧ Aside0 (kq ≤ k) ∧ Aside0 (Below w.heap.size w wc))
   case first =>
    have H := HC5.out
    clear HC5
    by_cases c7 : t120 = 0
    ·rw [if_pos c7] at H
     have c7b0 : (t120 == 0) = true := beq_iff_eq.mpr c7
     have c7b1 : (t120 != 0) = false := bne_eq_false_iff_eq.mpr c7
     clear c7
     (first | rw [c7b0] | (simp only [i64_w, i32_w]; rw [c7b0]) | skip)
     have H' := Aside0.mk H
     clear H
     go_wp2
     go_meet
     case rel => exact ⟨_, (true), rs_, H', ⟨by first | exact Nat.le_refl _ | exact Nat.le_of_succ_le this | omega⟩, ⟨hb_ HB⟩⟩
    ·rw [if_neg c7] at H
     have c7b0 : (t120 == 0) = false := beq_eq_false_iff_ne.mpr c7
     have c7b1 : (t120 != 0) = true := bne_iff_ne.mpr c7
     (first | rw [c7b0] | (simp only [i64_w, i32_w]; rw [c7b0]) | skip)
     by_cases c8 : t119 > 200
     ·rw [if_pos c8] at H
      have c8b0 : decide (200 < t119) = true := decide_eq_true c8
      clear c8
      have H' := Aside0.mk H
      clear H
      go_wp2
      go_meet
      case rel => exact ⟨_, (true), rs_, H', ⟨by first | exact Nat.le_refl _ | exact Nat.le_of_succ_le this | omega⟩, ⟨hb_ HB⟩⟩
     ·rw [if_neg c8] at H
      have c8b0 : decide (200 < t119) = false := decide_eq_false c8
      clear c8
      have H' := Aside0.mk H
      clear H
      go_wp2
      go_meet
      case rel => exact ⟨_, (decide (t119 > (wrap64 ((wrap64 ((a0.size : Int) - 4)) - t120)))), rs_, H', ⟨by first | exact Nat.le_refl _ | exact Nat.le_of_succ_le this | omega⟩, ⟨hb_ HB⟩⟩
   case rest =>
    clear HC5
    try clear c2
    try clear c2b0
    try clear c2b1
    try clear p2
    try clear c3
    try clear c3b0
    try clear c3b1
    try clear c5
    try clear p6
    try clear c7
    try clear c7b0
    try clear c7b1
    try clear c8
    try clear c8b0
    obtain ⟨kq, x30_4, rfl, HA, HJ4, HB⟩ := hcut
    cases kq with
    | zero => exact absurd HA.out (by simp [spec_Unframe.j0])
    | succ kj4 =>
     have H := HA.out
     clear HA
     simp only [spec_Unframe.j0] at H
     by_cases c9 : x30_4 = true
     ·subst c9
      have H1 : (some ((⟨#[]⟩ : ByteArray), 0)) = some (r1, r2) := by rw [if_pos rfl] at H; exact H
      clear H
      have H := H1
      clear H1
      simp only [Option.some.injEq, Prod.mk.injEq] at H
      obtain ⟨rfl, rfl⟩ := H
      go_wp2
      go_ret2
      exact ⟨re_, hb_ HB⟩
     ·replace c9 := Bool.eq_false_iff.mpr c9
      subst c9
      have H1 : (if 0 ≤ (wrap64 (4 + t120)) then (if (wrap64 (4 + t120)) ≤ (wrap64 ((wrap64 (4 + t120)) + t119)) then (if (wrap64 ((wrap64 (4 + t120)) + t119)) ≤ (a0.size : Int) then (if 0 ≤ (wrap64 ((wrap64 (4 + t120)) + t119)) then ((spec_Frame.f kj4 (a0.extract ((wrap64 (4 + t120)) : Int).toNat ((wrap64 ((wrap64 (4 + t120)) + t119)) : Int).toNat)).bind fun t121 => (if (a0.extract 0 ((wrap64 ((wrap64 (4 + t120)) + t119)) : Int).toNat).toList = t121.toList then (some (a0.extract ((wrap64 (4 + t120)) : Int).toNat ((wrap64 ((wrap64 (4 + t120)) + t119)) : Int).toNat, wrap64 ((wrap64 (4 + t120)) + t119))) else (some ((⟨#[]⟩ : ByteArray), 0)))) else (none)) else (none)) else (none)) else (none)) = some (r1, r2) := by rw [if_neg (show ¬ (false = true) by decide)] at H; exact H
      clear H
      have H := H1
      clear H1
      obtain ⟨ji10, hji10⟩ : ∃ j_ : Int, (wrap64 (4 + t120)) = j_ := ⟨_, rfl⟩
      replace H : (if 0 ≤ (ji10) then (if (ji10) ≤ (wrap64 ((ji10) + t119)) then (if (wrap64 ((ji10) + t119)) ≤ (a0.size : Int) then (if 0 ≤ (wrap64 ((ji10) + t119)) then ((spec_Frame.f kj4 (a0.extract ((ji10) : Int).toNat ((wrap64 ((ji10) + t119)) : Int).toNat)).bind fun t121 => (if (a0.extract 0 ((wrap64 ((ji10) + t119)) : Int).toNat).toList = t121.toList then (some (a0.extract ((ji10) : Int).toNat ((wrap64 ((ji10) + t119)) : Int).toNat, wrap64 ((ji10) + t119))) else (some ((⟨#[]⟩ : ByteArray), 0)))) else (none)) else (none)) else (none)) else (none)) = some (r1, r2) := by first | (rw [hji10] at H; exact H) | (simp only [hji10] at H ⊢; exact H)
      have hji10w : (IntKind.i64.wrap (4 + t120)) = ji10 := (i64_w _).trans hji10
      by_cases c11 : 0 ≤ (ji10)
      ·rw [if_pos c11] at H
       have c11b0 := eq_true c11
       have c11b1 : decide (0 ≤ (ji10)) = true := decide_eq_true c11
       clear c11
       by_cases c12 : (ji10) ≤ (wrap64 ((ji10) + t119))
       ·rw [if_pos c12] at H
        have c12b0 := eq_true c12
        have c12b1 : decide ((ji10) ≤ (wrap64 ((ji10) + t119))) = true := decide_eq_true c12
        by_cases c13 : (wrap64 ((ji10) + t119)) ≤ (a0.size : Int)
        ·rw [if_pos c13] at H
         have c13b0 := eq_true c13
         have c13b1 : decide ((wrap64 ((ji10) + t119)) ≤ (a0.size : Int)) = true := decide_eq_true c13
         obtain ⟨ji14, hji14⟩ : ∃ j_ : Int, (wrap64 ((ji10) + t119)) = j_ := ⟨_, rfl⟩
         replace H : (if 0 ≤ (ji14) then ((spec_Frame.f kj4 (a0.extract ((ji10) : Int).toNat ((ji14) : Int).toNat)).bind fun t121 => (if (a0.extract 0 ((ji14) : Int).toNat).toList = t121.toList then (some (a0.extract ((ji10) : Int).toNat ((ji14) : Int).toNat, ji14)) else (some ((⟨#[]⟩ : ByteArray), 0)))) else (none)) = some (r1, r2) := by first | (rw [hji14] at H; exact H) | (simp only [hji14] at H ⊢; exact H)
         (try rw [hji14] at c12b0)
         (try rw [hji14] at c12b1)
         (try rw [hji14] at c12)
         (try rw [hji14] at c13b0)
         (try rw [hji14] at c13b1)
         (try rw [hji14] at c13)
         have hji14w : (IntKind.i64.wrap ((ji10) + t119)) = ji14 := (i64_w _).trans hji14
         by_cases c15 : 0 ≤ (ji14)
         ·rw [if_pos c15] at H
          have c15b0 := eq_true c15
          have c15b1 : decide (0 ≤ (ji14)) = true := decide_eq_true c15
          clear c15
          have c16b0 := eq_true (of_decide_eq_true as_ : (ji14) ≤ (a0.size : Int))
          replace H := Option.bind_eq_some_iff.mp H
          obtain ⟨t121, A170, H⟩ := H
          replace H : (if (a0.extract 0 ((ji14) : Int).toNat).toList = t121.toList then (some (a0.extract ((ji10) : Int).toNat ((ji14) : Int).toNat, ji14)) else (some ((⟨#[]⟩ : ByteArray), 0))) = some (r1, r2) := H
          have A17 := Aside0.mk A170
          clear A170
          by_cases c18 : (a0.extract 0 ((ji14) : Int).toNat).toList = t121.toList
          ·rw [if_pos c18] at H
           have c18b0 : ((a0.extract 0 ((ji14) : Int).toNat).toList == t121.toList) = true := beq_iff_eq.mpr c18
           have c18b1 : ((a0.extract 0 ((ji14) : Int).toNat).toList != t121.toList) = false := bne_eq_false_iff_eq.mpr c18
           clear c18
           simp only [Option.some.injEq, Prod.mk.injEq] at H
           obtain ⟨rfl, rfl⟩ := H
           try go_wp2
           have n0_ := Aside0.mk (below_drew1 HB.out)
           clear HB
           have HB := n0_
           clear n0_
           refine start_ (n := 9) (S := fun w' => True) (ds := []) #[o',o',o',o',o',o',o',o',o'] (by kernel_rfl) rfl rfl trivial (fun hHeld => ?_); refine with_tabW spec_Unframe.tab7 spec_Unframe.bits7 (fun HT_ HW_ => ?_)
           generalize wc.drew = w19 at HB hHeld ⊢
           refine pure_ (i := 0) (N := some 39) (v := ?_) (a' := ?_) #[i',o',o',o',o',o',o',o',o'] rfl rfl (any_of HT_.out (by kernel_rfl)) (fun _ _ _ h => h) (Or.inl ⟨by rfl, ?_⟩) ?_ ?_
           rotate_left;·intro w';go_simp;with_reducible rfl
           rotate_left;·simp only [Act.put, la_, lz_, ls_, i64_w, i32_w];rfl
           refine pure_ (i := 1) (N := some 40) (v := ?_) (a' := ?_) #[i',i',o',o',o',o',o',o',o'] rfl rfl (any_of HT_.out (by kernel_rfl)) (fun _ _ _ h => h) (Or.inl ⟨by rfl, ?_⟩) ?_ ?_
           rotate_left;·intro w';go_simp;with_reducible rfl
           rotate_left;·simp only [Act.put, la_, lz_, ls_, i64_w, i32_w];rfl
           refine pure_ (i := 2) (N := some 41) (v := ?_) (a' := ?_) #[i',i',i',o',o',o',o',o',o'] rfl rfl (any_of HT_.out (by kernel_rfl)) (fun _ _ _ h => h) (Or.inl ⟨by rfl, ?_⟩) ?_ ?_
           rotate_left;·intro w';go_simp;with_reducible rfl
           rotate_left;·simp only [Act.put, la_, lz_, ls_, i64_w, i32_w];rfl
           refine pure_ (i := 3) (N := some 42) (v := ?_) (a' := ?_) #[i',i',i',i',o',o',o',o',o'] rfl rfl (any_of HT_.out (by kernel_rfl)) (fun _ _ _ h => h) (Or.inl ⟨by rfl, ?_⟩) ?_ ?_
           rotate_left;·intro w';go_simp;with_reducible rfl
           rotate_left;·simp only [Act.put, la_, lz_, ls_, i64_w, i32_w];rfl
           refine pure_ (i := 4) (N := some 43) (v := ?_) (a' := ?_) #[i',i',i',i',i',o',o',o',o'] rfl rfl (any_of HT_.out (by kernel_rfl)) (fun _ _ _ h => h) (Or.inl ⟨by rfl, ?_⟩) ?_ ?_
           rotate_left;·intro w';go_simp;with_reducible rfl
           rotate_left;·simp only [Act.put, la_, lz_, ls_, i64_w, i32_w];rfl
           refine pure_ (i := 5) (N := some 44) (v := ?_) (a' := ?_) #[i',i',i',i',i',i',o',o',o'] rfl rfl (any_of HT_.out (by kernel_rfl)) (fun _ _ _ h => h) (Or.inl ⟨by rfl, ?_⟩) ?_ ?_
           rotate_left;·intro w';go_simp;with_reducible rfl
           rotate_left;·simp only [Act.put, la_, lz_, ls_, i64_w, i32_w];rfl
           refine pure_ (i := 6) (N := some 45) (v := ?_) (a' := ?_) #[i',i',i',i',i',i',i',o',o'] rfl rfl (any_of HT_.out (by kernel_rfl)) (fun _ _ _ h => h) (Or.inl ⟨by rfl, ?_⟩) ?_ ?_
           rotate_left;·intro w';go_simp;with_reducible rfl
           rotate_left;·simp only [Act.put, la_, lz_, ls_, i64_w, i32_w];rfl
           refine one_ (i := 7) (N := some 46) #[i',i',i',i',i',i',i',i',o'] rfl rfl (one_of HT_.out (by kernel_rfl)) (by decide) (fun K hK => ?_)
           refine goes_ Try.func88 (by kernel_rfl) rfl #[.string (a0.extract ((ji10) : Int).toNat ((ji14) : Int).toNat)] (by rfl) rfl rfl (by (try simp only [List.map_toArray, List.map_cons, List.map_nil]); first | done | (simp only [hji10, hji14]; rfl) | rfl | (simp only [List.length_drop, List.length_take]; rfl)) ?_
           with_reducible refine (spec_Frame.calls kj4 (a0.extract ((ji10) : Int).toNat ((ji14) : Int).toNat) t121 _ A17.out).mono ?_
           rintro e w20 ⟨rfl, hb⟩
           refine ⟨_, rfl, ?_⟩
           have n0_ := Aside0.mk (below_step (hb_ HB) hb)
           clear HB
           have HB := n0_
           clear n0_
           (try clear hb)
           (try clear hb2)
           (try clear hk)
           (try clear hi)
           refine hK.out _ _ trivial (fun hHeld => ?_)
           clear hK K
           refine norm_ (a' := ?_) ?_ ?_
           rotate_left
           ·show Act.put _ (some 46) _ = _
            simp only [Act.put, la_, lz_, ls_, i64_w, i32_w]
            rfl
           refine pure_ (i := 8) (N := some 47) (v := ?_) (a' := ?_) #[i',i',i',i',i',i',i',i',i'] rfl rfl (any_of HT_.out (by kernel_rfl)) (fun _ _ _ h => h) (Or.inl ⟨by rfl, ?_⟩) ?_ ?_
           rotate_left;·intro w';go_simp;with_reducible rfl
           rotate_left;·simp only [Act.put, la_, lz_, ls_, i64_w, i32_w];rfl
           refine done_ (done_of HT_.out (by kernel_rfl)) ?_
           have Nji14_ := Aside0.mk hji14
           clear hji14
           (try clear hji14w)
           have Nji10_ := Aside0.mk hji10
           clear hji10
           (try clear hji10w)
           try go_wp2
           have hji10 := Nji10_.out
           clear Nji10_
           (try have hji10w := (i64_w _).trans hji10)
           have hji14 := Nji14_.out
           clear Nji14_
           (try have hji14w := (i64_w _).trans hji14)
           go_ret2
           exact ⟨by first | rfl | (simp [errW_none, errW_some] <;> rfl) | (simp only [← hji10, ← hji14]; first | rfl | (simp [errW_none, errW_some] <;> rfl)) | (simp [*, errW_none, errW_some] <;> rfl), hb_ HB⟩
          ·rw [if_neg c18] at H
           have c18b0 : ((a0.extract 0 ((ji14) : Int).toNat).toList == t121.toList) = false := beq_eq_false_iff_ne.mpr c18
           have c18b1 : ((a0.extract 0 ((ji14) : Int).toNat).toList != t121.toList) = true := bne_iff_ne.mpr c18
           simp only [Option.some.injEq, Prod.mk.injEq] at H
           obtain ⟨rfl, rfl⟩ := H
           try go_wp2
           have n0_ := Aside0.mk (below_drew1 HB.out)
           clear HB
           have HB := n0_
           clear n0_
           refine start_ (n := 9) (S := fun w' => True) (ds := []) #[o',o',o',o',o',o',o',o',o'] (by kernel_rfl) rfl rfl trivial (fun hHeld => ?_); refine with_tabW spec_Unframe.tab7 spec_Unframe.bits7 (fun HT_ HW_ => ?_)
           generalize wc.drew = w21 at HB hHeld ⊢
           refine pure_ (i := 0) (N := some 39) (v := ?_) (a' := ?_) #[i',o',o',o',o',o',o',o',o'] rfl rfl (any_of HT_.out (by kernel_rfl)) (fun _ _ _ h => h) (Or.inl ⟨by rfl, ?_⟩) ?_ ?_
           rotate_left;·intro w';go_simp;with_reducible rfl
           rotate_left;·simp only [Act.put, la_, lz_, ls_, i64_w, i32_w];rfl
           refine pure_ (i := 1) (N := some 40) (v := ?_) (a' := ?_) #[i',i',o',o',o',o',o',o',o'] rfl rfl (any_of HT_.out (by kernel_rfl)) (fun _ _ _ h => h) (Or.inl ⟨by rfl, ?_⟩) ?_ ?_
           rotate_left;·intro w';go_simp;with_reducible rfl
           rotate_left;·simp only [Act.put, la_, lz_, ls_, i64_w, i32_w];rfl
           refine pure_ (i := 2) (N := some 41) (v := ?_) (a' := ?_) #[i',i',i',o',o',o',o',o',o'] rfl rfl (any_of HT_.out (by kernel_rfl)) (fun _ _ _ h => h) (Or.inl ⟨by rfl, ?_⟩) ?_ ?_
           rotate_left;·intro w';go_simp;with_reducible rfl
           rotate_left;·simp only [Act.put, la_, lz_, ls_, i64_w, i32_w];rfl
           refine pure_ (i := 3) (N := some 42) (v := ?_) (a' := ?_) #[i',i',i',i',o',o',o',o',o'] rfl rfl (any_of HT_.out (by kernel_rfl)) (fun _ _ _ h => h) (Or.inl ⟨by rfl, ?_⟩) ?_ ?_
           rotate_left;·intro w';go_simp;with_reducible rfl
           rotate_left;·simp only [Act.put, la_, lz_, ls_, i64_w, i32_w];rfl
           refine pure_ (i := 4) (N := some 43) (v := ?_) (a' := ?_) #[i',i',i',i',i',o',o',o',o'] rfl rfl (any_of HT_.out (by kernel_rfl)) (fun _ _ _ h => h) (Or.inl ⟨by rfl, ?_⟩) ?_ ?_
           rotate_left;·intro w';go_simp;with_reducible rfl
           rotate_left;·simp only [Act.put, la_, lz_, ls_, i64_w, i32_w];rfl
           refine pure_ (i := 5) (N := some 44) (v := ?_) (a' := ?_) #[i',i',i',i',i',i',o',o',o'] rfl rfl (any_of HT_.out (by kernel_rfl)) (fun _ _ _ h => h) (Or.inl ⟨by rfl, ?_⟩) ?_ ?_
           rotate_left;·intro w';go_simp;with_reducible rfl
           rotate_left;·simp only [Act.put, la_, lz_, ls_, i64_w, i32_w];rfl
           refine pure_ (i := 6) (N := some 45) (v := ?_) (a' := ?_) #[i',i',i',i',i',i',i',o',o'] rfl rfl (any_of HT_.out (by kernel_rfl)) (fun _ _ _ h => h) (Or.inl ⟨by rfl, ?_⟩) ?_ ?_
           rotate_left;·intro w';go_simp;with_reducible rfl
           rotate_left;·simp only [Act.put, la_, lz_, ls_, i64_w, i32_w];rfl
           refine one_ (i := 7) (N := some 46) #[i',i',i',i',i',i',i',i',o'] rfl rfl (one_of HT_.out (by kernel_rfl)) (by decide) (fun K hK => ?_)
           refine goes_ Try.func88 (by kernel_rfl) rfl #[.string (a0.extract ((ji10) : Int).toNat ((ji14) : Int).toNat)] (by rfl) rfl rfl (by (try simp only [List.map_toArray, List.map_cons, List.map_nil]); first | done | (simp only [hji10, hji14]; rfl) | rfl | (simp only [List.length_drop, List.length_take]; rfl)) ?_
           with_reducible refine (spec_Frame.calls kj4 (a0.extract ((ji10) : Int).toNat ((ji14) : Int).toNat) t121 _ A17.out).mono ?_
           rintro e w22 ⟨rfl, hb⟩
           refine ⟨_, rfl, ?_⟩
           have n0_ := Aside0.mk (below_step (hb_ HB) hb)
           clear HB
           have HB := n0_
           clear n0_
           (try clear hb)
           (try clear hb2)
           (try clear hk)
           (try clear hi)
           refine hK.out _ _ trivial (fun hHeld => ?_)
           clear hK K
           refine norm_ (a' := ?_) ?_ ?_
           rotate_left
           ·show Act.put _ (some 46) _ = _
            simp only [Act.put, la_, lz_, ls_, i64_w, i32_w]
            rfl
           refine pure_ (i := 8) (N := some 47) (v := ?_) (a' := ?_) #[i',i',i',i',i',i',i',i',i'] rfl rfl (any_of HT_.out (by kernel_rfl)) (fun _ _ _ h => h) (Or.inl ⟨by rfl, ?_⟩) ?_ ?_
           rotate_left;·intro w';go_simp;with_reducible rfl
           rotate_left;·simp only [Act.put, la_, lz_, ls_, i64_w, i32_w];rfl
           refine done_ (done_of HT_.out (by kernel_rfl)) ?_
           have Nji14_ := Aside0.mk hji14
           clear hji14
           (try clear hji14w)
           have Nji10_ := Aside0.mk hji10
           clear hji10
           (try clear hji10w)
           try go_wp2
           have hji10 := Nji10_.out
           clear Nji10_
           (try have hji10w := (i64_w _).trans hji10)
           have hji14 := Nji14_.out
           clear Nji14_
           (try have hji14w := (i64_w _).trans hji14)
           go_ret2
           exact ⟨by first | rfl | (simp [errW_none, errW_some] <;> rfl) | (simp only [← hji10, ← hji14]; first | rfl | (simp [errW_none, errW_some] <;> rfl)) | (simp [*, errW_none, errW_some] <;> rfl), hb_ HB⟩
         ·rw [if_neg c15] at H
          exact absurd H (by simp)
        ·rw [if_neg c13] at H
         exact absurd H (by simp)
       ·rw [if_neg c12] at H
        exact absurd H (by simp)
      ·rw [if_neg c11] at H
       exact absurd H (by simp)
  ·rw [if_neg c3] at H
   exact absurd H (by simp)

/-! ### spec_l5Text: function 89 -/
def spec_l5Text.f (k : Nat) (a0 : ByteArray) : Option (ByteArray × ByteArray × Bool) := (spec_ReadVar.f k a0).bind fun bt122 => (if bt122.2 = 0 then (some ((⟨#[]⟩ : ByteArray), (⟨#[]⟩ : ByteArray), false)) else (if bt122.1 > (wrap64 ((a0.size : Int) - bt122.2)) then (some ((⟨#[]⟩ : ByteArray), (⟨#[]⟩ : ByteArray), false)) else (if 0 ≤ bt122.2 then (if bt122.2 ≤ (wrap64 (bt122.2 + bt122.1)) then (if (wrap64 (bt122.2 + bt122.1)) ≤ (a0.size : Int) then (if 0 ≤ (wrap64 (bt122.2 + bt122.1)) then (some (a0.extract (bt122.2 : Int).toNat ((wrap64 (bt122.2 + bt122.1)) : Int).toNat, a0.extract ((wrap64 (bt122.2 + bt122.1)) : Int).toNat a0.size, true)) else (none)) else (none)) else (none)) else (none))))
theorem spec_l5Text.mono : ∀ a0 k, LeO (spec_l5Text.f k a0) (spec_l5Text.f (k + 1) a0) := by
 intro a0 k
 unfold spec_l5Text.f
 repeat' first
   | (with_reducible exact spec_ReadVar.mono _ _)
   | (with_reducible exact LeO.refl _)
   | (with_reducible exact LeO.none _)
   | (with_reducible refine LeO.ite ?_ ?_)
   | (with_reducible refine LeO.bind ?_ (fun _ => ?_))
   | exact spec_ReadVar.mono _ _
   | exact LeO.none _
   | refine LeO.ite ?_ ?_
   | refine LeO.bind ?_ (fun _ => ?_)
set_option maxHeartbeats 8000000 in
set_option maxRecDepth 100000 in
theorem spec_l5Text.calls (k : Nat) (a0 : ByteArray) (r1 : ByteArray) (r2 : ByteArray) (r3 : Bool) (w : World) (h : spec_l5Text.f k a0 = some (r1, r2, r3)) :
  Calls Try.prog 89 #[.string a0] w fun e w' => e = .returned (.tuple #[.string r1, .string r2, .bool r3]) ∧ Below w.heap.size w w' := by
 have HB := Aside0.mk (Below.refl w.heap.size w)
 have H : ((spec_ReadVar.f k a0).bind fun bt122 => (if bt122.2 = 0 then (some ((⟨#[]⟩ : ByteArray), (⟨#[]⟩ : ByteArray), false)) else (if bt122.1 > (wrap64 ((a0.size : Int) - bt122.2)) then (some ((⟨#[]⟩ : ByteArray), (⟨#[]⟩ : ByteArray), false)) else (if 0 ≤ bt122.2 then (if bt122.2 ≤ (wrap64 (bt122.2 + bt122.1)) then (if (wrap64 (bt122.2 + bt122.1)) ≤ (a0.size : Int) then (if 0 ≤ (wrap64 (bt122.2 + bt122.1)) then (some (a0.extract (bt122.2 : Int).toNat ((wrap64 (bt122.2 + bt122.1)) : Int).toNat, a0.extract ((wrap64 (bt122.2 + bt122.1)) : Int).toNat a0.size, true)) else (none)) else (none)) else (none)) else (none))))) = some (r1, r2, r3) := h
 clear h
 replace H := Option.bind_eq_some_iff.mp H
 obtain ⟨⟨t122, t123⟩, A20, H⟩ := H
 replace H : (if t123 = 0 then (some ((⟨#[]⟩ : ByteArray), (⟨#[]⟩ : ByteArray), false)) else (if t122 > (wrap64 ((a0.size : Int) - t123)) then (some ((⟨#[]⟩ : ByteArray), (⟨#[]⟩ : ByteArray), false)) else (if 0 ≤ t123 then (if t123 ≤ (wrap64 (t123 + t122)) then (if (wrap64 (t123 + t122)) ≤ (a0.size : Int) then (if 0 ≤ (wrap64 (t123 + t122)) then (some (a0.extract (t123 : Int).toNat ((wrap64 (t123 + t122)) : Int).toNat, a0.extract ((wrap64 (t123 + t122)) : Int).toNat a0.size, true)) else (none)) else (none)) else (none)) else (none)))) = some (r1, r2, r3) := H
 have A2 := Aside0.mk A20
 clear A20
 by_cases c3 : t123 = 0
 ·rw [if_pos c3] at H
  have c3b0 : (t123 == 0) = true := beq_iff_eq.mpr c3
  have c3b1 : (t123 != 0) = false := bne_eq_false_iff_eq.mpr c3
  clear c3
  simp only [Option.some.injEq, Prod.mk.injEq] at H
  obtain ⟨rfl, rfl, rfl⟩ := H
  go_enter Try.func89, Try.ntmps89
  go_wp2_with (first | (go_at_call 87; (with_reducible refine (spec_ReadVar.calls k a0 t122 t123 _ A2.out).mono ?_); rintro e w4 ⟨rfl, hb⟩; have n0_ := Aside0.mk (below_step (hb_ HB) hb); clear HB; have HB := n0_; clear n0_; (try clear hb); (try clear hb2); (try clear hk); (try clear hi)))
  repeat (go_quiet (first | (go_at_call 87; (with_reducible refine (spec_ReadVar.calls k a0 t122 t123 _ A2.out).mono ?_); rintro e w4 ⟨rfl, hb⟩; have n0_ := Aside0.mk (below_step (hb_ HB) hb); clear HB; have HB := n0_; clear n0_; (try clear hb); (try clear hb2); (try clear hk); (try clear hi))); try go_wp2_with (first | (go_at_call 87; (with_reducible refine (spec_ReadVar.calls k a0 t122 t123 _ A2.out).mono ?_); rintro e w4 ⟨rfl, hb⟩; have n0_ := Aside0.mk (below_step (hb_ HB) hb); clear HB; have HB := n0_; clear n0_; (try clear hb); (try clear hb2); (try clear hk); (try clear hi))))
  go_ret3
  exact ⟨re_, hb_ HB⟩
 ·rw [if_neg c3] at H
  have c3b0 : (t123 == 0) = false := beq_eq_false_iff_ne.mpr c3
  have c3b1 : (t123 != 0) = true := bne_iff_ne.mpr c3
  by_cases c5 : t122 > (wrap64 ((a0.size : Int) - t123))
  ·rw [if_pos c5] at H
   have c5b0 : decide ((wrap64 ((a0.size : Int) - t123)) < t122) = true := decide_eq_true c5
   clear c5
   simp only [Option.some.injEq, Prod.mk.injEq] at H
   obtain ⟨rfl, rfl, rfl⟩ := H
   go_enter Try.func89, Try.ntmps89
   go_wp2_with (first | (go_at_call 87; (with_reducible refine (spec_ReadVar.calls k a0 t122 t123 _ A2.out).mono ?_); rintro e w6 ⟨rfl, hb⟩; have n0_ := Aside0.mk (below_step (hb_ HB) hb); clear HB; have HB := n0_; clear n0_; (try clear hb); (try clear hb2); (try clear hk); (try clear hi)))
   repeat (go_quiet (first | (go_at_call 87; (with_reducible refine (spec_ReadVar.calls k a0 t122 t123 _ A2.out).mono ?_); rintro e w6 ⟨rfl, hb⟩; have n0_ := Aside0.mk (below_step (hb_ HB) hb); clear HB; have HB := n0_; clear n0_; (try clear hb); (try clear hb2); (try clear hk); (try clear hi))); try go_wp2_with (first | (go_at_call 87; (with_reducible refine (spec_ReadVar.calls k a0 t122 t123 _ A2.out).mono ?_); rintro e w6 ⟨rfl, hb⟩; have n0_ := Aside0.mk (below_step (hb_ HB) hb); clear HB; have HB := n0_; clear n0_; (try clear hb); (try clear hb2); (try clear hk); (try clear hi))))
   go_ret3
   exact ⟨re_, hb_ HB⟩
  ·rw [if_neg c5] at H
   have c5b0 : decide ((wrap64 ((a0.size : Int) - t123)) < t122) = false := decide_eq_false c5
   clear c5
   by_cases c7 : 0 ≤ t123
   ·rw [if_pos c7] at H
    have c7b0 := eq_true c7
    have c7b1 : decide (0 ≤ t123) = true := decide_eq_true c7
    clear c7
    by_cases c8 : t123 ≤ (wrap64 (t123 + t122))
    ·rw [if_pos c8] at H
     have c8b0 := eq_true c8
     have c8b1 : decide (t123 ≤ (wrap64 (t123 + t122))) = true := decide_eq_true c8
     by_cases c9 : (wrap64 (t123 + t122)) ≤ (a0.size : Int)
     ·rw [if_pos c9] at H
      have c9b0 := eq_true c9
      have c9b1 : decide ((wrap64 (t123 + t122)) ≤ (a0.size : Int)) = true := decide_eq_true c9
      obtain ⟨ji10, hji10⟩ : ∃ j_ : Int, (wrap64 (t123 + t122)) = j_ := ⟨_, rfl⟩
      replace H : (if 0 ≤ (ji10) then (some (a0.extract (t123 : Int).toNat ((ji10) : Int).toNat, a0.extract ((ji10) : Int).toNat a0.size, true)) else (none)) = some (r1, r2, r3) := by first | (rw [hji10] at H; exact H) | (simp only [hji10] at H ⊢; exact H)
      (try rw [hji10] at c8b0)
      (try rw [hji10] at c8b1)
      (try rw [hji10] at c8)
      (try rw [hji10] at c9b0)
      (try rw [hji10] at c9b1)
      (try rw [hji10] at c9)
      (try rw [hji10] at A2)
      have hji10w : (IntKind.i64.wrap (t123 + t122)) = ji10 := (i64_w _).trans hji10
      by_cases c11 : 0 ≤ (ji10)
      ·rw [if_pos c11] at H
       have c11b0 := eq_true c11
       have c11b1 : decide (0 ≤ (ji10)) = true := decide_eq_true c11
       clear c11
       have c12b0 := eq_true (of_decide_eq_true as_ : (ji10) ≤ (a0.size : Int))
       simp only [Option.some.injEq, Prod.mk.injEq] at H
       obtain ⟨rfl, rfl, rfl⟩ := H
       go_enter Try.func89, Try.ntmps89
       go_wp2_with (first | (go_at_call 87; (with_reducible refine (spec_ReadVar.calls k a0 t122 t123 _ A2.out).mono ?_); rintro e w13 ⟨rfl, hb⟩; have n0_ := Aside0.mk (below_step (hb_ HB) hb); clear HB; have HB := n0_; clear n0_; (try clear hb); (try clear hb2); (try clear hk); (try clear hi)))
       repeat (go_quiet (first | (go_at_call 87; (with_reducible refine (spec_ReadVar.calls k a0 t122 t123 _ A2.out).mono ?_); rintro e w13 ⟨rfl, hb⟩; have n0_ := Aside0.mk (below_step (hb_ HB) hb); clear HB; have HB := n0_; clear n0_; (try clear hb); (try clear hb2); (try clear hk); (try clear hi))); try go_wp2_with (first | (go_at_call 87; (with_reducible refine (spec_ReadVar.calls k a0 t122 t123 _ A2.out).mono ?_); rintro e w13 ⟨rfl, hb⟩; have n0_ := Aside0.mk (below_step (hb_ HB) hb); clear HB; have HB := n0_; clear n0_; (try clear hb); (try clear hb2); (try clear hk); (try clear hi))))
       go_ret3
       exact ⟨by first | rfl | (simp [errW_none, errW_some] <;> rfl) | (simp only [← hji10]; first | rfl | (simp [errW_none, errW_some] <;> rfl)) | (simp [*, errW_none, errW_some] <;> rfl), hb_ HB⟩
      ·rw [if_neg c11] at H
       exact absurd H (by simp)
     ·rw [if_neg c9] at H
      exact absurd H (by simp)
    ·rw [if_neg c8] at H
     exact absurd H (by simp)
   ·rw [if_neg c7] at H
    exact absurd H (by simp)

/-! ### spec_ReadFixed: function 90 -/
mutual
def spec_ReadFixed.j0 : Nat → ByteArray → Int → Bool → Option (Int × Bool)
 | 0, _, _, _ => none
 | k + 1, x0, x1, x16 => if x16 = true then (some (0, false)) else (spec_ReadFixed.l0 k x0 x1 0 0)
def spec_ReadFixed.l0 : Nat → ByteArray → Int → Int → Int → Option (Int × Bool)
 | 0, _, _, _, _ => none
 | k + 1, x0, x1, x6, x7 => if x7 < x1 then (if 0 ≤ x7 then (if x7 < (x0.size : Int) then (spec_ReadFixed.l0 k x0 x1 (wrap64 ((wrap64 (x6 * 256)) + (wrap64 (bt x0 x7)))) (wrap64 (x7 + 1))) else (none)) else (none)) else (some (x6, true))
end
def spec_ReadFixed.f (k : Nat) (a0 : ByteArray) (a1 : Int) : Option (Int × Bool) := (spec_l1In.f a1 1 7).bind fun t124 => (if t124 = true then (spec_ReadFixed.j0 k a0 a1 (decide ((a0.size : Int) < a1))) else (spec_ReadFixed.j0 k a0 a1 true))
theorem spec_ReadFixed.mono_l : ∀ k, (∀ y0 y1 y2, LeO (spec_ReadFixed.j0 k y0 y1 y2) (spec_ReadFixed.j0 (k + 1) y0 y1 y2)) ∧ (∀ y0 y1 y2 y3, LeO (spec_ReadFixed.l0 k y0 y1 y2 y3) (spec_ReadFixed.l0 (k + 1) y0 y1 y2 y3))
 | 0 => ⟨fun _ _ _ r h => by simp [spec_ReadFixed.j0] at h, fun _ _ _ _ r h => by simp [spec_ReadFixed.l0] at h⟩
 | k + 1 => by
  obtain ⟨ih0, ih1⟩ := spec_ReadFixed.mono_l k
  refine ⟨?_, ?_⟩
  ·intro y0 y1 y2
   unfold spec_ReadFixed.j0
   repeat' first
   | (with_reducible exact ih0 _ _ _)
   | (with_reducible exact ih1 _ _ _ _)
   | (with_reducible exact LeO.refl _)
   | (with_reducible exact LeO.none _)
   | (with_reducible refine LeO.ite ?_ ?_)
   | (with_reducible refine LeO.bind ?_ (fun _ => ?_))
   | exact ih0 _ _ _
   | exact ih1 _ _ _ _
   | exact LeO.none _
   | refine LeO.ite ?_ ?_
   | refine LeO.bind ?_ (fun _ => ?_)
  ·intro y0 y1 y2 y3
   unfold spec_ReadFixed.l0
   repeat' first
   | (with_reducible exact ih0 _ _ _)
   | (with_reducible exact ih1 _ _ _ _)
   | (with_reducible exact LeO.refl _)
   | (with_reducible exact LeO.none _)
   | (with_reducible refine LeO.ite ?_ ?_)
   | (with_reducible refine LeO.bind ?_ (fun _ => ?_))
   | exact ih0 _ _ _
   | exact ih1 _ _ _ _
   | exact LeO.none _
   | refine LeO.ite ?_ ?_
   | refine LeO.bind ?_ (fun _ => ?_)
theorem spec_ReadFixed.mono : ∀ a0 a1 k, LeO (spec_ReadFixed.f k a0 a1) (spec_ReadFixed.f (k + 1) a0 a1) := by
 intro a0 a1 k
 obtain ⟨ih0, ih1⟩ := spec_ReadFixed.mono_l k
 unfold spec_ReadFixed.f
 repeat' first
   | (with_reducible exact ih0 _ _ _)
   | (with_reducible exact ih1 _ _ _ _)
   | (with_reducible exact LeO.refl _)
   | (with_reducible exact LeO.none _)
   | (with_reducible refine LeO.ite ?_ ?_)
   | (with_reducible refine LeO.bind ?_ (fun _ => ?_))
   | exact ih0 _ _ _
   | exact ih1 _ _ _ _
   | exact LeO.none _
   | refine LeO.ite ?_ ?_
   | refine LeO.bind ?_ (fun _ => ?_)
set_option maxHeartbeats 8000000 in
set_option maxRecDepth 100000 in
theorem spec_ReadFixed.calls (k : Nat) (a0 : ByteArray) (a1 : Int) (r1 : Int) (r2 : Bool) (w : World) (h : spec_ReadFixed.f k a0 a1 = some (r1, r2)) :
  Calls Try.prog 90 #[.string a0, .int .i64 a1] w fun e w' => e = .returned (.tuple #[.int .i64 r1, .bool r2]) ∧ Drawn0 w w' := by
 have H : ((spec_l1In.f a1 1 7).bind fun t124 => (if t124 = true then (spec_ReadFixed.j0 k a0 a1 (decide ((a0.size : Int) < a1))) else (spec_ReadFixed.j0 k a0 a1 true))) = some (r1, r2) := h
 clear h
 have HC3 := Aside0.mk H
 clear H
 go_enter Try.func90, Try.ntmps90
 go_upto_region 1 with (fail)
 go_cut [16] (fun v16 wc => ∃ (kq : Nat) (x16_2 : Bool), v16 = .bool x16_2 ∧ Aside0 (spec_ReadFixed.j0 kq a0 a1 x16_2 = some (r1, r2)) ∧ Aside0 (kq ≤ k) ∧ Drawn0 w wc)
 case first =>
  have H := HC3.out
  clear HC3
  replace H := Option.bind_eq_some_iff.mp H
  obtain ⟨t124, A40, H⟩ := H
  replace H : (if t124 = true then (spec_ReadFixed.j0 k a0 a1 (decide ((a0.size : Int) < a1))) else (spec_ReadFixed.j0 k a0 a1 true)) = some (r1, r2) := H
  have A4 := Aside0.mk A40
  clear A40
  by_cases c5 : t124 = true
  ·subst c5
   have H1 : (spec_ReadFixed.j0 k a0 a1 (decide ((a0.size : Int) < a1))) = some (r1, r2) := by rw [if_pos rfl] at H; exact H
   clear H
   have H := H1
   clear H1
   have H' := Aside0.mk H
   clear H
   go_wp2_with (first | ((with_reducible refine gate_callee (f := 101) rfl ?_); refine goesL_ (some 9) rfl rfl Try.func101 (by kernel_rfl) rfl #[.int .i64 a1, .int .i64 1, .int .i64 7] rfl ar_ ?_; (with_reducible refine (spec_l1In.calls a1 1 7 true _ A4.out).mono ?_); rintro e w' ⟨rfl, ⟨nd, rfl⟩⟩; refine ⟨_, rfl, ?_⟩))
   go_meet
   case rel => exact ⟨_, (decide ((a0.size : Int) < a1)), rs_, H', ⟨by first | exact Nat.le_refl _ | exact Nat.le_of_succ_le this | omega⟩, by repeat (first | exact Drawn0.refl _ | apply Drawn0.step)⟩
  ·replace c5 := Bool.eq_false_iff.mpr c5
   subst c5
   have H1 : (spec_ReadFixed.j0 k a0 a1 true) = some (r1, r2) := by rw [if_neg (show ¬ (false = true) by decide)] at H; exact H
   clear H
   have H := H1
   clear H1
   have H' := Aside0.mk H
   clear H
   go_wp2_with (first | ((with_reducible refine gate_callee (f := 101) rfl ?_); refine goesL_ (some 9) rfl rfl Try.func101 (by kernel_rfl) rfl #[.int .i64 a1, .int .i64 1, .int .i64 7] rfl ar_ ?_; (with_reducible refine (spec_l1In.calls a1 1 7 false _ A4.out).mono ?_); rintro e w' ⟨rfl, ⟨nd, rfl⟩⟩; refine ⟨_, rfl, ?_⟩))
   go_meet
   case rel => exact ⟨_, (true), rs_, H', ⟨by first | exact Nat.le_refl _ | exact Nat.le_of_succ_le this | omega⟩, by repeat (first | exact Drawn0.refl _ | apply Drawn0.step)⟩
 case rest =>
  clear HC3
  try clear c1
  try clear p2
  try clear c5
  obtain ⟨kq, x16_2, rfl, HA, HJ2, ⟨mc2, rfl⟩⟩ := hcut
  cases kq with
  | zero => exact absurd HA.out (by simp [spec_ReadFixed.j0])
  | succ kj2 =>
   have H := HA.out
   clear HA
   simp only [spec_ReadFixed.j0] at H
   by_cases c6 : x16_2 = true
   ·subst c6
    have H1 : (some (0, false)) = some (r1, r2) := by rw [if_pos rfl] at H; exact H
    clear H
    have H := H1
    clear H1
    simp only [Option.some.injEq, Prod.mk.injEq] at H
    obtain ⟨rfl, rfl⟩ := H
    go_wp2
    go_ret2
    exact ⟨by first | rfl | (simp; done) | (simp [*]; done), by repeat (first | exact Drawn0.refl _ | apply Drawn0.step)⟩
   ·replace c6 := Bool.eq_false_iff.mpr c6
    subst c6
    have H1 : (spec_ReadFixed.l0 kj2 a0 a1 0 0) = some (r1, r2) := by rw [if_neg (show ¬ (false = true) by decide)] at H; exact H
    clear H
    have H := H1
    clear H1
    have H' := Aside0.mk H
    clear H
    go_wp2
    go_loopg [6, 7] kj2 (fun kq v6 v7 w' => ∃ (x6_2 : Int) (x7_2 : Int), v6 = .int .i64 x6_2 ∧ v7 = .int .i64 x7_2 ∧ Aside0 (spec_ReadFixed.l0 kq a0 a1 x6_2 x7_2 = some (r1, r2)) ∧ Aside0 (kq ≤ kj2) ∧ Drawn0 w w')
    case atStart => exact ⟨(0), (0), rs_, rs_, H', ⟨Nat.le_refl _⟩, by repeat (first | exact Drawn0.refl _ | apply Drawn0.step)⟩
    case round =>
     clear H'
     try clear c1
     try clear c2
     try clear p2
     try clear c5
     try clear c6
     try clear p2
     obtain ⟨x6_2, x7_2, rfl, rfl, HA, HK2, ⟨m2, rfl⟩⟩ := hrel
     cases gk with
     | zero => exact absurd HA.out (by simp [spec_ReadFixed.l0])
     | succ k2 =>
      have H := HA.out
      clear HA
      simp only [spec_ReadFixed.l0] at H
      by_cases c7 : x7_2 < a1
      ·rw [if_pos c7] at H
       have c7b0 : decide (x7_2 < a1) = true := decide_eq_true c7
       clear c7
       by_cases c8 : 0 ≤ x7_2
       ·rw [if_pos c8] at H
        have c8b0 : decide (0 ≤ x7_2) = true := decide_eq_true c8
        clear c8
        by_cases c9 : x7_2 < (a0.size : Int)
        ·rw [if_pos c9] at H
         have c9b0 : decide (x7_2 < (a0.size : Int)) = true := decide_eq_true c9
         clear c9
         have H' := Aside0.mk H
         clear H
         have p10 : 0 ≤ (x7_2 : Int) := of_decide_eq_true as_
         have q10 : x7_2 < (a0.size : Int) := of_decide_eq_true as_
         have hx10 := bt_at a0 x7_2
         replace p10 := eq_true p10
         replace q10 := eq_true q10
         go_wp2
         go_roundg k2
         case measure => have := HJ2.out; have := HK2.out; first | exact this | exact Nat.le_of_succ_le this | exact Nat.le_refl _ | omega
         case rel => exact ⟨(wrap64 ((wrap64 (x6_2 * 256)) + (wrap64 (bt a0 x7_2)))), (wrap64 (x7_2 + 1)), rs_, rs_, H', ⟨by have := HJ2.out; have := HK2.out; first | exact this | exact Nat.le_of_succ_le this | exact Nat.le_refl _ | omega⟩, by repeat (first | exact Drawn0.refl _ | apply Drawn0.step)⟩
        ·rw [if_neg c9] at H
         exact absurd H (by simp)
       ·rw [if_neg c8] at H
        exact absurd H (by simp)
      ·rw [if_neg c7] at H
       have c7b0 : decide (x7_2 < a1) = false := decide_eq_false c7
       clear c7
       simp only [Option.some.injEq, Prod.mk.injEq] at H
       obtain ⟨rfl, rfl⟩ := H
       go_wp2
       go_ret2
       exact ⟨by first | rfl | (simp; done) | (simp [*]; done), by repeat (first | exact Drawn0.refl _ | apply Drawn0.step)⟩

/-! ### spec_KeyOk: function 118 -/
def spec_KeyOk.f (a0 : ByteArray) : Option (Bool) := (spec_l1In.f (a0.size : Int) 1 8).bind fun t125 => (some t125)
set_option maxHeartbeats 8000000 in
set_option maxRecDepth 100000 in
theorem spec_KeyOk.calls (a0 : ByteArray) (r : Bool) (w : World) (h : spec_KeyOk.f a0 = some r) :
  Calls Try.prog 118 #[.string a0] w fun e w' => e = .returned (.bool r) ∧ Drawn0 w w' := by
 have H : ((spec_l1In.f (a0.size : Int) 1 8).bind fun t125 => (some t125)) = some r := h
 clear h
 replace H := Option.bind_eq_some_iff.mp H
 obtain ⟨t125, A20, H⟩ := H
 replace H : (some t125) = some r := H
 have A2 := Aside0.mk A20
 clear A20
 obtain rfl := Option.some.inj H
 go_enter Try.func118, Try.ntmps118
 go_wp2_with (first | ((with_reducible refine gate_callee (f := 101) rfl ?_); refine goesL_ (some 5) rfl rfl Try.func101 (by kernel_rfl) rfl #[.int .i64 (a0.size : Int), .int .i64 1, .int .i64 8] rfl ar_ ?_; (with_reducible refine (spec_l1In.calls (a0.size : Int) 1 8 t125 _ A2.out).mono ?_); rintro e w' ⟨rfl, ⟨nd, rfl⟩⟩; refine ⟨_, rfl, ?_⟩))
 go_ret
 exact ⟨by first | rfl | (simp; done) | (simp [*]; done), by repeat (first | exact Drawn0.refl _ | apply Drawn0.step)⟩

end Go.Proofs.Ytebeafcdabkkfab.PFnExactScanRecs
