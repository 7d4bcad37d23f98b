-- Laid by a program of this session, a copy of the kit's printer with additions (wip/patch_print.py): myhead. Lean checks it.
import Derived.Test.YtnmileaeadhiaaaDoorPFnNumbersx0
import Derived.Test.YtnmileaeadhiaaaDoorPFnNumbersx1
import Derived.Test.YtnmileaeadhiaaaDoorPFnNumbersx4
namespace Go.Proofs.YtnmileaeadhiaaaDoor.PFnNumbers
open Go.RowKit Go.Proofs.YtnmileaeadhiaaaDoorW.PrintWords Go.Proofs.YtnmileaeadhiaaaDoorW.PrintLast Go.Proofs.YtnmileaeadhiaaaDoorW.PrintMore
attribute [local go_sem] max2_int min2_int max_two min_two max_three min_three max_four min_four   -- for this text's walks alone
set_option linter.unusedVariables false
set_option linter.unusedSimpArgs false

/-! ### spec_l1Spoil: function 25 -/
def spec_l1Spoil.f (k : Nat) (s0_0 : List Int) (s0_1 : Int) (s0_2 : Int) (a1 : ByteArray) : Option (ByteArray × Int × Int) := if (a1.size : Int) = 0 then ((spec_l1Text.f k s0_0 s0_1 s0_2 3).bind fun bt214 => (some (bt214.1, bt214.2.1, bt214.2.2))) else ((spec_l1Below.f s0_0 s0_1 s0_2 (a1.size : Int)).bind fun bt217 => ((spec_l1Below.f s0_0 bt217.2.1 bt217.2.2 4).bind fun bt220 => (if bt220.1 = 0 then (if 0 ≤ bt217.1 then (if bt217.1 ≤ (a1.size : Int) then (if 0 ≤ (wrap64 (bt217.1 + 1)) then (if (wrap64 (bt217.1 + 1)) ≤ (a1.size : Int) then (if (a1.extract 0 (bt217.1 : Int).toNat).size + (a1.extract ((wrap64 (bt217.1 + 1)) : Int).toNat a1.size).size ≤ 9223372036854775807 then (some ((a1.extract 0 (bt217.1 : Int).toNat) ++ (a1.extract ((wrap64 (bt217.1 + 1)) : Int).toNat a1.size), bt220.2.1, bt220.2.2)) else (none)) else (none)) else (none)) else (none)) else (none)) else (if bt220.1 = 1 then (if 0 ≤ bt217.1 then (if bt217.1 ≤ (a1.size : Int) then ((spec_l1Byte.f s0_0 bt220.2.1 bt220.2.2).bind fun bt223 => ((some (([(bt223.1) % 256] : List Int) : List Int)).bind fun y226 => (if (a1.extract 0 (bt217.1 : Int).toNat).size + (strOfNums y226).size ≤ 9223372036854775807 then (if ((a1.extract 0 (bt217.1 : Int).toNat) ++ (strOfNums y226)).size + (a1.extract (bt217.1 : Int).toNat a1.size).size ≤ 9223372036854775807 then (some (((a1.extract 0 (bt217.1 : Int).toNat) ++ (strOfNums y226)) ++ (a1.extract (bt217.1 : Int).toNat a1.size), bt223.2.1, bt223.2.2)) else (none)) else (none)))) else (none)) else (none)) else (if bt220.1 = 2 then (if 0 ≤ bt217.1 then (if bt217.1 ≤ (a1.size : Int) then (some (a1.extract 0 (bt217.1 : Int).toNat, bt220.2.1, bt220.2.2)) else (none)) else (none)) else (if 0 ≤ bt217.1 then (if bt217.1 ≤ (a1.size : Int) then (if bt217.1 < (a1.size : Int) then ((spec_l1Below.f s0_0 bt220.2.1 bt220.2.2 255).bind fun bt229 => ((some (([(Go.bits .xor .i64 (wrap64 (bt a1 bt217.1)) (wrap64 (1 + bt229.1))) % 256] : List Int) : List Int)).bind fun y232 => (if (a1.extract 0 (bt217.1 : Int).toNat).size + (strOfNums y232).size ≤ 9223372036854775807 then (if 0 ≤ (wrap64 (bt217.1 + 1)) then (if (wrap64 (bt217.1 + 1)) ≤ (a1.size : Int) then (if ((a1.extract 0 (bt217.1 : Int).toNat) ++ (strOfNums y232)).size + (a1.extract ((wrap64 (bt217.1 + 1)) : Int).toNat a1.size).size ≤ 9223372036854775807 then (some (((a1.extract 0 (bt217.1 : Int).toNat) ++ (strOfNums y232)) ++ (a1.extract ((wrap64 (bt217.1 + 1)) : Int).toNat a1.size), bt229.2.1, bt229.2.2)) else (none)) else (none)) else (none)) else (none)))) else (none)) else (none)) else (none)))))))
theorem spec_l1Spoil.mono : ∀ a0 a1 a2 a3 k, LeO (spec_l1Spoil.f k a0 a1 a2 a3) (spec_l1Spoil.f (k + 1) a0 a1 a2 a3) := by
 intro a0 a1 a2 a3 k
 unfold spec_l1Spoil.f
 repeat' first | (with_reducible first | exact spec_l1Text.mono .. | exact LeO.refl .. | exact LeO.none .. | refine LeO.ite ?_ ?_ | refine LeO.bind ?_ (fun _ => ?_)) | exact spec_l1Text.mono .. | exact LeO.none .. | refine LeO.ite ?_ ?_ | refine LeO.bind ?_ (fun _ => ?_)
def spec_l1Spoil.T6 : Bool × List (List Nat × List Nat) := (true, [([], []), ([], []), ([0, 1], [0, 1]), ([], []), ([], []), ([4], [4]), ([3, 5], [3, 5]), ([2, 6], [2, 6]), ([7, 0, 1, 2, 3, 4, 5, 6, 7], [7])])
def spec_l1Spoil.B6 : List Nat := [0, 0, 3, 0, 0, 16, 56, 127, 255]
theorem spec_l1Spoil.tab6 : rtab .any (opsOf Tryd.f25 6) = spec_l1Spoil.T6 := by kernel_rfl
theorem spec_l1Spoil.bits6 : waitsOk spec_l1Spoil.T6.2 spec_l1Spoil.B6 = true := by kernel_rfl
def spec_l1Spoil.T8 : Bool × List (List Nat × List Nat) := (true, [([], []), ([], []), ([0, 1], [0, 1]), ([], []), ([3], [3]), ([4], [4]), ([5], [5]), ([6], [6]), ([2, 7], [2, 7]), ([], []), ([], []), ([9, 10], [9, 10]), ([8, 11], [8, 11]), ([12, 4, 0, 1, 2, 3, 4, 5, 6, 7, 8, 9, 10, 11, 12], [12])])
def spec_l1Spoil.B8 : List Nat := [0, 0, 3, 0, 8, 24, 56, 120, 255, 0, 0, 1536, 4095, 8191]
theorem spec_l1Spoil.tab8 : rtab .any (opsOf Tryd.f25 8) = spec_l1Spoil.T8 := by kernel_rfl
theorem spec_l1Spoil.bits8 : waitsOk spec_l1Spoil.T8.2 spec_l1Spoil.B8 = true := by kernel_rfl
def spec_l1Spoil.T11 : Bool × List (List Nat × List Nat) := (true, [([], []), ([], []), ([0, 1], [0, 1]), ([], []), ([], []), ([3, 4], [3, 4]), ([5], [5]), ([], []), ([7], [7]), ([8], [8]), ([6, 9], [6, 9]), ([10], [10]), ([11], [11]), ([12], [12]), ([2, 13], [2, 13]), ([], []), ([], []), ([16], [16]), ([15, 17], [15, 17]), ([14, 18], [14, 18]), ([19, 8, 0, 1, 2, 3, 4, 5, 6, 7, 8, 9, 10, 11, 12, 13, 14, 15, 16, 17, 18, 19], [19])])
def spec_l1Spoil.B11 : List Nat := [0, 0, 3, 0, 0, 24, 56, 0, 128, 384, 1016, 2040, 4088, 8184, 16383, 0, 0, 65536, 229376, 524287, 1048575]
theorem spec_l1Spoil.tab11 : rtab .any (opsOf Tryd.f25 11) = spec_l1Spoil.T11 := by kernel_rfl
theorem spec_l1Spoil.bits11 : waitsOk spec_l1Spoil.T11.2 spec_l1Spoil.B11 = true := by kernel_rfl
set_option maxHeartbeats 80000000 in
set_option maxRecDepth 100000 in
theorem spec_l1Spoil.calls (k : Nat) (g : Nat) (s0_0 : List Int) (s0_1 : Int) (s0_2 : Int) (a1 : ByteArray) (r1 : ByteArray) (r2 : Int) (r3 : Int) (w0 w : World) (hI : IsS50 w0 w g s0_0 s0_1 s0_2) (hB : Below w0.heap.size w0 w) (h : spec_l1Spoil.f k s0_0 s0_1 s0_2 a1 = some (r1, r2, r3)) :
  Calls Tryd.prog 25 #[.pointer (some ⟨g, 0, none⟩), .string a1] w fun e w' => e = .returned (.string r1) ∧ IsS50 w0 w' g s0_0 r2 r3 ∧ Below w0.heap.size w0 w' ∧ KeepBut w w' g none := by
 have HI0 := Aside0.mk hI
 have HK := Aside0.mk (KeepBut.refl w g none)
 have HL := Aside0.mk hB.size
 clear hI
 have HW0 := Aside0.mk hB.size
 have HB := Aside0.mk hB
 clear hB
 have H : (if (a1.size : Int) = 0 then ((spec_l1Text.f k s0_0 s0_1 s0_2 3).bind fun bt214 => (some (bt214.1, bt214.2.1, bt214.2.2))) else ((spec_l1Below.f s0_0 s0_1 s0_2 (a1.size : Int)).bind fun bt217 => ((spec_l1Below.f s0_0 bt217.2.1 bt217.2.2 4).bind fun bt220 => (if bt220.1 = 0 then (if 0 ≤ bt217.1 then (if bt217.1 ≤ (a1.size : Int) then (if 0 ≤ (wrap64 (bt217.1 + 1)) then (if (wrap64 (bt217.1 + 1)) ≤ (a1.size : Int) then (if (a1.extract 0 (bt217.1 : Int).toNat).size + (a1.extract ((wrap64 (bt217.1 + 1)) : Int).toNat a1.size).size ≤ 9223372036854775807 then (some ((a1.extract 0 (bt217.1 : Int).toNat) ++ (a1.extract ((wrap64 (bt217.1 + 1)) : Int).toNat a1.size), bt220.2.1, bt220.2.2)) else (none)) else (none)) else (none)) else (none)) else (none)) else (if bt220.1 = 1 then (if 0 ≤ bt217.1 then (if bt217.1 ≤ (a1.size : Int) then ((spec_l1Byte.f s0_0 bt220.2.1 bt220.2.2).bind fun bt223 => ((some (([(bt223.1) % 256] : List Int) : List Int)).bind fun y226 => (if (a1.extract 0 (bt217.1 : Int).toNat).size + (strOfNums y226).size ≤ 9223372036854775807 then (if ((a1.extract 0 (bt217.1 : Int).toNat) ++ (strOfNums y226)).size + (a1.extract (bt217.1 : Int).toNat a1.size).size ≤ 9223372036854775807 then (some (((a1.extract 0 (bt217.1 : Int).toNat) ++ (strOfNums y226)) ++ (a1.extract (bt217.1 : Int).toNat a1.size), bt223.2.1, bt223.2.2)) else (none)) else (none)))) else (none)) else (none)) else (if bt220.1 = 2 then (if 0 ≤ bt217.1 then (if bt217.1 ≤ (a1.size : Int) then (some (a1.extract 0 (bt217.1 : Int).toNat, bt220.2.1, bt220.2.2)) else (none)) else (none)) else (if 0 ≤ bt217.1 then (if bt217.1 ≤ (a1.size : Int) then (if bt217.1 < (a1.size : Int) then ((spec_l1Below.f s0_0 bt220.2.1 bt220.2.2 255).bind fun bt229 => ((some (([(Go.bits .xor .i64 (wrap64 (bt a1 bt217.1)) (wrap64 (1 + bt229.1))) % 256] : List Int) : List Int)).bind fun y232 => (if (a1.extract 0 (bt217.1 : Int).toNat).size + (strOfNums y232).size ≤ 9223372036854775807 then (if 0 ≤ (wrap64 (bt217.1 + 1)) then (if (wrap64 (bt217.1 + 1)) ≤ (a1.size : Int) then (if ((a1.extract 0 (bt217.1 : Int).toNat) ++ (strOfNums y232)).size + (a1.extract ((wrap64 (bt217.1 + 1)) : Int).toNat a1.size).size ≤ 9223372036854775807 then (some (((a1.extract 0 (bt217.1 : Int).toNat) ++ (strOfNums y232)) ++ (a1.extract ((wrap64 (bt217.1 + 1)) : Int).toNat a1.size), bt229.2.1, bt229.2.2)) else (none)) else (none)) else (none)) else (none)))) else (none)) else (none)) else (none)))))))) = some (r1, r2, r3) := h
 clear h
 by_cases c3 : (a1.size : Int) = 0
 ·rw [if_pos c3] at H
  have c3b0 : ((a1.size : Int) == 0) = true := beq_iff_eq.mpr c3
  have c3b1 : ((a1.size : Int) != 0) = false := bne_eq_false_iff_eq.mpr c3
  clear c3
  replace H := Option.bind_eq_some_iff.mp H
  obtain ⟨⟨t214, t215, t216⟩, A40, H⟩ := H
  replace H : (some (t214, t215, t216)) = some (r1, r2, r3) := H
  have A4 := Aside0.mk A40
  clear A40
  simp only [Option.some.injEq, Prod.mk.injEq] at H
  obtain ⟨rfl, rfl, rfl⟩ := H
  go_enter Tryd.func25, Tryd.ntmps25
  go_wp2_with (first | ((with_reducible refine gate_callee (f := 18) rfl ?_); refine goesL_ (some 10) rfl rfl Tryd.func18 (by kernel_rfl) rfl #[.pointer (some ⟨g, 0, none⟩), .int .i64 3] rfl (by (try simp only [List.map_toArray, List.map_cons, List.map_nil]); first | done | rfl | (simp only [List.length_drop, List.length_take]; rfl) | (simp only [ByteArray.size_extract, Nat.min_self]; first | done | rfl)) ?_; (with_reducible refine (spec_l1Text.calls k g s0_0 s0_1 s0_2 3 t214 t215 t216 w0 _ ?side1 ?side2 A4.out).mono ?_); (case side1 => repeat (first | (with_reducible first | exact HI0.out | apply IsS50.alloc | apply IsS50.drewN | apply IsS50.drew | apply IsS50.set_1 | apply IsS50.set_2) | exact HI0.out)); (case side2 => repeat (first | (with_reducible first | exact HB.out | apply below_alloc | apply pw_below_drewN | apply below_drew1 | refine below_set ?_ (IsS50.ge HI0.out)) | exact HB.out)); rintro e w5 ⟨rfl, hi, hb, hk⟩; refine ⟨_, rfl, ?_⟩; replace HK := Aside0.mk (KeepBut.trans (by repeat (first | (with_reducible first | exact HK.out | apply KeepBut.set_ | apply keep_drewN | apply keep_drew | apply keep_alloc) | exact HK.out)) hk (.inl rfl)); replace HB := Aside0.mk (hb); replace HI0 := Aside0.mk (hi); (try clear hb); (try clear hb2); (try clear hk); (try clear hi)))
  go_ret
  exact ⟨re_, by repeat (first | (with_reducible first | exact HI0.out | apply IsS50.alloc | apply IsS50.drewN | apply IsS50.drew | apply IsS50.set_1 | apply IsS50.set_2) | exact HI0.out), by repeat (first | (with_reducible first | exact HB.out | apply below_alloc | apply pw_below_drewN | apply below_drew1 | refine below_set ?_ (IsS50.ge HI0.out)) | exact HB.out), by repeat (first | (with_reducible first | exact HK.out | apply KeepBut.set_ | apply keep_drewN | apply keep_drew | apply keep_alloc) | exact HK.out)⟩
 ·rw [if_neg c3] at H
  have c3b0 : ((a1.size : Int) == 0) = false := beq_eq_false_iff_ne.mpr c3
  have c3b1 : ((a1.size : Int) != 0) = true := bne_iff_ne.mpr c3
  replace H := Option.bind_eq_some_iff.mp H
  obtain ⟨⟨t217, t218, t219⟩, A60, H⟩ := H
  replace H : ((spec_l1Below.f s0_0 t218 t219 4).bind fun bt220 => (if bt220.1 = 0 then (if 0 ≤ t217 then (if t217 ≤ (a1.size : Int) then (if 0 ≤ (wrap64 (t217 + 1)) then (if (wrap64 (t217 + 1)) ≤ (a1.size : Int) then (if (a1.extract 0 (t217 : Int).toNat).size + (a1.extract ((wrap64 (t217 + 1)) : Int).toNat a1.size).size ≤ 9223372036854775807 then (some ((a1.extract 0 (t217 : Int).toNat) ++ (a1.extract ((wrap64 (t217 + 1)) : Int).toNat a1.size), bt220.2.1, bt220.2.2)) else (none)) else (none)) else (none)) else (none)) else (none)) else (if bt220.1 = 1 then (if 0 ≤ t217 then (if t217 ≤ (a1.size : Int) then ((spec_l1Byte.f s0_0 bt220.2.1 bt220.2.2).bind fun bt223 => ((some (([(bt223.1) % 256] : List Int) : List Int)).bind fun y226 => (if (a1.extract 0 (t217 : Int).toNat).size + (strOfNums y226).size ≤ 9223372036854775807 then (if ((a1.extract 0 (t217 : Int).toNat) ++ (strOfNums y226)).size + (a1.extract (t217 : Int).toNat a1.size).size ≤ 9223372036854775807 then (some (((a1.extract 0 (t217 : Int).toNat) ++ (strOfNums y226)) ++ (a1.extract (t217 : Int).toNat a1.size), bt223.2.1, bt223.2.2)) else (none)) else (none)))) else (none)) else (none)) else (if bt220.1 = 2 then (if 0 ≤ t217 then (if t217 ≤ (a1.size : Int) then (some (a1.extract 0 (t217 : Int).toNat, bt220.2.1, bt220.2.2)) else (none)) else (none)) else (if 0 ≤ t217 then (if t217 ≤ (a1.size : Int) then (if t217 < (a1.size : Int) then ((spec_l1Below.f s0_0 bt220.2.1 bt220.2.2 255).bind fun bt229 => ((some (([(Go.bits .xor .i64 (wrap64 (bt a1 t217)) (wrap64 (1 + bt229.1))) % 256] : List Int) : List Int)).bind fun y232 => (if (a1.extract 0 (t217 : Int).toNat).size + (strOfNums y232).size ≤ 9223372036854775807 then (if 0 ≤ (wrap64 (t217 + 1)) then (if (wrap64 (t217 + 1)) ≤ (a1.size : Int) then (if ((a1.extract 0 (t217 : Int).toNat) ++ (strOfNums y232)).size + (a1.extract ((wrap64 (t217 + 1)) : Int).toNat a1.size).size ≤ 9223372036854775807 then (some (((a1.extract 0 (t217 : Int).toNat) ++ (strOfNums y232)) ++ (a1.extract ((wrap64 (t217 + 1)) : Int).toNat a1.size), bt229.2.1, bt229.2.2)) else (none)) else (none)) else (none)) else (none)))) else (none)) else (none)) else (none)))))) = some (r1, r2, r3) := H
  have A6 := Aside0.mk A60
  clear A60
  replace H := Option.bind_eq_some_iff.mp H
  obtain ⟨⟨t220, t221, t222⟩, A70, H⟩ := H
  replace H : (if t220 = 0 then (if 0 ≤ t217 then (if t217 ≤ (a1.size : Int) then (if 0 ≤ (wrap64 (t217 + 1)) then (if (wrap64 (t217 + 1)) ≤ (a1.size : Int) then (if (a1.extract 0 (t217 : Int).toNat).size + (a1.extract ((wrap64 (t217 + 1)) : Int).toNat a1.size).size ≤ 9223372036854775807 then (some ((a1.extract 0 (t217 : Int).toNat) ++ (a1.extract ((wrap64 (t217 + 1)) : Int).toNat a1.size), t221, t222)) else (none)) else (none)) else (none)) else (none)) else (none)) else (if t220 = 1 then (if 0 ≤ t217 then (if t217 ≤ (a1.size : Int) then ((spec_l1Byte.f s0_0 t221 t222).bind fun bt223 => ((some (([(bt223.1) % 256] : List Int) : List Int)).bind fun y226 => (if (a1.extract 0 (t217 : Int).toNat).size + (strOfNums y226).size ≤ 9223372036854775807 then (if ((a1.extract 0 (t217 : Int).toNat) ++ (strOfNums y226)).size + (a1.extract (t217 : Int).toNat a1.size).size ≤ 9223372036854775807 then (some (((a1.extract 0 (t217 : Int).toNat) ++ (strOfNums y226)) ++ (a1.extract (t217 : Int).toNat a1.size), bt223.2.1, bt223.2.2)) else (none)) else (none)))) else (none)) else (none)) else (if t220 = 2 then (if 0 ≤ t217 then (if t217 ≤ (a1.size : Int) then (some (a1.extract 0 (t217 : Int).toNat, t221, t222)) else (none)) else (none)) else (if 0 ≤ t217 then (if t217 ≤ (a1.size : Int) then (if t217 < (a1.size : Int) then ((spec_l1Below.f s0_0 t221 t222 255).bind fun bt229 => ((some (([(Go.bits .xor .i64 (wrap64 (bt a1 t217)) (wrap64 (1 + bt229.1))) % 256] : List Int) : List Int)).bind fun y232 => (if (a1.extract 0 (t217 : Int).toNat).size + (strOfNums y232).size ≤ 9223372036854775807 then (if 0 ≤ (wrap64 (t217 + 1)) then (if (wrap64 (t217 + 1)) ≤ (a1.size : Int) then (if ((a1.extract 0 (t217 : Int).toNat) ++ (strOfNums y232)).size + (a1.extract ((wrap64 (t217 + 1)) : Int).toNat a1.size).size ≤ 9223372036854775807 then (some (((a1.extract 0 (t217 : Int).toNat) ++ (strOfNums y232)) ++ (a1.extract ((wrap64 (t217 + 1)) : Int).toNat a1.size), bt229.2.1, bt229.2.2)) else (none)) else (none)) else (none)) else (none)))) else (none)) else (none)) else (none))))) = some (r1, r2, r3) := H
  have A7 := Aside0.mk A70
  clear A70
  by_cases c8 : t220 = 0
  ·rw [if_pos c8] at H
   have c8b0 : (t220 == 0) = true := beq_iff_eq.mpr c8
   have c8b1 : (t220 != 0) = false := bne_eq_false_iff_eq.mpr c8
   clear c8
   by_cases c9 : 0 ≤ t217
   ·rw [if_pos c9] at H
    have c9b0 := eq_true c9
    have c9b1 : decide (0 ≤ t217) = true := decide_eq_true c9
    clear c9
    by_cases c10 : t217 ≤ (a1.size : Int)
    ·rw [if_pos c10] at H
     have c10b0 := eq_true c10
     have c10b1 : decide (t217 ≤ (a1.size : Int)) = true := decide_eq_true c10
     clear c10
     obtain ⟨ji11, hji11⟩ : ∃ j_ : Int, (wrap64 (t217 + 1)) = j_ := ⟨_, rfl⟩
     replace H : (if 0 ≤ (ji11) then (if (ji11) ≤ (a1.size : Int) then (if (a1.extract 0 (t217 : Int).toNat).size + (a1.extract ((ji11) : Int).toNat a1.size).size ≤ 9223372036854775807 then (some ((a1.extract 0 (t217 : Int).toNat) ++ (a1.extract ((ji11) : Int).toNat a1.size), t221, t222)) else (none)) else (none)) else (none)) = some (r1, r2, r3) := by first | (rw [hji11] at H; exact H) | (simp only [hji11] at H ⊢; exact H)
     (try rw [hji11] at A6)
     (try rw [hji11] at A7)
     have hji11w : (IntKind.i64.wrap (t217 + 1)) = ji11 := (i64_w _).trans hji11
     by_cases c12 : 0 ≤ (ji11)
     ·rw [if_pos c12] at H
      have c12b0 := eq_true c12
      have c12b1 : decide (0 ≤ (ji11)) = true := decide_eq_true c12
      clear c12
      by_cases c13 : (ji11) ≤ (a1.size : Int)
      ·rw [if_pos c13] at H
       have c13b0 := eq_true c13
       have c13b1 : decide ((ji11) ≤ (a1.size : Int)) = true := decide_eq_true c13
       clear c13
       by_cases c14 : (a1.extract 0 (t217 : Int).toNat).size + (a1.extract ((ji11) : Int).toNat a1.size).size ≤ 9223372036854775807
       ·rw [if_pos c14] at H
        have c14b0 := eq_true c14
        have c14b1 : decide ((a1.extract 0 (t217 : Int).toNat).size + (a1.extract ((ji11) : Int).toNat a1.size).size ≤ 9223372036854775807) = true := decide_eq_true c14
        have c14x := of_decide_eq_true c14b1
        (try simp only [ByteArray.size_extract, Nat.min_self] at c14x)
        (try have c14y := c14x)
        (try have c14xb0 := eq_true c14x)
        (try have c14xb1 := decide_eq_true c14x)
        (try clear c14x)
        (try (simp only [ByteArray.size_append, ByteArray.size_extract, Nat.min_eq_left, Nat.sub_zero, Int.toNat_le, *] at c14y; have c14yb0 := eq_true c14y; have c14yb1 := decide_eq_true c14y; have c14yb2 := eq_false (Nat.not_lt.2 c14y)))
        (try clear c14y)
        try have c14b2 : (9223372036854775807 < (a1.extract 0 (t217 : Int).toNat).size + (a1.extract ((ji11) : Int).toNat a1.size).size) = False := eq_false (Nat.not_lt.2 c14)
        (try (have c14b3 := c14b2; simp only [ByteArray.size_append] at c14b3))
        simp only [Option.some.injEq, Prod.mk.injEq] at H
        obtain ⟨rfl, rfl, rfl⟩ := H
        go_enter Tryd.func25, Tryd.ntmps25
        try go_wp2_with (first | ((with_reducible refine gate_callee (f := 26) rfl ?_); refine goesL_ (some 14) rfl rfl Tryd.func26 (by kernel_rfl) rfl #[.pointer (some ⟨g, 0, none⟩), .int .i64 (a1.size : Int)] rfl (by (try simp only [List.map_toArray, List.map_cons, List.map_nil]); first | done | rfl | (simp only [List.length_drop, List.length_take]; rfl) | (simp only [ByteArray.size_extract, Nat.min_self]; first | done | rfl)) ?_; (with_reducible refine (spec_l1Below.calls g s0_0 s0_1 s0_2 (a1.size : Int) t217 t218 t219 w0 _ ?side1 ?side2 A6.out).mono ?_); (case side1 => repeat (first | (with_reducible first | exact HI0.out | apply IsS50.alloc | apply IsS50.drewN | apply IsS50.drew | apply IsS50.set_1 | apply IsS50.set_2) | exact HI0.out)); (case side2 => repeat (first | (with_reducible first | exact HB.out | apply below_alloc | apply pw_below_drewN | apply below_drew1 | refine below_set ?_ (IsS50.ge HI0.out)) | exact HB.out)); rintro e w15 ⟨rfl, hi, hb, hk⟩; refine ⟨_, rfl, ?_⟩; replace HK := Aside0.mk (KeepBut.trans (by repeat (first | (with_reducible first | exact HK.out | apply KeepBut.set_ | apply keep_drewN | apply keep_drew | apply keep_alloc) | exact HK.out)) hk (.inl rfl)); replace HB := Aside0.mk (hb); replace HI0 := Aside0.mk (hi); (try clear hb); (try clear hb2); (try clear hk); (try clear hi)) | ((with_reducible refine gate_callee (f := 26) rfl ?_); refine goesL_ (some 16) rfl rfl Tryd.func26 (by kernel_rfl) rfl #[.pointer (some ⟨g, 0, none⟩), .int .i64 4] rfl (by (try simp only [List.map_toArray, List.map_cons, List.map_nil]); first | done | rfl | (simp only [List.length_drop, List.length_take]; rfl) | (simp only [ByteArray.size_extract, Nat.min_self]; first | done | rfl)) ?_; (with_reducible refine (spec_l1Below.calls g s0_0 t218 t219 4 t220 t221 t222 w0 _ ?side1 ?side2 A7.out).mono ?_); (case side1 => repeat (first | (with_reducible first | exact HI0.out | apply IsS50.alloc | apply IsS50.drewN | apply IsS50.drew | apply IsS50.set_1 | apply IsS50.set_2) | exact HI0.out)); (case side2 => repeat (first | (with_reducible first | exact HB.out | apply below_alloc | apply pw_below_drewN | apply below_drew1 | refine below_set ?_ (IsS50.ge HI0.out)) | exact HB.out)); rintro e w16 ⟨rfl, hi, hb, hk⟩; refine ⟨_, rfl, ?_⟩; replace HK := Aside0.mk (KeepBut.trans (by repeat (first | (with_reducible first | exact HK.out | apply KeepBut.set_ | apply keep_drewN | apply keep_drew | apply keep_alloc) | exact HK.out)) hk (.inl rfl)); replace HB := Aside0.mk (hb); replace HI0 := Aside0.mk (hi); (try clear hb); (try clear hb2); (try clear hk); (try clear hi)))
        replace HI0 := Aside0.mk (IsS50.drew HI0.out)
        replace HK := Aside0.mk (keep_drew HK.out)
        replace HB := hd_ HB
        refine start_ (n := 9) (S := fun w' => True) (ds := []) (on_ 0 9) (by kernel_rfl) rfl rfl trivial (fun hHeld => ?_); refine with_tabW spec_l1Spoil.tab6 spec_l1Spoil.bits6 (fun HT_ HW_ => ?_)
        generalize w16.drew = w17 at HI0 HK HB hHeld ⊢
        refine pv_' 0 19 (on_ 1 8) rfl rfl HT_ ?_
        refine pv_' 1 20 (on_ 2 7) rfl rfl HT_ ?_
        refine pv_' 2 21 (on_ 3 6) rfl rfl HT_ ?_
        refine pv_' 3 22 (on_ 4 5) rfl rfl HT_ ?_
        refine pv_' 4 23 (on_ 5 4) rfl rfl HT_ ?_
        refine pv_' 5 24 (on_ 6 3) rfl rfl HT_ ?_
        refine pv_' 6 25 (on_ 7 2) rfl rfl HT_ ?_
        refine pv_' 7 26 (on_ 8 1) rfl rfl HT_ ?_
        refine pv_' 8 4 (on_ 9 0) rfl rfl HT_ ?_
        refine done_ (done_of HT_.out (by kernel_rfl)) ?_
        have Nji11_ := Aside0.mk hji11
        clear hji11
        (try clear hji11w)
        try go_wp2
        have hji11 := Nji11_.out
        clear Nji11_
        (try have hji11w := (i64_w _).trans hji11)
        go_ret
        exact ⟨by first | rfl | (simp [errW_none, errW_some] <;> rfl) | (simp only [← hji11]; first | rfl | (simp [errW_none, errW_some] <;> rfl)) | (simp [*, errW_none, errW_some] <;> rfl), by repeat (first | (with_reducible first | exact HI0.out | apply IsS50.alloc | apply IsS50.drewN | apply IsS50.drew | apply IsS50.set_1 | apply IsS50.set_2) | exact HI0.out), by repeat (first | (with_reducible first | exact HB.out | apply below_alloc | apply pw_below_drewN | apply below_drew1 | refine below_set ?_ (IsS50.ge HI0.out)) | exact HB.out), by repeat (first | (with_reducible first | exact HK.out | apply KeepBut.set_ | apply keep_drewN | apply keep_drew | apply keep_alloc) | exact HK.out)⟩
       ·rw [if_neg c14] at H
        exact absurd H (by simp)
      ·rw [if_neg c13] at H
       exact absurd H (by simp)
     ·rw [if_neg c12] at H
      exact absurd H (by simp)
    ·rw [if_neg c10] at H
     exact absurd H (by simp)
   ·rw [if_neg c9] at H
    exact absurd H (by simp)
  ·rw [if_neg c8] at H
   have c8b0 : (t220 == 0) = false := beq_eq_false_iff_ne.mpr c8
   have c8b1 : (t220 != 0) = true := bne_iff_ne.mpr c8
   by_cases c18 : t220 = 1
   ·rw [if_pos c18] at H
    have c18b0 : (t220 == 1) = true := beq_iff_eq.mpr c18
    have c18b1 : (t220 != 1) = false := bne_eq_false_iff_eq.mpr c18
    clear c18
    by_cases c19 : 0 ≤ t217
    ·rw [if_pos c19] at H
     have c19b0 := eq_true c19
     have c19b1 : decide (0 ≤ t217) = true := decide_eq_true c19
     clear c19
     by_cases c20 : t217 ≤ (a1.size : Int)
     ·rw [if_pos c20] at H
      have c20b0 := eq_true c20
      have c20b1 : decide (t217 ≤ (a1.size : Int)) = true := decide_eq_true c20
      clear c20
      replace H := Option.bind_eq_some_iff.mp H
      obtain ⟨⟨t223, t224, t225⟩, A210, H⟩ := H
      replace H : ((some (([(t223) % 256] : List Int) : List Int)).bind fun y226 => (if (a1.extract 0 (t217 : Int).toNat).size + (strOfNums y226).size ≤ 9223372036854775807 then (if ((a1.extract 0 (t217 : Int).toNat) ++ (strOfNums y226)).size + (a1.extract (t217 : Int).toNat a1.size).size ≤ 9223372036854775807 then (some (((a1.extract 0 (t217 : Int).toNat) ++ (strOfNums y226)) ++ (a1.extract (t217 : Int).toNat a1.size), t224, t225)) else (none)) else (none))) = some (r1, r2, r3) := H
      have A21 := Aside0.mk A210
      clear A210
      obtain ⟨y226, hy226⟩ : ∃ y_ : List Int, y_ = (([(t223) % 256] : List Int)) := ⟨_, rfl⟩
      replace H : (if (a1.extract 0 (t217 : Int).toNat).size + (strOfNums y226).size ≤ 9223372036854775807 then (if ((a1.extract 0 (t217 : Int).toNat) ++ (strOfNums y226)).size + (a1.extract (t217 : Int).toNat a1.size).size ≤ 9223372036854775807 then (some (((a1.extract 0 (t217 : Int).toNat) ++ (strOfNums y226)) ++ (a1.extract (t217 : Int).toNat a1.size), t224, t225)) else (none)) else (none)) = some (r1, r2, r3) := by first | (rw [hy226]; with_reducible exact H) | (have H2_ := (Option.bind_some _ _).symm.trans H; rw [hy226]; with_reducible exact H2_) | (have H2_ := (Option.bind_some _ _).symm.trans H; with_reducible exact H2_) | with_reducible exact H | (rw [hy226]; exact H) | exact H
      have Ny226 := Aside0.mk hy226
      clear hy226
      by_cases c22 : (a1.extract 0 (t217 : Int).toNat).size + (strOfNums y226).size ≤ 9223372036854775807
      ·rw [if_pos c22] at H
       have c22b0 := eq_true c22
       have c22b1 : decide ((a1.extract 0 (t217 : Int).toNat).size + (strOfNums y226).size ≤ 9223372036854775807) = true := decide_eq_true c22
       have c22x := of_decide_eq_true c22b1
       (try simp only [ByteArray.size_extract, Nat.min_self] at c22x)
       (try have c22y := c22x)
       (try have c22xb0 := eq_true c22x)
       (try have c22xb1 := decide_eq_true c22x)
       (try clear c22x)
       (try (simp only [ByteArray.size_append, ByteArray.size_extract, Nat.min_eq_left, Nat.sub_zero, Int.toNat_le, *] at c22y; have c22yb0 := eq_true c22y; have c22yb1 := decide_eq_true c22y; have c22yb2 := eq_false (Nat.not_lt.2 c22y)))
       (try clear c22y)
       try have c22b2 : (9223372036854775807 < (a1.extract 0 (t217 : Int).toNat).size + (strOfNums y226).size) = False := eq_false (Nat.not_lt.2 c22)
       (try (have c22b3 := c22b2; simp only [ByteArray.size_append] at c22b3))
       have c23b0 := eq_true (of_decide_eq_true as_ : 0 ≤ t217)
       have c24b0 := eq_true (of_decide_eq_true as_ : t217 ≤ (a1.size : Int))
       by_cases c25 : ((a1.extract 0 (t217 : Int).toNat) ++ (strOfNums y226)).size + (a1.extract (t217 : Int).toNat a1.size).size ≤ 9223372036854775807
       ·rw [if_pos c25] at H
        have c25b0 := eq_true c25
        have c25b1 : decide (((a1.extract 0 (t217 : Int).toNat) ++ (strOfNums y226)).size + (a1.extract (t217 : Int).toNat a1.size).size ≤ 9223372036854775807) = true := decide_eq_true c25
        have c25x := of_decide_eq_true c25b1
        (try simp only [ByteArray.size_extract, Nat.min_self] at c25x)
        (try have c25y := c25x)
        (try have c25xb0 := eq_true c25x)
        (try have c25xb1 := decide_eq_true c25x)
        (try clear c25x)
        (try (simp only [ByteArray.size_append, ByteArray.size_extract, Nat.min_eq_left, Nat.sub_zero, Int.toNat_le, *] at c25y; have c25yb0 := eq_true c25y; have c25yb1 := decide_eq_true c25y; have c25yb2 := eq_false (Nat.not_lt.2 c25y)))
        (try clear c25y)
        try have c25b2 : (9223372036854775807 < ((a1.extract 0 (t217 : Int).toNat) ++ (strOfNums y226)).size + (a1.extract (t217 : Int).toNat a1.size).size) = False := eq_false (Nat.not_lt.2 c25)
        (try (have c25b3 := c25b2; simp only [ByteArray.size_append] at c25b3))
        simp only [Option.some.injEq, Prod.mk.injEq] at H
        obtain ⟨rfl, rfl, rfl⟩ := H
        go_enter Tryd.func25, Tryd.ntmps25
        try go_wp2_with (first | ((with_reducible refine gate_callee (f := 26) rfl ?_); refine goesL_ (some 14) rfl rfl Tryd.func26 (by kernel_rfl) rfl #[.pointer (some ⟨g, 0, none⟩), .int .i64 (a1.size : Int)] rfl (by (try simp only [List.map_toArray, List.map_cons, List.map_nil]); first | done | rfl | (simp only [List.length_drop, List.length_take]; rfl) | (simp only [ByteArray.size_extract, Nat.min_self]; first | done | rfl)) ?_; (with_reducible refine (spec_l1Below.calls g s0_0 s0_1 s0_2 (a1.size : Int) t217 t218 t219 w0 _ ?side1 ?side2 A6.out).mono ?_); (case side1 => repeat (first | (with_reducible first | exact HI0.out | apply IsS50.alloc | apply IsS50.drewN | apply IsS50.drew | apply IsS50.set_1 | apply IsS50.set_2) | exact HI0.out)); (case side2 => repeat (first | (with_reducible first | exact HB.out | apply below_alloc | apply pw_below_drewN | apply below_drew1 | refine below_set ?_ (IsS50.ge HI0.out)) | exact HB.out)); rintro e w26 ⟨rfl, hi, hb, hk⟩; refine ⟨_, rfl, ?_⟩; replace HK := Aside0.mk (KeepBut.trans (by repeat (first | (with_reducible first | exact HK.out | apply KeepBut.set_ | apply keep_drewN | apply keep_drew | apply keep_alloc) | exact HK.out)) hk (.inl rfl)); replace HB := Aside0.mk (hb); replace HI0 := Aside0.mk (hi); (try clear hb); (try clear hb2); (try clear hk); (try clear hi)) | ((with_reducible refine gate_callee (f := 26) rfl ?_); refine goesL_ (some 16) rfl rfl Tryd.func26 (by kernel_rfl) rfl #[.pointer (some ⟨g, 0, none⟩), .int .i64 4] rfl (by (try simp only [List.map_toArray, List.map_cons, List.map_nil]); first | done | rfl | (simp only [List.length_drop, List.length_take]; rfl) | (simp only [ByteArray.size_extract, Nat.min_self]; first | done | rfl)) ?_; (with_reducible refine (spec_l1Below.calls g s0_0 t218 t219 4 t220 t221 t222 w0 _ ?side1 ?side2 A7.out).mono ?_); (case side1 => repeat (first | (with_reducible first | exact HI0.out | apply IsS50.alloc | apply IsS50.drewN | apply IsS50.drew | apply IsS50.set_1 | apply IsS50.set_2) | exact HI0.out)); (case side2 => repeat (first | (with_reducible first | exact HB.out | apply below_alloc | apply pw_below_drewN | apply below_drew1 | refine below_set ?_ (IsS50.ge HI0.out)) | exact HB.out)); rintro e w27 ⟨rfl, hi, hb, hk⟩; refine ⟨_, rfl, ?_⟩; replace HK := Aside0.mk (KeepBut.trans (by repeat (first | (with_reducible first | exact HK.out | apply KeepBut.set_ | apply keep_drewN | apply keep_drew | apply keep_alloc) | exact HK.out)) hk (.inl rfl)); replace HB := Aside0.mk (hb); replace HI0 := Aside0.mk (hi); (try clear hb); (try clear hb2); (try clear hk); (try clear hi)))
        replace HI0 := Aside0.mk (IsS50.drew HI0.out)
        replace HK := Aside0.mk (keep_drew HK.out)
        replace HB := hd_ HB
        refine start_ (n := 14) (S := fun w' => True) (ds := []) (on_ 0 14) (by kernel_rfl) rfl rfl trivial (fun hHeld => ?_); refine with_tabW spec_l1Spoil.tab8 spec_l1Spoil.bits8 (fun HT_ HW_ => ?_)
        generalize w27.drew = w28 at HI0 HK HB hHeld ⊢
        refine pv_' 0 29 (on_ 1 13) rfl rfl HT_ ?_
        refine pv_' 1 30 (on_ 2 12) rfl rfl HT_ ?_
        refine pv_' 2 31 (on_ 3 11) rfl rfl HT_ ?_
        refine pv_' 3 32 (on_ 4 10) rfl rfl HT_ ?_
        refine pv_' 9 38 #[i',i',i',i',o',o',o',o',o',i',o',o',o',o'] rfl rfl HT_ ?_
        refine pv_' 10 39 #[i',i',i',i',o',o',o',o',o',i',i',o',o',o'] rfl rfl HT_ ?_
        refine pv_' 11 40 #[i',i',i',i',o',o',o',o',o',i',i',i',o',o'] rfl rfl HT_ ?_
        refine one_ (i := 4) (N := some 33) #[i',i',i',i',i',o',o',o',o',i',i',i',o',o'] rfl rfl (one_of HT_.out (by kernel_rfl)) (by decide) (fun K hK => ?_)
        refine goes_ Tryd.func28 (by kernel_rfl) rfl #[.pointer (some ⟨g, 0, none⟩)] (by rfl) rfl rfl (by (try simp only [List.map_toArray, List.map_cons, List.map_nil]); first | done | rfl | (simp only [List.length_drop, List.length_take]; rfl) | (simp only [ByteArray.size_extract, Nat.min_self]; first | done | rfl)) ?_
        with_reducible refine (spec_l1Byte.calls g s0_0 t221 t222 t223 t224 t225 w0 _ ?side1 ?side2 A21.out).mono ?_
        (case side1 => repeat (first | (with_reducible first | exact HI0.out | apply IsS50.alloc | apply IsS50.drewN | apply IsS50.drew | apply IsS50.set_1 | apply IsS50.set_2) | exact HI0.out))
        (case side2 => repeat (first | (with_reducible first | exact HB.out | apply below_alloc | apply pw_below_drewN | apply below_drew1 | refine below_set ?_ (IsS50.ge HI0.out)) | exact HB.out))
        rintro e w29 ⟨rfl, hi, hb, hk⟩
        refine ⟨_, rfl, ?_⟩
        replace HK := Aside0.mk (KeepBut.trans (by repeat (first | (with_reducible first | exact HK.out | apply KeepBut.set_ | apply keep_drewN | apply keep_drew | apply keep_alloc) | exact HK.out)) hk (.inl rfl))
        replace HB := Aside0.mk (hb)
        replace HI0 := Aside0.mk (hi)
        (try clear hb)
        (try clear hb2)
        (try clear hk)
        (try clear hi)
        refine hK.out _ _ trivial (fun hHeld => ?_)
        clear hK K
        refine norm_ (a' := ?_) ?_ ?_
        rotate_left
        ·show Act.put _ (some 33) _ = _
         simp only [Act.put, la_, lz_, ls_, i64_w, i32_w]
         rfl
        refine pv_' 5 34 #[i',i',i',i',i',i',o',o',o',i',i',i',o',o'] rfl rfl HT_ ?_
        refine one_ (i := 6) (N := some 35) #[i',i',i',i',i',i',i',o',o',i',i',i',o',o'] rfl rfl (one_of HT_.out (by kernel_rfl)) (by decide) (fun K hK => ?_)
        refine Kd.R_lit_step (Kd.int .u8) _ 5 ?hg (N := 35) ?hd (xs := ([(t223) % 256] : List Int)) (inner := [.int .u8 ((t223) % 256)]) (ok := fun _ => True) (okp := fun _ => True) ?hr ?hp (fun _ hk => hk) trivial (Below.refl _ _) (Nat.le_refl _) (by simp) ?_; (case hd => rfl); (case hg => rfl); (case hr => first | (go_simp; done) | (go_simp; rfl)); (case hp => exact (Reps.one (show Kd.M (Kd.int .u8) _ _ _ ((t223) % 256) [.int .u8 ((t223) % 256)] from rfl) (Reps.none _ _)))
        intro v227 w30 ho31 hb hg_ hnew_
        clear hg_ hnew_
        (first | rw [← Ny226.out] at ho31 | (simp only [Int.reduceToNat] at ho31; rw [← Ny226.out] at ho31))
        have HO228 := Aside0.mk (Kd.R_lower ho31 (keep_size (w := w) (g := g) (row := none) (by repeat (first | (with_reducible first | exact HK.out | apply KeepBut.set_ | apply keep_drewN | apply keep_drew | apply keep_alloc) | exact HK.out))))
        replace HK := Aside0.mk (KeepBut.trans (by repeat (first | (with_reducible first | exact HK.out | apply KeepBut.set_ | apply keep_drewN | apply keep_drew | apply keep_alloc) | exact HK.out)) (KeepBut.of_below hb g none) (.inl rfl))
        replace HB := Aside0.mk (below_step (by repeat (first | (with_reducible first | exact HB.out | apply below_alloc | apply pw_below_drewN | apply below_drew1 | refine below_set ?_ (IsS50.ge HI0.out)) | exact HB.out)) hb)
        replace HI0 := Aside0.mk (IsS50.below (by repeat (first | (with_reducible first | exact HI0.out | apply IsS50.alloc | apply IsS50.drewN | apply IsS50.drew | apply IsS50.set_1 | apply IsS50.set_2) | exact HI0.out)) hb)
        clear hb ho31
        refine hK.out _ _ trivial (fun hHeld => ?_)
        clear hK K
        refine norm_ (a' := ?_) ?_ ?_
        rotate_left
        ·show Act.put _ (some 35) _ = _
         simp only [Act.put, la_, lz_, ls_, i64_w, i32_w]
         rfl
        refine one_ (i := 7) (N := some 36) #[i',i',i',i',i',i',i',i',o',i',i',i',o',o'] rfl rfl (one_of HT_.out (by kernel_rfl)) (by decide) (fun K hK => ?_)
        have hcv32 := own_string (P := Tryd.prog) Tryd.underlying22 Tryd.underlying5 Tryd.underlying9 (Kd.own_of_R HO228.out)
        refine value_ (w1 := ?_) (v := ?_) (by rfl) rfl ?_ ?_
        rotate_left 2
        ·go_simp
         constructor
         ·rfl
         ·rfl
        clear hcv32
        refine hK.out _ _ trivial (fun hHeld => ?_)
        clear hK K
        refine norm_ (a' := ?_) ?_ ?_
        rotate_left
        ·show Act.put _ (some 36) _ = _
         simp only [Act.put, la_, lz_, ls_, i64_w, i32_w]
         rfl
        refine pv_' 8 37 (on_ 12 2) rfl rfl HT_ ?_
        refine pv_' 12 41 (on_ 13 1) rfl rfl HT_ ?_
        refine pv_' 13 4 (on_ 14 0) rfl rfl HT_ ?_
        refine done_ (done_of HT_.out (by kernel_rfl)) ?_
        try go_wp2
        go_ret
        exact ⟨re_, by repeat (first | (with_reducible first | exact HI0.out | apply IsS50.alloc | apply IsS50.drewN | apply IsS50.drew | apply IsS50.set_1 | apply IsS50.set_2) | exact HI0.out), by repeat (first | (with_reducible first | exact HB.out | apply below_alloc | apply pw_below_drewN | apply below_drew1 | refine below_set ?_ (IsS50.ge HI0.out)) | exact HB.out), by repeat (first | (with_reducible first | exact HK.out | apply KeepBut.set_ | apply keep_drewN | apply keep_drew | apply keep_alloc) | exact HK.out)⟩
       ·rw [if_neg c25] at H
        exact absurd H (by simp)
      ·rw [if_neg c22] at H
       exact absurd H (by simp)
     ·rw [if_neg c20] at H
      exact absurd H (by simp)
    ·rw [if_neg c19] at H
     exact absurd H (by simp)
   ·rw [if_neg c18] at H
    have c18b0 : (t220 == 1) = false := beq_eq_false_iff_ne.mpr c18
    have c18b1 : (t220 != 1) = true := bne_iff_ne.mpr c18
    by_cases c33 : t220 = 2
    ·rw [if_pos c33] at H
     have c33b0 : (t220 == 2) = true := beq_iff_eq.mpr c33
     have c33b1 : (t220 != 2) = false := bne_eq_false_iff_eq.mpr c33
     clear c33
     by_cases c34 : 0 ≤ t217
     ·rw [if_pos c34] at H
      have c34b0 := eq_true c34
      have c34b1 : decide (0 ≤ t217) = true := decide_eq_true c34
      clear c34
      by_cases c35 : t217 ≤ (a1.size : Int)
      ·rw [if_pos c35] at H
       have c35b0 := eq_true c35
       have c35b1 : decide (t217 ≤ (a1.size : Int)) = true := decide_eq_true c35
       clear c35
       simp only [Option.some.injEq, Prod.mk.injEq] at H
       obtain ⟨rfl, rfl, rfl⟩ := H
       go_enter Tryd.func25, Tryd.ntmps25
       go_wp2_with (first | ((with_reducible refine gate_callee (f := 26) rfl ?_); refine goesL_ (some 14) rfl rfl Tryd.func26 (by kernel_rfl) rfl #[.pointer (some ⟨g, 0, none⟩), .int .i64 (a1.size : Int)] rfl (by (try simp only [List.map_toArray, List.map_cons, List.map_nil]); first | done | rfl | (simp only [List.length_drop, List.length_take]; rfl) | (simp only [ByteArray.size_extract, Nat.min_self]; first | done | rfl)) ?_; (with_reducible refine (spec_l1Below.calls g s0_0 s0_1 s0_2 (a1.size : Int) t217 t218 t219 w0 _ ?side1 ?side2 A6.out).mono ?_); (case side1 => repeat (first | (with_reducible first | exact HI0.out | apply IsS50.alloc | apply IsS50.drewN | apply IsS50.drew | apply IsS50.set_1 | apply IsS50.set_2) | exact HI0.out)); (case side2 => repeat (first | (with_reducible first | exact HB.out | apply below_alloc | apply pw_below_drewN | apply below_drew1 | refine below_set ?_ (IsS50.ge HI0.out)) | exact HB.out)); rintro e w36 ⟨rfl, hi, hb, hk⟩; refine ⟨_, rfl, ?_⟩; replace HK := Aside0.mk (KeepBut.trans (by repeat (first | (with_reducible first | exact HK.out | apply KeepBut.set_ | apply keep_drewN | apply keep_drew | apply keep_alloc) | exact HK.out)) hk (.inl rfl)); replace HB := Aside0.mk (hb); replace HI0 := Aside0.mk (hi); (try clear hb); (try clear hb2); (try clear hk); (try clear hi)) | ((with_reducible refine gate_callee (f := 26) rfl ?_); refine goesL_ (some 16) rfl rfl Tryd.func26 (by kernel_rfl) rfl #[.pointer (some ⟨g, 0, none⟩), .int .i64 4] rfl (by (try simp only [List.map_toArray, List.map_cons, List.map_nil]); first | done | rfl | (simp only [List.length_drop, List.length_take]; rfl) | (simp only [ByteArray.size_extract, Nat.min_self]; first | done | rfl)) ?_; (with_reducible refine (spec_l1Below.calls g s0_0 t218 t219 4 t220 t221 t222 w0 _ ?side1 ?side2 A7.out).mono ?_); (case side1 => repeat (first | (with_reducible first | exact HI0.out | apply IsS50.alloc | apply IsS50.drewN | apply IsS50.drew | apply IsS50.set_1 | apply IsS50.set_2) | exact HI0.out)); (case side2 => repeat (first | (with_reducible first | exact HB.out | apply below_alloc | apply pw_below_drewN | apply below_drew1 | refine below_set ?_ (IsS50.ge HI0.out)) | exact HB.out)); rintro e w37 ⟨rfl, hi, hb, hk⟩; refine ⟨_, rfl, ?_⟩; replace HK := Aside0.mk (KeepBut.trans (by repeat (first | (with_reducible first | exact HK.out | apply KeepBut.set_ | apply keep_drewN | apply keep_drew | apply keep_alloc) | exact HK.out)) hk (.inl rfl)); replace HB := Aside0.mk (hb); replace HI0 := Aside0.mk (hi); (try clear hb); (try clear hb2); (try clear hk); (try clear hi)))
       go_ret
       exact ⟨re_, by repeat (first | (with_reducible first | exact HI0.out | apply IsS50.alloc | apply IsS50.drewN | apply IsS50.drew | apply IsS50.set_1 | apply IsS50.set_2) | exact HI0.out), by repeat (first | (with_reducible first | exact HB.out | apply below_alloc | apply pw_below_drewN | apply below_drew1 | refine below_set ?_ (IsS50.ge HI0.out)) | exact HB.out), by repeat (first | (with_reducible first | exact HK.out | apply KeepBut.set_ | apply keep_drewN | apply keep_drew | apply keep_alloc) | exact HK.out)⟩
      ·rw [if_neg c35] at H
       exact absurd H (by simp)
     ·rw [if_neg c34] at H
      exact absurd H (by simp)
    ·rw [if_neg c33] at H
     have c33b0 : (t220 == 2) = false := beq_eq_false_iff_ne.mpr c33
     have c33b1 : (t220 != 2) = true := bne_iff_ne.mpr c33
     by_cases c38 : 0 ≤ t217
     ·rw [if_pos c38] at H
      have c38b0 := eq_true c38
      have c38b1 : decide (0 ≤ t217) = true := decide_eq_true c38
      clear c38
      by_cases c39 : t217 ≤ (a1.size : Int)
      ·rw [if_pos c39] at H
       have c39b0 := eq_true c39
       have c39b1 : decide (t217 ≤ (a1.size : Int)) = true := decide_eq_true c39
       clear c39
       by_cases c40 : t217 < (a1.size : Int)
       ·rw [if_pos c40] at H
        have c40b0 : decide (t217 < (a1.size : Int)) = true := decide_eq_true c40
        clear c40
        replace H := Option.bind_eq_some_iff.mp H
        obtain ⟨⟨t229, t230, t231⟩, A420, H⟩ := H
        replace H : ((some (([(Go.bits .xor .i64 (wrap64 (bt a1 t217)) (wrap64 (1 + t229))) % 256] : List Int) : List Int)).bind fun y232 => (if (a1.extract 0 (t217 : Int).toNat).size + (strOfNums y232).size ≤ 9223372036854775807 then (if 0 ≤ (wrap64 (t217 + 1)) then (if (wrap64 (t217 + 1)) ≤ (a1.size : Int) then (if ((a1.extract 0 (t217 : Int).toNat) ++ (strOfNums y232)).size + (a1.extract ((wrap64 (t217 + 1)) : Int).toNat a1.size).size ≤ 9223372036854775807 then (some (((a1.extract 0 (t217 : Int).toNat) ++ (strOfNums y232)) ++ (a1.extract ((wrap64 (t217 + 1)) : Int).toNat a1.size), t230, t231)) else (none)) else (none)) else (none)) else (none))) = some (r1, r2, r3) := H
        have A42 := Aside0.mk A420
        clear A420
        obtain ⟨y232, hy232⟩ : ∃ y_ : List Int, y_ = (([(Go.bits .xor .i64 (wrap64 (bt a1 t217)) (wrap64 (1 + t229))) % 256] : List Int)) := ⟨_, rfl⟩
        replace H : (if (a1.extract 0 (t217 : Int).toNat).size + (strOfNums y232).size ≤ 9223372036854775807 then (if 0 ≤ (wrap64 (t217 + 1)) then (if (wrap64 (t217 + 1)) ≤ (a1.size : Int) then (if ((a1.extract 0 (t217 : Int).toNat) ++ (strOfNums y232)).size + (a1.extract ((wrap64 (t217 + 1)) : Int).toNat a1.size).size ≤ 9223372036854775807 then (some (((a1.extract 0 (t217 : Int).toNat) ++ (strOfNums y232)) ++ (a1.extract ((wrap64 (t217 + 1)) : Int).toNat a1.size), t230, t231)) else (none)) else (none)) else (none)) else (none)) = some (r1, r2, r3) := by first | (rw [hy232]; with_reducible exact H) | (have H2_ := (Option.bind_some _ _).symm.trans H; rw [hy232]; with_reducible exact H2_) | (have H2_ := (Option.bind_some _ _).symm.trans H; with_reducible exact H2_) | with_reducible exact H | (rw [hy232]; exact H) | exact H
        have Ny232 := Aside0.mk hy232
        clear hy232
        by_cases c43 : (a1.extract 0 (t217 : Int).toNat).size + (strOfNums y232).size ≤ 9223372036854775807
        ·rw [if_pos c43] at H
         have c43b0 := eq_true c43
         have c43b1 : decide ((a1.extract 0 (t217 : Int).toNat).size + (strOfNums y232).size ≤ 9223372036854775807) = true := decide_eq_true c43
         have c43x := of_decide_eq_true c43b1
         (try simp only [ByteArray.size_extract, Nat.min_self] at c43x)
         (try have c43y := c43x)
         (try have c43xb0 := eq_true c43x)
         (try have c43xb1 := decide_eq_true c43x)
         (try clear c43x)
         (try (simp only [ByteArray.size_append, ByteArray.size_extract, Nat.min_eq_left, Nat.sub_zero, Int.toNat_le, *] at c43y; have c43yb0 := eq_true c43y; have c43yb1 := decide_eq_true c43y; have c43yb2 := eq_false (Nat.not_lt.2 c43y)))
         (try clear c43y)
         try have c43b2 : (9223372036854775807 < (a1.extract 0 (t217 : Int).toNat).size + (strOfNums y232).size) = False := eq_false (Nat.not_lt.2 c43)
         (try (have c43b3 := c43b2; simp only [ByteArray.size_append] at c43b3))
         obtain ⟨ji44, hji44⟩ : ∃ j_ : Int, (wrap64 (t217 + 1)) = j_ := ⟨_, rfl⟩
         replace H : (if 0 ≤ (ji44) then (if (ji44) ≤ (a1.size : Int) then (if ((a1.extract 0 (t217 : Int).toNat) ++ (strOfNums y232)).size + (a1.extract ((ji44) : Int).toNat a1.size).size ≤ 9223372036854775807 then (some (((a1.extract 0 (t217 : Int).toNat) ++ (strOfNums y232)) ++ (a1.extract ((ji44) : Int).toNat a1.size), t230, t231)) else (none)) else (none)) else (none)) = some (r1, r2, r3) := by first | (rw [hji44] at H; exact H) | (simp only [hji44] at H ⊢; exact H)
         (try rw [hji44] at A6)
         (try rw [hji44] at A7)
         (try rw [hji44] at A42)
         have hji44w : (IntKind.i64.wrap (t217 + 1)) = ji44 := (i64_w _).trans hji44
         by_cases c45 : 0 ≤ (ji44)
         ·rw [if_pos c45] at H
          have c45b0 := eq_true c45
          have c45b1 : decide (0 ≤ (ji44)) = true := decide_eq_true c45
          clear c45
          by_cases c46 : (ji44) ≤ (a1.size : Int)
          ·rw [if_pos c46] at H
           have c46b0 := eq_true c46
           have c46b1 : decide ((ji44) ≤ (a1.size : Int)) = true := decide_eq_true c46
           clear c46
           by_cases c47 : ((a1.extract 0 (t217 : Int).toNat) ++ (strOfNums y232)).size + (a1.extract ((ji44) : Int).toNat a1.size).size ≤ 9223372036854775807
           ·rw [if_pos c47] at H
            have c47b0 := eq_true c47
            have c47b1 : decide (((a1.extract 0 (t217 : Int).toNat) ++ (strOfNums y232)).size + (a1.extract ((ji44) : Int).toNat a1.size).size ≤ 9223372036854775807) = true := decide_eq_true c47
            have c47x := of_decide_eq_true c47b1
            (try simp only [ByteArray.size_extract, Nat.min_self] at c47x)
            (try have c47y := c47x)
            (try have c47xb0 := eq_true c47x)
            (try have c47xb1 := decide_eq_true c47x)
            (try clear c47x)
            (try (simp only [ByteArray.size_append, ByteArray.size_extract, Nat.min_eq_left, Nat.sub_zero, Int.toNat_le, *] at c47y; have c47yb0 := eq_true c47y; have c47yb1 := decide_eq_true c47y; have c47yb2 := eq_false (Nat.not_lt.2 c47y)))
            (try clear c47y)
            try have c47b2 : (9223372036854775807 < ((a1.extract 0 (t217 : Int).toNat) ++ (strOfNums y232)).size + (a1.extract ((ji44) : Int).toNat a1.size).size) = False := eq_false (Nat.not_lt.2 c47)
            (try (have c47b3 := c47b2; simp only [ByteArray.size_append] at c47b3))
            simp only [Option.some.injEq, Prod.mk.injEq] at H
            obtain ⟨rfl, rfl, rfl⟩ := H
            go_enter Tryd.func25, Tryd.ntmps25
            try go_wp2_with (first | ((with_reducible refine gate_callee (f := 26) rfl ?_); refine goesL_ (some 14) rfl rfl Tryd.func26 (by kernel_rfl) rfl #[.pointer (some ⟨g, 0, none⟩), .int .i64 (a1.size : Int)] rfl (by (try simp only [List.map_toArray, List.map_cons, List.map_nil]); first | done | rfl | (simp only [List.length_drop, List.length_take]; rfl) | (simp only [ByteArray.size_extract, Nat.min_self]; first | done | rfl)) ?_; (with_reducible refine (spec_l1Below.calls g s0_0 s0_1 s0_2 (a1.size : Int) t217 t218 t219 w0 _ ?side1 ?side2 A6.out).mono ?_); (case side1 => repeat (first | (with_reducible first | exact HI0.out | apply IsS50.alloc | apply IsS50.drewN | apply IsS50.drew | apply IsS50.set_1 | apply IsS50.set_2) | exact HI0.out)); (case side2 => repeat (first | (with_reducible first | exact HB.out | apply below_alloc | apply pw_below_drewN | apply below_drew1 | refine below_set ?_ (IsS50.ge HI0.out)) | exact HB.out)); rintro e w48 ⟨rfl, hi, hb, hk⟩; refine ⟨_, rfl, ?_⟩; replace HK := Aside0.mk (KeepBut.trans (by repeat (first | (with_reducible first | exact HK.out | apply KeepBut.set_ | apply keep_drewN | apply keep_drew | apply keep_alloc) | exact HK.out)) hk (.inl rfl)); replace HB := Aside0.mk (hb); replace HI0 := Aside0.mk (hi); (try clear hb); (try clear hb2); (try clear hk); (try clear hi)) | ((with_reducible refine gate_callee (f := 26) rfl ?_); refine goesL_ (some 16) rfl rfl Tryd.func26 (by kernel_rfl) rfl #[.pointer (some ⟨g, 0, none⟩), .int .i64 4] rfl (by (try simp only [List.map_toArray, List.map_cons, List.map_nil]); first | done | rfl | (simp only [List.length_drop, List.length_take]; rfl) | (simp only [ByteArray.size_extract, Nat.min_self]; first | done | rfl)) ?_; (with_reducible refine (spec_l1Below.calls g s0_0 t218 t219 4 t220 t221 t222 w0 _ ?side1 ?side2 A7.out).mono ?_); (case side1 => repeat (first | (with_reducible first | exact HI0.out | apply IsS50.alloc | apply IsS50.drewN | apply IsS50.drew | apply IsS50.set_1 | apply IsS50.set_2) | exact HI0.out)); (case side2 => repeat (first | (with_reducible first | exact HB.out | apply below_alloc | apply pw_below_drewN | apply below_drew1 | refine below_set ?_ (IsS50.ge HI0.out)) | exact HB.out)); rintro e w49 ⟨rfl, hi, hb, hk⟩; refine ⟨_, rfl, ?_⟩; replace HK := Aside0.mk (KeepBut.trans (by repeat (first | (with_reducible first | exact HK.out | apply KeepBut.set_ | apply keep_drewN | apply keep_drew | apply keep_alloc) | exact HK.out)) hk (.inl rfl)); replace HB := Aside0.mk (hb); replace HI0 := Aside0.mk (hi); (try clear hb); (try clear hb2); (try clear hk); (try clear hi)))
            replace HI0 := Aside0.mk (IsS50.drew HI0.out)
            replace HK := Aside0.mk (keep_drew HK.out)
            replace HB := hd_ HB
            have p41 : 0 ≤ (t217 : Int) := of_decide_eq_true as_
            have q41 : t217 < (a1.size : Int) := of_decide_eq_true as_
            have hx41 := bt_at a1 t217
            replace p41 := eq_true p41
            replace q41 := eq_true q41
            refine start_ (n := 21) (S := fun w' => True) (ds := []) (on_ 0 21) (by kernel_rfl) rfl rfl trivial (fun hHeld => ?_); refine with_tabW spec_l1Spoil.tab11 spec_l1Spoil.bits11 (fun HT_ HW_ => ?_)
            generalize w49.drew = w50 at HI0 HK HB hHeld ⊢
            refine pv_' 0 47 (on_ 1 20) rfl rfl HT_ ?_
            refine pv_' 1 48 (on_ 2 19) rfl rfl HT_ ?_
            refine pv_' 2 49 (on_ 3 18) rfl rfl HT_ ?_
            refine pv_' 3 50 (on_ 4 17) rfl rfl HT_ ?_
            refine pv_' 4 51 (on_ 5 16) rfl rfl HT_ ?_
            refine pv_' 7 54 #[i',i',i',i',i',o',o',i',o',o',o',o',o',o',o',o',o',o',o',o',o'] rfl rfl HT_ ?_
            refine pv_' 15 62 #[i',i',i',i',i',o',o',i',o',o',o',o',o',o',o',i',o',o',o',o',o'] rfl rfl HT_ ?_
            refine pv_' 16 63 #[i',i',i',i',i',o',o',i',o',o',o',o',o',o',o',i',i',o',o',o',o'] rfl rfl HT_ ?_
            refine pv_' 17 64 #[i',i',i',i',i',o',o',i',o',o',o',o',o',o',o',i',i',i',o',o',o'] rfl rfl HT_ ?_
            refine pv_' 18 65 #[i',i',i',i',i',o',o',i',o',o',o',o',o',o',o',i',i',i',i',o',o'] rfl rfl HT_ ?_
            refine take_ (i := 5) (N := some 52) (v := ?_) (a' := ?_) #[i',i',i',i',i',i',o',i',o',o',o',o',o',o',o',i',i',i',i',o',o'] rfl rfl (take_ofW HT_.out HW_.out (by kernel_rfl)) (fun _ _ _ h => h) (Or.inl ⟨by rfl, ?_⟩) hHeld ?_ ?_
            rotate_left
            ·intro w' _
             go_simp
             with_reducible rfl
            rotate_left
            ·simp only [Act.put, la_, lz_, ls_, i64_w, i32_w]
             rfl
            refine pv_' 6 53 #[i',i',i',i',i',i',i',i',o',o',o',o',o',o',o',i',i',i',i',o',o'] rfl rfl HT_ ?_
            refine one_ (i := 8) (N := some 55) #[i',i',i',i',i',i',i',i',i',o',o',o',o',o',o',i',i',i',i',o',o'] rfl rfl (one_of HT_.out (by kernel_rfl)) (by decide) (fun K hK => ?_)
            refine goes_ Tryd.func26 (by kernel_rfl) rfl #[.pointer (some ⟨g, 0, none⟩), .int .i64 255] (by rfl) rfl rfl (by (try simp only [List.map_toArray, List.map_cons, List.map_nil]); first | done | rfl | (simp only [List.length_drop, List.length_take]; rfl) | (simp only [ByteArray.size_extract, Nat.min_self]; first | done | rfl)) ?_
            with_reducible refine (spec_l1Below.calls g s0_0 t221 t222 255 t229 t230 t231 w0 _ ?side1 ?side2 A42.out).mono ?_
            (case side1 => repeat (first | (with_reducible first | exact HI0.out | apply IsS50.alloc | apply IsS50.drewN | apply IsS50.drew | apply IsS50.set_1 | apply IsS50.set_2) | exact HI0.out))
            (case side2 => repeat (first | (with_reducible first | exact HB.out | apply below_alloc | apply pw_below_drewN | apply below_drew1 | refine below_set ?_ (IsS50.ge HI0.out)) | exact HB.out))
            rintro e w51 ⟨rfl, hi, hb, hk⟩
            refine ⟨_, rfl, ?_⟩
            replace HK := Aside0.mk (KeepBut.trans (by repeat (first | (with_reducible first | exact HK.out | apply KeepBut.set_ | apply keep_drewN | apply keep_drew | apply keep_alloc) | exact HK.out)) hk (.inl rfl))
            replace HB := Aside0.mk (hb)
            replace HI0 := Aside0.mk (hi)
            (try clear hb)
            (try clear hb2)
            (try clear hk)
            (try clear hi)
            refine hK.out _ _ trivial (fun hHeld => ?_)
            clear hK K
            refine norm_ (a' := ?_) ?_ ?_
            rotate_left
            ·show Act.put _ (some 55) _ = _
             simp only [Act.put, la_, lz_, ls_, i64_w, i32_w]
             rfl
            refine pv_' 9 56 #[i',i',i',i',i',i',i',i',i',i',o',o',o',o',o',i',i',i',i',o',o'] rfl rfl HT_ ?_
            refine pv_' 10 57 #[i',i',i',i',i',i',i',i',i',i',i',o',o',o',o',i',i',i',i',o',o'] rfl rfl HT_ ?_
            refine pv_' 11 58 #[i',i',i',i',i',i',i',i',i',i',i',i',o',o',o',i',i',i',i',o',o'] rfl rfl HT_ ?_
            refine one_ (i := 12) (N := some 59) #[i',i',i',i',i',i',i',i',i',i',i',i',i',o',o',i',i',i',i',o',o'] rfl rfl (one_of HT_.out (by kernel_rfl)) (by decide) (fun K hK => ?_)
            refine Kd.R_lit_step (Kd.int .u8) _ 5 ?hg (N := 59) ?hd (xs := ([(Go.bits .xor .i64 (wrap64 (bt a1 t217)) (wrap64 (1 + t229))) % 256] : List Int)) (inner := [.int .u8 ((Go.bits .xor .i64 (wrap64 (bt a1 t217)) (wrap64 (1 + t229))) % 256)]) (ok := fun _ => True) (okp := fun _ => True) ?hr ?hp (fun _ hk => hk) trivial (Below.refl _ _) (Nat.le_refl _) (by simp) ?_; (case hd => rfl); (case hg => rfl); (case hr => first | (go_simp; done) | (go_simp; rfl)); (case hp => exact (Reps.one (show Kd.M (Kd.int .u8) _ _ _ ((Go.bits .xor .i64 (wrap64 (bt a1 t217)) (wrap64 (1 + t229))) % 256) [.int .u8 ((Go.bits .xor .i64 (wrap64 (bt a1 t217)) (wrap64 (1 + t229))) % 256)] from rfl) (Reps.none _ _)))
            intro v233 w52 ho53 hb hg_ hnew_
            clear hg_ hnew_
            (first | rw [← Ny232.out] at ho53 | (simp only [Int.reduceToNat] at ho53; rw [← Ny232.out] at ho53))
            have HO234 := Aside0.mk (Kd.R_lower ho53 (keep_size (w := w) (g := g) (row := none) (by repeat (first | (with_reducible first | exact HK.out | apply KeepBut.set_ | apply keep_drewN | apply keep_drew | apply keep_alloc) | exact HK.out))))
            replace HK := Aside0.mk (KeepBut.trans (by repeat (first | (with_reducible first | exact HK.out | apply KeepBut.set_ | apply keep_drewN | apply keep_drew | apply keep_alloc) | exact HK.out)) (KeepBut.of_below hb g none) (.inl rfl))
            replace HB := Aside0.mk (below_step (by repeat (first | (with_reducible first | exact HB.out | apply below_alloc | apply pw_below_drewN | apply below_drew1 | refine below_set ?_ (IsS50.ge HI0.out)) | exact HB.out)) hb)
            replace HI0 := Aside0.mk (IsS50.below (by repeat (first | (with_reducible first | exact HI0.out | apply IsS50.alloc | apply IsS50.drewN | apply IsS50.drew | apply IsS50.set_1 | apply IsS50.set_2) | exact HI0.out)) hb)
            clear hb ho53
            refine hK.out _ _ trivial (fun hHeld => ?_)
            clear hK K
            refine norm_ (a' := ?_) ?_ ?_
            rotate_left
            ·show Act.put _ (some 59) _ = _
             simp only [Act.put, la_, lz_, ls_, i64_w, i32_w]
             rfl
            refine one_ (i := 13) (N := some 60) #[i',i',i',i',i',i',i',i',i',i',i',i',i',i',o',i',i',i',i',o',o'] rfl rfl (one_of HT_.out (by kernel_rfl)) (by decide) (fun K hK => ?_)
            have hcv54 := own_string (P := Tryd.prog) Tryd.underlying22 Tryd.underlying5 Tryd.underlying9 (Kd.own_of_R HO234.out)
            refine value_ (w1 := ?_) (v := ?_) (by rfl) rfl ?_ ?_
            rotate_left 2
            ·go_simp
             constructor
             ·rfl
             ·rfl
            clear hcv54
            refine hK.out _ _ trivial (fun hHeld => ?_)
            clear hK K
            refine norm_ (a' := ?_) ?_ ?_
            rotate_left
            ·show Act.put _ (some 60) _ = _
             simp only [Act.put, la_, lz_, ls_, i64_w, i32_w]
             rfl
            refine pv_' 14 61 (on_ 19 2) rfl rfl HT_ ?_
            refine pv_' 19 66 (on_ 20 1) rfl rfl HT_ ?_
            refine pv_' 20 4 (on_ 21 0) rfl rfl HT_ ?_
            refine done_ (done_of HT_.out (by kernel_rfl)) ?_
            have Nji44_ := Aside0.mk hji44
            clear hji44
            (try clear hji44w)
            try go_wp2
            have hji44 := Nji44_.out
            clear Nji44_
            (try have hji44w := (i64_w _).trans hji44)
            go_ret
            exact ⟨by first | rfl | (simp [errW_none, errW_some] <;> rfl) | (simp only [← hji44]; first | rfl | (simp [errW_none, errW_some] <;> rfl)) | (simp [*, errW_none, errW_some] <;> rfl), by repeat (first | (with_reducible first | exact HI0.out | apply IsS50.alloc | apply IsS50.drewN | apply IsS50.drew | apply IsS50.set_1 | apply IsS50.set_2) | exact HI0.out), by repeat (first | (with_reducible first | exact HB.out | apply below_alloc | apply pw_below_drewN | apply below_drew1 | refine below_set ?_ (IsS50.ge HI0.out)) | exact HB.out), by repeat (first | (with_reducible first | exact HK.out | apply KeepBut.set_ | apply keep_drewN | apply keep_drew | apply keep_alloc) | exact HK.out)⟩
           ·rw [if_neg c47] at H
            exact absurd H (by simp)
          ·rw [if_neg c46] at H
           exact absurd H (by simp)
         ·rw [if_neg c45] at H
          exact absurd H (by simp)
        ·rw [if_neg c43] at H
         exact absurd H (by simp)
       ·rw [if_neg c40] at H
        exact absurd H (by simp)
      ·rw [if_neg c39] at H
       exact absurd H (by simp)
     ·rw [if_neg c38] at H
      exact absurd H (by simp)

/-! ### spec_DrawReadVar: function 15 -/
def spec_DrawReadVar.f (k : Nat) (l0 : List Int) : Option (ByteArray) := (spec_l1New.f k l0).bind fun bt235 => ((spec_l1Num.f bt235.1 bt235.2.1 bt235.2.2).bind fun bt239 => ((spec_Var.f k bt239.1).bind fun t242 => ((spec_l1Text.f k bt235.1 bt239.2.1 bt239.2.2 4).bind fun bt243 => (if t242.size + bt243.1.size ≤ 9223372036854775807 then ((spec_l1Once.f bt235.1 bt243.2.1 bt243.2.2 4).bind fun bt246 => (if bt246.1 = true then ((spec_l1Spoil.f k bt235.1 bt246.2.1 bt246.2.2 (t242 ++ bt243.1)).bind fun bt249 => (some bt249.1)) else (some (t242 ++ bt243.1)))) else (none)))))
theorem spec_DrawReadVar.mono : ∀ a0 k, LeO (spec_DrawReadVar.f k a0) (spec_DrawReadVar.f (k + 1) a0) := by
 intro a0 k
 unfold spec_DrawReadVar.f
 repeat' first | (with_reducible first | exact spec_Var.mono .. | exact spec_l1New.mono .. | exact spec_l1Spoil.mono .. | exact spec_l1Text.mono .. | exact LeO.refl .. | exact LeO.none .. | refine LeO.ite ?_ ?_ | refine LeO.bind ?_ (fun _ => ?_)) | exact spec_Var.mono .. | exact spec_l1New.mono .. | exact spec_l1Spoil.mono .. | exact spec_l1Text.mono .. | exact LeO.none .. | refine LeO.ite ?_ ?_ | refine LeO.bind ?_ (fun _ => ?_)
set_option maxHeartbeats 80000000 in
set_option maxRecDepth 100000 in
theorem spec_DrawReadVar.calls (k : Nat) (A0 : Option Addr) (c0 : Nat) (l0 : List Int) (r : ByteArray) (w : World) (hr0 : Kd.C (Kd.int .u8) w A0 l0.length l0) (hc0 : l0.length ≤ c0) (h : spec_DrawReadVar.f k l0 = some r) :
  Calls Tryd.prog 15 #[.slice A0 l0.length c0] w fun e w' => e = .returned (.string r) ∧ Below w.heap.size w w' := by
 have HR0 := Aside0.mk hr0
 have HC0 := Aside0.mk hc0
 clear hr0 hc0
 have HB := Aside0.mk (Below.refl w.heap.size w)
 have H : ((spec_l1New.f k l0).bind fun bt235 => ((spec_l1Num.f bt235.1 bt235.2.1 bt235.2.2).bind fun bt239 => ((spec_Var.f k bt239.1).bind fun t242 => ((spec_l1Text.f k bt235.1 bt239.2.1 bt239.2.2 4).bind fun bt243 => (if t242.size + bt243.1.size ≤ 9223372036854775807 then ((spec_l1Once.f bt235.1 bt243.2.1 bt243.2.2 4).bind fun bt246 => (if bt246.1 = true then ((spec_l1Spoil.f k bt235.1 bt246.2.1 bt246.2.2 (t242 ++ bt243.1)).bind fun bt249 => (some bt249.1)) else (some (t242 ++ bt243.1)))) else (none)))))) = some r := h
 clear h
 replace H := Option.bind_eq_some_iff.mp H
 obtain ⟨⟨t235, t236, t237⟩, A20, H⟩ := H
 replace H : ((spec_l1Num.f t235 t236 t237).bind fun bt239 => ((spec_Var.f k bt239.1).bind fun t242 => ((spec_l1Text.f k t235 bt239.2.1 bt239.2.2 4).bind fun bt243 => (if t242.size + bt243.1.size ≤ 9223372036854775807 then ((spec_l1Once.f t235 bt243.2.1 bt243.2.2 4).bind fun bt246 => (if bt246.1 = true then ((spec_l1Spoil.f k t235 bt246.2.1 bt246.2.2 (t242 ++ bt243.1)).bind fun bt249 => (some bt249.1)) else (some (t242 ++ bt243.1)))) else (none))))) = some r := H
 have A2 := Aside0.mk A20
 clear A20
 replace H := Option.bind_eq_some_iff.mp H
 obtain ⟨⟨t239, t240, t241⟩, A30, H⟩ := H
 replace H : ((spec_Var.f k t239).bind fun t242 => ((spec_l1Text.f k t235 t240 t241 4).bind fun bt243 => (if t242.size + bt243.1.size ≤ 9223372036854775807 then ((spec_l1Once.f t235 bt243.2.1 bt243.2.2 4).bind fun bt246 => (if bt246.1 = true then ((spec_l1Spoil.f k t235 bt246.2.1 bt246.2.2 (t242 ++ bt243.1)).bind fun bt249 => (some bt249.1)) else (some (t242 ++ bt243.1)))) else (none)))) = some r := H
 have A3 := Aside0.mk A30
 clear A30
 replace H := Option.bind_eq_some_iff.mp H
 obtain ⟨t242, A40, H⟩ := H
 replace H : ((spec_l1Text.f k t235 t240 t241 4).bind fun bt243 => (if t242.size + bt243.1.size ≤ 9223372036854775807 then ((spec_l1Once.f t235 bt243.2.1 bt243.2.2 4).bind fun bt246 => (if bt246.1 = true then ((spec_l1Spoil.f k t235 bt246.2.1 bt246.2.2 (t242 ++ bt243.1)).bind fun bt249 => (some bt249.1)) else (some (t242 ++ bt243.1)))) else (none))) = some r := H
 have A4 := Aside0.mk A40
 clear A40
 replace H := Option.bind_eq_some_iff.mp H
 obtain ⟨⟨t243, t244, t245⟩, A50, H⟩ := H
 replace H : (if t242.size + t243.size ≤ 9223372036854775807 then ((spec_l1Once.f t235 t244 t245 4).bind fun bt246 => (if bt246.1 = true then ((spec_l1Spoil.f k t235 bt246.2.1 bt246.2.2 (t242 ++ t243)).bind fun bt249 => (some bt249.1)) else (some (t242 ++ t243)))) else (none)) = some r := H
 have A5 := Aside0.mk A50
 clear A50
 by_cases c6 : t242.size + t243.size ≤ 9223372036854775807
 ·rw [if_pos c6] at H
  have c6b0 := eq_true c6
  have c6b1 : decide (t242.size + t243.size ≤ 9223372036854775807) = true := decide_eq_true c6
  try have c6b2 : (9223372036854775807 < t242.size + t243.size) = False := eq_false (Nat.not_lt.2 c6)
  (try (have c6b3 := c6b2; simp only [ByteArray.size_append] at c6b3))
  replace H := Option.bind_eq_some_iff.mp H
  obtain ⟨⟨t246, t247, t248⟩, A70, H⟩ := H
  replace H : (if t246 = true then ((spec_l1Spoil.f k t235 t247 t248 (t242 ++ t243)).bind fun bt249 => (some bt249.1)) else (some (t242 ++ t243))) = some r := H
  have A7 := Aside0.mk A70
  clear A70
  by_cases c8 : t246 = true
  ·subst c8
   have H1 : ((spec_l1Spoil.f k t235 t247 t248 (t242 ++ t243)).bind fun bt249 => (some bt249.1)) = some r := by rw [if_pos rfl] at H; exact H
   clear H
   have H := H1
   clear H1
   replace H := Option.bind_eq_some_iff.mp H
   obtain ⟨⟨t249, t250, t251⟩, A90, H⟩ := H
   replace H : (some t249) = some r := H
   have A9 := Aside0.mk A90
   clear A90
   obtain rfl := Option.some.inj H
   go_enter Tryd.func15, Tryd.ntmps15
   go_wp2_with (first | ((with_reducible refine gate_callee (f := 16) rfl ?_); refine goesL_ (some 6) rfl rfl Tryd.func16 (by kernel_rfl) rfl #[.slice A0 l0.length c0] rfl (by (try simp only [List.map_toArray, List.map_cons, List.map_nil]); first | done | rfl | (simp only [List.length_drop, List.length_take]; rfl) | (simp only [ByteArray.size_extract, Nat.min_self]; first | done | rfl)) ?_; (with_reducible refine (spec_l1New.calls k _ _ l0 t235 t236 t237 w _ ?side1 ?side2 ?side3 A2.out).mono ?_); (case side1 => repeat (first | (with_reducible first | exact HB.out | apply below_alloc | apply pw_below_drewN | apply below_drew1) | exact HB.out)); (case side2 => exact HR0.out); (case side3 => exact HC0.out); rintro e w10 ⟨g238, rfl, hi, hb, hb2⟩; refine ⟨_, rfl, ?_⟩; replace HB := Aside0.mk (hb); have HI238 := Aside0.mk (hi); (try clear hb); (try clear hb2); (try clear hk); (try clear hi)) | ((with_reducible refine gate_callee (f := 17) rfl ?_); refine goesL_ (some 8) rfl rfl Tryd.func17 (by kernel_rfl) rfl #[.pointer (some ⟨g238, 0, none⟩)] rfl (by (try simp only [List.map_toArray, List.map_cons, List.map_nil]); first | done | rfl | (simp only [List.length_drop, List.length_take]; rfl) | (simp only [ByteArray.size_extract, Nat.min_self]; first | done | rfl)) ?_; (with_reducible refine (spec_l1Num.calls g238 t235 t236 t237 t239 t240 t241 w _ ?side1 ?side2 A3.out).mono ?_); (case side1 => repeat (first | (with_reducible first | exact HI238.out | apply IsS50.alloc | apply IsS50.drewN | apply IsS50.drew | apply IsS50.set_1 | apply IsS50.set_2) | exact HI238.out)); (case side2 => repeat (first | (with_reducible first | exact HB.out | apply below_alloc | apply pw_below_drewN | apply below_drew1 | refine below_set ?_ (IsS50.ge HI238.out)) | exact HB.out)); rintro e w11 ⟨rfl, hi, hb, hk⟩; refine ⟨_, rfl, ?_⟩; replace HB := Aside0.mk (hb); replace HI238 := Aside0.mk (hi); (try clear hb); (try clear hb2); (try clear hk); (try clear hi)) | ((with_reducible refine gate_callee (f := 23) rfl ?_); refine goesL_ (some 9) rfl rfl Tryd.func23 (by kernel_rfl) rfl #[.int .i64 t239] rfl (by (try simp only [List.map_toArray, List.map_cons, List.map_nil]); first | done | rfl | (simp only [List.length_drop, List.length_take]; rfl) | (simp only [ByteArray.size_extract, Nat.min_self]; first | done | rfl)) ?_; (with_reducible refine (spec_Var.calls k t239 t242 _ A4.out).mono ?_); rintro e w12 ⟨rfl, hb⟩; refine ⟨_, rfl, ?_⟩; replace HB := Aside0.mk (below_step (by repeat (first | (with_reducible first | exact HB.out | apply below_alloc | apply pw_below_drewN | apply below_drew1 | refine below_set ?_ (IsS50.ge HI238.out)) | exact HB.out)) hb); replace HI238 := Aside0.mk (IsS50.below (by repeat (first | (with_reducible first | exact HI238.out | apply IsS50.alloc | apply IsS50.drewN | apply IsS50.drew | apply IsS50.set_1 | apply IsS50.set_2) | exact HI238.out)) hb); (try clear hb); (try clear hb2); (try clear hk); (try clear hi)) | ((with_reducible refine gate_callee (f := 18) rfl ?_); refine goesL_ (some 11) rfl rfl Tryd.func18 (by kernel_rfl) rfl #[.pointer (some ⟨g238, 0, none⟩), .int .i64 4] rfl (by (try simp only [List.map_toArray, List.map_cons, List.map_nil]); first | done | rfl | (simp only [List.length_drop, List.length_take]; rfl) | (simp only [ByteArray.size_extract, Nat.min_self]; first | done | rfl)) ?_; (with_reducible refine (spec_l1Text.calls k g238 t235 t240 t241 4 t243 t244 t245 w _ ?side1 ?side2 A5.out).mono ?_); (case side1 => repeat (first | (with_reducible first | exact HI238.out | apply IsS50.alloc | apply IsS50.drewN | apply IsS50.drew | apply IsS50.set_1 | apply IsS50.set_2) | exact HI238.out)); (case side2 => repeat (first | (with_reducible first | exact HB.out | apply below_alloc | apply pw_below_drewN | apply below_drew1 | refine below_set ?_ (IsS50.ge HI238.out)) | exact HB.out)); rintro e w13 ⟨rfl, hi, hb, hk⟩; refine ⟨_, rfl, ?_⟩; replace HB := Aside0.mk (hb); replace HI238 := Aside0.mk (hi); (try clear hb); (try clear hb2); (try clear hk); (try clear hi)) | ((with_reducible refine gate_callee (f := 24) rfl ?_); refine goesL_ (some 14) rfl rfl Tryd.func24 (by kernel_rfl) rfl #[.pointer (some ⟨g238, 0, none⟩), .int .i64 4] rfl (by (try simp only [List.map_toArray, List.map_cons, List.map_nil]); first | done | rfl | (simp only [List.length_drop, List.length_take]; rfl) | (simp only [ByteArray.size_extract, Nat.min_self]; first | done | rfl)) ?_; (with_reducible refine (spec_l1Once.calls g238 t235 t244 t245 4 true t247 t248 w _ ?side1 ?side2 A7.out).mono ?_); (case side1 => repeat (first | (with_reducible first | exact HI238.out | apply IsS50.alloc | apply IsS50.drewN | apply IsS50.drew | apply IsS50.set_1 | apply IsS50.set_2) | exact HI238.out)); (case side2 => repeat (first | (with_reducible first | exact HB.out | apply below_alloc | apply pw_below_drewN | apply below_drew1 | refine below_set ?_ (IsS50.ge HI238.out)) | exact HB.out)); rintro e w14 ⟨rfl, hi, hb, hk⟩; refine ⟨_, rfl, ?_⟩; replace HB := Aside0.mk (hb); replace HI238 := Aside0.mk (hi); (try clear hb); (try clear hb2); (try clear hk); (try clear hi)) | ((with_reducible refine gate_callee (f := 25) rfl ?_); refine goesL_ (some 17) rfl rfl Tryd.func25 (by kernel_rfl) rfl #[.pointer (some ⟨g238, 0, none⟩), .string (t242 ++ t243)] rfl (by (try simp only [List.map_toArray, List.map_cons, List.map_nil]); first | done | rfl | (simp only [List.length_drop, List.length_take]; rfl) | (simp only [ByteArray.size_extract, Nat.min_self]; first | done | rfl)) ?_; (with_reducible refine (spec_l1Spoil.calls k g238 t235 t247 t248 (t242 ++ t243) t249 t250 t251 w _ ?side1 ?side2 A9.out).mono ?_); (case side1 => repeat (first | (with_reducible first | exact HI238.out | apply IsS50.alloc | apply IsS50.drewN | apply IsS50.drew | apply IsS50.set_1 | apply IsS50.set_2) | exact HI238.out)); (case side2 => repeat (first | (with_reducible first | exact HB.out | apply below_alloc | apply pw_below_drewN | apply below_drew1 | refine below_set ?_ (IsS50.ge HI238.out)) | exact HB.out)); rintro e w15 ⟨rfl, hi, hb, hk⟩; refine ⟨_, rfl, ?_⟩; replace HB := Aside0.mk (hb); replace HI238 := Aside0.mk (hi); (try clear hb); (try clear hb2); (try clear hk); (try clear hi)))
   go_ret
   exact ⟨re_, by repeat (first | (with_reducible first | exact HB.out | apply below_alloc | apply pw_below_drewN | apply below_drew1 | refine below_set ?_ (IsS50.ge HI238.out)) | exact HB.out)⟩
  ·replace c8 := Bool.eq_false_iff.mpr c8
   subst c8
   have H1 : (some (t242 ++ t243)) = some r := by rw [if_neg (show ¬ (false = true) by decide)] at H; exact H
   clear H
   have H := H1
   clear H1
   obtain rfl := Option.some.inj H
   go_enter Tryd.func15, Tryd.ntmps15
   go_wp2_with (first | ((with_reducible refine gate_callee (f := 16) rfl ?_); refine goesL_ (some 6) rfl rfl Tryd.func16 (by kernel_rfl) rfl #[.slice A0 l0.length c0] rfl (by (try simp only [List.map_toArray, List.map_cons, List.map_nil]); first | done | rfl | (simp only [List.length_drop, List.length_take]; rfl) | (simp only [ByteArray.size_extract, Nat.min_self]; first | done | rfl)) ?_; (with_reducible refine (spec_l1New.calls k _ _ l0 t235 t236 t237 w _ ?side1 ?side2 ?side3 A2.out).mono ?_); (case side1 => repeat (first | (with_reducible first | exact HB.out | apply below_alloc | apply pw_below_drewN | apply below_drew1) | exact HB.out)); (case side2 => exact HR0.out); (case side3 => exact HC0.out); rintro e w16 ⟨g238, rfl, hi, hb, hb2⟩; refine ⟨_, rfl, ?_⟩; replace HB := Aside0.mk (hb); have HI238 := Aside0.mk (hi); (try clear hb); (try clear hb2); (try clear hk); (try clear hi)) | ((with_reducible refine gate_callee (f := 17) rfl ?_); refine goesL_ (some 8) rfl rfl Tryd.func17 (by kernel_rfl) rfl #[.pointer (some ⟨g238, 0, none⟩)] rfl (by (try simp only [List.map_toArray, List.map_cons, List.map_nil]); first | done | rfl | (simp only [List.length_drop, List.length_take]; rfl) | (simp only [ByteArray.size_extract, Nat.min_self]; first | done | rfl)) ?_; (with_reducible refine (spec_l1Num.calls g238 t235 t236 t237 t239 t240 t241 w _ ?side1 ?side2 A3.out).mono ?_); (case side1 => repeat (first | (with_reducible first | exact HI238.out | apply IsS50.alloc | apply IsS50.drewN | apply IsS50.drew | apply IsS50.set_1 | apply IsS50.set_2) | exact HI238.out)); (case side2 => repeat (first | (with_reducible first | exact HB.out | apply below_alloc | apply pw_below_drewN | apply below_drew1 | refine below_set ?_ (IsS50.ge HI238.out)) | exact HB.out)); rintro e w17 ⟨rfl, hi, hb, hk⟩; refine ⟨_, rfl, ?_⟩; replace HB := Aside0.mk (hb); replace HI238 := Aside0.mk (hi); (try clear hb); (try clear hb2); (try clear hk); (try clear hi)) | ((with_reducible refine gate_callee (f := 23) rfl ?_); refine goesL_ (some 9) rfl rfl Tryd.func23 (by kernel_rfl) rfl #[.int .i64 t239] rfl (by (try simp only [List.map_toArray, List.map_cons, List.map_nil]); first | done | rfl | (simp only [List.length_drop, List.length_take]; rfl) | (simp only [ByteArray.size_extract, Nat.min_self]; first | done | rfl)) ?_; (with_reducible refine (spec_Var.calls k t239 t242 _ A4.out).mono ?_); rintro e w18 ⟨rfl, hb⟩; refine ⟨_, rfl, ?_⟩; replace HB := Aside0.mk (below_step (by repeat (first | (with_reducible first | exact HB.out | apply below_alloc | apply pw_below_drewN | apply below_drew1 | refine below_set ?_ (IsS50.ge HI238.out)) | exact HB.out)) hb); replace HI238 := Aside0.mk (IsS50.below (by repeat (first | (with_reducible first | exact HI238.out | apply IsS50.alloc | apply IsS50.drewN | apply IsS50.drew | apply IsS50.set_1 | apply IsS50.set_2) | exact HI238.out)) hb); (try clear hb); (try clear hb2); (try clear hk); (try clear hi)) | ((with_reducible refine gate_callee (f := 18) rfl ?_); refine goesL_ (some 11) rfl rfl Tryd.func18 (by kernel_rfl) rfl #[.pointer (some ⟨g238, 0, none⟩), .int .i64 4] rfl (by (try simp only [List.map_toArray, List.map_cons, List.map_nil]); first | done | rfl | (simp only [List.length_drop, List.length_take]; rfl) | (simp only [ByteArray.size_extract, Nat.min_self]; first | done | rfl)) ?_; (with_reducible refine (spec_l1Text.calls k g238 t235 t240 t241 4 t243 t244 t245 w _ ?side1 ?side2 A5.out).mono ?_); (case side1 => repeat (first | (with_reducible first | exact HI238.out | apply IsS50.alloc | apply IsS50.drewN | apply IsS50.drew | apply IsS50.set_1 | apply IsS50.set_2) | exact HI238.out)); (case side2 => repeat (first | (with_reducible first | exact HB.out | apply below_alloc | apply pw_below_drewN | apply below_drew1 | refine below_set ?_ (IsS50.ge HI238.out)) | exact HB.out)); rintro e w19 ⟨rfl, hi, hb, hk⟩; refine ⟨_, rfl, ?_⟩; replace HB := Aside0.mk (hb); replace HI238 := Aside0.mk (hi); (try clear hb); (try clear hb2); (try clear hk); (try clear hi)) | ((with_reducible refine gate_callee (f := 24) rfl ?_); refine goesL_ (some 14) rfl rfl Tryd.func24 (by kernel_rfl) rfl #[.pointer (some ⟨g238, 0, none⟩), .int .i64 4] rfl (by (try simp only [List.map_toArray, List.map_cons, List.map_nil]); first | done | rfl | (simp only [List.length_drop, List.length_take]; rfl) | (simp only [ByteArray.size_extract, Nat.min_self]; first | done | rfl)) ?_; (with_reducible refine (spec_l1Once.calls g238 t235 t244 t245 4 false t247 t248 w _ ?side1 ?side2 A7.out).mono ?_); (case side1 => repeat (first | (with_reducible first | exact HI238.out | apply IsS50.alloc | apply IsS50.drewN | apply IsS50.drew | apply IsS50.set_1 | apply IsS50.set_2) | exact HI238.out)); (case side2 => repeat (first | (with_reducible first | exact HB.out | apply below_alloc | apply pw_below_drewN | apply below_drew1 | refine below_set ?_ (IsS50.ge HI238.out)) | exact HB.out)); rintro e w20 ⟨rfl, hi, hb, hk⟩; refine ⟨_, rfl, ?_⟩; replace HB := Aside0.mk (hb); replace HI238 := Aside0.mk (hi); (try clear hb); (try clear hb2); (try clear hk); (try clear hi)))
   go_ret
   exact ⟨re_, by repeat (first | (with_reducible first | exact HB.out | apply below_alloc | apply pw_below_drewN | apply below_drew1 | refine below_set ?_ (IsS50.ge HI238.out)) | exact HB.out)⟩
 ·rw [if_neg c6] at H
  exact absurd H (by simp)

end Go.Proofs.YtnmileaeadhiaaaDoor.PFnNumbers
