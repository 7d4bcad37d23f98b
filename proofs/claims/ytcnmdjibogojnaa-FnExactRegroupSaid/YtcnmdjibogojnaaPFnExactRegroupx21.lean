-- Laid by a program of this session, a copy of the kit's printer with additions (wip/patch_print.py): myhead. Lean checks it.
import Derived.Test.YtcnmdjibogojnaaPFnExactRegroupx0
import Derived.Test.YtcnmdjibogojnaaPFnExactRegroupx20
namespace Go.Proofs.Ytcnmdjibogojnaa.PFnExactRegroup
open Go.RowKit Go.Proofs.YtcnmdjibogojnaaW.PrintWords Go.Proofs.YtcnmdjibogojnaaW.PrintLast Go.Proofs.YtcnmdjibogojnaaW.PrintMore
attribute [local go_sem] max2_int min2_int max_two min_two max_three min_three max_four min_four   -- for this text's walks alone
set_option linter.unusedVariables false
set_option linter.unusedSimpArgs false

/-! ### laws_eqPlaceS: function 11 -/
def laws_eqPlaceS.l0 : Nat → List (S48) → List (S48) → Int → Option (Bool)
 | 0, _, _, _ => none
 | k + 1, x0, x1, x5 => if x5 < (x0.length : Int) then (if 0 ≤ x5 then (if x5 < (x1.length : Int) then ((laws_eqPlace.f ((rd_T48 x0 x5).f0) ((rd_T48 x0 x5).f1) ((rd_T48 x0 x5).f2) ((rd_T48 x0 x5).f3.f0) ((rd_T48 x0 x5).f3.f1) ((rd_T48 x0 x5).f3.f2) ((rd_T48 x0 x5).f3.f3) ((rd_T48 x0 x5).f3.f4) ((rd_T48 x0 x5).f3.f5) ((rd_T48 x1 x5).f0) ((rd_T48 x1 x5).f1) ((rd_T48 x1 x5).f2) ((rd_T48 x1 x5).f3.f0) ((rd_T48 x1 x5).f3.f1) ((rd_T48 x1 x5).f3.f2) ((rd_T48 x1 x5).f3.f3) ((rd_T48 x1 x5).f3.f4) ((rd_T48 x1 x5).f3.f5)).bind fun t461 => (if t461 = true then (laws_eqPlaceS.l0 k x0 x1 (wrap64 (x5 + 1))) else (some false))) else (none)) else (none)) else (some true)
def laws_eqPlaceS.f (k : Nat) (l0 : List (S48)) (l1 : List (S48)) : Option (Bool) := if (l0.length : Int) = (l1.length : Int) then (laws_eqPlaceS.l0 k l0 l1 0) else (some false)
def laws_eqPlaceS.T6 : Bool × List (List Nat × List Nat) := (true, [([], []), ([], []), ([0, 1], [0, 1]), ([2], [2]), ([], []), ([], []), ([4, 5], [4, 5]), ([6], [6]), ([3, 7], [3, 7]), ([8], [8])])
def laws_eqPlaceS.B6 : List Nat := [0, 0, 3, 7, 0, 0, 48, 112, 255, 511]
theorem laws_eqPlaceS.tab6 : rtab .any (opsOf Try.f11 6) = laws_eqPlaceS.T6 := by kernel_rfl
theorem laws_eqPlaceS.bits6 : waitsOk laws_eqPlaceS.T6.2 laws_eqPlaceS.B6 = true := by kernel_rfl
set_option maxHeartbeats 80000000 in
set_option maxRecDepth 100000 in
theorem laws_eqPlaceS.calls (k : Nat) (A0 : Option Addr) (c0 : Nat) (l0 : List (S48)) (A1 : Option Addr) (c1 : Nat) (l1 : List (S48)) (r : Bool) (w : World) (hr0 : Kd.C k48 w A0 l0.length l0) (hc0 : l0.length ≤ c0) (hr1 : Kd.C k48 w A1 l1.length l1) (hc1 : l1.length ≤ c1) (h : laws_eqPlaceS.f k l0 l1 = some r) :
  Calls Try.prog 11 #[.slice A0 l0.length c0, .slice A1 l1.length c1] w fun e w' => e = .returned (.bool r) ∧ Below w.heap.size w w' := by
 have hu48 := Try.underlying48
 have HR0 := Aside0.mk hr0
 have HC0 := Aside0.mk hc0
 clear hr0 hc0
 have HR1 := Aside0.mk hr1
 have HC1 := Aside0.mk hc1
 clear hr1 hc1
 have HB := Aside0.mk (Below.refl w.heap.size w)
 unfold laws_eqPlaceS.f at h; have H := h
 clear h
 by_cases c3 : (l0.length : Int) = (l1.length : Int)
 ·rw [if_pos c3] at H
  have c3b0 : ((l0.length : Int) == (l1.length : Int)) = true := beq_iff_eq.mpr c3
  have c3b1 : ((l0.length : Int) != (l1.length : Int)) = false := bne_eq_false_iff_eq.mpr c3
  have c3b2 : (l0.length == l1.length) = true := by first | simpa using c3 | (simp at c3 ⊢; omega)
  clear c3
  have H' := Aside0.mk H
  clear H
  go_enter Try.func11, Try.ntmps11
  go_wp2
  go_loopg [5] k (fun kq v5 w' => ∃ (x5_1 : Int), v5 = .int .i64 x5_1 ∧ Aside0 (laws_eqPlaceS.l0 kq l0 l1 x5_1 = some r) ∧ Aside0 (kq ≤ k) ∧ Aside0 (Below w.heap.size w w'))
  case atStart => exact ⟨(0), rs_, H', ⟨Nat.le_refl _⟩, ⟨hb_ HB⟩⟩
  case round =>
   clear H'
   (try clear c1);(try clear c3);(try clear c3b0);(try clear c3b1);(try clear c3b2)
   obtain ⟨x5_1, rfl, HA, HK1, HB⟩ := hrel
   cases gk with
   | zero => exact absurd HA.out (by simp [laws_eqPlaceS.l0])
   | succ k1 =>
    have H := HA.out
    clear HA
    simp only [laws_eqPlaceS.l0] at H
    by_cases c4 : x5_1 < (l0.length : Int)
    ·rw [if_pos c4] at H
     have c4b0 : decide (x5_1 < (l0.length : Int)) = true := decide_eq_true c4
     clear c4
     by_cases c5 : 0 ≤ x5_1
     ·rw [if_pos c5] at H
      have c5b0 : decide (0 ≤ x5_1) = true := decide_eq_true c5
      clear c5
      by_cases c6 : x5_1 < (l1.length : Int)
      ·rw [if_pos c6] at H
       have c6b0 : decide (x5_1 < (l1.length : Int)) = true := decide_eq_true c6
       clear c6
       replace H := Option.bind_eq_some_iff.mp H
       obtain ⟨t461, A70, H⟩ := H
       have A7 := Aside0.mk A70
       clear A70
       by_cases c8 : t461 = true
       ·subst c8
        rw [if_pos rfl] at H
        have H' := Aside0.mk H
        clear H
        try go_wp2
        replace HB := hd_ HB
        have p459 : 0 ≤ (x5_1 : Int) := of_decide_eq_true as_
        have q459 : x5_1 < (l0.length : Int) := of_decide_eq_true as_
        obtain ⟨ad459, e459, hx459_0, hx459_1, hx459_2, hx459_3, hx459_4, hx459_5, hx459_6, hx459_7, hx459_8⟩ := at_T48 HR0.out x5_1 p459 q459
        have hw459_8 := hx459_8
        have hw459_7 := hx459_7
        have hw459_6 := hx459_6
        have hw459_5 := hx459_5
        have hw459_4 := hx459_4
        have hw459_3 := hx459_3
        have hw459_2 := hx459_2
        have hw459_1 := hx459_1
        have hw459_0 := hx459_0
        cases e459
        (try replace hx459_0 := cb_ HB hx459_0)
        (try replace hx459_1 := cb_ HB hx459_1)
        (try replace hx459_2 := cb_ HB hx459_2)
        (try replace hx459_3 := cb_ HB hx459_3)
        (try replace hx459_4 := cb_ HB hx459_4)
        (try replace hx459_5 := cb_ HB hx459_5)
        (try replace hx459_6 := cb_ HB hx459_6)
        (try replace hx459_7 := cb_ HB hx459_7)
        (try replace hx459_8 := cb_ HB hx459_8)
        replace p459 := eq_true p459
        replace q459 := eq_true q459
        have p460 : 0 ≤ (x5_1 : Int) := of_decide_eq_true as_
        have q460 : x5_1 < (l1.length : Int) := of_decide_eq_true as_
        obtain ⟨ad460, e460, hx460_0, hx460_1, hx460_2, hx460_3, hx460_4, hx460_5, hx460_6, hx460_7, hx460_8⟩ := at_T48 HR1.out x5_1 p460 q460
        have hw460_8 := hx460_8
        have hw460_7 := hx460_7
        have hw460_6 := hx460_6
        have hw460_5 := hx460_5
        have hw460_4 := hx460_4
        have hw460_3 := hx460_3
        have hw460_2 := hx460_2
        have hw460_1 := hx460_1
        have hw460_0 := hx460_0
        cases e460
        (try replace hx460_0 := cb_ HB hx460_0)
        (try replace hx460_1 := cb_ HB hx460_1)
        (try replace hx460_2 := cb_ HB hx460_2)
        (try replace hx460_3 := cb_ HB hx460_3)
        (try replace hx460_4 := cb_ HB hx460_4)
        (try replace hx460_5 := cb_ HB hx460_5)
        (try replace hx460_6 := cb_ HB hx460_6)
        (try replace hx460_7 := cb_ HB hx460_7)
        (try replace hx460_8 := cb_ HB hx460_8)
        replace p460 := eq_true p460
        replace q460 := eq_true q460
        refine start_ (n := 10) (S := e9_ (ad459.add ((x5_1).toNat * 9)) (.int .i64 ((rd_T48 l0 x5_1).f0)) (.int .i64 ((rd_T48 l0 x5_1).f1)) (.int .i64 ((rd_T48 l0 x5_1).f2)) (.int .i64 ((rd_T48 l0 x5_1).f3.f0)) (.int .i64 ((rd_T48 l0 x5_1).f3.f1)) (.string ((rd_T48 l0 x5_1).f3.f2)) (.string ((rd_T48 l0 x5_1).f3.f3)) (.int .i64 ((rd_T48 l0 x5_1).f3.f4)) (.int .i64 ((rd_T48 l0 x5_1).f3.f5)) (e9e_ (ad460.add ((x5_1).toNat * 9)) (.int .i64 ((rd_T48 l1 x5_1).f0)) (.int .i64 ((rd_T48 l1 x5_1).f1)) (.int .i64 ((rd_T48 l1 x5_1).f2)) (.int .i64 ((rd_T48 l1 x5_1).f3.f0)) (.int .i64 ((rd_T48 l1 x5_1).f3.f1)) (.string ((rd_T48 l1 x5_1).f3.f2)) (.string ((rd_T48 l1 x5_1).f3.f3)) (.int .i64 ((rd_T48 l1 x5_1).f3.f4)) (.int .i64 ((rd_T48 l1 x5_1).f3.f5)))) (ds := []) (on_ 0 10) (by kernel_rfl) rfl rfl (q9_ (cb_ HB hw459_0 :) (cb_ HB hw459_1 :) (cb_ HB hw459_2 :) (cb_ HB hw459_3 :) (cb_ HB hw459_4 :) (cb_ HB hw459_5 :) (cb_ HB hw459_6 :) (cb_ HB hw459_7 :) (cb_ HB hw459_8 :) (q9e_ (cb_ HB hw460_0 :) (cb_ HB hw460_1 :) (cb_ HB hw460_2 :) (cb_ HB hw460_3 :) (cb_ HB hw460_4 :) (cb_ HB hw460_5 :) (cb_ HB hw460_6 :) (cb_ HB hw460_7 :) (cb_ HB hw460_8 :))) (fun hHeld => ?_); refine with_tabW laws_eqPlaceS.tab6 laws_eqPlaceS.bits6 (fun HT_ HW_ => ?_)
        generalize wr.drew = w9 at HB hx459_0 hx459_1 hx459_2 hx459_3 hx459_4 hx459_5 hx459_6 hx459_7 hx459_8 hx460_0 hx460_1 hx460_2 hx460_3 hx460_4 hx460_5 hx460_6 hx460_7 hx460_8 hHeld ⊢
        refine pv_' 0 17 (on_ 1 9) rfl rfl HT_ ?_
        refine pv_' 1 18 (on_ 2 8) rfl rfl HT_ ?_
        refine pv_' 2 19 (on_ 3 7) rfl rfl HT_ ?_
        refine pv_' 4 21 #[i',i',i',o',i',o',o',o',o',o'] rfl rfl HT_ ?_
        refine pv_' 5 22 #[i',i',i',o',i',i',o',o',o',o'] rfl rfl HT_ ?_
        refine pv_' 6 23 #[i',i',i',o',i',i',i',o',o',o'] rfl rfl HT_ ?_
        refine take_ (i := 3) (N := some 20) (v := ?_) (a' := ?_) (on_ 7 3) rfl rfl (take_ofW HT_.out HW_.out (by kernel_rfl)) (fun _ _ _ h => h) (Or.inl ⟨by rfl, ?_⟩) hHeld ?_ ?_
        rotate_left
        ·rintro w' ⟨s0, s1, s2, s3, s4, s5, s6, s7, s8, s9, s10, s11, s12, s13, s14, s15, s16, s17⟩
         go_simp
         with_reducible rfl
        rotate_left
        ·simp only [Act.put, la_, lz_, ls_, i64_w, i32_w]
         rfl
        refine take_ (i := 7) (N := some 24) (v := ?_) (a' := ?_) (on_ 8 2) rfl rfl (take_ofW HT_.out HW_.out (by kernel_rfl)) (fun _ _ _ h => h) (Or.inl ⟨by rfl, ?_⟩) hHeld ?_ ?_
        rotate_left
        ·rintro w' ⟨s0, s1, s2, s3, s4, s5, s6, s7, s8, s9, s10, s11, s12, s13, s14, s15, s16, s17⟩
         go_simp
         with_reducible rfl
        rotate_left
        ·simp only [Act.put, la_, lz_, ls_, i64_w, i32_w]
         rfl
        refine one_ (i := 8) (N := some 25) (on_ 9 1) rfl rfl (one_of HT_.out (by kernel_rfl)) (by decide) (fun K hK => ?_)
        refine goes_ Try.func28 (by kernel_rfl) rfl #[.agg #[.int .i64 ((rd_T48 l0 x5_1).f0), .int .i64 ((rd_T48 l0 x5_1).f1), .int .i64 ((rd_T48 l0 x5_1).f2), .int .i64 ((rd_T48 l0 x5_1).f3.f0), .int .i64 ((rd_T48 l0 x5_1).f3.f1), .string ((rd_T48 l0 x5_1).f3.f2), .string ((rd_T48 l0 x5_1).f3.f3), .int .i64 ((rd_T48 l0 x5_1).f3.f4), .int .i64 ((rd_T48 l0 x5_1).f3.f5)], .agg #[.int .i64 ((rd_T48 l1 x5_1).f0), .int .i64 ((rd_T48 l1 x5_1).f1), .int .i64 ((rd_T48 l1 x5_1).f2), .int .i64 ((rd_T48 l1 x5_1).f3.f0), .int .i64 ((rd_T48 l1 x5_1).f3.f1), .string ((rd_T48 l1 x5_1).f3.f2), .string ((rd_T48 l1 x5_1).f3.f3), .int .i64 ((rd_T48 l1 x5_1).f3.f4), .int .i64 ((rd_T48 l1 x5_1).f3.f5)]] (by rfl) rfl rfl ar_ ?_
        with_reducible refine (laws_eqPlace.calls ((rd_T48 l0 x5_1).f0) ((rd_T48 l0 x5_1).f1) ((rd_T48 l0 x5_1).f2) ((rd_T48 l0 x5_1).f3.f0) ((rd_T48 l0 x5_1).f3.f1) ((rd_T48 l0 x5_1).f3.f2) ((rd_T48 l0 x5_1).f3.f3) ((rd_T48 l0 x5_1).f3.f4) ((rd_T48 l0 x5_1).f3.f5) ((rd_T48 l1 x5_1).f0) ((rd_T48 l1 x5_1).f1) ((rd_T48 l1 x5_1).f2) ((rd_T48 l1 x5_1).f3.f0) ((rd_T48 l1 x5_1).f3.f1) ((rd_T48 l1 x5_1).f3.f2) ((rd_T48 l1 x5_1).f3.f3) ((rd_T48 l1 x5_1).f3.f4) ((rd_T48 l1 x5_1).f3.f5) true _ A7.out).mono ?_
        rintro e w10 ⟨rfl, hb⟩
        refine ⟨_, rfl, ?_⟩
        replace HB := bs_ HB hb
        (try clear hb)
        (try clear hb2)
        (try clear hk)
        (try clear hi)
        refine hK.out _ _ (q9_ (cb_ HB hw459_0 :) (cb_ HB hw459_1 :) (cb_ HB hw459_2 :) (cb_ HB hw459_3 :) (cb_ HB hw459_4 :) (cb_ HB hw459_5 :) (cb_ HB hw459_6 :) (cb_ HB hw459_7 :) (cb_ HB hw459_8 :) (q9e_ (cb_ HB hw460_0 :) (cb_ HB hw460_1 :) (cb_ HB hw460_2 :) (cb_ HB hw460_3 :) (cb_ HB hw460_4 :) (cb_ HB hw460_5 :) (cb_ HB hw460_6 :) (cb_ HB hw460_7 :) (cb_ HB hw460_8 :))) (fun hHeld => ?_)
        clear hK K
        refine norm_ (a' := ?_) ?_ ?_
        rotate_left
        ·show Act.put _ (some 25) _ = _
         simp only [Act.put, la_, lz_, ls_, i64_w, i32_w]
         rfl
        refine pv_' 9 26 (on_ 10 0) rfl rfl HT_ ?_
        refine done_ (done_of HT_.out (by kernel_rfl)) ?_
        try go_wp2
        go_roundg k1
        case measure => have := HK1.out; first | exact this | exact Nat.le_of_succ_le this | exact Nat.le_refl _ | omega
        case rel => exact ⟨(wrap64 (x5_1 + 1)), rs_, H', ⟨by have := HK1.out; first | exact this | exact Nat.le_of_succ_le this | exact Nat.le_refl _ | omega⟩, ⟨hb_ HB⟩⟩
       ·replace c8 := Bool.eq_false_iff.mpr c8
        subst c8
        rw [if_neg ff_] at H
        obtain rfl := Option.some.inj H
        try go_wp2
        replace HB := hd_ HB
        have p459 : 0 ≤ (x5_1 : Int) := of_decide_eq_true as_
        have q459 : x5_1 < (l0.length : Int) := of_decide_eq_true as_
        obtain ⟨ad459, e459, hx459_0, hx459_1, hx459_2, hx459_3, hx459_4, hx459_5, hx459_6, hx459_7, hx459_8⟩ := at_T48 HR0.out x5_1 p459 q459
        have hw459_8 := hx459_8
        have hw459_7 := hx459_7
        have hw459_6 := hx459_6
        have hw459_5 := hx459_5
        have hw459_4 := hx459_4
        have hw459_3 := hx459_3
        have hw459_2 := hx459_2
        have hw459_1 := hx459_1
        have hw459_0 := hx459_0
        cases e459
        (try replace hx459_0 := cb_ HB hx459_0)
        (try replace hx459_1 := cb_ HB hx459_1)
        (try replace hx459_2 := cb_ HB hx459_2)
        (try replace hx459_3 := cb_ HB hx459_3)
        (try replace hx459_4 := cb_ HB hx459_4)
        (try replace hx459_5 := cb_ HB hx459_5)
        (try replace hx459_6 := cb_ HB hx459_6)
        (try replace hx459_7 := cb_ HB hx459_7)
        (try replace hx459_8 := cb_ HB hx459_8)
        replace p459 := eq_true p459
        replace q459 := eq_true q459
        have p460 : 0 ≤ (x5_1 : Int) := of_decide_eq_true as_
        have q460 : x5_1 < (l1.length : Int) := of_decide_eq_true as_
        obtain ⟨ad460, e460, hx460_0, hx460_1, hx460_2, hx460_3, hx460_4, hx460_5, hx460_6, hx460_7, hx460_8⟩ := at_T48 HR1.out x5_1 p460 q460
        have hw460_8 := hx460_8
        have hw460_7 := hx460_7
        have hw460_6 := hx460_6
        have hw460_5 := hx460_5
        have hw460_4 := hx460_4
        have hw460_3 := hx460_3
        have hw460_2 := hx460_2
        have hw460_1 := hx460_1
        have hw460_0 := hx460_0
        cases e460
        (try replace hx460_0 := cb_ HB hx460_0)
        (try replace hx460_1 := cb_ HB hx460_1)
        (try replace hx460_2 := cb_ HB hx460_2)
        (try replace hx460_3 := cb_ HB hx460_3)
        (try replace hx460_4 := cb_ HB hx460_4)
        (try replace hx460_5 := cb_ HB hx460_5)
        (try replace hx460_6 := cb_ HB hx460_6)
        (try replace hx460_7 := cb_ HB hx460_7)
        (try replace hx460_8 := cb_ HB hx460_8)
        replace p460 := eq_true p460
        replace q460 := eq_true q460
        refine start_ (n := 10) (S := e9_ (ad459.add ((x5_1).toNat * 9)) (.int .i64 ((rd_T48 l0 x5_1).f0)) (.int .i64 ((rd_T48 l0 x5_1).f1)) (.int .i64 ((rd_T48 l0 x5_1).f2)) (.int .i64 ((rd_T48 l0 x5_1).f3.f0)) (.int .i64 ((rd_T48 l0 x5_1).f3.f1)) (.string ((rd_T48 l0 x5_1).f3.f2)) (.string ((rd_T48 l0 x5_1).f3.f3)) (.int .i64 ((rd_T48 l0 x5_1).f3.f4)) (.int .i64 ((rd_T48 l0 x5_1).f3.f5)) (e9e_ (ad460.add ((x5_1).toNat * 9)) (.int .i64 ((rd_T48 l1 x5_1).f0)) (.int .i64 ((rd_T48 l1 x5_1).f1)) (.int .i64 ((rd_T48 l1 x5_1).f2)) (.int .i64 ((rd_T48 l1 x5_1).f3.f0)) (.int .i64 ((rd_T48 l1 x5_1).f3.f1)) (.string ((rd_T48 l1 x5_1).f3.f2)) (.string ((rd_T48 l1 x5_1).f3.f3)) (.int .i64 ((rd_T48 l1 x5_1).f3.f4)) (.int .i64 ((rd_T48 l1 x5_1).f3.f5)))) (ds := []) (on_ 0 10) (by kernel_rfl) rfl rfl (q9_ (cb_ HB hw459_0 :) (cb_ HB hw459_1 :) (cb_ HB hw459_2 :) (cb_ HB hw459_3 :) (cb_ HB hw459_4 :) (cb_ HB hw459_5 :) (cb_ HB hw459_6 :) (cb_ HB hw459_7 :) (cb_ HB hw459_8 :) (q9e_ (cb_ HB hw460_0 :) (cb_ HB hw460_1 :) (cb_ HB hw460_2 :) (cb_ HB hw460_3 :) (cb_ HB hw460_4 :) (cb_ HB hw460_5 :) (cb_ HB hw460_6 :) (cb_ HB hw460_7 :) (cb_ HB hw460_8 :))) (fun hHeld => ?_); refine with_tabW laws_eqPlaceS.tab6 laws_eqPlaceS.bits6 (fun HT_ HW_ => ?_)
        generalize wr.drew = w11 at HB hx459_0 hx459_1 hx459_2 hx459_3 hx459_4 hx459_5 hx459_6 hx459_7 hx459_8 hx460_0 hx460_1 hx460_2 hx460_3 hx460_4 hx460_5 hx460_6 hx460_7 hx460_8 hHeld ⊢
        refine pv_' 0 17 (on_ 1 9) rfl rfl HT_ ?_
        refine pv_' 1 18 (on_ 2 8) rfl rfl HT_ ?_
        refine pv_' 2 19 (on_ 3 7) rfl rfl HT_ ?_
        refine pv_' 4 21 #[i',i',i',o',i',o',o',o',o',o'] rfl rfl HT_ ?_
        refine pv_' 5 22 #[i',i',i',o',i',i',o',o',o',o'] rfl rfl HT_ ?_
        refine pv_' 6 23 #[i',i',i',o',i',i',i',o',o',o'] rfl rfl HT_ ?_
        refine take_ (i := 3) (N := some 20) (v := ?_) (a' := ?_) (on_ 7 3) rfl rfl (take_ofW HT_.out HW_.out (by kernel_rfl)) (fun _ _ _ h => h) (Or.inl ⟨by rfl, ?_⟩) hHeld ?_ ?_
        rotate_left
        ·rintro w' ⟨s0, s1, s2, s3, s4, s5, s6, s7, s8, s9, s10, s11, s12, s13, s14, s15, s16, s17⟩
         go_simp
         with_reducible rfl
        rotate_left
        ·simp only [Act.put, la_, lz_, ls_, i64_w, i32_w]
         rfl
        refine take_ (i := 7) (N := some 24) (v := ?_) (a' := ?_) (on_ 8 2) rfl rfl (take_ofW HT_.out HW_.out (by kernel_rfl)) (fun _ _ _ h => h) (Or.inl ⟨by rfl, ?_⟩) hHeld ?_ ?_
        rotate_left
        ·rintro w' ⟨s0, s1, s2, s3, s4, s5, s6, s7, s8, s9, s10, s11, s12, s13, s14, s15, s16, s17⟩
         go_simp
         with_reducible rfl
        rotate_left
        ·simp only [Act.put, la_, lz_, ls_, i64_w, i32_w]
         rfl
        refine one_ (i := 8) (N := some 25) (on_ 9 1) rfl rfl (one_of HT_.out (by kernel_rfl)) (by decide) (fun K hK => ?_)
        refine goes_ Try.func28 (by kernel_rfl) rfl #[.agg #[.int .i64 ((rd_T48 l0 x5_1).f0), .int .i64 ((rd_T48 l0 x5_1).f1), .int .i64 ((rd_T48 l0 x5_1).f2), .int .i64 ((rd_T48 l0 x5_1).f3.f0), .int .i64 ((rd_T48 l0 x5_1).f3.f1), .string ((rd_T48 l0 x5_1).f3.f2), .string ((rd_T48 l0 x5_1).f3.f3), .int .i64 ((rd_T48 l0 x5_1).f3.f4), .int .i64 ((rd_T48 l0 x5_1).f3.f5)], .agg #[.int .i64 ((rd_T48 l1 x5_1).f0), .int .i64 ((rd_T48 l1 x5_1).f1), .int .i64 ((rd_T48 l1 x5_1).f2), .int .i64 ((rd_T48 l1 x5_1).f3.f0), .int .i64 ((rd_T48 l1 x5_1).f3.f1), .string ((rd_T48 l1 x5_1).f3.f2), .string ((rd_T48 l1 x5_1).f3.f3), .int .i64 ((rd_T48 l1 x5_1).f3.f4), .int .i64 ((rd_T48 l1 x5_1).f3.f5)]] (by rfl) rfl rfl ar_ ?_
        with_reducible refine (laws_eqPlace.calls ((rd_T48 l0 x5_1).f0) ((rd_T48 l0 x5_1).f1) ((rd_T48 l0 x5_1).f2) ((rd_T48 l0 x5_1).f3.f0) ((rd_T48 l0 x5_1).f3.f1) ((rd_T48 l0 x5_1).f3.f2) ((rd_T48 l0 x5_1).f3.f3) ((rd_T48 l0 x5_1).f3.f4) ((rd_T48 l0 x5_1).f3.f5) ((rd_T48 l1 x5_1).f0) ((rd_T48 l1 x5_1).f1) ((rd_T48 l1 x5_1).f2) ((rd_T48 l1 x5_1).f3.f0) ((rd_T48 l1 x5_1).f3.f1) ((rd_T48 l1 x5_1).f3.f2) ((rd_T48 l1 x5_1).f3.f3) ((rd_T48 l1 x5_1).f3.f4) ((rd_T48 l1 x5_1).f3.f5) false _ A7.out).mono ?_
        rintro e w12 ⟨rfl, hb⟩
        refine ⟨_, rfl, ?_⟩
        replace HB := bs_ HB hb
        (try clear hb)
        (try clear hb2)
        (try clear hk)
        (try clear hi)
        refine hK.out _ _ (q9_ (cb_ HB hw459_0 :) (cb_ HB hw459_1 :) (cb_ HB hw459_2 :) (cb_ HB hw459_3 :) (cb_ HB hw459_4 :) (cb_ HB hw459_5 :) (cb_ HB hw459_6 :) (cb_ HB hw459_7 :) (cb_ HB hw459_8 :) (q9e_ (cb_ HB hw460_0 :) (cb_ HB hw460_1 :) (cb_ HB hw460_2 :) (cb_ HB hw460_3 :) (cb_ HB hw460_4 :) (cb_ HB hw460_5 :) (cb_ HB hw460_6 :) (cb_ HB hw460_7 :) (cb_ HB hw460_8 :))) (fun hHeld => ?_)
        clear hK K
        refine norm_ (a' := ?_) ?_ ?_
        rotate_left
        ·show Act.put _ (some 25) _ = _
         simp only [Act.put, la_, lz_, ls_, i64_w, i32_w]
         rfl
        refine pv_' 9 26 (on_ 10 0) rfl rfl HT_ ?_
        refine done_ (done_of HT_.out (by kernel_rfl)) ?_
        try go_wp2
        go_ret
        exact ⟨re_, hb_ HB⟩
      ·rw [if_neg c6] at H
       exact absurd H (by simp)
     ·rw [if_neg c5] at H
      exact absurd H (by simp)
    ·rw [if_neg c4] at H
     have c4b0 : decide (x5_1 < (l0.length : Int)) = false := decide_eq_false c4
     clear c4
     obtain rfl := Option.some.inj H
     go_wp2
     go_ret
     exact ⟨re_, hb_ HB⟩
 ·rw [if_neg c3] at H
  have c3b0 : ((l0.length : Int) == (l1.length : Int)) = false := beq_eq_false_iff_ne.mpr c3
  have c3b1 : ((l0.length : Int) != (l1.length : Int)) = true := bne_iff_ne.mpr c3
  have c3b2 : (l0.length == l1.length) = false := by first | simpa using c3 | (simp at c3 ⊢; omega)
  obtain rfl := Option.some.inj H
  go_enter Try.func11, Try.ntmps11
  go_wp2
  go_ret
  exact ⟨re_, hb_ HB⟩

/-! ### laws_markText: function 30 -/
def laws_markText.l0 : Nat → Int → ByteArray → Option (ByteArray)
 | 0, _, _ => none
 | k + 1, x0, x3 => if x0 > 0 then ((some (([(wrap64 (48 + (Int.tmod x0 10))) % 256] : List Int) : List Int)).bind fun y462 => (if (strOfNums y462).size + x3.size ≤ 9223372036854775807 then (laws_markText.l0 k (wrap64 (Int.tdiv x0 10)) ((strOfNums y462) ++ x3)) else (none))) else (if 1 + x3.size ≤ 9223372036854775807 then (some ((⟨#[109]⟩ : ByteArray) ++ x3)) else (none))
def laws_markText.f (k : Nat) (a0 : Int) : Option (ByteArray) := if a0 ≤ 0 then (some (⟨#[109, 48]⟩ : ByteArray)) else (laws_markText.l0 k a0 (⟨#[]⟩ : ByteArray))
set_option maxHeartbeats 80000000 in
set_option maxRecDepth 100000 in
theorem laws_markText.calls (k : Nat) (a0 : Int) (r : ByteArray) (w : World) (h : laws_markText.f k a0 = some r) :
  Calls Try.prog 30 #[.int .i64 a0] w fun e w' => e = .returned (.string r) ∧ Below w.heap.size w w' := by
 have HB := Aside0.mk (Below.refl w.heap.size w)
 unfold laws_markText.f at h; have H := h
 clear h
 by_cases c2 : a0 ≤ 0
 ·rw [if_pos c2] at H
  have c2b0 : decide (a0 ≤ 0) = true := decide_eq_true c2
  clear c2
  obtain rfl := Option.some.inj H
  go_enter Try.func30, Try.ntmps30
  go_wp2
  go_ret
  exact ⟨re_, hb_ HB⟩
 ·rw [if_neg c2] at H
  have c2b0 : decide (a0 ≤ 0) = false := decide_eq_false c2
  clear c2
  have H' := Aside0.mk H
  clear H
  go_enter Try.func30, Try.ntmps30
  go_wp2
  go_loopg [0, 3] k (fun kq v0 v3 w' => ∃ (x0_1 : Int) (x3_1 : ByteArray), v0 = .int .i64 x0_1 ∧ v3 = .string x3_1 ∧ Aside0 (laws_markText.l0 kq x0_1 x3_1 = some r) ∧ Aside0 (kq ≤ k) ∧ Aside0 (Below w.heap.size w w'))
  case atStart => exact ⟨(a0), ((⟨#[]⟩ : ByteArray)), rs_, rs_, H', ⟨Nat.le_refl _⟩, ⟨hb_ HB⟩⟩
  case round =>
   clear H'
   (try clear c2);(try clear c2b0)
   obtain ⟨x0_1, x3_1, rfl, rfl, HA, HK1, HB⟩ := hrel
   cases gk with
   | zero => exact absurd HA.out (by simp [laws_markText.l0])
   | succ k1 =>
    have H := HA.out
    clear HA
    simp only [laws_markText.l0] at H
    by_cases c3 : x0_1 > 0
    ·rw [if_pos c3] at H
     have c3b0 : decide (0 < x0_1) = true := decide_eq_true c3
     clear c3
     obtain ⟨y462, hy462, H⟩ := ov_ H
     have Ny462 := Aside0.mk hy462
     clear hy462
     by_cases c4 : (strOfNums y462).size + x3_1.size ≤ 9223372036854775807
     ·rw [if_pos c4] at H
      have c4b0 := eq_true c4
      have c4b1 : decide ((strOfNums y462).size + x3_1.size ≤ 9223372036854775807) = true := decide_eq_true c4
      try have c4b2 : (9223372036854775807 < (strOfNums y462).size + x3_1.size) = False := eq_false (Nat.not_lt.2 c4)
      (try (have c4b3 := c4b2; simp only [ByteArray.size_append] at c4b3))
      have H' := Aside0.mk H
      clear H
      go_wp2_with (first | ((with_reducible refine gate_dst (N := 12) rfl ?_); refine Kd.R_lit (Kd.int .u8) _ 5 ?hg (N := 12) ?hd (xs := ([(wrap64 (48 + (Int.tmod x0_1 10))) % 256] : List Int)) (inner := [.int .u8 ((wrap64 (48 + (Int.tmod x0_1 10))) % 256)]) (ok := fun _ => True) (okp := fun _ => True) ?hr ?hp (fun _ hk => hk) trivial (Below.refl _ _) (Nat.le_refl _) (by simp) ?_; (case hd => rfl); (case hg => rfl); (case hr => first | (go_simp; done) | (go_simp; rfl)); (case hp => exact (Reps.one (show Kd.M (Kd.int .u8) _ _ _ ((wrap64 (48 + (Int.tmod x0_1 10))) % 256) [.int .u8 ((wrap64 (48 + (Int.tmod x0_1 10))) % 256)] from rfl) (Reps.none _ _))); intro v463 w5 ho6 hb hg_ hnew_; clear hg_ hnew_; (first | rw [← Ny462.out] at ho6 | (simp only [Int.reduceToNat] at ho6; rw [← Ny462.out] at ho6)); have HO464 := Aside0.mk (Kd.R_lower ho6 (below_size (hb_ HB))); replace HB := bs_ HB hb; clear hb ho6; have hcv7 := own_string (P := Try.prog) Try.underlying77 Try.underlying5 Try.underlying9 (Kd.own_of_R HO464.out)))
      go_roundg k1
      case measure => have := HK1.out; first | exact this | exact Nat.le_of_succ_le this | exact Nat.le_refl _ | omega
      case rel => exact ⟨(wrap64 (Int.tdiv x0_1 10)), ((strOfNums y462) ++ x3_1), rs_, rs_, H', ⟨by have := HK1.out; first | exact this | exact Nat.le_of_succ_le this | exact Nat.le_refl _ | omega⟩, ⟨hb_ HB⟩⟩
     ·rw [if_neg c4] at H
      exact absurd H (by simp)
    ·rw [if_neg c3] at H
     have c3b0 : decide (0 < x0_1) = false := decide_eq_false c3
     clear c3
     by_cases c8 : 1 + x3_1.size ≤ 9223372036854775807
     ·rw [if_pos c8] at H
      have c8b0 := eq_true c8
      have c8b1 : decide (1 + x3_1.size ≤ 9223372036854775807) = true := decide_eq_true c8
      try have c8b2 : (9223372036854775807 < 1 + x3_1.size) = False := eq_false (Nat.not_lt.2 c8)
      (try (have c8b3 := c8b2; simp only [ByteArray.size_append] at c8b3))
      obtain rfl := Option.some.inj H
      go_wp2
      go_ret
      exact ⟨re_, hb_ HB⟩
     ·rw [if_neg c8] at H
      exact absurd H (by simp)

/-! ### laws_markEntryS: function 29 -/
def laws_markEntryS.l0 : Nat → List (S71) → Int → Int → Option (Int × (List (S71)))
 | 0, _, _, _ => none
 | k + 1, x0, x1, x5 => if x5 < (x0.length : Int) then ((laws_markText.f k x1).bind fun t465 => (if 0 ≤ x5 then ((some (x0.set (x5 : Int).toNat (⟨t465, (rd_T71 x0 x5).f1, (rd_T71 x0 x5).f2, (rd_T71 x0 x5).f3, (rd_T71 x0 x5).f4⟩ : S71) : List (S71))).bind fun y466 => ((some (y466.set (x5 : Int).toNat (⟨(rd_T71 y466 x5).f0, wrap64 (x1 + 1), (rd_T71 y466 x5).f2, (rd_T71 y466 x5).f3, (rd_T71 y466 x5).f4⟩ : S71) : List (S71))).bind fun y467 => ((some (y467.set (x5 : Int).toNat (⟨(rd_T71 y467 x5).f0, (rd_T71 y467 x5).f1, wrap64 ((wrap64 (x1 + 1)) + 1), (rd_T71 y467 x5).f3, (rd_T71 y467 x5).f4⟩ : S71) : List (S71))).bind fun y468 => ((some (y468.set (x5 : Int).toNat (⟨(rd_T71 y468 x5).f0, (rd_T71 y468 x5).f1, (rd_T71 y468 x5).f2, wrap64 ((wrap64 ((wrap64 (x1 + 1)) + 1)) + 1), (rd_T71 y468 x5).f4⟩ : S71) : List (S71))).bind fun y469 => (laws_markEntryS.l0 k (y469.set (x5 : Int).toNat (⟨(rd_T71 y469 x5).f0, (rd_T71 y469 x5).f1, (rd_T71 y469 x5).f2, (rd_T71 y469 x5).f3, wrap64 ((wrap64 ((wrap64 ((wrap64 (x1 + 1)) + 1)) + 1)) + 1)⟩ : S71)) (wrap64 ((wrap64 ((wrap64 ((wrap64 ((wrap64 (x1 + 1)) + 1)) + 1)) + 1)) + 1)) (wrap64 (x5 + 1))))))) else (none))) else (some (x1, x0))
def laws_markEntryS.f (k : Nat) (l0 : List (S71)) (a1 : Int) : Option (Int × (List (S71))) := laws_markEntryS.l0 k l0 a1 0
set_option maxHeartbeats 80000000 in
set_option maxRecDepth 100000 in
theorem laws_markEntryS.calls (k : Nat) (P0_ : Nat → Prop) (u9000_ : Value) (l0 : List (S71)) (a1 : Int) (r1 : Int) (r2 : List (S71)) (w0 w : World) (hB : Below w0.heap.size w0 w) (ho0 : Kd.R k71 71 w w0.heap.size P0_ u9000_ l0) (h : laws_markEntryS.f k l0 a1 = some (r1, r2)) :
  Calls Try.prog 29 #[u9000_, .int .i64 a1] w fun e w' => e = .returned (.int .i64 r1) ∧ Kd.R k71 71 w' w0.heap.size (fun k_ => (P0_ k_ ∨ w.heap.size ≤ k_)) u9000_ r2 ∧ Below w0.heap.size w0 w' ∧ Kept w w' (fun k_ => P0_ k_) := by
 have HO0 := Aside0.mk (show Kd.R k71 71 w w0.heap.size (fun k_ => (P0_ k_ ∨ w.heap.size ≤ k_)) u9000_ l0 from Kd.R_mono ho0 (fun k_ hk => (.inl hk)))
 have HK := Aside0.mk (Kept.refl w (fun k_ => P0_ k_))
 have HW0 := Aside0.mk hB.size
 have HB := Aside0.mk hB
 clear hB
 unfold laws_markEntryS.f at h; have H := h
 clear h
 have H' := Aside0.mk H
 clear H
 go_enter Try.func29, Try.ntmps29
 go_wp2
 go_loopg [1, 5] k (fun kq v1 v5 w' => ∃ (x0_1 : List (S71)) (x1_1 : Int) (x5_1 : Int), v1 = .int .i64 x1_1 ∧ v5 = .int .i64 x5_1 ∧ Aside0 (laws_markEntryS.l0 kq x0_1 x1_1 x5_1 = some (r1, r2)) ∧ Aside0 (kq ≤ k) ∧ Aside0 (Kd.R k71 71 w' w0.heap.size (fun k_ => (P0_ k_ ∨ w.heap.size ≤ k_)) u9000_ x0_1) ∧ Aside0 (Kept w w' (fun k_ => P0_ k_)) ∧ Aside0 (Below w0.heap.size w0 w'))
 case atStart => exact ⟨(l0), (a1), (0), rs_, rs_, H', ⟨Nat.le_refl _⟩, ⟨rr_ HO0⟩, ⟨by repeat (first | (with_reducible first | exact HK.out | apply Kept.alloc | apply Kept.drewN | apply Kept.drew) | exact HK.out)⟩, ⟨hb_ HB⟩⟩
 case round =>
  clear H'
  obtain ⟨x0_1, x1_1, x5_1, rfl, rfl, HA, HK1, HO_0, HK, HB⟩ := hrel
  cases gk with
  | zero => exact absurd HA.out (by simp [laws_markEntryS.l0])
  | succ k1 =>
   have H := HA.out
   clear HA
   simp only [laws_markEntryS.l0] at H
   by_cases c3 : x5_1 < (x0_1.length : Int)
   ·rw [if_pos c3] at H
    have c3b0 : decide (x5_1 < (x0_1.length : Int)) = true := decide_eq_true c3
    clear c3
    replace H := Option.bind_eq_some_iff.mp H
    obtain ⟨t465, A40, H⟩ := H
    have A4 := Aside0.mk A40
    clear A40
    by_cases c5 : 0 ≤ x5_1
    ·rw [if_pos c5] at H
     have c5b0 : decide (0 ≤ x5_1) = true := decide_eq_true c5
     clear c5
     obtain ⟨y466, hy466, H⟩ := ov_ H
     have Ny466 := Aside0.mk hy466
     clear hy466
     obtain ⟨y467, hy467, H⟩ := ov_ H
     have Ny467 := Aside0.mk hy467
     clear hy467
     obtain ⟨y468, hy468, H⟩ := ov_ H
     have Ny468 := Aside0.mk hy468
     clear hy468
     obtain ⟨y469, hy469, H⟩ := ov_ H
     have Ny469 := Aside0.mk hy469
     clear hy469
     obtain ⟨y470, hy470⟩ : ∃ y_ : List (S71), y_ = (y469.set (x5_1 : Int).toNat (⟨(rd_T71 y469 x5_1).f0, (rd_T71 y469 x5_1).f1, (rd_T71 y469 x5_1).f2, (rd_T71 y469 x5_1).f3, wrap64 ((wrap64 ((wrap64 ((wrap64 (x1_1 + 1)) + 1)) + 1)) + 1)⟩ : S71)) := ⟨_, rfl⟩
     rw [← hy470] at H
     have Ny470 := Aside0.mk hy470
     clear hy470
     have H' := Aside0.mk H
     clear H
     obtain ⟨Ao11, co11, eo11⟩ := Kd.R_slice HO_0.out
     subst eo11
     go_wp2_with (first | ((with_reducible refine gate_callee (f := 30) rfl ?_); refine goesL_ (some 15) rfl rfl Try.func30 (by kernel_rfl) rfl #[.int .i64 x1_1] rfl ar_ ?_; (with_reducible refine (laws_markText.calls k1 x1_1 t465 _ A4.out).mono ?_); rintro e w12 ⟨rfl, hb⟩; refine ⟨_, rfl, ?_⟩; replace HO_0 := rb_ HO_0 hb; replace HK := Aside0.mk (Kept.below (S := (fun k_ => P0_ k_)) (by repeat (first | (with_reducible first | exact HK.out | apply Kept.alloc | apply Kept.drewN | apply Kept.drew) | exact HK.out)) hb); replace HB := bs_ HB hb; (try clear hb); (try clear hb2); (try clear hk); (try clear hi); have p6 : 0 ≤ (x5_1 : Int) := of_decide_eq_true as_; have q6 : (x5_1 : Int) < ((x0_1.length : Int) : Int) := of_decide_eq_true as_; obtain ⟨go6, co6, eo6, gb6, gl6, cl6, HG6⟩ := Kd.R_form HO_0.out (by omega); (first | cases eo6 | (injection eo6 with ea_ en_ ec_; (first | subst ea_ | (injection ea_ with ea_; subst ea_)); subst ec_; clear en_)); have GB6 := Aside0.mk gb6; have GG6 := Aside0.mk HG6; clear gb6 gl6 HG6; have HMgo6 := Aside0.mk (show (P0_ go6 ∨ w.heap.size ≤ go6) from (HO_0.out.1 _ rfl)); obtain ⟨ce6, hcl6, hM6, hcc6, hfr6⟩ := Kd.R_elem HO_0.out z71 (x5_1 : Int) p6 q6; obtain rfl := k71_openM hM6; have hx6_0 : w12.cell? ⟨go6, (x5_1 : Int).toNat * 5, none⟩ = some (.string ((rd_T71 x0_1 x5_1).f0)) := hcc6 0 _ rfl; have hx6_1 : w12.cell? ⟨go6, (x5_1 : Int).toNat * 5 + 1, none⟩ = some (.int .i64 ((rd_T71 x0_1 x5_1).f1)) := hcc6 1 _ rfl; have hx6_2 : w12.cell? ⟨go6, (x5_1 : Int).toNat * 5 + 2, none⟩ = some (.int .i64 ((rd_T71 x0_1 x5_1).f2)) := hcc6 2 _ rfl; have hx6_3 : w12.cell? ⟨go6, (x5_1 : Int).toNat * 5 + 3, none⟩ = some (.int .i64 ((rd_T71 x0_1 x5_1).f3)) := hcc6 3 _ rfl; have hx6_4 : w12.cell? ⟨go6, (x5_1 : Int).toNat * 5 + 4, none⟩ = some (.int .i64 ((rd_T71 x0_1 x5_1).f4)) := hcc6 4 _ rfl; have hf6_0 : w12.frozen? ⟨go6, (x5_1 : Int).toNat * 5, none⟩ = false := hfr6 0; have hf6_1 : w12.frozen? ⟨go6, (x5_1 : Int).toNat * 5 + 1, none⟩ = false := hfr6 1; have hf6_2 : w12.frozen? ⟨go6, (x5_1 : Int).toNat * 5 + 2, none⟩ = false := hfr6 2; have hf6_3 : w12.frozen? ⟨go6, (x5_1 : Int).toNat * 5 + 3, none⟩ = false := hfr6 3; have hf6_4 : w12.frozen? ⟨go6, (x5_1 : Int).toNat * 5 + 4, none⟩ = false := hfr6 4; clear hcl6 hcc6 hfr6 hM6; replace p6 := eq_true p6; replace q6 := eq_true q6; have HX13 := Aside0.mk (show Kd.R k71 71 w12 w0.heap.size (fun k_ => (P0_ k_ ∨ w.heap.size ≤ k_)) (.slice (some ⟨go6, 0, none⟩) x0_1.length co11) x0_1 from (rr_ HO_0)); obtain ⟨ce13, hcl13, hM13, hcc13, hfr13⟩ := Kd.R_elem HX13.out z71 (x5_1 : Int) (of_decide_eq_true as_) (by have h_ : (x5_1 : Int) < ((x0_1.length : Int) : Int) := of_decide_eq_true as_; first | exact h_ | (have e_ := (Kd.R_reads' HO_0.out).1; omega) | simpa using h_); obtain rfl := k71_openM hM13; have HP13 := Kd.R_seg HX13.out (x5_1 : Int) (of_decide_eq_true as_) (by have h_ : (x5_1 : Int) < ((x0_1.length : Int) : Int) := of_decide_eq_true as_; first | exact h_ | (have e_ := (Kd.R_reads' HO_0.out).1; omega) | simpa using h_) (seg := [.string t465]) (j := 0) hcl13 hcc13 (show 1 ≤ 5 from by decide) (x' := (⟨t465, (rd_T71 x0_1 x5_1).f1, (rd_T71 x0_1 x5_1).f2, (rd_T71 x0_1 x5_1).f3, (rd_T71 x0_1 x5_1).f4⟩ : S71)) (k71_mkM _ _ _ (⟨t465, (rd_T71 x0_1 x5_1).f1, (rd_T71 x0_1 x5_1).f2, (rd_T71 x0_1 x5_1).f3, (rd_T71 x0_1 x5_1).f4⟩ : S71) ) (fun _ hk => hk); have hx13_0 := hcc13 0 _ rfl; (try simp only [show (k71).sz = 5 from rfl, Nat.mul_one, Nat.add_zero] at hx13_0); have hf13_0 := hfr13 0; (try simp only [show (k71).sz = 5 from rfl, Nat.mul_one, Nat.add_zero] at hf13_0); clear hcl13 hcc13 hfr13 hM13) | ((with_reducible refine gate_store (t := 9) (p := 17) rfl ?_); refine store_event (t := 9) (p := 17) (v := ?vo_w14) (w1 := (w12.setCell ⟨go6, (x5_1 : Int).toNat * 5, none⟩ (.string t465))) ?hg ?ho ?hn ?hr ?_; (case ho => rfl); (case hg => rfl); (case hn => rfl); (case hr => first | (go_simp; done) | (go_simp; rfl)); intro w14 hw; have hg : w12.grownBy w14 (some go6) := (by rw [hw]; exact HP13.2); have hp_ : Kd.R k71 71 w14 w0.heap.size (fun k_ => (P0_ k_ ∨ w.heap.size ≤ k_)) (.slice (some ⟨go6, 0, none⟩) x0_1.length co11) y466 := (by rw [hw, Ny466.out]; exact HP13.1); clear HP13; replace HB := Aside0.mk ((by rw [hw]; exact below_set (HB.out) GB6.out : Below w0.heap.size w0 w14)); replace HK := Aside0.mk (Kept.of_grown (S := (fun k_ => P0_ k_)) hg (by repeat (first | (with_reducible first | exact HK.out | apply Kept.alloc | apply Kept.drewN | apply Kept.drew) | exact HK.out)) (fun k_ e_ => (HO_0.out.1 k_ e_))); replace HO_0 := Aside0.mk (hp_); clear hg hw hp_; have p7 : 0 ≤ (x5_1 : Int) := of_decide_eq_true as_; have q7 : (x5_1 : Int) < ((x0_1.length : Int) : Int) := of_decide_eq_true as_; obtain ⟨ce7, hcl7, hM7, hcc7, hfr7⟩ := Kd.R_elem HO_0.out z71 (x5_1 : Int) p7 q7; obtain rfl := k71_openM hM7; have hx7_0 : w14.cell? ⟨go6, (x5_1 : Int).toNat * 5, none⟩ = some (.string ((rd_T71 y466 x5_1).f0)) := hcc7 0 _ rfl; have hx7_1 : w14.cell? ⟨go6, (x5_1 : Int).toNat * 5 + 1, none⟩ = some (.int .i64 ((rd_T71 y466 x5_1).f1)) := hcc7 1 _ rfl; have hx7_2 : w14.cell? ⟨go6, (x5_1 : Int).toNat * 5 + 2, none⟩ = some (.int .i64 ((rd_T71 y466 x5_1).f2)) := hcc7 2 _ rfl; have hx7_3 : w14.cell? ⟨go6, (x5_1 : Int).toNat * 5 + 3, none⟩ = some (.int .i64 ((rd_T71 y466 x5_1).f3)) := hcc7 3 _ rfl; have hx7_4 : w14.cell? ⟨go6, (x5_1 : Int).toNat * 5 + 4, none⟩ = some (.int .i64 ((rd_T71 y466 x5_1).f4)) := hcc7 4 _ rfl; have hf7_0 : w14.frozen? ⟨go6, (x5_1 : Int).toNat * 5, none⟩ = false := hfr7 0; have hf7_1 : w14.frozen? ⟨go6, (x5_1 : Int).toNat * 5 + 1, none⟩ = false := hfr7 1; have hf7_2 : w14.frozen? ⟨go6, (x5_1 : Int).toNat * 5 + 2, none⟩ = false := hfr7 2; have hf7_3 : w14.frozen? ⟨go6, (x5_1 : Int).toNat * 5 + 3, none⟩ = false := hfr7 3; have hf7_4 : w14.frozen? ⟨go6, (x5_1 : Int).toNat * 5 + 4, none⟩ = false := hfr7 4; clear hcl7 hcc7 hfr7 hM7; replace p7 := eq_true p7; replace q7 := eq_true q7; have HX15 := Aside0.mk (show Kd.R k71 71 w14 w0.heap.size (fun k_ => (P0_ k_ ∨ w.heap.size ≤ k_)) (.slice (some ⟨go6, 0, none⟩) x0_1.length co11) y466 from (rr_ HO_0)); obtain ⟨ce15, hcl15, hM15, hcc15, hfr15⟩ := Kd.R_elem HX15.out z71 (x5_1 : Int) (of_decide_eq_true as_) (by have h_ : (x5_1 : Int) < ((x0_1.length : Int) : Int) := of_decide_eq_true as_; first | exact h_ | (have e_ := (Kd.R_reads' HO_0.out).1; omega) | simpa using h_); obtain rfl := k71_openM hM15; have HP15 := Kd.R_seg HX15.out (x5_1 : Int) (of_decide_eq_true as_) (by have h_ : (x5_1 : Int) < ((x0_1.length : Int) : Int) := of_decide_eq_true as_; first | exact h_ | (have e_ := (Kd.R_reads' HO_0.out).1; omega) | simpa using h_) (seg := [.int .i64 (wrap64 (x1_1 + 1))]) (j := 1) hcl15 hcc15 (show 2 ≤ 5 from by decide) (x' := (⟨(rd_T71 y466 x5_1).f0, wrap64 (x1_1 + 1), (rd_T71 y466 x5_1).f2, (rd_T71 y466 x5_1).f3, (rd_T71 y466 x5_1).f4⟩ : S71)) (k71_mkM _ _ _ (⟨(rd_T71 y466 x5_1).f0, wrap64 (x1_1 + 1), (rd_T71 y466 x5_1).f2, (rd_T71 y466 x5_1).f3, (rd_T71 y466 x5_1).f4⟩ : S71) ) (fun _ hk => hk); have hx15_1 := hcc15 1 _ rfl; (try simp only [show (k71).sz = 5 from rfl, Nat.mul_one, Nat.add_zero] at hx15_1); have hf15_1 := hfr15 1; (try simp only [show (k71).sz = 5 from rfl, Nat.mul_one, Nat.add_zero] at hf15_1); clear hcl15 hcc15 hfr15 hM15) | ((with_reducible refine gate_store (t := 3) (p := 24) rfl ?_); refine store_event (t := 3) (p := 24) (v := ?vo_w16) (w1 := (w14.setCell ⟨go6, (x5_1 : Int).toNat * 5 + 1, none⟩ (.int .i64 (wrap64 (x1_1 + 1))))) ?hg ?ho ?hn ?hr ?_; (case ho => rfl); (case hg => rfl); (case hn => rfl); (case hr => first | (go_simp; done) | (go_simp; rfl)); intro w16 hw; have hg : w14.grownBy w16 (some go6) := (by rw [hw]; exact HP15.2); have hp_ : Kd.R k71 71 w16 w0.heap.size (fun k_ => (P0_ k_ ∨ w.heap.size ≤ k_)) (.slice (some ⟨go6, 0, none⟩) x0_1.length co11) y467 := (by rw [hw, Ny467.out]; exact HP15.1); clear HP15; replace HB := Aside0.mk ((by rw [hw]; exact below_set (HB.out) GB6.out : Below w0.heap.size w0 w16)); replace HK := Aside0.mk (Kept.of_grown (S := (fun k_ => P0_ k_)) hg (by repeat (first | (with_reducible first | exact HK.out | apply Kept.alloc | apply Kept.drewN | apply Kept.drew) | exact HK.out)) (fun k_ e_ => (HO_0.out.1 k_ e_))); replace HO_0 := Aside0.mk (hp_); clear hg hw hp_; have p8 : 0 ≤ (x5_1 : Int) := of_decide_eq_true as_; have q8 : (x5_1 : Int) < ((x0_1.length : Int) : Int) := of_decide_eq_true as_; obtain ⟨ce8, hcl8, hM8, hcc8, hfr8⟩ := Kd.R_elem HO_0.out z71 (x5_1 : Int) p8 q8; obtain rfl := k71_openM hM8; have hx8_0 : w16.cell? ⟨go6, (x5_1 : Int).toNat * 5, none⟩ = some (.string ((rd_T71 y467 x5_1).f0)) := hcc8 0 _ rfl; have hx8_1 : w16.cell? ⟨go6, (x5_1 : Int).toNat * 5 + 1, none⟩ = some (.int .i64 ((rd_T71 y467 x5_1).f1)) := hcc8 1 _ rfl; have hx8_2 : w16.cell? ⟨go6, (x5_1 : Int).toNat * 5 + 2, none⟩ = some (.int .i64 ((rd_T71 y467 x5_1).f2)) := hcc8 2 _ rfl; have hx8_3 : w16.cell? ⟨go6, (x5_1 : Int).toNat * 5 + 3, none⟩ = some (.int .i64 ((rd_T71 y467 x5_1).f3)) := hcc8 3 _ rfl; have hx8_4 : w16.cell? ⟨go6, (x5_1 : Int).toNat * 5 + 4, none⟩ = some (.int .i64 ((rd_T71 y467 x5_1).f4)) := hcc8 4 _ rfl; have hf8_0 : w16.frozen? ⟨go6, (x5_1 : Int).toNat * 5, none⟩ = false := hfr8 0; have hf8_1 : w16.frozen? ⟨go6, (x5_1 : Int).toNat * 5 + 1, none⟩ = false := hfr8 1; have hf8_2 : w16.frozen? ⟨go6, (x5_1 : Int).toNat * 5 + 2, none⟩ = false := hfr8 2; have hf8_3 : w16.frozen? ⟨go6, (x5_1 : Int).toNat * 5 + 3, none⟩ = false := hfr8 3; have hf8_4 : w16.frozen? ⟨go6, (x5_1 : Int).toNat * 5 + 4, none⟩ = false := hfr8 4; clear hcl8 hcc8 hfr8 hM8; replace p8 := eq_true p8; replace q8 := eq_true q8; have HX17 := Aside0.mk (show Kd.R k71 71 w16 w0.heap.size (fun k_ => (P0_ k_ ∨ w.heap.size ≤ k_)) (.slice (some ⟨go6, 0, none⟩) x0_1.length co11) y467 from (rr_ HO_0)); obtain ⟨ce17, hcl17, hM17, hcc17, hfr17⟩ := Kd.R_elem HX17.out z71 (x5_1 : Int) (of_decide_eq_true as_) (by have h_ : (x5_1 : Int) < ((x0_1.length : Int) : Int) := of_decide_eq_true as_; first | exact h_ | (have e_ := (Kd.R_reads' HO_0.out).1; omega) | simpa using h_); obtain rfl := k71_openM hM17; have HP17 := Kd.R_seg HX17.out (x5_1 : Int) (of_decide_eq_true as_) (by have h_ : (x5_1 : Int) < ((x0_1.length : Int) : Int) := of_decide_eq_true as_; first | exact h_ | (have e_ := (Kd.R_reads' HO_0.out).1; omega) | simpa using h_) (seg := [.int .i64 (wrap64 ((wrap64 (x1_1 + 1)) + 1))]) (j := 2) hcl17 hcc17 (show 3 ≤ 5 from by decide) (x' := (⟨(rd_T71 y467 x5_1).f0, (rd_T71 y467 x5_1).f1, wrap64 ((wrap64 (x1_1 + 1)) + 1), (rd_T71 y467 x5_1).f3, (rd_T71 y467 x5_1).f4⟩ : S71)) (k71_mkM _ _ _ (⟨(rd_T71 y467 x5_1).f0, (rd_T71 y467 x5_1).f1, wrap64 ((wrap64 (x1_1 + 1)) + 1), (rd_T71 y467 x5_1).f3, (rd_T71 y467 x5_1).f4⟩ : S71) ) (fun _ hk => hk); have hx17_2 := hcc17 2 _ rfl; (try simp only [show (k71).sz = 5 from rfl, Nat.mul_one, Nat.add_zero] at hx17_2); have hf17_2 := hfr17 2; (try simp only [show (k71).sz = 5 from rfl, Nat.mul_one, Nat.add_zero] at hf17_2); clear hcl17 hcc17 hfr17 hM17) | ((with_reducible refine gate_store (t := 3) (p := 31) rfl ?_); refine store_event (t := 3) (p := 31) (v := ?vo_w18) (w1 := (w16.setCell ⟨go6, (x5_1 : Int).toNat * 5 + 2, none⟩ (.int .i64 (wrap64 ((wrap64 (x1_1 + 1)) + 1))))) ?hg ?ho ?hn ?hr ?_; (case ho => rfl); (case hg => rfl); (case hn => rfl); (case hr => first | (go_simp; done) | (go_simp; rfl)); intro w18 hw; have hg : w16.grownBy w18 (some go6) := (by rw [hw]; exact HP17.2); have hp_ : Kd.R k71 71 w18 w0.heap.size (fun k_ => (P0_ k_ ∨ w.heap.size ≤ k_)) (.slice (some ⟨go6, 0, none⟩) x0_1.length co11) y468 := (by rw [hw, Ny468.out]; exact HP17.1); clear HP17; replace HB := Aside0.mk ((by rw [hw]; exact below_set (HB.out) GB6.out : Below w0.heap.size w0 w18)); replace HK := Aside0.mk (Kept.of_grown (S := (fun k_ => P0_ k_)) hg (by repeat (first | (with_reducible first | exact HK.out | apply Kept.alloc | apply Kept.drewN | apply Kept.drew) | exact HK.out)) (fun k_ e_ => (HO_0.out.1 k_ e_))); replace HO_0 := Aside0.mk (hp_); clear hg hw hp_; have p9 : 0 ≤ (x5_1 : Int) := of_decide_eq_true as_; have q9 : (x5_1 : Int) < ((x0_1.length : Int) : Int) := of_decide_eq_true as_; obtain ⟨ce9, hcl9, hM9, hcc9, hfr9⟩ := Kd.R_elem HO_0.out z71 (x5_1 : Int) p9 q9; obtain rfl := k71_openM hM9; have hx9_0 : w18.cell? ⟨go6, (x5_1 : Int).toNat * 5, none⟩ = some (.string ((rd_T71 y468 x5_1).f0)) := hcc9 0 _ rfl; have hx9_1 : w18.cell? ⟨go6, (x5_1 : Int).toNat * 5 + 1, none⟩ = some (.int .i64 ((rd_T71 y468 x5_1).f1)) := hcc9 1 _ rfl; have hx9_2 : w18.cell? ⟨go6, (x5_1 : Int).toNat * 5 + 2, none⟩ = some (.int .i64 ((rd_T71 y468 x5_1).f2)) := hcc9 2 _ rfl; have hx9_3 : w18.cell? ⟨go6, (x5_1 : Int).toNat * 5 + 3, none⟩ = some (.int .i64 ((rd_T71 y468 x5_1).f3)) := hcc9 3 _ rfl; have hx9_4 : w18.cell? ⟨go6, (x5_1 : Int).toNat * 5 + 4, none⟩ = some (.int .i64 ((rd_T71 y468 x5_1).f4)) := hcc9 4 _ rfl; have hf9_0 : w18.frozen? ⟨go6, (x5_1 : Int).toNat * 5, none⟩ = false := hfr9 0; have hf9_1 : w18.frozen? ⟨go6, (x5_1 : Int).toNat * 5 + 1, none⟩ = false := hfr9 1; have hf9_2 : w18.frozen? ⟨go6, (x5_1 : Int).toNat * 5 + 2, none⟩ = false := hfr9 2; have hf9_3 : w18.frozen? ⟨go6, (x5_1 : Int).toNat * 5 + 3, none⟩ = false := hfr9 3; have hf9_4 : w18.frozen? ⟨go6, (x5_1 : Int).toNat * 5 + 4, none⟩ = false := hfr9 4; clear hcl9 hcc9 hfr9 hM9; replace p9 := eq_true p9; replace q9 := eq_true q9; have HX19 := Aside0.mk (show Kd.R k71 71 w18 w0.heap.size (fun k_ => (P0_ k_ ∨ w.heap.size ≤ k_)) (.slice (some ⟨go6, 0, none⟩) x0_1.length co11) y468 from (rr_ HO_0)); obtain ⟨ce19, hcl19, hM19, hcc19, hfr19⟩ := Kd.R_elem HX19.out z71 (x5_1 : Int) (of_decide_eq_true as_) (by have h_ : (x5_1 : Int) < ((x0_1.length : Int) : Int) := of_decide_eq_true as_; first | exact h_ | (have e_ := (Kd.R_reads' HO_0.out).1; omega) | simpa using h_); obtain rfl := k71_openM hM19; have HP19 := Kd.R_seg HX19.out (x5_1 : Int) (of_decide_eq_true as_) (by have h_ : (x5_1 : Int) < ((x0_1.length : Int) : Int) := of_decide_eq_true as_; first | exact h_ | (have e_ := (Kd.R_reads' HO_0.out).1; omega) | simpa using h_) (seg := [.int .i64 (wrap64 ((wrap64 ((wrap64 (x1_1 + 1)) + 1)) + 1))]) (j := 3) hcl19 hcc19 (show 4 ≤ 5 from by decide) (x' := (⟨(rd_T71 y468 x5_1).f0, (rd_T71 y468 x5_1).f1, (rd_T71 y468 x5_1).f2, wrap64 ((wrap64 ((wrap64 (x1_1 + 1)) + 1)) + 1), (rd_T71 y468 x5_1).f4⟩ : S71)) (k71_mkM _ _ _ (⟨(rd_T71 y468 x5_1).f0, (rd_T71 y468 x5_1).f1, (rd_T71 y468 x5_1).f2, wrap64 ((wrap64 ((wrap64 (x1_1 + 1)) + 1)) + 1), (rd_T71 y468 x5_1).f4⟩ : S71) ) (fun _ hk => hk); have hx19_3 := hcc19 3 _ rfl; (try simp only [show (k71).sz = 5 from rfl, Nat.mul_one, Nat.add_zero] at hx19_3); have hf19_3 := hfr19 3; (try simp only [show (k71).sz = 5 from rfl, Nat.mul_one, Nat.add_zero] at hf19_3); clear hcl19 hcc19 hfr19 hM19) | ((with_reducible refine gate_store (t := 3) (p := 38) rfl ?_); refine store_event (t := 3) (p := 38) (v := ?vo_w20) (w1 := (w18.setCell ⟨go6, (x5_1 : Int).toNat * 5 + 3, none⟩ (.int .i64 (wrap64 ((wrap64 ((wrap64 (x1_1 + 1)) + 1)) + 1))))) ?hg ?ho ?hn ?hr ?_; (case ho => rfl); (case hg => rfl); (case hn => rfl); (case hr => first | (go_simp; done) | (go_simp; rfl)); intro w20 hw; have hg : w18.grownBy w20 (some go6) := (by rw [hw]; exact HP19.2); have hp_ : Kd.R k71 71 w20 w0.heap.size (fun k_ => (P0_ k_ ∨ w.heap.size ≤ k_)) (.slice (some ⟨go6, 0, none⟩) x0_1.length co11) y469 := (by rw [hw, Ny469.out]; exact HP19.1); clear HP19; replace HB := Aside0.mk ((by rw [hw]; exact below_set (HB.out) GB6.out : Below w0.heap.size w0 w20)); replace HK := Aside0.mk (Kept.of_grown (S := (fun k_ => P0_ k_)) hg (by repeat (first | (with_reducible first | exact HK.out | apply Kept.alloc | apply Kept.drewN | apply Kept.drew) | exact HK.out)) (fun k_ e_ => (HO_0.out.1 k_ e_))); replace HO_0 := Aside0.mk (hp_); clear hg hw hp_; have p10 : 0 ≤ (x5_1 : Int) := of_decide_eq_true as_; have q10 : (x5_1 : Int) < ((x0_1.length : Int) : Int) := of_decide_eq_true as_; obtain ⟨ce10, hcl10, hM10, hcc10, hfr10⟩ := Kd.R_elem HO_0.out z71 (x5_1 : Int) p10 q10; obtain rfl := k71_openM hM10; have hx10_0 : w20.cell? ⟨go6, (x5_1 : Int).toNat * 5, none⟩ = some (.string ((rd_T71 y469 x5_1).f0)) := hcc10 0 _ rfl; have hx10_1 : w20.cell? ⟨go6, (x5_1 : Int).toNat * 5 + 1, none⟩ = some (.int .i64 ((rd_T71 y469 x5_1).f1)) := hcc10 1 _ rfl; have hx10_2 : w20.cell? ⟨go6, (x5_1 : Int).toNat * 5 + 2, none⟩ = some (.int .i64 ((rd_T71 y469 x5_1).f2)) := hcc10 2 _ rfl; have hx10_3 : w20.cell? ⟨go6, (x5_1 : Int).toNat * 5 + 3, none⟩ = some (.int .i64 ((rd_T71 y469 x5_1).f3)) := hcc10 3 _ rfl; have hx10_4 : w20.cell? ⟨go6, (x5_1 : Int).toNat * 5 + 4, none⟩ = some (.int .i64 ((rd_T71 y469 x5_1).f4)) := hcc10 4 _ rfl; have hf10_0 : w20.frozen? ⟨go6, (x5_1 : Int).toNat * 5, none⟩ = false := hfr10 0; have hf10_1 : w20.frozen? ⟨go6, (x5_1 : Int).toNat * 5 + 1, none⟩ = false := hfr10 1; have hf10_2 : w20.frozen? ⟨go6, (x5_1 : Int).toNat * 5 + 2, none⟩ = false := hfr10 2; have hf10_3 : w20.frozen? ⟨go6, (x5_1 : Int).toNat * 5 + 3, none⟩ = false := hfr10 3; have hf10_4 : w20.frozen? ⟨go6, (x5_1 : Int).toNat * 5 + 4, none⟩ = false := hfr10 4; clear hcl10 hcc10 hfr10 hM10; replace p10 := eq_true p10; replace q10 := eq_true q10; have HX21 := Aside0.mk (show Kd.R k71 71 w20 w0.heap.size (fun k_ => (P0_ k_ ∨ w.heap.size ≤ k_)) (.slice (some ⟨go6, 0, none⟩) x0_1.length co11) y469 from (rr_ HO_0)); obtain ⟨ce21, hcl21, hM21, hcc21, hfr21⟩ := Kd.R_elem HX21.out z71 (x5_1 : Int) (of_decide_eq_true as_) (by have h_ : (x5_1 : Int) < ((x0_1.length : Int) : Int) := of_decide_eq_true as_; first | exact h_ | (have e_ := (Kd.R_reads' HO_0.out).1; omega) | simpa using h_); obtain rfl := k71_openM hM21; have HP21 := Kd.R_seg HX21.out (x5_1 : Int) (of_decide_eq_true as_) (by have h_ : (x5_1 : Int) < ((x0_1.length : Int) : Int) := of_decide_eq_true as_; first | exact h_ | (have e_ := (Kd.R_reads' HO_0.out).1; omega) | simpa using h_) (seg := [.int .i64 (wrap64 ((wrap64 ((wrap64 ((wrap64 (x1_1 + 1)) + 1)) + 1)) + 1))]) (j := 4) hcl21 hcc21 (show 5 ≤ 5 from by decide) (x' := (⟨(rd_T71 y469 x5_1).f0, (rd_T71 y469 x5_1).f1, (rd_T71 y469 x5_1).f2, (rd_T71 y469 x5_1).f3, wrap64 ((wrap64 ((wrap64 ((wrap64 (x1_1 + 1)) + 1)) + 1)) + 1)⟩ : S71)) (k71_mkM _ _ _ (⟨(rd_T71 y469 x5_1).f0, (rd_T71 y469 x5_1).f1, (rd_T71 y469 x5_1).f2, (rd_T71 y469 x5_1).f3, wrap64 ((wrap64 ((wrap64 ((wrap64 (x1_1 + 1)) + 1)) + 1)) + 1)⟩ : S71) ) (fun _ hk => hk); have hx21_4 := hcc21 4 _ rfl; (try simp only [show (k71).sz = 5 from rfl, Nat.mul_one, Nat.add_zero] at hx21_4); have hf21_4 := hfr21 4; (try simp only [show (k71).sz = 5 from rfl, Nat.mul_one, Nat.add_zero] at hf21_4); clear hcl21 hcc21 hfr21 hM21) | ((with_reducible refine gate_store (t := 3) (p := 45) rfl ?_); refine store_event (t := 3) (p := 45) (v := ?vo_w22) (w1 := (w20.setCell ⟨go6, (x5_1 : Int).toNat * 5 + 4, none⟩ (.int .i64 (wrap64 ((wrap64 ((wrap64 ((wrap64 (x1_1 + 1)) + 1)) + 1)) + 1))))) ?hg ?ho ?hn ?hr ?_; (case ho => rfl); (case hg => rfl); (case hn => rfl); (case hr => first | (go_simp; done) | (go_simp; rfl)); intro w22 hw; have hg : w20.grownBy w22 (some go6) := (by rw [hw]; exact HP21.2); have hp_ : Kd.R k71 71 w22 w0.heap.size (fun k_ => (P0_ k_ ∨ w.heap.size ≤ k_)) (.slice (some ⟨go6, 0, none⟩) x0_1.length co11) y470 := (by rw [hw, Ny470.out]; exact HP21.1); clear HP21; replace HB := Aside0.mk ((by rw [hw]; exact below_set (HB.out) GB6.out : Below w0.heap.size w0 w22)); replace HK := Aside0.mk (Kept.of_grown (S := (fun k_ => P0_ k_)) hg (by repeat (first | (with_reducible first | exact HK.out | apply Kept.alloc | apply Kept.drewN | apply Kept.drew) | exact HK.out)) (fun k_ e_ => (HO_0.out.1 k_ e_))); replace HO_0 := Aside0.mk (hp_); clear hg hw hp_))
     go_roundg k1
     case measure => have := HK1.out; first | exact this | exact Nat.le_of_succ_le this | exact Nat.le_refl _ | omega
     case rel => exact ⟨(y470), (wrap64 ((wrap64 ((wrap64 ((wrap64 ((wrap64 (x1_1 + 1)) + 1)) + 1)) + 1)) + 1)), (wrap64 (x5_1 + 1)), rs_, rs_, H', ⟨by have := HK1.out; first | exact this | exact Nat.le_of_succ_le this | exact Nat.le_refl _ | omega⟩, ⟨rr_ HO_0⟩, ⟨by repeat (first | (with_reducible first | exact HK.out | apply Kept.alloc | apply Kept.drewN | apply Kept.drew) | exact HK.out)⟩, ⟨hb_ HB⟩⟩
    ·rw [if_neg c5] at H
     exact absurd H (by simp)
   ·rw [if_neg c3] at H
    have c3b0 : decide (x5_1 < (x0_1.length : Int)) = false := decide_eq_false c3
    clear c3
    simp only [Option.some.injEq, Prod.mk.injEq] at H
    obtain ⟨rfl, rfl⟩ := H
    obtain ⟨Ao23, co23, eo23⟩ := Kd.R_slice HO_0.out
    subst eo23
    go_wp2
    go_ret
    exact ⟨re_, rr_ HO_0, hb_ HB, by repeat (first | (with_reducible first | exact HK.out | apply Kept.alloc | apply Kept.drewN | apply Kept.drew) | exact HK.out)⟩

/-! ### laws_markGroup: function 12 -/
def laws_markGroup.f (k : Nat) (l0_0 : List (S71)) (a0_1 : Int) (a0_2 : Int) (a1 : Int) : Option (Int × (List (S71))) := (laws_markEntryS.f k l0_0 a1).bind fun bt472 => (some (bt472.1, bt472.2))
set_option maxHeartbeats 80000000 in
set_option maxRecDepth 100000 in
theorem laws_markGroup.calls (k : Nat) (P0_0_ : Nat → Prop) (u9000_ : Value) (l0_0 : List (S71)) (a0_1 : Int) (a0_2 : Int) (a1 : Int) (r1 : Int) (r2 : List (S71)) (w0 w : World) (hB : Below w0.heap.size w0 w) (ho0_0 : Kd.R k71 71 w w0.heap.size P0_0_ u9000_ l0_0) (h : laws_markGroup.f k l0_0 a0_1 a0_2 a1 = some (r1, r2)) :
  Calls Try.prog 12 #[.agg #[u9000_, .int .i64 a0_1, .int .i64 a0_2], .int .i64 a1] w fun e w' => e = .returned (.int .i64 r1) ∧ Kd.R k71 71 w' w0.heap.size (fun k_ => (P0_0_ k_ ∨ w.heap.size ≤ k_)) u9000_ r2 ∧ Below w0.heap.size w0 w' ∧ Kept w w' (fun k_ => P0_0_ k_) := by
 have hu30 := Try.underlying30
 have HO0_0 := Aside0.mk (show Kd.R k71 71 w w0.heap.size (fun k_ => (P0_0_ k_ ∨ w.heap.size ≤ k_)) u9000_ l0_0 from Kd.R_mono ho0_0 (fun k_ hk => (.inl hk)))
 have HK := Aside0.mk (Kept.refl w (fun k_ => P0_0_ k_))
 have HW0 := Aside0.mk hB.size
 have HB := Aside0.mk hB
 clear hB
 unfold laws_markGroup.f at h; have H := h
 clear h
 replace H := Option.bind_eq_some_iff.mp H
 obtain ⟨⟨t472, t473⟩, A30, H⟩ := H
 have A3 := Aside0.mk A30
 clear A30
 simp only [Option.some.injEq, Prod.mk.injEq] at H
 obtain ⟨rfl, rfl⟩ := H
 obtain ⟨Ao4, co4, eo4⟩ := Kd.R_slice HO0_0.out
 subst eo4
 go_enter Try.func12, Try.ntmps12
 go_wp2_with (first | ((with_reducible refine gate_dst (N := 2) rfl ?_); refine box_event ?hg (N := 2) ?hd (cs := #[.slice Ao4 l0_0.length co4, .int .i64 a0_1, .int .i64 a0_2]) (t := 30) ?hr ?_; (case hd => rfl); (case hg => rfl); (case hr => first | (go_simp; done) | (go_simp; rfl)); intro gb471 hg w5 hbox hb; replace HO0_0 := rb_ HO0_0 hb; have BK471 := Aside0.mk (hbox); have GW471 := Aside0.mk ((by rw [hg]; exact (by first | exact HK.out.1 | exact (show Kept w _ (fun k_ => P0_0_ k_) from by repeat (first | (with_reducible first | exact HK.out | apply Kept.alloc | apply Kept.drewN | apply Kept.drew) | exact HK.out)).1) : w.heap.size ≤ gb471)); replace HK := Aside0.mk (Kept.below (S := (fun k_ => P0_0_ k_)) (by repeat (first | (with_reducible first | exact HK.out | apply Kept.alloc | apply Kept.drewN | apply Kept.drew) | exact HK.out)) hb); have GE471 := Aside0.mk ((by rw [hg]; exact (below_size (hb_ HB)) : w0.heap.size ≤ gb471)); replace HB := bs_ HB hb; clear hb hbox hg; obtain ⟨hcz6_0, hcz6_1, hcz6_2, hfz6_0, hfz6_1, hfz6_2⟩ := bc3_ BK471) | ((with_reducible refine gate_callee (f := 29) rfl ?_); refine goesL_ (some 8) rfl rfl Try.func29 (by kernel_rfl) rfl #[.slice Ao4 l0_0.length co4, .int .i64 a1] rfl ar_ ?_; (with_reducible refine (laws_markEntryS.calls k (fun k_ => some k_ = (.slice Ao4 l0_0.length co4 : Value).ownBlock) (.slice Ao4 l0_0.length co4) l0_0 a1 t472 t473 w0 _ ?side1 ?side2 A3.out).mono ?_); (case side1 => repeat (first | (with_reducible first | exact HB.out | apply below_alloc | apply pw_below_drewN | apply below_drew1 | refine below_set ?_ GE471.out) | exact HB.out)); (case side2 => exact Kd.R_tight rfl HO0_0.out); rintro e w7 ⟨rfl, hy0, hb, hkp⟩; refine ⟨_, rfl, ?_⟩; replace BK471 := Aside0.mk (blk_kept (bk_ BK471) hkp (fun hs_ => (fun e_ => (Kd.R_ne HO0_0.out BK471.out (by decide)) e_) hs_)); replace HK := Aside0.mk (Kept.then_ (S := (fun k_ => P0_0_ k_)) (by repeat (first | (with_reducible first | exact HK.out | apply Kept.alloc | apply Kept.drewN | apply Kept.drew | refine Kept.setCell ?_ (.inr GW471.out) _) | exact HK.out)) hkp (fun k_ hs_ => (fun e_ => (HO0_0.out.1 k_ e_.symm)) hs_)); replace HO0_0 := Aside0.mk (Kd.R_reok rfl hy0 (fun k_ e_ => HO0_0.out.1 k_ e_)); replace HB := Aside0.mk (hb); (try clear hb); (try clear hkp); (try clear hy0)))
 go_ret
 exact ⟨re_, rr_ HO0_0, hs_ HB GE471, by repeat (first | (with_reducible first | exact HK.out | apply Kept.alloc | apply Kept.drewN | apply Kept.drew | refine Kept.setCell ?_ (.inr GW471.out) _) | exact HK.out)⟩

/-! ### laws_markPlaceS: function 13 -/
def laws_markPlaceS.l0 : Nat → List (S48) → Int → Int → Option (Int × (List (S48)))
 | 0, _, _, _ => none
 | k + 1, x0, x1, x5 => if x5 < (x0.length : Int) then (if 0 ≤ x5 then ((some (x0.set (x5 : Int).toNat (⟨x1, (rd_T48 x0 x5).f1, (rd_T48 x0 x5).f2, (⟨(rd_T48 x0 x5).f3.f0, (rd_T48 x0 x5).f3.f1, (rd_T48 x0 x5).f3.f2, (rd_T48 x0 x5).f3.f3, (rd_T48 x0 x5).f3.f4, (rd_T48 x0 x5).f3.f5⟩ : S46)⟩ : S48) : List (S48))).bind fun y474 => ((some (y474.set (x5 : Int).toNat (⟨(rd_T48 y474 x5).f0, wrap64 (x1 + 1), (rd_T48 y474 x5).f2, (⟨(rd_T48 y474 x5).f3.f0, (rd_T48 y474 x5).f3.f1, (rd_T48 y474 x5).f3.f2, (rd_T48 y474 x5).f3.f3, (rd_T48 y474 x5).f3.f4, (rd_T48 y474 x5).f3.f5⟩ : S46)⟩ : S48) : List (S48))).bind fun y475 => ((some (y475.set (x5 : Int).toNat (⟨(rd_T48 y475 x5).f0, (rd_T48 y475 x5).f1, wrap64 ((wrap64 (x1 + 1)) + 1), (⟨(rd_T48 y475 x5).f3.f0, (rd_T48 y475 x5).f3.f1, (rd_T48 y475 x5).f3.f2, (rd_T48 y475 x5).f3.f3, (rd_T48 y475 x5).f3.f4, (rd_T48 y475 x5).f3.f5⟩ : S46)⟩ : S48) : List (S48))).bind fun y476 => ((some (y476.set (x5 : Int).toNat (⟨(rd_T48 y476 x5).f0, (rd_T48 y476 x5).f1, (rd_T48 y476 x5).f2, (⟨wrap64 ((wrap64 ((wrap64 (x1 + 1)) + 1)) + 1), (rd_T48 y476 x5).f3.f1, (rd_T48 y476 x5).f3.f2, (rd_T48 y476 x5).f3.f3, (rd_T48 y476 x5).f3.f4, (rd_T48 y476 x5).f3.f5⟩ : S46)⟩ : S48) : List (S48))).bind fun y477 => ((some (y477.set (x5 : Int).toNat (⟨(rd_T48 y477 x5).f0, (rd_T48 y477 x5).f1, (rd_T48 y477 x5).f2, (⟨(rd_T48 y477 x5).f3.f0, wrap64 ((wrap64 ((wrap64 ((wrap64 (x1 + 1)) + 1)) + 1)) + 1), (rd_T48 y477 x5).f3.f2, (rd_T48 y477 x5).f3.f3, (rd_T48 y477 x5).f3.f4, (rd_T48 y477 x5).f3.f5⟩ : S46)⟩ : S48) : List (S48))).bind fun y478 => ((laws_markText.f k (wrap64 ((wrap64 ((wrap64 ((wrap64 ((wrap64 (x1 + 1)) + 1)) + 1)) + 1)) + 1))).bind fun t479 => ((some (y478.set (x5 : Int).toNat (⟨(rd_T48 y478 x5).f0, (rd_T48 y478 x5).f1, (rd_T48 y478 x5).f2, (⟨(rd_T48 y478 x5).f3.f0, (rd_T48 y478 x5).f3.f1, t479, (rd_T48 y478 x5).f3.f3, (rd_T48 y478 x5).f3.f4, (rd_T48 y478 x5).f3.f5⟩ : S46)⟩ : S48) : List (S48))).bind fun y480 => ((laws_markText.f k (wrap64 ((wrap64 ((wrap64 ((wrap64 ((wrap64 ((wrap64 (x1 + 1)) + 1)) + 1)) + 1)) + 1)) + 1))).bind fun t481 => ((some (y480.set (x5 : Int).toNat (⟨(rd_T48 y480 x5).f0, (rd_T48 y480 x5).f1, (rd_T48 y480 x5).f2, (⟨(rd_T48 y480 x5).f3.f0, (rd_T48 y480 x5).f3.f1, (rd_T48 y480 x5).f3.f2, t481, (rd_T48 y480 x5).f3.f4, (rd_T48 y480 x5).f3.f5⟩ : S46)⟩ : S48) : List (S48))).bind fun y482 => ((some (y482.set (x5 : Int).toNat (⟨(rd_T48 y482 x5).f0, (rd_T48 y482 x5).f1, (rd_T48 y482 x5).f2, (⟨(rd_T48 y482 x5).f3.f0, (rd_T48 y482 x5).f3.f1, (rd_T48 y482 x5).f3.f2, (rd_T48 y482 x5).f3.f3, wrap64 ((wrap64 ((wrap64 ((wrap64 ((wrap64 ((wrap64 ((wrap64 (x1 + 1)) + 1)) + 1)) + 1)) + 1)) + 1)) + 1), (rd_T48 y482 x5).f3.f5⟩ : S46)⟩ : S48) : List (S48))).bind fun y483 => (laws_markPlaceS.l0 k (y483.set (x5 : Int).toNat (⟨(rd_T48 y483 x5).f0, (rd_T48 y483 x5).f1, (rd_T48 y483 x5).f2, (⟨(rd_T48 y483 x5).f3.f0, (rd_T48 y483 x5).f3.f1, (rd_T48 y483 x5).f3.f2, (rd_T48 y483 x5).f3.f3, (rd_T48 y483 x5).f3.f4, wrap64 ((wrap64 ((wrap64 ((wrap64 ((wrap64 ((wrap64 ((wrap64 ((wrap64 (x1 + 1)) + 1)) + 1)) + 1)) + 1)) + 1)) + 1)) + 1)⟩ : S46)⟩ : S48)) (wrap64 ((wrap64 ((wrap64 ((wrap64 ((wrap64 ((wrap64 ((wrap64 ((wrap64 ((wrap64 (x1 + 1)) + 1)) + 1)) + 1)) + 1)) + 1)) + 1)) + 1)) + 1)) (wrap64 (x5 + 1))))))))))))) else (none)) else (some (x1, x0))
def laws_markPlaceS.f (k : Nat) (l0 : List (S48)) (a1 : Int) : Option (Int × (List (S48))) := laws_markPlaceS.l0 k l0 a1 0
set_option maxHeartbeats 80000000 in
set_option maxRecDepth 100000 in
theorem laws_markPlaceS.calls (k : Nat) (P0_ : Nat → Prop) (u9000_ : Value) (l0 : List (S48)) (a1 : Int) (r1 : Int) (r2 : List (S48)) (w0 w : World) (hB : Below w0.heap.size w0 w) (ho0 : Kd.R k48 48 w w0.heap.size P0_ u9000_ l0) (h : laws_markPlaceS.f k l0 a1 = some (r1, r2)) :
  Calls Try.prog 13 #[u9000_, .int .i64 a1] w fun e w' => e = .returned (.int .i64 r1) ∧ Kd.R k48 48 w' w0.heap.size (fun k_ => (P0_ k_ ∨ w.heap.size ≤ k_)) u9000_ r2 ∧ Below w0.heap.size w0 w' ∧ Kept w w' (fun k_ => P0_ k_) := by
 have HO0 := Aside0.mk (show Kd.R k48 48 w w0.heap.size (fun k_ => (P0_ k_ ∨ w.heap.size ≤ k_)) u9000_ l0 from Kd.R_mono ho0 (fun k_ hk => (.inl hk)))
 have HK := Aside0.mk (Kept.refl w (fun k_ => P0_ k_))
 have HW0 := Aside0.mk hB.size
 have HB := Aside0.mk hB
 clear hB
 unfold laws_markPlaceS.f at h; have H := h
 clear h
 have H' := Aside0.mk H
 clear H
 go_enter Try.func13, Try.ntmps13
 go_wp2
 go_loopg [1, 5] k (fun kq v1 v5 w' => ∃ (x0_1 : List (S48)) (x1_1 : Int) (x5_1 : Int), v1 = .int .i64 x1_1 ∧ v5 = .int .i64 x5_1 ∧ Aside0 (laws_markPlaceS.l0 kq x0_1 x1_1 x5_1 = some (r1, r2)) ∧ Aside0 (kq ≤ k) ∧ Aside0 (Kd.R k48 48 w' w0.heap.size (fun k_ => (P0_ k_ ∨ w.heap.size ≤ k_)) u9000_ x0_1) ∧ Aside0 (Kept w w' (fun k_ => P0_ k_)) ∧ Aside0 (Below w0.heap.size w0 w'))
 case atStart => exact ⟨(l0), (a1), (0), rs_, rs_, H', ⟨Nat.le_refl _⟩, ⟨rr_ HO0⟩, ⟨by repeat (first | (with_reducible first | exact HK.out | apply Kept.alloc | apply Kept.drewN | apply Kept.drew) | exact HK.out)⟩, ⟨hb_ HB⟩⟩
 case round =>
  clear H'
  obtain ⟨x0_1, x1_1, x5_1, rfl, rfl, HA, HK1, HO_0, HK, HB⟩ := hrel
  cases gk with
  | zero => exact absurd HA.out (by simp [laws_markPlaceS.l0])
  | succ k1 =>
   have H := HA.out
   clear HA
   simp only [laws_markPlaceS.l0] at H
   by_cases c3 : x5_1 < (x0_1.length : Int)
   ·rw [if_pos c3] at H
    have c3b0 : decide (x5_1 < (x0_1.length : Int)) = true := decide_eq_true c3
    clear c3
    by_cases c4 : 0 ≤ x5_1
    ·rw [if_pos c4] at H
     have c4b0 : decide (0 ≤ x5_1) = true := decide_eq_true c4
     clear c4
     obtain ⟨y474, hy474, H⟩ := ov_ H
     have Ny474 := Aside0.mk hy474
     clear hy474
     obtain ⟨y475, hy475, H⟩ := ov_ H
     have Ny475 := Aside0.mk hy475
     clear hy475
     obtain ⟨y476, hy476, H⟩ := ov_ H
     have Ny476 := Aside0.mk hy476
     clear hy476
     obtain ⟨y477, hy477, H⟩ := ov_ H
     have Ny477 := Aside0.mk hy477
     clear hy477
     obtain ⟨y478, hy478, H⟩ := ov_ H
     have Ny478 := Aside0.mk hy478
     clear hy478
     replace H := Option.bind_eq_some_iff.mp H
     obtain ⟨t479, A100, H⟩ := H
     have A10 := Aside0.mk A100
     clear A100
     obtain ⟨y480, hy480, H⟩ := ov_ H
     have Ny480 := Aside0.mk hy480
     clear hy480
     replace H := Option.bind_eq_some_iff.mp H
     obtain ⟨t481, A120, H⟩ := H
     have A12 := Aside0.mk A120
     clear A120
     obtain ⟨y482, hy482, H⟩ := ov_ H
     have Ny482 := Aside0.mk hy482
     clear hy482
     obtain ⟨y483, hy483, H⟩ := ov_ H
     have Ny483 := Aside0.mk hy483
     clear hy483
     obtain ⟨y484, hy484⟩ : ∃ y_ : List (S48), y_ = (y483.set (x5_1 : Int).toNat (⟨(rd_T48 y483 x5_1).f0, (rd_T48 y483 x5_1).f1, (rd_T48 y483 x5_1).f2, (⟨(rd_T48 y483 x5_1).f3.f0, (rd_T48 y483 x5_1).f3.f1, (rd_T48 y483 x5_1).f3.f2, (rd_T48 y483 x5_1).f3.f3, (rd_T48 y483 x5_1).f3.f4, wrap64 ((wrap64 ((wrap64 ((wrap64 ((wrap64 ((wrap64 ((wrap64 ((wrap64 (x1_1 + 1)) + 1)) + 1)) + 1)) + 1)) + 1)) + 1)) + 1)⟩ : S46)⟩ : S48)) := ⟨_, rfl⟩
     rw [← hy484] at H
     have Ny484 := Aside0.mk hy484
     clear hy484
     have H' := Aside0.mk H
     clear H
     obtain ⟨Ao16, co16, eo16⟩ := Kd.R_slice HO_0.out
     subst eo16
     have p5 : 0 ≤ (x5_1 : Int) := of_decide_eq_true as_
     have q5 : (x5_1 : Int) < ((x0_1.length : Int) : Int) := of_decide_eq_true as_
     obtain ⟨go5, co5, eo5, gb5, gl5, cl5, HG5⟩ := Kd.R_form HO_0.out (by omega)
     (first | cases eo5 | (injection eo5 with ea_ en_ ec_; (first | subst ea_ | (injection ea_ with ea_; subst ea_)); subst ec_; clear en_))
     have GB5 := Aside0.mk gb5
     have GG5 := Aside0.mk HG5
     clear gb5 gl5 HG5
     have HMgo5 := Aside0.mk (show (P0_ go5 ∨ w.heap.size ≤ go5) from (HO_0.out.1 _ rfl))
     obtain ⟨ce5, hcl5, hM5, hcc5, hfr5⟩ := Kd.R_elem HO_0.out z48 (x5_1 : Int) p5 q5
     obtain rfl := k48_openM hM5
     have hx5_0 : wr.cell? ⟨go5, (x5_1 : Int).toNat * 9, none⟩ = some (.int .i64 ((rd_T48 x0_1 x5_1).f0)) := hcc5 0 _ rfl
     have hx5_1 : wr.cell? ⟨go5, (x5_1 : Int).toNat * 9 + 1, none⟩ = some (.int .i64 ((rd_T48 x0_1 x5_1).f1)) := hcc5 1 _ rfl
     have hx5_2 : wr.cell? ⟨go5, (x5_1 : Int).toNat * 9 + 2, none⟩ = some (.int .i64 ((rd_T48 x0_1 x5_1).f2)) := hcc5 2 _ rfl
     have hx5_3 : wr.cell? ⟨go5, (x5_1 : Int).toNat * 9 + 3, none⟩ = some (.int .i64 ((rd_T48 x0_1 x5_1).f3.f0)) := hcc5 3 _ rfl
     have hx5_4 : wr.cell? ⟨go5, (x5_1 : Int).toNat * 9 + 4, none⟩ = some (.int .i64 ((rd_T48 x0_1 x5_1).f3.f1)) := hcc5 4 _ rfl
     have hx5_5 : wr.cell? ⟨go5, (x5_1 : Int).toNat * 9 + 5, none⟩ = some (.string ((rd_T48 x0_1 x5_1).f3.f2)) := hcc5 5 _ rfl
     have hx5_6 : wr.cell? ⟨go5, (x5_1 : Int).toNat * 9 + 6, none⟩ = some (.string ((rd_T48 x0_1 x5_1).f3.f3)) := hcc5 6 _ rfl
     have hx5_7 : wr.cell? ⟨go5, (x5_1 : Int).toNat * 9 + 7, none⟩ = some (.int .i64 ((rd_T48 x0_1 x5_1).f3.f4)) := hcc5 7 _ rfl
     have hx5_8 : wr.cell? ⟨go5, (x5_1 : Int).toNat * 9 + 8, none⟩ = some (.int .i64 ((rd_T48 x0_1 x5_1).f3.f5)) := hcc5 8 _ rfl
     have hf5_0 : wr.frozen? ⟨go5, (x5_1 : Int).toNat * 9, none⟩ = false := hfr5 0
     have hf5_1 : wr.frozen? ⟨go5, (x5_1 : Int).toNat * 9 + 1, none⟩ = false := hfr5 1
     have hf5_2 : wr.frozen? ⟨go5, (x5_1 : Int).toNat * 9 + 2, none⟩ = false := hfr5 2
     have hf5_3 : wr.frozen? ⟨go5, (x5_1 : Int).toNat * 9 + 3, none⟩ = false := hfr5 3
     have hf5_4 : wr.frozen? ⟨go5, (x5_1 : Int).toNat * 9 + 4, none⟩ = false := hfr5 4
     have hf5_5 : wr.frozen? ⟨go5, (x5_1 : Int).toNat * 9 + 5, none⟩ = false := hfr5 5
     have hf5_6 : wr.frozen? ⟨go5, (x5_1 : Int).toNat * 9 + 6, none⟩ = false := hfr5 6
     have hf5_7 : wr.frozen? ⟨go5, (x5_1 : Int).toNat * 9 + 7, none⟩ = false := hfr5 7
     have hf5_8 : wr.frozen? ⟨go5, (x5_1 : Int).toNat * 9 + 8, none⟩ = false := hfr5 8
     clear hcl5 hcc5 hfr5 hM5
     replace p5 := eq_true p5
     replace q5 := eq_true q5
     have HX17 := Aside0.mk (show Kd.R k48 48 wr w0.heap.size (fun k_ => (P0_ k_ ∨ w.heap.size ≤ k_)) (.slice (some ⟨go5, 0, none⟩) x0_1.length co16) x0_1 from (rr_ HO_0))
     obtain ⟨ce17, hcl17, hM17, hcc17, hfr17⟩ := Kd.R_elem HX17.out z48 (x5_1 : Int) (of_decide_eq_true as_) (by have h_ : (x5_1 : Int) < ((x0_1.length : Int) : Int) := of_decide_eq_true as_; first | exact h_ | (have e_ := (Kd.R_reads' HO_0.out).1; omega) | simpa using h_)
     obtain rfl := k48_openM hM17
     have HP17 := Kd.R_seg HX17.out (x5_1 : Int) (of_decide_eq_true as_) (by have h_ : (x5_1 : Int) < ((x0_1.length : Int) : Int) := of_decide_eq_true as_; first | exact h_ | (have e_ := (Kd.R_reads' HO_0.out).1; omega) | simpa using h_) (seg := [.int .i64 x1_1]) (j := 0) hcl17 hcc17 (show 1 ≤ 9 from by decide) (x' := (⟨x1_1, (rd_T48 x0_1 x5_1).f1, (rd_T48 x0_1 x5_1).f2, (⟨(rd_T48 x0_1 x5_1).f3.f0, (rd_T48 x0_1 x5_1).f3.f1, (rd_T48 x0_1 x5_1).f3.f2, (rd_T48 x0_1 x5_1).f3.f3, (rd_T48 x0_1 x5_1).f3.f4, (rd_T48 x0_1 x5_1).f3.f5⟩ : S46)⟩ : S48)) (k48_mkM _ _ _ (⟨x1_1, (rd_T48 x0_1 x5_1).f1, (rd_T48 x0_1 x5_1).f2, (⟨(rd_T48 x0_1 x5_1).f3.f0, (rd_T48 x0_1 x5_1).f3.f1, (rd_T48 x0_1 x5_1).f3.f2, (rd_T48 x0_1 x5_1).f3.f3, (rd_T48 x0_1 x5_1).f3.f4, (rd_T48 x0_1 x5_1).f3.f5⟩ : S46)⟩ : S48) ) (fun _ hk => hk)
     have hx17_0 := hcc17 0 _ rfl
     (try simp only [show (k48).sz = 9 from rfl, Nat.mul_one, Nat.add_zero] at hx17_0)
     have hf17_0 := hfr17 0
     (try simp only [show (k48).sz = 9 from rfl, Nat.mul_one, Nat.add_zero] at hf17_0)
     clear hcl17 hcc17 hfr17 hM17
     go_wp2_with (first | ((with_reducible refine gate_store (t := 3) (p := 16) rfl ?_); refine store_event (t := 3) (p := 16) (v := ?vo_w18) (w1 := (wr.setCell ⟨go5, (x5_1 : Int).toNat * 9, none⟩ (.int .i64 x1_1))) ?hg ?ho ?hn ?hr ?_; (case ho => rfl); (case hg => rfl); (case hn => rfl); (case hr => first | (go_simp; done) | (go_simp; rfl)); intro w18 hw; have hg : wr.grownBy w18 (some go5) := (by rw [hw]; exact HP17.2); have hp_ : Kd.R k48 48 w18 w0.heap.size (fun k_ => (P0_ k_ ∨ w.heap.size ≤ k_)) (.slice (some ⟨go5, 0, none⟩) x0_1.length co16) y474 := (by rw [hw, Ny474.out]; exact HP17.1); clear HP17; replace HB := Aside0.mk ((by rw [hw]; exact below_set (HB.out) GB5.out : Below w0.heap.size w0 w18)); replace HK := Aside0.mk (Kept.of_grown (S := (fun k_ => P0_ k_)) hg (by repeat (first | (with_reducible first | exact HK.out | apply Kept.alloc | apply Kept.drewN | apply Kept.drew) | exact HK.out)) (fun k_ e_ => (HO_0.out.1 k_ e_))); replace HO_0 := Aside0.mk (hp_); clear hg hw hp_; have p6 : 0 ≤ (x5_1 : Int) := of_decide_eq_true as_; have q6 : (x5_1 : Int) < ((x0_1.length : Int) : Int) := of_decide_eq_true as_; obtain ⟨ce6, hcl6, hM6, hcc6, hfr6⟩ := Kd.R_elem HO_0.out z48 (x5_1 : Int) p6 q6; obtain rfl := k48_openM hM6; have hx6_0 : w18.cell? ⟨go5, (x5_1 : Int).toNat * 9, none⟩ = some (.int .i64 ((rd_T48 y474 x5_1).f0)) := hcc6 0 _ rfl; have hx6_1 : w18.cell? ⟨go5, (x5_1 : Int).toNat * 9 + 1, none⟩ = some (.int .i64 ((rd_T48 y474 x5_1).f1)) := hcc6 1 _ rfl; have hx6_2 : w18.cell? ⟨go5, (x5_1 : Int).toNat * 9 + 2, none⟩ = some (.int .i64 ((rd_T48 y474 x5_1).f2)) := hcc6 2 _ rfl; have hx6_3 : w18.cell? ⟨go5, (x5_1 : Int).toNat * 9 + 3, none⟩ = some (.int .i64 ((rd_T48 y474 x5_1).f3.f0)) := hcc6 3 _ rfl; have hx6_4 : w18.cell? ⟨go5, (x5_1 : Int).toNat * 9 + 4, none⟩ = some (.int .i64 ((rd_T48 y474 x5_1).f3.f1)) := hcc6 4 _ rfl; have hx6_5 : w18.cell? ⟨go5, (x5_1 : Int).toNat * 9 + 5, none⟩ = some (.string ((rd_T48 y474 x5_1).f3.f2)) := hcc6 5 _ rfl; have hx6_6 : w18.cell? ⟨go5, (x5_1 : Int).toNat * 9 + 6, none⟩ = some (.string ((rd_T48 y474 x5_1).f3.f3)) := hcc6 6 _ rfl; have hx6_7 : w18.cell? ⟨go5, (x5_1 : Int).toNat * 9 + 7, none⟩ = some (.int .i64 ((rd_T48 y474 x5_1).f3.f4)) := hcc6 7 _ rfl; have hx6_8 : w18.cell? ⟨go5, (x5_1 : Int).toNat * 9 + 8, none⟩ = some (.int .i64 ((rd_T48 y474 x5_1).f3.f5)) := hcc6 8 _ rfl; have hf6_0 : w18.frozen? ⟨go5, (x5_1 : Int).toNat * 9, none⟩ = false := hfr6 0; have hf6_1 : w18.frozen? ⟨go5, (x5_1 : Int).toNat * 9 + 1, none⟩ = false := hfr6 1; have hf6_2 : w18.frozen? ⟨go5, (x5_1 : Int).toNat * 9 + 2, none⟩ = false := hfr6 2; have hf6_3 : w18.frozen? ⟨go5, (x5_1 : Int).toNat * 9 + 3, none⟩ = false := hfr6 3; have hf6_4 : w18.frozen? ⟨go5, (x5_1 : Int).toNat * 9 + 4, none⟩ = false := hfr6 4; have hf6_5 : w18.frozen? ⟨go5, (x5_1 : Int).toNat * 9 + 5, none⟩ = false := hfr6 5; have hf6_6 : w18.frozen? ⟨go5, (x5_1 : Int).toNat * 9 + 6, none⟩ = false := hfr6 6; have hf6_7 : w18.frozen? ⟨go5, (x5_1 : Int).toNat * 9 + 7, none⟩ = false := hfr6 7; have hf6_8 : w18.frozen? ⟨go5, (x5_1 : Int).toNat * 9 + 8, none⟩ = false := hfr6 8; clear hcl6 hcc6 hfr6 hM6; replace p6 := eq_true p6; replace q6 := eq_true q6; have HX19 := Aside0.mk (show Kd.R k48 48 w18 w0.heap.size (fun k_ => (P0_ k_ ∨ w.heap.size ≤ k_)) (.slice (some ⟨go5, 0, none⟩) x0_1.length co16) y474 from (rr_ HO_0)); obtain ⟨ce19, hcl19, hM19, hcc19, hfr19⟩ := Kd.R_elem HX19.out z48 (x5_1 : Int) (of_decide_eq_true as_) (by have h_ : (x5_1 : Int) < ((x0_1.length : Int) : Int) := of_decide_eq_true as_; first | exact h_ | (have e_ := (Kd.R_reads' HO_0.out).1; omega) | simpa using h_); obtain rfl := k48_openM hM19; have HP19 := Kd.R_seg HX19.out (x5_1 : Int) (of_decide_eq_true as_) (by have h_ : (x5_1 : Int) < ((x0_1.length : Int) : Int) := of_decide_eq_true as_; first | exact h_ | (have e_ := (Kd.R_reads' HO_0.out).1; omega) | simpa using h_) (seg := [.int .i64 (wrap64 (x1_1 + 1))]) (j := 1) hcl19 hcc19 (show 2 ≤ 9 from by decide) (x' := (⟨(rd_T48 y474 x5_1).f0, wrap64 (x1_1 + 1), (rd_T48 y474 x5_1).f2, (⟨(rd_T48 y474 x5_1).f3.f0, (rd_T48 y474 x5_1).f3.f1, (rd_T48 y474 x5_1).f3.f2, (rd_T48 y474 x5_1).f3.f3, (rd_T48 y474 x5_1).f3.f4, (rd_T48 y474 x5_1).f3.f5⟩ : S46)⟩ : S48)) (k48_mkM _ _ _ (⟨(rd_T48 y474 x5_1).f0, wrap64 (x1_1 + 1), (rd_T48 y474 x5_1).f2, (⟨(rd_T48 y474 x5_1).f3.f0, (rd_T48 y474 x5_1).f3.f1, (rd_T48 y474 x5_1).f3.f2, (rd_T48 y474 x5_1).f3.f3, (rd_T48 y474 x5_1).f3.f4, (rd_T48 y474 x5_1).f3.f5⟩ : S46)⟩ : S48) ) (fun _ hk => hk); have hx19_1 := hcc19 1 _ rfl; (try simp only [show (k48).sz = 9 from rfl, Nat.mul_one, Nat.add_zero] at hx19_1); have hf19_1 := hfr19 1; (try simp only [show (k48).sz = 9 from rfl, Nat.mul_one, Nat.add_zero] at hf19_1); clear hcl19 hcc19 hfr19 hM19) | ((with_reducible refine gate_store (t := 3) (p := 23) rfl ?_); refine store_event (t := 3) (p := 23) (v := ?vo_w20) (w1 := (w18.setCell ⟨go5, (x5_1 : Int).toNat * 9 + 1, none⟩ (.int .i64 (wrap64 (x1_1 + 1))))) ?hg ?ho ?hn ?hr ?_; (case ho => rfl); (case hg => rfl); (case hn => rfl); (case hr => first | (go_simp; done) | (go_simp; rfl)); intro w20 hw; have hg : w18.grownBy w20 (some go5) := (by rw [hw]; exact HP19.2); have hp_ : Kd.R k48 48 w20 w0.heap.size (fun k_ => (P0_ k_ ∨ w.heap.size ≤ k_)) (.slice (some ⟨go5, 0, none⟩) x0_1.length co16) y475 := (by rw [hw, Ny475.out]; exact HP19.1); clear HP19; replace HB := Aside0.mk ((by rw [hw]; exact below_set (HB.out) GB5.out : Below w0.heap.size w0 w20)); replace HK := Aside0.mk (Kept.of_grown (S := (fun k_ => P0_ k_)) hg (by repeat (first | (with_reducible first | exact HK.out | apply Kept.alloc | apply Kept.drewN | apply Kept.drew) | exact HK.out)) (fun k_ e_ => (HO_0.out.1 k_ e_))); replace HO_0 := Aside0.mk (hp_); clear hg hw hp_; have p7 : 0 ≤ (x5_1 : Int) := of_decide_eq_true as_; have q7 : (x5_1 : Int) < ((x0_1.length : Int) : Int) := of_decide_eq_true as_; obtain ⟨ce7, hcl7, hM7, hcc7, hfr7⟩ := Kd.R_elem HO_0.out z48 (x5_1 : Int) p7 q7; obtain rfl := k48_openM hM7; have hx7_0 : w20.cell? ⟨go5, (x5_1 : Int).toNat * 9, none⟩ = some (.int .i64 ((rd_T48 y475 x5_1).f0)) := hcc7 0 _ rfl; have hx7_1 : w20.cell? ⟨go5, (x5_1 : Int).toNat * 9 + 1, none⟩ = some (.int .i64 ((rd_T48 y475 x5_1).f1)) := hcc7 1 _ rfl; have hx7_2 : w20.cell? ⟨go5, (x5_1 : Int).toNat * 9 + 2, none⟩ = some (.int .i64 ((rd_T48 y475 x5_1).f2)) := hcc7 2 _ rfl; have hx7_3 : w20.cell? ⟨go5, (x5_1 : Int).toNat * 9 + 3, none⟩ = some (.int .i64 ((rd_T48 y475 x5_1).f3.f0)) := hcc7 3 _ rfl; have hx7_4 : w20.cell? ⟨go5, (x5_1 : Int).toNat * 9 + 4, none⟩ = some (.int .i64 ((rd_T48 y475 x5_1).f3.f1)) := hcc7 4 _ rfl; have hx7_5 : w20.cell? ⟨go5, (x5_1 : Int).toNat * 9 + 5, none⟩ = some (.string ((rd_T48 y475 x5_1).f3.f2)) := hcc7 5 _ rfl; have hx7_6 : w20.cell? ⟨go5, (x5_1 : Int).toNat * 9 + 6, none⟩ = some (.string ((rd_T48 y475 x5_1).f3.f3)) := hcc7 6 _ rfl; have hx7_7 : w20.cell? ⟨go5, (x5_1 : Int).toNat * 9 + 7, none⟩ = some (.int .i64 ((rd_T48 y475 x5_1).f3.f4)) := hcc7 7 _ rfl; have hx7_8 : w20.cell? ⟨go5, (x5_1 : Int).toNat * 9 + 8, none⟩ = some (.int .i64 ((rd_T48 y475 x5_1).f3.f5)) := hcc7 8 _ rfl; have hf7_0 : w20.frozen? ⟨go5, (x5_1 : Int).toNat * 9, none⟩ = false := hfr7 0; have hf7_1 : w20.frozen? ⟨go5, (x5_1 : Int).toNat * 9 + 1, none⟩ = false := hfr7 1; have hf7_2 : w20.frozen? ⟨go5, (x5_1 : Int).toNat * 9 + 2, none⟩ = false := hfr7 2; have hf7_3 : w20.frozen? ⟨go5, (x5_1 : Int).toNat * 9 + 3, none⟩ = false := hfr7 3; have hf7_4 : w20.frozen? ⟨go5, (x5_1 : Int).toNat * 9 + 4, none⟩ = false := hfr7 4; have hf7_5 : w20.frozen? ⟨go5, (x5_1 : Int).toNat * 9 + 5, none⟩ = false := hfr7 5; have hf7_6 : w20.frozen? ⟨go5, (x5_1 : Int).toNat * 9 + 6, none⟩ = false := hfr7 6; have hf7_7 : w20.frozen? ⟨go5, (x5_1 : Int).toNat * 9 + 7, none⟩ = false := hfr7 7; have hf7_8 : w20.frozen? ⟨go5, (x5_1 : Int).toNat * 9 + 8, none⟩ = false := hfr7 8; clear hcl7 hcc7 hfr7 hM7; replace p7 := eq_true p7; replace q7 := eq_true q7; have HX21 := Aside0.mk (show Kd.R k48 48 w20 w0.heap.size (fun k_ => (P0_ k_ ∨ w.heap.size ≤ k_)) (.slice (some ⟨go5, 0, none⟩) x0_1.length co16) y475 from (rr_ HO_0)); obtain ⟨ce21, hcl21, hM21, hcc21, hfr21⟩ := Kd.R_elem HX21.out z48 (x5_1 : Int) (of_decide_eq_true as_) (by have h_ : (x5_1 : Int) < ((x0_1.length : Int) : Int) := of_decide_eq_true as_; first | exact h_ | (have e_ := (Kd.R_reads' HO_0.out).1; omega) | simpa using h_); obtain rfl := k48_openM hM21; have HP21 := Kd.R_seg HX21.out (x5_1 : Int) (of_decide_eq_true as_) (by have h_ : (x5_1 : Int) < ((x0_1.length : Int) : Int) := of_decide_eq_true as_; first | exact h_ | (have e_ := (Kd.R_reads' HO_0.out).1; omega) | simpa using h_) (seg := [.int .i64 (wrap64 ((wrap64 (x1_1 + 1)) + 1))]) (j := 2) hcl21 hcc21 (show 3 ≤ 9 from by decide) (x' := (⟨(rd_T48 y475 x5_1).f0, (rd_T48 y475 x5_1).f1, wrap64 ((wrap64 (x1_1 + 1)) + 1), (⟨(rd_T48 y475 x5_1).f3.f0, (rd_T48 y475 x5_1).f3.f1, (rd_T48 y475 x5_1).f3.f2, (rd_T48 y475 x5_1).f3.f3, (rd_T48 y475 x5_1).f3.f4, (rd_T48 y475 x5_1).f3.f5⟩ : S46)⟩ : S48)) (k48_mkM _ _ _ (⟨(rd_T48 y475 x5_1).f0, (rd_T48 y475 x5_1).f1, wrap64 ((wrap64 (x1_1 + 1)) + 1), (⟨(rd_T48 y475 x5_1).f3.f0, (rd_T48 y475 x5_1).f3.f1, (rd_T48 y475 x5_1).f3.f2, (rd_T48 y475 x5_1).f3.f3, (rd_T48 y475 x5_1).f3.f4, (rd_T48 y475 x5_1).f3.f5⟩ : S46)⟩ : S48) ) (fun _ hk => hk); have hx21_2 := hcc21 2 _ rfl; (try simp only [show (k48).sz = 9 from rfl, Nat.mul_one, Nat.add_zero] at hx21_2); have hf21_2 := hfr21 2; (try simp only [show (k48).sz = 9 from rfl, Nat.mul_one, Nat.add_zero] at hf21_2); clear hcl21 hcc21 hfr21 hM21) | ((with_reducible refine gate_store (t := 3) (p := 30) rfl ?_); refine store_event (t := 3) (p := 30) (v := ?vo_w22) (w1 := (w20.setCell ⟨go5, (x5_1 : Int).toNat * 9 + 2, none⟩ (.int .i64 (wrap64 ((wrap64 (x1_1 + 1)) + 1))))) ?hg ?ho ?hn ?hr ?_; (case ho => rfl); (case hg => rfl); (case hn => rfl); (case hr => first | (go_simp; done) | (go_simp; rfl)); intro w22 hw; have hg : w20.grownBy w22 (some go5) := (by rw [hw]; exact HP21.2); have hp_ : Kd.R k48 48 w22 w0.heap.size (fun k_ => (P0_ k_ ∨ w.heap.size ≤ k_)) (.slice (some ⟨go5, 0, none⟩) x0_1.length co16) y476 := (by rw [hw, Ny476.out]; exact HP21.1); clear HP21; replace HB := Aside0.mk ((by rw [hw]; exact below_set (HB.out) GB5.out : Below w0.heap.size w0 w22)); replace HK := Aside0.mk (Kept.of_grown (S := (fun k_ => P0_ k_)) hg (by repeat (first | (with_reducible first | exact HK.out | apply Kept.alloc | apply Kept.drewN | apply Kept.drew) | exact HK.out)) (fun k_ e_ => (HO_0.out.1 k_ e_))); replace HO_0 := Aside0.mk (hp_); clear hg hw hp_; have p8 : 0 ≤ (x5_1 : Int) := of_decide_eq_true as_; have q8 : (x5_1 : Int) < ((x0_1.length : Int) : Int) := of_decide_eq_true as_; obtain ⟨ce8, hcl8, hM8, hcc8, hfr8⟩ := Kd.R_elem HO_0.out z48 (x5_1 : Int) p8 q8; obtain rfl := k48_openM hM8; have hx8_0 : w22.cell? ⟨go5, (x5_1 : Int).toNat * 9, none⟩ = some (.int .i64 ((rd_T48 y476 x5_1).f0)) := hcc8 0 _ rfl; have hx8_1 : w22.cell? ⟨go5, (x5_1 : Int).toNat * 9 + 1, none⟩ = some (.int .i64 ((rd_T48 y476 x5_1).f1)) := hcc8 1 _ rfl; have hx8_2 : w22.cell? ⟨go5, (x5_1 : Int).toNat * 9 + 2, none⟩ = some (.int .i64 ((rd_T48 y476 x5_1).f2)) := hcc8 2 _ rfl; have hx8_3 : w22.cell? ⟨go5, (x5_1 : Int).toNat * 9 + 3, none⟩ = some (.int .i64 ((rd_T48 y476 x5_1).f3.f0)) := hcc8 3 _ rfl; have hx8_4 : w22.cell? ⟨go5, (x5_1 : Int).toNat * 9 + 4, none⟩ = some (.int .i64 ((rd_T48 y476 x5_1).f3.f1)) := hcc8 4 _ rfl; have hx8_5 : w22.cell? ⟨go5, (x5_1 : Int).toNat * 9 + 5, none⟩ = some (.string ((rd_T48 y476 x5_1).f3.f2)) := hcc8 5 _ rfl; have hx8_6 : w22.cell? ⟨go5, (x5_1 : Int).toNat * 9 + 6, none⟩ = some (.string ((rd_T48 y476 x5_1).f3.f3)) := hcc8 6 _ rfl; have hx8_7 : w22.cell? ⟨go5, (x5_1 : Int).toNat * 9 + 7, none⟩ = some (.int .i64 ((rd_T48 y476 x5_1).f3.f4)) := hcc8 7 _ rfl; have hx8_8 : w22.cell? ⟨go5, (x5_1 : Int).toNat * 9 + 8, none⟩ = some (.int .i64 ((rd_T48 y476 x5_1).f3.f5)) := hcc8 8 _ rfl; have hf8_0 : w22.frozen? ⟨go5, (x5_1 : Int).toNat * 9, none⟩ = false := hfr8 0; have hf8_1 : w22.frozen? ⟨go5, (x5_1 : Int).toNat * 9 + 1, none⟩ = false := hfr8 1; have hf8_2 : w22.frozen? ⟨go5, (x5_1 : Int).toNat * 9 + 2, none⟩ = false := hfr8 2; have hf8_3 : w22.frozen? ⟨go5, (x5_1 : Int).toNat * 9 + 3, none⟩ = false := hfr8 3; have hf8_4 : w22.frozen? ⟨go5, (x5_1 : Int).toNat * 9 + 4, none⟩ = false := hfr8 4; have hf8_5 : w22.frozen? ⟨go5, (x5_1 : Int).toNat * 9 + 5, none⟩ = false := hfr8 5; have hf8_6 : w22.frozen? ⟨go5, (x5_1 : Int).toNat * 9 + 6, none⟩ = false := hfr8 6; have hf8_7 : w22.frozen? ⟨go5, (x5_1 : Int).toNat * 9 + 7, none⟩ = false := hfr8 7; have hf8_8 : w22.frozen? ⟨go5, (x5_1 : Int).toNat * 9 + 8, none⟩ = false := hfr8 8; clear hcl8 hcc8 hfr8 hM8; replace p8 := eq_true p8; replace q8 := eq_true q8; have HX23 := Aside0.mk (show Kd.R k48 48 w22 w0.heap.size (fun k_ => (P0_ k_ ∨ w.heap.size ≤ k_)) (.slice (some ⟨go5, 0, none⟩) x0_1.length co16) y476 from (rr_ HO_0)); obtain ⟨ce23, hcl23, hM23, hcc23, hfr23⟩ := Kd.R_elem HX23.out z48 (x5_1 : Int) (of_decide_eq_true as_) (by have h_ : (x5_1 : Int) < ((x0_1.length : Int) : Int) := of_decide_eq_true as_; first | exact h_ | (have e_ := (Kd.R_reads' HO_0.out).1; omega) | simpa using h_); obtain rfl := k48_openM hM23; have HP23 := Kd.R_seg HX23.out (x5_1 : Int) (of_decide_eq_true as_) (by have h_ : (x5_1 : Int) < ((x0_1.length : Int) : Int) := of_decide_eq_true as_; first | exact h_ | (have e_ := (Kd.R_reads' HO_0.out).1; omega) | simpa using h_) (seg := [.int .i64 (wrap64 ((wrap64 ((wrap64 (x1_1 + 1)) + 1)) + 1))]) (j := 3) hcl23 hcc23 (show 4 ≤ 9 from by decide) (x' := (⟨(rd_T48 y476 x5_1).f0, (rd_T48 y476 x5_1).f1, (rd_T48 y476 x5_1).f2, (⟨wrap64 ((wrap64 ((wrap64 (x1_1 + 1)) + 1)) + 1), (rd_T48 y476 x5_1).f3.f1, (rd_T48 y476 x5_1).f3.f2, (rd_T48 y476 x5_1).f3.f3, (rd_T48 y476 x5_1).f3.f4, (rd_T48 y476 x5_1).f3.f5⟩ : S46)⟩ : S48)) (k48_mkM _ _ _ (⟨(rd_T48 y476 x5_1).f0, (rd_T48 y476 x5_1).f1, (rd_T48 y476 x5_1).f2, (⟨wrap64 ((wrap64 ((wrap64 (x1_1 + 1)) + 1)) + 1), (rd_T48 y476 x5_1).f3.f1, (rd_T48 y476 x5_1).f3.f2, (rd_T48 y476 x5_1).f3.f3, (rd_T48 y476 x5_1).f3.f4, (rd_T48 y476 x5_1).f3.f5⟩ : S46)⟩ : S48) ) (fun _ hk => hk); have hx23_3 := hcc23 3 _ rfl; (try simp only [show (k48).sz = 9 from rfl, Nat.mul_one, Nat.add_zero] at hx23_3); have hf23_3 := hfr23 3; (try simp only [show (k48).sz = 9 from rfl, Nat.mul_one, Nat.add_zero] at hf23_3); clear hcl23 hcc23 hfr23 hM23) | ((with_reducible refine gate_store (t := 3) (p := 38) rfl ?_); refine store_event (t := 3) (p := 38) (v := ?vo_w24) (w1 := (w22.setCell ⟨go5, (x5_1 : Int).toNat * 9 + 3, none⟩ (.int .i64 (wrap64 ((wrap64 ((wrap64 (x1_1 + 1)) + 1)) + 1))))) ?hg ?ho ?hn ?hr ?_; (case ho => rfl); (case hg => rfl); (case hn => rfl); (case hr => first | (go_simp; done) | (go_simp; rfl)); intro w24 hw; have hg : w22.grownBy w24 (some go5) := (by rw [hw]; exact HP23.2); have hp_ : Kd.R k48 48 w24 w0.heap.size (fun k_ => (P0_ k_ ∨ w.heap.size ≤ k_)) (.slice (some ⟨go5, 0, none⟩) x0_1.length co16) y477 := (by rw [hw, Ny477.out]; exact HP23.1); clear HP23; replace HB := Aside0.mk ((by rw [hw]; exact below_set (HB.out) GB5.out : Below w0.heap.size w0 w24)); replace HK := Aside0.mk (Kept.of_grown (S := (fun k_ => P0_ k_)) hg (by repeat (first | (with_reducible first | exact HK.out | apply Kept.alloc | apply Kept.drewN | apply Kept.drew) | exact HK.out)) (fun k_ e_ => (HO_0.out.1 k_ e_))); replace HO_0 := Aside0.mk (hp_); clear hg hw hp_; have p9 : 0 ≤ (x5_1 : Int) := of_decide_eq_true as_; have q9 : (x5_1 : Int) < ((x0_1.length : Int) : Int) := of_decide_eq_true as_; obtain ⟨ce9, hcl9, hM9, hcc9, hfr9⟩ := Kd.R_elem HO_0.out z48 (x5_1 : Int) p9 q9; obtain rfl := k48_openM hM9; have hx9_0 : w24.cell? ⟨go5, (x5_1 : Int).toNat * 9, none⟩ = some (.int .i64 ((rd_T48 y477 x5_1).f0)) := hcc9 0 _ rfl; have hx9_1 : w24.cell? ⟨go5, (x5_1 : Int).toNat * 9 + 1, none⟩ = some (.int .i64 ((rd_T48 y477 x5_1).f1)) := hcc9 1 _ rfl; have hx9_2 : w24.cell? ⟨go5, (x5_1 : Int).toNat * 9 + 2, none⟩ = some (.int .i64 ((rd_T48 y477 x5_1).f2)) := hcc9 2 _ rfl; have hx9_3 : w24.cell? ⟨go5, (x5_1 : Int).toNat * 9 + 3, none⟩ = some (.int .i64 ((rd_T48 y477 x5_1).f3.f0)) := hcc9 3 _ rfl; have hx9_4 : w24.cell? ⟨go5, (x5_1 : Int).toNat * 9 + 4, none⟩ = some (.int .i64 ((rd_T48 y477 x5_1).f3.f1)) := hcc9 4 _ rfl; have hx9_5 : w24.cell? ⟨go5, (x5_1 : Int).toNat * 9 + 5, none⟩ = some (.string ((rd_T48 y477 x5_1).f3.f2)) := hcc9 5 _ rfl; have hx9_6 : w24.cell? ⟨go5, (x5_1 : Int).toNat * 9 + 6, none⟩ = some (.string ((rd_T48 y477 x5_1).f3.f3)) := hcc9 6 _ rfl; have hx9_7 : w24.cell? ⟨go5, (x5_1 : Int).toNat * 9 + 7, none⟩ = some (.int .i64 ((rd_T48 y477 x5_1).f3.f4)) := hcc9 7 _ rfl; have hx9_8 : w24.cell? ⟨go5, (x5_1 : Int).toNat * 9 + 8, none⟩ = some (.int .i64 ((rd_T48 y477 x5_1).f3.f5)) := hcc9 8 _ rfl; have hf9_0 : w24.frozen? ⟨go5, (x5_1 : Int).toNat * 9, none⟩ = false := hfr9 0; have hf9_1 : w24.frozen? ⟨go5, (x5_1 : Int).toNat * 9 + 1, none⟩ = false := hfr9 1; have hf9_2 : w24.frozen? ⟨go5, (x5_1 : Int).toNat * 9 + 2, none⟩ = false := hfr9 2; have hf9_3 : w24.frozen? ⟨go5, (x5_1 : Int).toNat * 9 + 3, none⟩ = false := hfr9 3; have hf9_4 : w24.frozen? ⟨go5, (x5_1 : Int).toNat * 9 + 4, none⟩ = false := hfr9 4; have hf9_5 : w24.frozen? ⟨go5, (x5_1 : Int).toNat * 9 + 5, none⟩ = false := hfr9 5; have hf9_6 : w24.frozen? ⟨go5, (x5_1 : Int).toNat * 9 + 6, none⟩ = false := hfr9 6; have hf9_7 : w24.frozen? ⟨go5, (x5_1 : Int).toNat * 9 + 7, none⟩ = false := hfr9 7; have hf9_8 : w24.frozen? ⟨go5, (x5_1 : Int).toNat * 9 + 8, none⟩ = false := hfr9 8; clear hcl9 hcc9 hfr9 hM9; replace p9 := eq_true p9; replace q9 := eq_true q9; have HX25 := Aside0.mk (show Kd.R k48 48 w24 w0.heap.size (fun k_ => (P0_ k_ ∨ w.heap.size ≤ k_)) (.slice (some ⟨go5, 0, none⟩) x0_1.length co16) y477 from (rr_ HO_0)); obtain ⟨ce25, hcl25, hM25, hcc25, hfr25⟩ := Kd.R_elem HX25.out z48 (x5_1 : Int) (of_decide_eq_true as_) (by have h_ : (x5_1 : Int) < ((x0_1.length : Int) : Int) := of_decide_eq_true as_; first | exact h_ | (have e_ := (Kd.R_reads' HO_0.out).1; omega) | simpa using h_); obtain rfl := k48_openM hM25; have HP25 := Kd.R_seg HX25.out (x5_1 : Int) (of_decide_eq_true as_) (by have h_ : (x5_1 : Int) < ((x0_1.length : Int) : Int) := of_decide_eq_true as_; first | exact h_ | (have e_ := (Kd.R_reads' HO_0.out).1; omega) | simpa using h_) (seg := [.int .i64 (wrap64 ((wrap64 ((wrap64 ((wrap64 (x1_1 + 1)) + 1)) + 1)) + 1))]) (j := 4) hcl25 hcc25 (show 5 ≤ 9 from by decide) (x' := (⟨(rd_T48 y477 x5_1).f0, (rd_T48 y477 x5_1).f1, (rd_T48 y477 x5_1).f2, (⟨(rd_T48 y477 x5_1).f3.f0, wrap64 ((wrap64 ((wrap64 ((wrap64 (x1_1 + 1)) + 1)) + 1)) + 1), (rd_T48 y477 x5_1).f3.f2, (rd_T48 y477 x5_1).f3.f3, (rd_T48 y477 x5_1).f3.f4, (rd_T48 y477 x5_1).f3.f5⟩ : S46)⟩ : S48)) (k48_mkM _ _ _ (⟨(rd_T48 y477 x5_1).f0, (rd_T48 y477 x5_1).f1, (rd_T48 y477 x5_1).f2, (⟨(rd_T48 y477 x5_1).f3.f0, wrap64 ((wrap64 ((wrap64 ((wrap64 (x1_1 + 1)) + 1)) + 1)) + 1), (rd_T48 y477 x5_1).f3.f2, (rd_T48 y477 x5_1).f3.f3, (rd_T48 y477 x5_1).f3.f4, (rd_T48 y477 x5_1).f3.f5⟩ : S46)⟩ : S48) ) (fun _ hk => hk); have hx25_4 := hcc25 4 _ rfl; (try simp only [show (k48).sz = 9 from rfl, Nat.mul_one, Nat.add_zero] at hx25_4); have hf25_4 := hfr25 4; (try simp only [show (k48).sz = 9 from rfl, Nat.mul_one, Nat.add_zero] at hf25_4); clear hcl25 hcc25 hfr25 hM25) | ((with_reducible refine gate_store (t := 3) (p := 46) rfl ?_); refine store_event (t := 3) (p := 46) (v := ?vo_w26) (w1 := (w24.setCell ⟨go5, (x5_1 : Int).toNat * 9 + 4, none⟩ (.int .i64 (wrap64 ((wrap64 ((wrap64 ((wrap64 (x1_1 + 1)) + 1)) + 1)) + 1))))) ?hg ?ho ?hn ?hr ?_; (case ho => rfl); (case hg => rfl); (case hn => rfl); (case hr => first | (go_simp; done) | (go_simp; rfl)); intro w26 hw; have hg : w24.grownBy w26 (some go5) := (by rw [hw]; exact HP25.2); have hp_ : Kd.R k48 48 w26 w0.heap.size (fun k_ => (P0_ k_ ∨ w.heap.size ≤ k_)) (.slice (some ⟨go5, 0, none⟩) x0_1.length co16) y478 := (by rw [hw, Ny478.out]; exact HP25.1); clear HP25; replace HB := Aside0.mk ((by rw [hw]; exact below_set (HB.out) GB5.out : Below w0.heap.size w0 w26)); replace HK := Aside0.mk (Kept.of_grown (S := (fun k_ => P0_ k_)) hg (by repeat (first | (with_reducible first | exact HK.out | apply Kept.alloc | apply Kept.drewN | apply Kept.drew) | exact HK.out)) (fun k_ e_ => (HO_0.out.1 k_ e_))); replace HO_0 := Aside0.mk (hp_); clear hg hw hp_) | ((with_reducible refine gate_callee (f := 30) rfl ?_); refine goesL_ (some 52) rfl rfl Try.func30 (by kernel_rfl) rfl #[.int .i64 (wrap64 ((wrap64 ((wrap64 ((wrap64 ((wrap64 (x1_1 + 1)) + 1)) + 1)) + 1)) + 1))] rfl ar_ ?_; (with_reducible refine (laws_markText.calls k1 (wrap64 ((wrap64 ((wrap64 ((wrap64 ((wrap64 (x1_1 + 1)) + 1)) + 1)) + 1)) + 1)) t479 _ A10.out).mono ?_); rintro e w27 ⟨rfl, hb⟩; refine ⟨_, rfl, ?_⟩; replace HO_0 := rb_ HO_0 hb; replace HK := Aside0.mk (Kept.below (S := (fun k_ => P0_ k_)) (by repeat (first | (with_reducible first | exact HK.out | apply Kept.alloc | apply Kept.drewN | apply Kept.drew) | exact HK.out)) hb); replace HB := bs_ HB hb; (try clear hb); (try clear hb2); (try clear hk); (try clear hi); have p11 : 0 ≤ (x5_1 : Int) := of_decide_eq_true as_; have q11 : (x5_1 : Int) < ((x0_1.length : Int) : Int) := of_decide_eq_true as_; obtain ⟨ce11, hcl11, hM11, hcc11, hfr11⟩ := Kd.R_elem HO_0.out z48 (x5_1 : Int) p11 q11; obtain rfl := k48_openM hM11; have hx11_0 : w27.cell? ⟨go5, (x5_1 : Int).toNat * 9, none⟩ = some (.int .i64 ((rd_T48 y478 x5_1).f0)) := hcc11 0 _ rfl; have hx11_1 : w27.cell? ⟨go5, (x5_1 : Int).toNat * 9 + 1, none⟩ = some (.int .i64 ((rd_T48 y478 x5_1).f1)) := hcc11 1 _ rfl; have hx11_2 : w27.cell? ⟨go5, (x5_1 : Int).toNat * 9 + 2, none⟩ = some (.int .i64 ((rd_T48 y478 x5_1).f2)) := hcc11 2 _ rfl; have hx11_3 : w27.cell? ⟨go5, (x5_1 : Int).toNat * 9 + 3, none⟩ = some (.int .i64 ((rd_T48 y478 x5_1).f3.f0)) := hcc11 3 _ rfl; have hx11_4 : w27.cell? ⟨go5, (x5_1 : Int).toNat * 9 + 4, none⟩ = some (.int .i64 ((rd_T48 y478 x5_1).f3.f1)) := hcc11 4 _ rfl; have hx11_5 : w27.cell? ⟨go5, (x5_1 : Int).toNat * 9 + 5, none⟩ = some (.string ((rd_T48 y478 x5_1).f3.f2)) := hcc11 5 _ rfl; have hx11_6 : w27.cell? ⟨go5, (x5_1 : Int).toNat * 9 + 6, none⟩ = some (.string ((rd_T48 y478 x5_1).f3.f3)) := hcc11 6 _ rfl; have hx11_7 : w27.cell? ⟨go5, (x5_1 : Int).toNat * 9 + 7, none⟩ = some (.int .i64 ((rd_T48 y478 x5_1).f3.f4)) := hcc11 7 _ rfl; have hx11_8 : w27.cell? ⟨go5, (x5_1 : Int).toNat * 9 + 8, none⟩ = some (.int .i64 ((rd_T48 y478 x5_1).f3.f5)) := hcc11 8 _ rfl; have hf11_0 : w27.frozen? ⟨go5, (x5_1 : Int).toNat * 9, none⟩ = false := hfr11 0; have hf11_1 : w27.frozen? ⟨go5, (x5_1 : Int).toNat * 9 + 1, none⟩ = false := hfr11 1; have hf11_2 : w27.frozen? ⟨go5, (x5_1 : Int).toNat * 9 + 2, none⟩ = false := hfr11 2; have hf11_3 : w27.frozen? ⟨go5, (x5_1 : Int).toNat * 9 + 3, none⟩ = false := hfr11 3; have hf11_4 : w27.frozen? ⟨go5, (x5_1 : Int).toNat * 9 + 4, none⟩ = false := hfr11 4; have hf11_5 : w27.frozen? ⟨go5, (x5_1 : Int).toNat * 9 + 5, none⟩ = false := hfr11 5; have hf11_6 : w27.frozen? ⟨go5, (x5_1 : Int).toNat * 9 + 6, none⟩ = false := hfr11 6; have hf11_7 : w27.frozen? ⟨go5, (x5_1 : Int).toNat * 9 + 7, none⟩ = false := hfr11 7; have hf11_8 : w27.frozen? ⟨go5, (x5_1 : Int).toNat * 9 + 8, none⟩ = false := hfr11 8; clear hcl11 hcc11 hfr11 hM11; replace p11 := eq_true p11; replace q11 := eq_true q11; have HX28 := Aside0.mk (show Kd.R k48 48 w27 w0.heap.size (fun k_ => (P0_ k_ ∨ w.heap.size ≤ k_)) (.slice (some ⟨go5, 0, none⟩) x0_1.length co16) y478 from (rr_ HO_0)); obtain ⟨ce28, hcl28, hM28, hcc28, hfr28⟩ := Kd.R_elem HX28.out z48 (x5_1 : Int) (of_decide_eq_true as_) (by have h_ : (x5_1 : Int) < ((x0_1.length : Int) : Int) := of_decide_eq_true as_; first | exact h_ | (have e_ := (Kd.R_reads' HO_0.out).1; omega) | simpa using h_); obtain rfl := k48_openM hM28; have HP28 := Kd.R_seg HX28.out (x5_1 : Int) (of_decide_eq_true as_) (by have h_ : (x5_1 : Int) < ((x0_1.length : Int) : Int) := of_decide_eq_true as_; first | exact h_ | (have e_ := (Kd.R_reads' HO_0.out).1; omega) | simpa using h_) (seg := [.string t479]) (j := 5) hcl28 hcc28 (show 6 ≤ 9 from by decide) (x' := (⟨(rd_T48 y478 x5_1).f0, (rd_T48 y478 x5_1).f1, (rd_T48 y478 x5_1).f2, (⟨(rd_T48 y478 x5_1).f3.f0, (rd_T48 y478 x5_1).f3.f1, t479, (rd_T48 y478 x5_1).f3.f3, (rd_T48 y478 x5_1).f3.f4, (rd_T48 y478 x5_1).f3.f5⟩ : S46)⟩ : S48)) (k48_mkM _ _ _ (⟨(rd_T48 y478 x5_1).f0, (rd_T48 y478 x5_1).f1, (rd_T48 y478 x5_1).f2, (⟨(rd_T48 y478 x5_1).f3.f0, (rd_T48 y478 x5_1).f3.f1, t479, (rd_T48 y478 x5_1).f3.f3, (rd_T48 y478 x5_1).f3.f4, (rd_T48 y478 x5_1).f3.f5⟩ : S46)⟩ : S48) ) (fun _ hk => hk); have hx28_5 := hcc28 5 _ rfl; (try simp only [show (k48).sz = 9 from rfl, Nat.mul_one, Nat.add_zero] at hx28_5); have hf28_5 := hfr28 5; (try simp only [show (k48).sz = 9 from rfl, Nat.mul_one, Nat.add_zero] at hf28_5); clear hcl28 hcc28 hfr28 hM28) | ((with_reducible refine gate_store (t := 9) (p := 55) rfl ?_); refine store_event (t := 9) (p := 55) (v := ?vo_w29) (w1 := (w27.setCell ⟨go5, (x5_1 : Int).toNat * 9 + 5, none⟩ (.string t479))) ?hg ?ho ?hn ?hr ?_; (case ho => rfl); (case hg => rfl); (case hn => rfl); (case hr => first | (go_simp; done) | (go_simp; rfl)); intro w29 hw; have hg : w27.grownBy w29 (some go5) := (by rw [hw]; exact HP28.2); have hp_ : Kd.R k48 48 w29 w0.heap.size (fun k_ => (P0_ k_ ∨ w.heap.size ≤ k_)) (.slice (some ⟨go5, 0, none⟩) x0_1.length co16) y480 := (by rw [hw, Ny480.out]; exact HP28.1); clear HP28; replace HB := Aside0.mk ((by rw [hw]; exact below_set (HB.out) GB5.out : Below w0.heap.size w0 w29)); replace HK := Aside0.mk (Kept.of_grown (S := (fun k_ => P0_ k_)) hg (by repeat (first | (with_reducible first | exact HK.out | apply Kept.alloc | apply Kept.drewN | apply Kept.drew) | exact HK.out)) (fun k_ e_ => (HO_0.out.1 k_ e_))); replace HO_0 := Aside0.mk (hp_); clear hg hw hp_) | ((with_reducible refine gate_callee (f := 30) rfl ?_); refine goesL_ (some 61) rfl rfl Try.func30 (by kernel_rfl) rfl #[.int .i64 (wrap64 ((wrap64 ((wrap64 ((wrap64 ((wrap64 ((wrap64 (x1_1 + 1)) + 1)) + 1)) + 1)) + 1)) + 1))] rfl ar_ ?_; (with_reducible refine (laws_markText.calls k1 (wrap64 ((wrap64 ((wrap64 ((wrap64 ((wrap64 ((wrap64 (x1_1 + 1)) + 1)) + 1)) + 1)) + 1)) + 1)) t481 _ A12.out).mono ?_); rintro e w30 ⟨rfl, hb⟩; refine ⟨_, rfl, ?_⟩; replace HO_0 := rb_ HO_0 hb; replace HK := Aside0.mk (Kept.below (S := (fun k_ => P0_ k_)) (by repeat (first | (with_reducible first | exact HK.out | apply Kept.alloc | apply Kept.drewN | apply Kept.drew) | exact HK.out)) hb); replace HB := bs_ HB hb; (try clear hb); (try clear hb2); (try clear hk); (try clear hi); have p13 : 0 ≤ (x5_1 : Int) := of_decide_eq_true as_; have q13 : (x5_1 : Int) < ((x0_1.length : Int) : Int) := of_decide_eq_true as_; obtain ⟨ce13, hcl13, hM13, hcc13, hfr13⟩ := Kd.R_elem HO_0.out z48 (x5_1 : Int) p13 q13; obtain rfl := k48_openM hM13; have hx13_0 : w30.cell? ⟨go5, (x5_1 : Int).toNat * 9, none⟩ = some (.int .i64 ((rd_T48 y480 x5_1).f0)) := hcc13 0 _ rfl; have hx13_1 : w30.cell? ⟨go5, (x5_1 : Int).toNat * 9 + 1, none⟩ = some (.int .i64 ((rd_T48 y480 x5_1).f1)) := hcc13 1 _ rfl; have hx13_2 : w30.cell? ⟨go5, (x5_1 : Int).toNat * 9 + 2, none⟩ = some (.int .i64 ((rd_T48 y480 x5_1).f2)) := hcc13 2 _ rfl; have hx13_3 : w30.cell? ⟨go5, (x5_1 : Int).toNat * 9 + 3, none⟩ = some (.int .i64 ((rd_T48 y480 x5_1).f3.f0)) := hcc13 3 _ rfl; have hx13_4 : w30.cell? ⟨go5, (x5_1 : Int).toNat * 9 + 4, none⟩ = some (.int .i64 ((rd_T48 y480 x5_1).f3.f1)) := hcc13 4 _ rfl; have hx13_5 : w30.cell? ⟨go5, (x5_1 : Int).toNat * 9 + 5, none⟩ = some (.string ((rd_T48 y480 x5_1).f3.f2)) := hcc13 5 _ rfl; have hx13_6 : w30.cell? ⟨go5, (x5_1 : Int).toNat * 9 + 6, none⟩ = some (.string ((rd_T48 y480 x5_1).f3.f3)) := hcc13 6 _ rfl; have hx13_7 : w30.cell? ⟨go5, (x5_1 : Int).toNat * 9 + 7, none⟩ = some (.int .i64 ((rd_T48 y480 x5_1).f3.f4)) := hcc13 7 _ rfl; have hx13_8 : w30.cell? ⟨go5, (x5_1 : Int).toNat * 9 + 8, none⟩ = some (.int .i64 ((rd_T48 y480 x5_1).f3.f5)) := hcc13 8 _ rfl; have hf13_0 : w30.frozen? ⟨go5, (x5_1 : Int).toNat * 9, none⟩ = false := hfr13 0; have hf13_1 : w30.frozen? ⟨go5, (x5_1 : Int).toNat * 9 + 1, none⟩ = false := hfr13 1; have hf13_2 : w30.frozen? ⟨go5, (x5_1 : Int).toNat * 9 + 2, none⟩ = false := hfr13 2; have hf13_3 : w30.frozen? ⟨go5, (x5_1 : Int).toNat * 9 + 3, none⟩ = false := hfr13 3; have hf13_4 : w30.frozen? ⟨go5, (x5_1 : Int).toNat * 9 + 4, none⟩ = false := hfr13 4; have hf13_5 : w30.frozen? ⟨go5, (x5_1 : Int).toNat * 9 + 5, none⟩ = false := hfr13 5; have hf13_6 : w30.frozen? ⟨go5, (x5_1 : Int).toNat * 9 + 6, none⟩ = false := hfr13 6; have hf13_7 : w30.frozen? ⟨go5, (x5_1 : Int).toNat * 9 + 7, none⟩ = false := hfr13 7; have hf13_8 : w30.frozen? ⟨go5, (x5_1 : Int).toNat * 9 + 8, none⟩ = false := hfr13 8; clear hcl13 hcc13 hfr13 hM13; replace p13 := eq_true p13; replace q13 := eq_true q13; have HX31 := Aside0.mk (show Kd.R k48 48 w30 w0.heap.size (fun k_ => (P0_ k_ ∨ w.heap.size ≤ k_)) (.slice (some ⟨go5, 0, none⟩) x0_1.length co16) y480 from (rr_ HO_0)); obtain ⟨ce31, hcl31, hM31, hcc31, hfr31⟩ := Kd.R_elem HX31.out z48 (x5_1 : Int) (of_decide_eq_true as_) (by have h_ : (x5_1 : Int) < ((x0_1.length : Int) : Int) := of_decide_eq_true as_; first | exact h_ | (have e_ := (Kd.R_reads' HO_0.out).1; omega) | simpa using h_); obtain rfl := k48_openM hM31; have HP31 := Kd.R_seg HX31.out (x5_1 : Int) (of_decide_eq_true as_) (by have h_ : (x5_1 : Int) < ((x0_1.length : Int) : Int) := of_decide_eq_true as_; first | exact h_ | (have e_ := (Kd.R_reads' HO_0.out).1; omega) | simpa using h_) (seg := [.string t481]) (j := 6) hcl31 hcc31 (show 7 ≤ 9 from by decide) (x' := (⟨(rd_T48 y480 x5_1).f0, (rd_T48 y480 x5_1).f1, (rd_T48 y480 x5_1).f2, (⟨(rd_T48 y480 x5_1).f3.f0, (rd_T48 y480 x5_1).f3.f1, (rd_T48 y480 x5_1).f3.f2, t481, (rd_T48 y480 x5_1).f3.f4, (rd_T48 y480 x5_1).f3.f5⟩ : S46)⟩ : S48)) (k48_mkM _ _ _ (⟨(rd_T48 y480 x5_1).f0, (rd_T48 y480 x5_1).f1, (rd_T48 y480 x5_1).f2, (⟨(rd_T48 y480 x5_1).f3.f0, (rd_T48 y480 x5_1).f3.f1, (rd_T48 y480 x5_1).f3.f2, t481, (rd_T48 y480 x5_1).f3.f4, (rd_T48 y480 x5_1).f3.f5⟩ : S46)⟩ : S48) ) (fun _ hk => hk); have hx31_6 := hcc31 6 _ rfl; (try simp only [show (k48).sz = 9 from rfl, Nat.mul_one, Nat.add_zero] at hx31_6); have hf31_6 := hfr31 6; (try simp only [show (k48).sz = 9 from rfl, Nat.mul_one, Nat.add_zero] at hf31_6); clear hcl31 hcc31 hfr31 hM31) | ((with_reducible refine gate_store (t := 9) (p := 64) rfl ?_); refine store_event (t := 9) (p := 64) (v := ?vo_w32) (w1 := (w30.setCell ⟨go5, (x5_1 : Int).toNat * 9 + 6, none⟩ (.string t481))) ?hg ?ho ?hn ?hr ?_; (case ho => rfl); (case hg => rfl); (case hn => rfl); (case hr => first | (go_simp; done) | (go_simp; rfl)); intro w32 hw; have hg : w30.grownBy w32 (some go5) := (by rw [hw]; exact HP31.2); have hp_ : Kd.R k48 48 w32 w0.heap.size (fun k_ => (P0_ k_ ∨ w.heap.size ≤ k_)) (.slice (some ⟨go5, 0, none⟩) x0_1.length co16) y482 := (by rw [hw, Ny482.out]; exact HP31.1); clear HP31; replace HB := Aside0.mk ((by rw [hw]; exact below_set (HB.out) GB5.out : Below w0.heap.size w0 w32)); replace HK := Aside0.mk (Kept.of_grown (S := (fun k_ => P0_ k_)) hg (by repeat (first | (with_reducible first | exact HK.out | apply Kept.alloc | apply Kept.drewN | apply Kept.drew) | exact HK.out)) (fun k_ e_ => (HO_0.out.1 k_ e_))); replace HO_0 := Aside0.mk (hp_); clear hg hw hp_; have p14 : 0 ≤ (x5_1 : Int) := of_decide_eq_true as_; have q14 : (x5_1 : Int) < ((x0_1.length : Int) : Int) := of_decide_eq_true as_; obtain ⟨ce14, hcl14, hM14, hcc14, hfr14⟩ := Kd.R_elem HO_0.out z48 (x5_1 : Int) p14 q14; obtain rfl := k48_openM hM14; have hx14_0 : w32.cell? ⟨go5, (x5_1 : Int).toNat * 9, none⟩ = some (.int .i64 ((rd_T48 y482 x5_1).f0)) := hcc14 0 _ rfl; have hx14_1 : w32.cell? ⟨go5, (x5_1 : Int).toNat * 9 + 1, none⟩ = some (.int .i64 ((rd_T48 y482 x5_1).f1)) := hcc14 1 _ rfl; have hx14_2 : w32.cell? ⟨go5, (x5_1 : Int).toNat * 9 + 2, none⟩ = some (.int .i64 ((rd_T48 y482 x5_1).f2)) := hcc14 2 _ rfl; have hx14_3 : w32.cell? ⟨go5, (x5_1 : Int).toNat * 9 + 3, none⟩ = some (.int .i64 ((rd_T48 y482 x5_1).f3.f0)) := hcc14 3 _ rfl; have hx14_4 : w32.cell? ⟨go5, (x5_1 : Int).toNat * 9 + 4, none⟩ = some (.int .i64 ((rd_T48 y482 x5_1).f3.f1)) := hcc14 4 _ rfl; have hx14_5 : w32.cell? ⟨go5, (x5_1 : Int).toNat * 9 + 5, none⟩ = some (.string ((rd_T48 y482 x5_1).f3.f2)) := hcc14 5 _ rfl; have hx14_6 : w32.cell? ⟨go5, (x5_1 : Int).toNat * 9 + 6, none⟩ = some (.string ((rd_T48 y482 x5_1).f3.f3)) := hcc14 6 _ rfl; have hx14_7 : w32.cell? ⟨go5, (x5_1 : Int).toNat * 9 + 7, none⟩ = some (.int .i64 ((rd_T48 y482 x5_1).f3.f4)) := hcc14 7 _ rfl; have hx14_8 : w32.cell? ⟨go5, (x5_1 : Int).toNat * 9 + 8, none⟩ = some (.int .i64 ((rd_T48 y482 x5_1).f3.f5)) := hcc14 8 _ rfl; have hf14_0 : w32.frozen? ⟨go5, (x5_1 : Int).toNat * 9, none⟩ = false := hfr14 0; have hf14_1 : w32.frozen? ⟨go5, (x5_1 : Int).toNat * 9 + 1, none⟩ = false := hfr14 1; have hf14_2 : w32.frozen? ⟨go5, (x5_1 : Int).toNat * 9 + 2, none⟩ = false := hfr14 2; have hf14_3 : w32.frozen? ⟨go5, (x5_1 : Int).toNat * 9 + 3, none⟩ = false := hfr14 3; have hf14_4 : w32.frozen? ⟨go5, (x5_1 : Int).toNat * 9 + 4, none⟩ = false := hfr14 4; have hf14_5 : w32.frozen? ⟨go5, (x5_1 : Int).toNat * 9 + 5, none⟩ = false := hfr14 5; have hf14_6 : w32.frozen? ⟨go5, (x5_1 : Int).toNat * 9 + 6, none⟩ = false := hfr14 6; have hf14_7 : w32.frozen? ⟨go5, (x5_1 : Int).toNat * 9 + 7, none⟩ = false := hfr14 7; have hf14_8 : w32.frozen? ⟨go5, (x5_1 : Int).toNat * 9 + 8, none⟩ = false := hfr14 8; clear hcl14 hcc14 hfr14 hM14; replace p14 := eq_true p14; replace q14 := eq_true q14; have HX33 := Aside0.mk (show Kd.R k48 48 w32 w0.heap.size (fun k_ => (P0_ k_ ∨ w.heap.size ≤ k_)) (.slice (some ⟨go5, 0, none⟩) x0_1.length co16) y482 from (rr_ HO_0)); obtain ⟨ce33, hcl33, hM33, hcc33, hfr33⟩ := Kd.R_elem HX33.out z48 (x5_1 : Int) (of_decide_eq_true as_) (by have h_ : (x5_1 : Int) < ((x0_1.length : Int) : Int) := of_decide_eq_true as_; first | exact h_ | (have e_ := (Kd.R_reads' HO_0.out).1; omega) | simpa using h_); obtain rfl := k48_openM hM33; have HP33 := Kd.R_seg HX33.out (x5_1 : Int) (of_decide_eq_true as_) (by have h_ : (x5_1 : Int) < ((x0_1.length : Int) : Int) := of_decide_eq_true as_; first | exact h_ | (have e_ := (Kd.R_reads' HO_0.out).1; omega) | simpa using h_) (seg := [.int .i64 (wrap64 ((wrap64 ((wrap64 ((wrap64 ((wrap64 ((wrap64 ((wrap64 (x1_1 + 1)) + 1)) + 1)) + 1)) + 1)) + 1)) + 1))]) (j := 7) hcl33 hcc33 (show 8 ≤ 9 from by decide) (x' := (⟨(rd_T48 y482 x5_1).f0, (rd_T48 y482 x5_1).f1, (rd_T48 y482 x5_1).f2, (⟨(rd_T48 y482 x5_1).f3.f0, (rd_T48 y482 x5_1).f3.f1, (rd_T48 y482 x5_1).f3.f2, (rd_T48 y482 x5_1).f3.f3, wrap64 ((wrap64 ((wrap64 ((wrap64 ((wrap64 ((wrap64 ((wrap64 (x1_1 + 1)) + 1)) + 1)) + 1)) + 1)) + 1)) + 1), (rd_T48 y482 x5_1).f3.f5⟩ : S46)⟩ : S48)) (k48_mkM _ _ _ (⟨(rd_T48 y482 x5_1).f0, (rd_T48 y482 x5_1).f1, (rd_T48 y482 x5_1).f2, (⟨(rd_T48 y482 x5_1).f3.f0, (rd_T48 y482 x5_1).f3.f1, (rd_T48 y482 x5_1).f3.f2, (rd_T48 y482 x5_1).f3.f3, wrap64 ((wrap64 ((wrap64 ((wrap64 ((wrap64 ((wrap64 ((wrap64 (x1_1 + 1)) + 1)) + 1)) + 1)) + 1)) + 1)) + 1), (rd_T48 y482 x5_1).f3.f5⟩ : S46)⟩ : S48) ) (fun _ hk => hk); have hx33_7 := hcc33 7 _ rfl; (try simp only [show (k48).sz = 9 from rfl, Nat.mul_one, Nat.add_zero] at hx33_7); have hf33_7 := hfr33 7; (try simp only [show (k48).sz = 9 from rfl, Nat.mul_one, Nat.add_zero] at hf33_7); clear hcl33 hcc33 hfr33 hM33) | ((with_reducible refine gate_store (t := 3) (p := 72) rfl ?_); refine store_event (t := 3) (p := 72) (v := ?vo_w34) (w1 := (w32.setCell ⟨go5, (x5_1 : Int).toNat * 9 + 7, none⟩ (.int .i64 (wrap64 ((wrap64 ((wrap64 ((wrap64 ((wrap64 ((wrap64 ((wrap64 (x1_1 + 1)) + 1)) + 1)) + 1)) + 1)) + 1)) + 1))))) ?hg ?ho ?hn ?hr ?_; (case ho => rfl); (case hg => rfl); (case hn => rfl); (case hr => first | (go_simp; done) | (go_simp; rfl)); intro w34 hw; have hg : w32.grownBy w34 (some go5) := (by rw [hw]; exact HP33.2); have hp_ : Kd.R k48 48 w34 w0.heap.size (fun k_ => (P0_ k_ ∨ w.heap.size ≤ k_)) (.slice (some ⟨go5, 0, none⟩) x0_1.length co16) y483 := (by rw [hw, Ny483.out]; exact HP33.1); clear HP33; replace HB := Aside0.mk ((by rw [hw]; exact below_set (HB.out) GB5.out : Below w0.heap.size w0 w34)); replace HK := Aside0.mk (Kept.of_grown (S := (fun k_ => P0_ k_)) hg (by repeat (first | (with_reducible first | exact HK.out | apply Kept.alloc | apply Kept.drewN | apply Kept.drew) | exact HK.out)) (fun k_ e_ => (HO_0.out.1 k_ e_))); replace HO_0 := Aside0.mk (hp_); clear hg hw hp_; have p15 : 0 ≤ (x5_1 : Int) := of_decide_eq_true as_; have q15 : (x5_1 : Int) < ((x0_1.length : Int) : Int) := of_decide_eq_true as_; obtain ⟨ce15, hcl15, hM15, hcc15, hfr15⟩ := Kd.R_elem HO_0.out z48 (x5_1 : Int) p15 q15; obtain rfl := k48_openM hM15; have hx15_0 : w34.cell? ⟨go5, (x5_1 : Int).toNat * 9, none⟩ = some (.int .i64 ((rd_T48 y483 x5_1).f0)) := hcc15 0 _ rfl; have hx15_1 : w34.cell? ⟨go5, (x5_1 : Int).toNat * 9 + 1, none⟩ = some (.int .i64 ((rd_T48 y483 x5_1).f1)) := hcc15 1 _ rfl; have hx15_2 : w34.cell? ⟨go5, (x5_1 : Int).toNat * 9 + 2, none⟩ = some (.int .i64 ((rd_T48 y483 x5_1).f2)) := hcc15 2 _ rfl; have hx15_3 : w34.cell? ⟨go5, (x5_1 : Int).toNat * 9 + 3, none⟩ = some (.int .i64 ((rd_T48 y483 x5_1).f3.f0)) := hcc15 3 _ rfl; have hx15_4 : w34.cell? ⟨go5, (x5_1 : Int).toNat * 9 + 4, none⟩ = some (.int .i64 ((rd_T48 y483 x5_1).f3.f1)) := hcc15 4 _ rfl; have hx15_5 : w34.cell? ⟨go5, (x5_1 : Int).toNat * 9 + 5, none⟩ = some (.string ((rd_T48 y483 x5_1).f3.f2)) := hcc15 5 _ rfl; have hx15_6 : w34.cell? ⟨go5, (x5_1 : Int).toNat * 9 + 6, none⟩ = some (.string ((rd_T48 y483 x5_1).f3.f3)) := hcc15 6 _ rfl; have hx15_7 : w34.cell? ⟨go5, (x5_1 : Int).toNat * 9 + 7, none⟩ = some (.int .i64 ((rd_T48 y483 x5_1).f3.f4)) := hcc15 7 _ rfl; have hx15_8 : w34.cell? ⟨go5, (x5_1 : Int).toNat * 9 + 8, none⟩ = some (.int .i64 ((rd_T48 y483 x5_1).f3.f5)) := hcc15 8 _ rfl; have hf15_0 : w34.frozen? ⟨go5, (x5_1 : Int).toNat * 9, none⟩ = false := hfr15 0; have hf15_1 : w34.frozen? ⟨go5, (x5_1 : Int).toNat * 9 + 1, none⟩ = false := hfr15 1; have hf15_2 : w34.frozen? ⟨go5, (x5_1 : Int).toNat * 9 + 2, none⟩ = false := hfr15 2; have hf15_3 : w34.frozen? ⟨go5, (x5_1 : Int).toNat * 9 + 3, none⟩ = false := hfr15 3; have hf15_4 : w34.frozen? ⟨go5, (x5_1 : Int).toNat * 9 + 4, none⟩ = false := hfr15 4; have hf15_5 : w34.frozen? ⟨go5, (x5_1 : Int).toNat * 9 + 5, none⟩ = false := hfr15 5; have hf15_6 : w34.frozen? ⟨go5, (x5_1 : Int).toNat * 9 + 6, none⟩ = false := hfr15 6; have hf15_7 : w34.frozen? ⟨go5, (x5_1 : Int).toNat * 9 + 7, none⟩ = false := hfr15 7; have hf15_8 : w34.frozen? ⟨go5, (x5_1 : Int).toNat * 9 + 8, none⟩ = false := hfr15 8; clear hcl15 hcc15 hfr15 hM15; replace p15 := eq_true p15; replace q15 := eq_true q15; have HX35 := Aside0.mk (show Kd.R k48 48 w34 w0.heap.size (fun k_ => (P0_ k_ ∨ w.heap.size ≤ k_)) (.slice (some ⟨go5, 0, none⟩) x0_1.length co16) y483 from (rr_ HO_0)); obtain ⟨ce35, hcl35, hM35, hcc35, hfr35⟩ := Kd.R_elem HX35.out z48 (x5_1 : Int) (of_decide_eq_true as_) (by have h_ : (x5_1 : Int) < ((x0_1.length : Int) : Int) := of_decide_eq_true as_; first | exact h_ | (have e_ := (Kd.R_reads' HO_0.out).1; omega) | simpa using h_); obtain rfl := k48_openM hM35; have HP35 := Kd.R_seg HX35.out (x5_1 : Int) (of_decide_eq_true as_) (by have h_ : (x5_1 : Int) < ((x0_1.length : Int) : Int) := of_decide_eq_true as_; first | exact h_ | (have e_ := (Kd.R_reads' HO_0.out).1; omega) | simpa using h_) (seg := [.int .i64 (wrap64 ((wrap64 ((wrap64 ((wrap64 ((wrap64 ((wrap64 ((wrap64 ((wrap64 (x1_1 + 1)) + 1)) + 1)) + 1)) + 1)) + 1)) + 1)) + 1))]) (j := 8) hcl35 hcc35 (show 9 ≤ 9 from by decide) (x' := (⟨(rd_T48 y483 x5_1).f0, (rd_T48 y483 x5_1).f1, (rd_T48 y483 x5_1).f2, (⟨(rd_T48 y483 x5_1).f3.f0, (rd_T48 y483 x5_1).f3.f1, (rd_T48 y483 x5_1).f3.f2, (rd_T48 y483 x5_1).f3.f3, (rd_T48 y483 x5_1).f3.f4, wrap64 ((wrap64 ((wrap64 ((wrap64 ((wrap64 ((wrap64 ((wrap64 ((wrap64 (x1_1 + 1)) + 1)) + 1)) + 1)) + 1)) + 1)) + 1)) + 1)⟩ : S46)⟩ : S48)) (k48_mkM _ _ _ (⟨(rd_T48 y483 x5_1).f0, (rd_T48 y483 x5_1).f1, (rd_T48 y483 x5_1).f2, (⟨(rd_T48 y483 x5_1).f3.f0, (rd_T48 y483 x5_1).f3.f1, (rd_T48 y483 x5_1).f3.f2, (rd_T48 y483 x5_1).f3.f3, (rd_T48 y483 x5_1).f3.f4, wrap64 ((wrap64 ((wrap64 ((wrap64 ((wrap64 ((wrap64 ((wrap64 ((wrap64 (x1_1 + 1)) + 1)) + 1)) + 1)) + 1)) + 1)) + 1)) + 1)⟩ : S46)⟩ : S48) ) (fun _ hk => hk); have hx35_8 := hcc35 8 _ rfl; (try simp only [show (k48).sz = 9 from rfl, Nat.mul_one, Nat.add_zero] at hx35_8); have hf35_8 := hfr35 8; (try simp only [show (k48).sz = 9 from rfl, Nat.mul_one, Nat.add_zero] at hf35_8); clear hcl35 hcc35 hfr35 hM35) | ((with_reducible refine gate_store (t := 3) (p := 80) rfl ?_); refine store_event (t := 3) (p := 80) (v := ?vo_w36) (w1 := (w34.setCell ⟨go5, (x5_1 : Int).toNat * 9 + 8, none⟩ (.int .i64 (wrap64 ((wrap64 ((wrap64 ((wrap64 ((wrap64 ((wrap64 ((wrap64 ((wrap64 (x1_1 + 1)) + 1)) + 1)) + 1)) + 1)) + 1)) + 1)) + 1))))) ?hg ?ho ?hn ?hr ?_; (case ho => rfl); (case hg => rfl); (case hn => rfl); (case hr => first | (go_simp; done) | (go_simp; rfl)); intro w36 hw; have hg : w34.grownBy w36 (some go5) := (by rw [hw]; exact HP35.2); have hp_ : Kd.R k48 48 w36 w0.heap.size (fun k_ => (P0_ k_ ∨ w.heap.size ≤ k_)) (.slice (some ⟨go5, 0, none⟩) x0_1.length co16) y484 := (by rw [hw, Ny484.out]; exact HP35.1); clear HP35; replace HB := Aside0.mk ((by rw [hw]; exact below_set (HB.out) GB5.out : Below w0.heap.size w0 w36)); replace HK := Aside0.mk (Kept.of_grown (S := (fun k_ => P0_ k_)) hg (by repeat (first | (with_reducible first | exact HK.out | apply Kept.alloc | apply Kept.drewN | apply Kept.drew) | exact HK.out)) (fun k_ e_ => (HO_0.out.1 k_ e_))); replace HO_0 := Aside0.mk (hp_); clear hg hw hp_))
     go_roundg k1
     case measure => have := HK1.out; first | exact this | exact Nat.le_of_succ_le this | exact Nat.le_refl _ | omega
     case rel => exact ⟨(y484), (wrap64 ((wrap64 ((wrap64 ((wrap64 ((wrap64 ((wrap64 ((wrap64 ((wrap64 ((wrap64 (x1_1 + 1)) + 1)) + 1)) + 1)) + 1)) + 1)) + 1)) + 1)) + 1)), (wrap64 (x5_1 + 1)), rs_, rs_, H', ⟨by have := HK1.out; first | exact this | exact Nat.le_of_succ_le this | exact Nat.le_refl _ | omega⟩, ⟨rr_ HO_0⟩, ⟨by repeat (first | (with_reducible first | exact HK.out | apply Kept.alloc | apply Kept.drewN | apply Kept.drew) | exact HK.out)⟩, ⟨hb_ HB⟩⟩
    ·rw [if_neg c4] at H
     exact absurd H (by simp)
   ·rw [if_neg c3] at H
    have c3b0 : decide (x5_1 < (x0_1.length : Int)) = false := decide_eq_false c3
    clear c3
    simp only [Option.some.injEq, Prod.mk.injEq] at H
    obtain ⟨rfl, rfl⟩ := H
    obtain ⟨Ao37, co37, eo37⟩ := Kd.R_slice HO_0.out
    subst eo37
    go_wp2
    go_ret
    exact ⟨re_, rr_ HO_0, hb_ HB, by repeat (first | (with_reducible first | exact HK.out | apply Kept.alloc | apply Kept.drewN | apply Kept.drew) | exact HK.out)⟩

end Go.Proofs.Ytcnmdjibogojnaa.PFnExactRegroup
