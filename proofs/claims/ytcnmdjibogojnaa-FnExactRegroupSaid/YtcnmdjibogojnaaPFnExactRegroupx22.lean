-- Laid by a program of this session, a copy of the kit's printer with additions (wip/patch_print.py): myhead. Lean checks it.
import Derived.Test.YtcnmdjibogojnaaPFnExactRegroupx0
import Derived.Test.YtcnmdjibogojnaaPFnExactRegroupx21
namespace Go.Proofs.Ytcnmdjibogojnaa.PFnExactRegroup
open Go.RowKit Go.Proofs.YtcnmdjibogojnaaW.PrintWords Go.Proofs.YtcnmdjibogojnaaW.PrintLast Go.Proofs.YtcnmdjibogojnaaW.PrintMore
attribute [local go_sem] max2_int min2_int max_two min_two max_three min_three max_four min_four   -- for this text's walks alone
set_option linter.unusedVariables false
set_option linter.unusedSimpArgs false

/-! ### laws_heldEntryS: function 31 -/
def laws_heldEntryS.l0 : Nat → List (S71) → Int → Int → Option (Int)
 | 0, _, _, _ => none
 | k + 1, x0, x1, x5 => if x5 < (x0.length : Int) then (if 0 ≤ x5 then ((laws_markText.f k x1).bind fun t486 => (if ((rd_T71 x0 x5).f0).toList = t486.toList then (if ((rd_T71 x0 x5).f1) = (wrap64 (x1 + 1)) then (if ((rd_T71 x0 x5).f2) = (wrap64 ((wrap64 (x1 + 1)) + 1)) then (if ((rd_T71 x0 x5).f3) = (wrap64 ((wrap64 ((wrap64 (x1 + 1)) + 1)) + 1)) then (if ((rd_T71 x0 x5).f4) = (wrap64 ((wrap64 ((wrap64 ((wrap64 (x1 + 1)) + 1)) + 1)) + 1)) then (laws_heldEntryS.l0 k x0 (wrap64 ((wrap64 ((wrap64 ((wrap64 ((wrap64 (x1 + 1)) + 1)) + 1)) + 1)) + 1)) (wrap64 (x5 + 1))) else (some (-1))) else (some (-1))) else (some (-1))) else (some (-1))) else (some (-1)))) else (none)) else (some x1)
def laws_heldEntryS.f (k : Nat) (l0 : List (S71)) (a1 : Int) : Option (Int) := laws_heldEntryS.l0 k l0 a1 0
def laws_heldEntryS.T4 : Bool × List (List Nat × List Nat) := (true, [([], []), ([], []), ([0, 1], [0, 1]), ([2], [2]), ([3], [3]), ([], []), ([5], [5]), ([4, 6], [4, 6])])
def laws_heldEntryS.B4 : List Nat := [0, 0, 3, 7, 15, 0, 32, 127]
theorem laws_heldEntryS.tab4 : rtab .any (opsOf Try.f31 4) = laws_heldEntryS.T4 := by kernel_rfl
theorem laws_heldEntryS.bits4 : waitsOk laws_heldEntryS.T4.2 laws_heldEntryS.B4 = true := by kernel_rfl
set_option maxHeartbeats 80000000 in
set_option maxRecDepth 100000 in
theorem laws_heldEntryS.calls (k : Nat) (A0 : Option Addr) (c0 : Nat) (l0 : List (S71)) (a1 : Int) (r : Int) (w : World) (hr0 : Kd.C k71 w A0 l0.length l0) (hc0 : l0.length ≤ c0) (h : laws_heldEntryS.f k l0 a1 = some r) :
  Calls Try.prog 31 #[.slice A0 l0.length c0, .int .i64 a1] w fun e w' => e = .returned (.int .i64 r) ∧ Below w.heap.size w w' := by
 have HR0 := Aside0.mk hr0
 have HC0 := Aside0.mk hc0
 clear hr0 hc0
 have HB := Aside0.mk (Below.refl w.heap.size w)
 have H : (laws_heldEntryS.l0 k l0 a1 0) = some r := h
 clear h
 have H' := Aside0.mk H
 clear H
 go_enter Try.func31, Try.ntmps31
 go_wp2
 go_loopg [1, 5] k (fun kq v1 v5 w' => ∃ (x1_1 : Int) (x5_1 : Int), v1 = .int .i64 x1_1 ∧ v5 = .int .i64 x5_1 ∧ Aside0 (laws_heldEntryS.l0 kq l0 x1_1 x5_1 = some r) ∧ Aside0 (kq ≤ k) ∧ Aside0 (Below w.heap.size w w'))
 case atStart => exact ⟨(a1), (0), rs_, rs_, H', ⟨Nat.le_refl _⟩, ⟨hb_ HB⟩⟩
 case round =>
  clear H'
  obtain ⟨x1_1, x5_1, rfl, rfl, HA, HK1, HB⟩ := hrel
  cases gk with
  | zero => exact absurd HA.out (by simp [laws_heldEntryS.l0])
  | succ k1 =>
   have H := HA.out
   clear HA
   simp only [laws_heldEntryS.l0] at H
   by_cases c3 : x5_1 < (l0.length : Int)
   ·rw [if_pos c3] at H
    have c3b0 : decide (x5_1 < (l0.length : Int)) = true := decide_eq_true c3
    clear c3
    by_cases c4 : 0 ≤ x5_1
    ·rw [if_pos c4] at H
     have c4b0 : decide (0 ≤ x5_1) = true := decide_eq_true c4
     clear c4
     replace H := Option.bind_eq_some_iff.mp H
     obtain ⟨t486, A50, H⟩ := H
     have A5 := Aside0.mk A50
     clear A50
     by_cases c6 : ((rd_T71 l0 x5_1).f0).toList = t486.toList
     ·rw [if_pos c6] at H
      have c6b0 : (((rd_T71 l0 x5_1).f0).toList == t486.toList) = true := beq_iff_eq.mpr c6
      have c6b1 : (((rd_T71 l0 x5_1).f0).toList != t486.toList) = false := bne_eq_false_iff_eq.mpr c6
      clear c6
      by_cases c7 : ((rd_T71 l0 x5_1).f1) = (wrap64 (x1_1 + 1))
      ·rw [if_pos c7] at H
       have c7b0 : (((rd_T71 l0 x5_1).f1) == (wrap64 (x1_1 + 1))) = true := beq_iff_eq.mpr c7
       have c7b1 : (((rd_T71 l0 x5_1).f1) != (wrap64 (x1_1 + 1))) = false := bne_eq_false_iff_eq.mpr c7
       clear c7
       by_cases c8 : ((rd_T71 l0 x5_1).f2) = (wrap64 ((wrap64 (x1_1 + 1)) + 1))
       ·rw [if_pos c8] at H
        have c8b0 : (((rd_T71 l0 x5_1).f2) == (wrap64 ((wrap64 (x1_1 + 1)) + 1))) = true := beq_iff_eq.mpr c8
        have c8b1 : (((rd_T71 l0 x5_1).f2) != (wrap64 ((wrap64 (x1_1 + 1)) + 1))) = false := bne_eq_false_iff_eq.mpr c8
        clear c8
        by_cases c9 : ((rd_T71 l0 x5_1).f3) = (wrap64 ((wrap64 ((wrap64 (x1_1 + 1)) + 1)) + 1))
        ·rw [if_pos c9] at H
         have c9b0 : (((rd_T71 l0 x5_1).f3) == (wrap64 ((wrap64 ((wrap64 (x1_1 + 1)) + 1)) + 1))) = true := beq_iff_eq.mpr c9
         have c9b1 : (((rd_T71 l0 x5_1).f3) != (wrap64 ((wrap64 ((wrap64 (x1_1 + 1)) + 1)) + 1))) = false := bne_eq_false_iff_eq.mpr c9
         clear c9
         by_cases c10 : ((rd_T71 l0 x5_1).f4) = (wrap64 ((wrap64 ((wrap64 ((wrap64 (x1_1 + 1)) + 1)) + 1)) + 1))
         ·rw [if_pos c10] at H
          have c10b0 : (((rd_T71 l0 x5_1).f4) == (wrap64 ((wrap64 ((wrap64 ((wrap64 (x1_1 + 1)) + 1)) + 1)) + 1))) = true := beq_iff_eq.mpr c10
          have c10b1 : (((rd_T71 l0 x5_1).f4) != (wrap64 ((wrap64 ((wrap64 ((wrap64 (x1_1 + 1)) + 1)) + 1)) + 1))) = false := bne_eq_false_iff_eq.mpr c10
          clear c10
          have H' := Aside0.mk H
          clear H
          try go_wp2
          replace HB := hd_ HB
          have p485 : 0 ≤ (x5_1 : Int) := of_decide_eq_true as_
          have q485 : x5_1 < (l0.length : Int) := of_decide_eq_true as_
          obtain ⟨ad485, e485, hx485_0, hx485_1, hx485_2, hx485_3, hx485_4⟩ := at_T71 HR0.out x5_1 p485 q485
          have hw485_4 := hx485_4
          have hw485_3 := hx485_3
          have hw485_2 := hx485_2
          have hw485_1 := hx485_1
          have hw485_0 := hx485_0
          cases e485
          (try replace hx485_0 := cb_ HB hx485_0)
          (try replace hx485_1 := cb_ HB hx485_1)
          (try replace hx485_2 := cb_ HB hx485_2)
          (try replace hx485_3 := cb_ HB hx485_3)
          (try replace hx485_4 := cb_ HB hx485_4)
          replace p485 := eq_true p485
          replace q485 := eq_true q485
          refine start_ (n := 8) (S := e5e_ (ad485.add ((x5_1).toNat * 5)) (.string ((rd_T71 l0 x5_1).f0)) (.int .i64 ((rd_T71 l0 x5_1).f1)) (.int .i64 ((rd_T71 l0 x5_1).f2)) (.int .i64 ((rd_T71 l0 x5_1).f3)) (.int .i64 ((rd_T71 l0 x5_1).f4))) (ds := []) (on_ 0 8) (by kernel_rfl) rfl rfl (q5e_ (cb_ HB hw485_0 :) (cb_ HB hw485_1 :) (cb_ HB hw485_2 :) (cb_ HB hw485_3 :) (cb_ HB hw485_4 :)) (fun hHeld => ?_); refine with_tabW laws_heldEntryS.tab4 laws_heldEntryS.bits4 (fun HT_ HW_ => ?_)
          generalize wr.drew = w11 at HB hx485_0 hx485_1 hx485_2 hx485_3 hx485_4 hHeld ⊢
          refine pv_' 0 12 (on_ 1 7) rfl rfl HT_ ?_
          refine pv_' 1 13 (on_ 2 6) rfl rfl HT_ ?_
          refine pv_' 2 14 (on_ 3 5) rfl rfl HT_ ?_
          refine pv_' 3 15 (on_ 4 4) rfl rfl HT_ ?_
          refine pv_' 5 17 #[i',i',i',i',o',i',o',o'] rfl rfl HT_ ?_
          refine take_ (i := 4) (N := some 16) (v := ?_) (a' := ?_) (on_ 6 2) rfl rfl (take_ofW HT_.out HW_.out (by kernel_rfl)) (fun _ _ _ h => h) (Or.inl ⟨by rfl, ?_⟩) hHeld ?_ ?_
          rotate_left
          ·rintro w' ⟨s0, s1, s2, s3, s4⟩
           go_simp
           with_reducible rfl
          rotate_left
          ·simp only [Act.put, la_, lz_, ls_, i64_w, i32_w]
           rfl
          refine one_ (i := 6) (N := some 18) (on_ 7 1) rfl rfl (one_of HT_.out (by kernel_rfl)) (by decide) (fun K hK => ?_)
          refine goes_ Try.func30 (by kernel_rfl) rfl #[.int .i64 x1_1] (by rfl) rfl rfl ar_ ?_
          with_reducible refine (laws_markText.calls k1 x1_1 t486 _ A5.out).mono ?_
          rintro e w12 ⟨rfl, hb⟩
          refine ⟨_, rfl, ?_⟩
          replace HB := bs_ HB hb
          (try clear hb)
          (try clear hb2)
          (try clear hk)
          (try clear hi)
          refine hK.out _ _ (q5e_ (cb_ HB hw485_0 :) (cb_ HB hw485_1 :) (cb_ HB hw485_2 :) (cb_ HB hw485_3 :) (cb_ HB hw485_4 :)) (fun hHeld => ?_)
          clear hK K
          refine norm_ (a' := ?_) ?_ ?_
          rotate_left
          ·show Act.put _ (some 18) _ = _
           simp only [Act.put, la_, lz_, ls_, i64_w, i32_w]
           rfl
          refine pv_' 7 19 (on_ 8 0) rfl rfl HT_ ?_
          refine done_ (done_of HT_.out (by kernel_rfl)) ?_
          have p487 : 0 ≤ (x5_1 : Int) := of_decide_eq_true as_
          have q487 : x5_1 < (l0.length : Int) := of_decide_eq_true as_
          obtain ⟨ad487, e487, hx487_0, hx487_1, hx487_2, hx487_3, hx487_4⟩ := at_T71 HR0.out x5_1 p487 q487
          obtain rfl : ad485 = ad487 := (by injection e487)
          (try replace hx487_0 := cb_ HB hx487_0)
          (try replace hx487_1 := cb_ HB hx487_1)
          (try replace hx487_2 := cb_ HB hx487_2)
          (try replace hx487_3 := cb_ HB hx487_3)
          (try replace hx487_4 := cb_ HB hx487_4)
          replace p487 := eq_true p487
          replace q487 := eq_true q487
          have p488 : 0 ≤ (x5_1 : Int) := of_decide_eq_true as_
          have q488 : x5_1 < (l0.length : Int) := of_decide_eq_true as_
          obtain ⟨ad488, e488, hx488_0, hx488_1, hx488_2, hx488_3, hx488_4⟩ := at_T71 HR0.out x5_1 p488 q488
          obtain rfl : ad485 = ad488 := (by injection e488)
          (try replace hx488_0 := cb_ HB hx488_0)
          (try replace hx488_1 := cb_ HB hx488_1)
          (try replace hx488_2 := cb_ HB hx488_2)
          (try replace hx488_3 := cb_ HB hx488_3)
          (try replace hx488_4 := cb_ HB hx488_4)
          replace p488 := eq_true p488
          replace q488 := eq_true q488
          have p489 : 0 ≤ (x5_1 : Int) := of_decide_eq_true as_
          have q489 : x5_1 < (l0.length : Int) := of_decide_eq_true as_
          obtain ⟨ad489, e489, hx489_0, hx489_1, hx489_2, hx489_3, hx489_4⟩ := at_T71 HR0.out x5_1 p489 q489
          obtain rfl : ad485 = ad489 := (by injection e489)
          (try replace hx489_0 := cb_ HB hx489_0)
          (try replace hx489_1 := cb_ HB hx489_1)
          (try replace hx489_2 := cb_ HB hx489_2)
          (try replace hx489_3 := cb_ HB hx489_3)
          (try replace hx489_4 := cb_ HB hx489_4)
          replace p489 := eq_true p489
          replace q489 := eq_true q489
          have p490 : 0 ≤ (x5_1 : Int) := of_decide_eq_true as_
          have q490 : x5_1 < (l0.length : Int) := of_decide_eq_true as_
          obtain ⟨ad490, e490, hx490_0, hx490_1, hx490_2, hx490_3, hx490_4⟩ := at_T71 HR0.out x5_1 p490 q490
          obtain rfl : ad485 = ad490 := (by injection e490)
          (try replace hx490_0 := cb_ HB hx490_0)
          (try replace hx490_1 := cb_ HB hx490_1)
          (try replace hx490_2 := cb_ HB hx490_2)
          (try replace hx490_3 := cb_ HB hx490_3)
          (try replace hx490_4 := cb_ HB hx490_4)
          replace p490 := eq_true p490
          replace q490 := eq_true q490
          try go_wp2
          go_roundg k1
          case measure => have := HK1.out; first | exact this | exact Nat.le_of_succ_le this | exact Nat.le_refl _ | omega
          case rel => exact ⟨(wrap64 ((wrap64 ((wrap64 ((wrap64 ((wrap64 (x1_1 + 1)) + 1)) + 1)) + 1)) + 1)), (wrap64 (x5_1 + 1)), rs_, rs_, H', ⟨by have := HK1.out; first | exact this | exact Nat.le_of_succ_le this | exact Nat.le_refl _ | omega⟩, ⟨hb_ HB⟩⟩
         ·rw [if_neg c10] at H
          have c10b0 : (((rd_T71 l0 x5_1).f4) == (wrap64 ((wrap64 ((wrap64 ((wrap64 (x1_1 + 1)) + 1)) + 1)) + 1))) = false := beq_eq_false_iff_ne.mpr c10
          have c10b1 : (((rd_T71 l0 x5_1).f4) != (wrap64 ((wrap64 ((wrap64 ((wrap64 (x1_1 + 1)) + 1)) + 1)) + 1))) = true := bne_iff_ne.mpr c10
          obtain rfl := Option.some.inj H
          try go_wp2
          replace HB := hd_ HB
          have p485 : 0 ≤ (x5_1 : Int) := of_decide_eq_true as_
          have q485 : x5_1 < (l0.length : Int) := of_decide_eq_true as_
          obtain ⟨ad485, e485, hx485_0, hx485_1, hx485_2, hx485_3, hx485_4⟩ := at_T71 HR0.out x5_1 p485 q485
          have hw485_4 := hx485_4
          have hw485_3 := hx485_3
          have hw485_2 := hx485_2
          have hw485_1 := hx485_1
          have hw485_0 := hx485_0
          cases e485
          (try replace hx485_0 := cb_ HB hx485_0)
          (try replace hx485_1 := cb_ HB hx485_1)
          (try replace hx485_2 := cb_ HB hx485_2)
          (try replace hx485_3 := cb_ HB hx485_3)
          (try replace hx485_4 := cb_ HB hx485_4)
          replace p485 := eq_true p485
          replace q485 := eq_true q485
          refine start_ (n := 8) (S := e5e_ (ad485.add ((x5_1).toNat * 5)) (.string ((rd_T71 l0 x5_1).f0)) (.int .i64 ((rd_T71 l0 x5_1).f1)) (.int .i64 ((rd_T71 l0 x5_1).f2)) (.int .i64 ((rd_T71 l0 x5_1).f3)) (.int .i64 ((rd_T71 l0 x5_1).f4))) (ds := []) (on_ 0 8) (by kernel_rfl) rfl rfl (q5e_ (cb_ HB hw485_0 :) (cb_ HB hw485_1 :) (cb_ HB hw485_2 :) (cb_ HB hw485_3 :) (cb_ HB hw485_4 :)) (fun hHeld => ?_); refine with_tabW laws_heldEntryS.tab4 laws_heldEntryS.bits4 (fun HT_ HW_ => ?_)
          generalize wr.drew = w13 at HB hx485_0 hx485_1 hx485_2 hx485_3 hx485_4 hHeld ⊢
          refine pv_' 0 12 (on_ 1 7) rfl rfl HT_ ?_
          refine pv_' 1 13 (on_ 2 6) rfl rfl HT_ ?_
          refine pv_' 2 14 (on_ 3 5) rfl rfl HT_ ?_
          refine pv_' 3 15 (on_ 4 4) rfl rfl HT_ ?_
          refine pv_' 5 17 #[i',i',i',i',o',i',o',o'] rfl rfl HT_ ?_
          refine take_ (i := 4) (N := some 16) (v := ?_) (a' := ?_) (on_ 6 2) rfl rfl (take_ofW HT_.out HW_.out (by kernel_rfl)) (fun _ _ _ h => h) (Or.inl ⟨by rfl, ?_⟩) hHeld ?_ ?_
          rotate_left
          ·rintro w' ⟨s0, s1, s2, s3, s4⟩
           go_simp
           with_reducible rfl
          rotate_left
          ·simp only [Act.put, la_, lz_, ls_, i64_w, i32_w]
           rfl
          refine one_ (i := 6) (N := some 18) (on_ 7 1) rfl rfl (one_of HT_.out (by kernel_rfl)) (by decide) (fun K hK => ?_)
          refine goes_ Try.func30 (by kernel_rfl) rfl #[.int .i64 x1_1] (by rfl) rfl rfl ar_ ?_
          with_reducible refine (laws_markText.calls k1 x1_1 t486 _ A5.out).mono ?_
          rintro e w14 ⟨rfl, hb⟩
          refine ⟨_, rfl, ?_⟩
          replace HB := bs_ HB hb
          (try clear hb)
          (try clear hb2)
          (try clear hk)
          (try clear hi)
          refine hK.out _ _ (q5e_ (cb_ HB hw485_0 :) (cb_ HB hw485_1 :) (cb_ HB hw485_2 :) (cb_ HB hw485_3 :) (cb_ HB hw485_4 :)) (fun hHeld => ?_)
          clear hK K
          refine norm_ (a' := ?_) ?_ ?_
          rotate_left
          ·show Act.put _ (some 18) _ = _
           simp only [Act.put, la_, lz_, ls_, i64_w, i32_w]
           rfl
          refine pv_' 7 19 (on_ 8 0) rfl rfl HT_ ?_
          refine done_ (done_of HT_.out (by kernel_rfl)) ?_
          have p487 : 0 ≤ (x5_1 : Int) := of_decide_eq_true as_
          have q487 : x5_1 < (l0.length : Int) := of_decide_eq_true as_
          obtain ⟨ad487, e487, hx487_0, hx487_1, hx487_2, hx487_3, hx487_4⟩ := at_T71 HR0.out x5_1 p487 q487
          obtain rfl : ad485 = ad487 := (by injection e487)
          (try replace hx487_0 := cb_ HB hx487_0)
          (try replace hx487_1 := cb_ HB hx487_1)
          (try replace hx487_2 := cb_ HB hx487_2)
          (try replace hx487_3 := cb_ HB hx487_3)
          (try replace hx487_4 := cb_ HB hx487_4)
          replace p487 := eq_true p487
          replace q487 := eq_true q487
          have p488 : 0 ≤ (x5_1 : Int) := of_decide_eq_true as_
          have q488 : x5_1 < (l0.length : Int) := of_decide_eq_true as_
          obtain ⟨ad488, e488, hx488_0, hx488_1, hx488_2, hx488_3, hx488_4⟩ := at_T71 HR0.out x5_1 p488 q488
          obtain rfl : ad485 = ad488 := (by injection e488)
          (try replace hx488_0 := cb_ HB hx488_0)
          (try replace hx488_1 := cb_ HB hx488_1)
          (try replace hx488_2 := cb_ HB hx488_2)
          (try replace hx488_3 := cb_ HB hx488_3)
          (try replace hx488_4 := cb_ HB hx488_4)
          replace p488 := eq_true p488
          replace q488 := eq_true q488
          have p489 : 0 ≤ (x5_1 : Int) := of_decide_eq_true as_
          have q489 : x5_1 < (l0.length : Int) := of_decide_eq_true as_
          obtain ⟨ad489, e489, hx489_0, hx489_1, hx489_2, hx489_3, hx489_4⟩ := at_T71 HR0.out x5_1 p489 q489
          obtain rfl : ad485 = ad489 := (by injection e489)
          (try replace hx489_0 := cb_ HB hx489_0)
          (try replace hx489_1 := cb_ HB hx489_1)
          (try replace hx489_2 := cb_ HB hx489_2)
          (try replace hx489_3 := cb_ HB hx489_3)
          (try replace hx489_4 := cb_ HB hx489_4)
          replace p489 := eq_true p489
          replace q489 := eq_true q489
          have p490 : 0 ≤ (x5_1 : Int) := of_decide_eq_true as_
          have q490 : x5_1 < (l0.length : Int) := of_decide_eq_true as_
          obtain ⟨ad490, e490, hx490_0, hx490_1, hx490_2, hx490_3, hx490_4⟩ := at_T71 HR0.out x5_1 p490 q490
          obtain rfl : ad485 = ad490 := (by injection e490)
          (try replace hx490_0 := cb_ HB hx490_0)
          (try replace hx490_1 := cb_ HB hx490_1)
          (try replace hx490_2 := cb_ HB hx490_2)
          (try replace hx490_3 := cb_ HB hx490_3)
          (try replace hx490_4 := cb_ HB hx490_4)
          replace p490 := eq_true p490
          replace q490 := eq_true q490
          try go_wp2
          go_ret
          exact ⟨re_, hb_ HB⟩
        ·rw [if_neg c9] at H
         have c9b0 : (((rd_T71 l0 x5_1).f3) == (wrap64 ((wrap64 ((wrap64 (x1_1 + 1)) + 1)) + 1))) = false := beq_eq_false_iff_ne.mpr c9
         have c9b1 : (((rd_T71 l0 x5_1).f3) != (wrap64 ((wrap64 ((wrap64 (x1_1 + 1)) + 1)) + 1))) = true := bne_iff_ne.mpr c9
         obtain rfl := Option.some.inj H
         try go_wp2
         replace HB := hd_ HB
         have p485 : 0 ≤ (x5_1 : Int) := of_decide_eq_true as_
         have q485 : x5_1 < (l0.length : Int) := of_decide_eq_true as_
         obtain ⟨ad485, e485, hx485_0, hx485_1, hx485_2, hx485_3, hx485_4⟩ := at_T71 HR0.out x5_1 p485 q485
         have hw485_4 := hx485_4
         have hw485_3 := hx485_3
         have hw485_2 := hx485_2
         have hw485_1 := hx485_1
         have hw485_0 := hx485_0
         cases e485
         (try replace hx485_0 := cb_ HB hx485_0)
         (try replace hx485_1 := cb_ HB hx485_1)
         (try replace hx485_2 := cb_ HB hx485_2)
         (try replace hx485_3 := cb_ HB hx485_3)
         (try replace hx485_4 := cb_ HB hx485_4)
         replace p485 := eq_true p485
         replace q485 := eq_true q485
         refine start_ (n := 8) (S := e5e_ (ad485.add ((x5_1).toNat * 5)) (.string ((rd_T71 l0 x5_1).f0)) (.int .i64 ((rd_T71 l0 x5_1).f1)) (.int .i64 ((rd_T71 l0 x5_1).f2)) (.int .i64 ((rd_T71 l0 x5_1).f3)) (.int .i64 ((rd_T71 l0 x5_1).f4))) (ds := []) (on_ 0 8) (by kernel_rfl) rfl rfl (q5e_ (cb_ HB hw485_0 :) (cb_ HB hw485_1 :) (cb_ HB hw485_2 :) (cb_ HB hw485_3 :) (cb_ HB hw485_4 :)) (fun hHeld => ?_); refine with_tabW laws_heldEntryS.tab4 laws_heldEntryS.bits4 (fun HT_ HW_ => ?_)
         generalize wr.drew = w15 at HB hx485_0 hx485_1 hx485_2 hx485_3 hx485_4 hHeld ⊢
         refine pv_' 0 12 (on_ 1 7) rfl rfl HT_ ?_
         refine pv_' 1 13 (on_ 2 6) rfl rfl HT_ ?_
         refine pv_' 2 14 (on_ 3 5) rfl rfl HT_ ?_
         refine pv_' 3 15 (on_ 4 4) rfl rfl HT_ ?_
         refine pv_' 5 17 #[i',i',i',i',o',i',o',o'] rfl rfl HT_ ?_
         refine take_ (i := 4) (N := some 16) (v := ?_) (a' := ?_) (on_ 6 2) rfl rfl (take_ofW HT_.out HW_.out (by kernel_rfl)) (fun _ _ _ h => h) (Or.inl ⟨by rfl, ?_⟩) hHeld ?_ ?_
         rotate_left
         ·rintro w' ⟨s0, s1, s2, s3, s4⟩
          go_simp
          with_reducible rfl
         rotate_left
         ·simp only [Act.put, la_, lz_, ls_, i64_w, i32_w]
          rfl
         refine one_ (i := 6) (N := some 18) (on_ 7 1) rfl rfl (one_of HT_.out (by kernel_rfl)) (by decide) (fun K hK => ?_)
         refine goes_ Try.func30 (by kernel_rfl) rfl #[.int .i64 x1_1] (by rfl) rfl rfl ar_ ?_
         with_reducible refine (laws_markText.calls k1 x1_1 t486 _ A5.out).mono ?_
         rintro e w16 ⟨rfl, hb⟩
         refine ⟨_, rfl, ?_⟩
         replace HB := bs_ HB hb
         (try clear hb)
         (try clear hb2)
         (try clear hk)
         (try clear hi)
         refine hK.out _ _ (q5e_ (cb_ HB hw485_0 :) (cb_ HB hw485_1 :) (cb_ HB hw485_2 :) (cb_ HB hw485_3 :) (cb_ HB hw485_4 :)) (fun hHeld => ?_)
         clear hK K
         refine norm_ (a' := ?_) ?_ ?_
         rotate_left
         ·show Act.put _ (some 18) _ = _
          simp only [Act.put, la_, lz_, ls_, i64_w, i32_w]
          rfl
         refine pv_' 7 19 (on_ 8 0) rfl rfl HT_ ?_
         refine done_ (done_of HT_.out (by kernel_rfl)) ?_
         have p487 : 0 ≤ (x5_1 : Int) := of_decide_eq_true as_
         have q487 : x5_1 < (l0.length : Int) := of_decide_eq_true as_
         obtain ⟨ad487, e487, hx487_0, hx487_1, hx487_2, hx487_3, hx487_4⟩ := at_T71 HR0.out x5_1 p487 q487
         obtain rfl : ad485 = ad487 := (by injection e487)
         (try replace hx487_0 := cb_ HB hx487_0)
         (try replace hx487_1 := cb_ HB hx487_1)
         (try replace hx487_2 := cb_ HB hx487_2)
         (try replace hx487_3 := cb_ HB hx487_3)
         (try replace hx487_4 := cb_ HB hx487_4)
         replace p487 := eq_true p487
         replace q487 := eq_true q487
         have p488 : 0 ≤ (x5_1 : Int) := of_decide_eq_true as_
         have q488 : x5_1 < (l0.length : Int) := of_decide_eq_true as_
         obtain ⟨ad488, e488, hx488_0, hx488_1, hx488_2, hx488_3, hx488_4⟩ := at_T71 HR0.out x5_1 p488 q488
         obtain rfl : ad485 = ad488 := (by injection e488)
         (try replace hx488_0 := cb_ HB hx488_0)
         (try replace hx488_1 := cb_ HB hx488_1)
         (try replace hx488_2 := cb_ HB hx488_2)
         (try replace hx488_3 := cb_ HB hx488_3)
         (try replace hx488_4 := cb_ HB hx488_4)
         replace p488 := eq_true p488
         replace q488 := eq_true q488
         have p489 : 0 ≤ (x5_1 : Int) := of_decide_eq_true as_
         have q489 : x5_1 < (l0.length : Int) := of_decide_eq_true as_
         obtain ⟨ad489, e489, hx489_0, hx489_1, hx489_2, hx489_3, hx489_4⟩ := at_T71 HR0.out x5_1 p489 q489
         obtain rfl : ad485 = ad489 := (by injection e489)
         (try replace hx489_0 := cb_ HB hx489_0)
         (try replace hx489_1 := cb_ HB hx489_1)
         (try replace hx489_2 := cb_ HB hx489_2)
         (try replace hx489_3 := cb_ HB hx489_3)
         (try replace hx489_4 := cb_ HB hx489_4)
         replace p489 := eq_true p489
         replace q489 := eq_true q489
         try go_wp2
         go_ret
         exact ⟨re_, hb_ HB⟩
       ·rw [if_neg c8] at H
        have c8b0 : (((rd_T71 l0 x5_1).f2) == (wrap64 ((wrap64 (x1_1 + 1)) + 1))) = false := beq_eq_false_iff_ne.mpr c8
        have c8b1 : (((rd_T71 l0 x5_1).f2) != (wrap64 ((wrap64 (x1_1 + 1)) + 1))) = true := bne_iff_ne.mpr c8
        obtain rfl := Option.some.inj H
        try go_wp2
        replace HB := hd_ HB
        have p485 : 0 ≤ (x5_1 : Int) := of_decide_eq_true as_
        have q485 : x5_1 < (l0.length : Int) := of_decide_eq_true as_
        obtain ⟨ad485, e485, hx485_0, hx485_1, hx485_2, hx485_3, hx485_4⟩ := at_T71 HR0.out x5_1 p485 q485
        have hw485_4 := hx485_4
        have hw485_3 := hx485_3
        have hw485_2 := hx485_2
        have hw485_1 := hx485_1
        have hw485_0 := hx485_0
        cases e485
        (try replace hx485_0 := cb_ HB hx485_0)
        (try replace hx485_1 := cb_ HB hx485_1)
        (try replace hx485_2 := cb_ HB hx485_2)
        (try replace hx485_3 := cb_ HB hx485_3)
        (try replace hx485_4 := cb_ HB hx485_4)
        replace p485 := eq_true p485
        replace q485 := eq_true q485
        refine start_ (n := 8) (S := e5e_ (ad485.add ((x5_1).toNat * 5)) (.string ((rd_T71 l0 x5_1).f0)) (.int .i64 ((rd_T71 l0 x5_1).f1)) (.int .i64 ((rd_T71 l0 x5_1).f2)) (.int .i64 ((rd_T71 l0 x5_1).f3)) (.int .i64 ((rd_T71 l0 x5_1).f4))) (ds := []) (on_ 0 8) (by kernel_rfl) rfl rfl (q5e_ (cb_ HB hw485_0 :) (cb_ HB hw485_1 :) (cb_ HB hw485_2 :) (cb_ HB hw485_3 :) (cb_ HB hw485_4 :)) (fun hHeld => ?_); refine with_tabW laws_heldEntryS.tab4 laws_heldEntryS.bits4 (fun HT_ HW_ => ?_)
        generalize wr.drew = w17 at HB hx485_0 hx485_1 hx485_2 hx485_3 hx485_4 hHeld ⊢
        refine pv_' 0 12 (on_ 1 7) rfl rfl HT_ ?_
        refine pv_' 1 13 (on_ 2 6) rfl rfl HT_ ?_
        refine pv_' 2 14 (on_ 3 5) rfl rfl HT_ ?_
        refine pv_' 3 15 (on_ 4 4) rfl rfl HT_ ?_
        refine pv_' 5 17 #[i',i',i',i',o',i',o',o'] rfl rfl HT_ ?_
        refine take_ (i := 4) (N := some 16) (v := ?_) (a' := ?_) (on_ 6 2) rfl rfl (take_ofW HT_.out HW_.out (by kernel_rfl)) (fun _ _ _ h => h) (Or.inl ⟨by rfl, ?_⟩) hHeld ?_ ?_
        rotate_left
        ·rintro w' ⟨s0, s1, s2, s3, s4⟩
         go_simp
         with_reducible rfl
        rotate_left
        ·simp only [Act.put, la_, lz_, ls_, i64_w, i32_w]
         rfl
        refine one_ (i := 6) (N := some 18) (on_ 7 1) rfl rfl (one_of HT_.out (by kernel_rfl)) (by decide) (fun K hK => ?_)
        refine goes_ Try.func30 (by kernel_rfl) rfl #[.int .i64 x1_1] (by rfl) rfl rfl ar_ ?_
        with_reducible refine (laws_markText.calls k1 x1_1 t486 _ A5.out).mono ?_
        rintro e w18 ⟨rfl, hb⟩
        refine ⟨_, rfl, ?_⟩
        replace HB := bs_ HB hb
        (try clear hb)
        (try clear hb2)
        (try clear hk)
        (try clear hi)
        refine hK.out _ _ (q5e_ (cb_ HB hw485_0 :) (cb_ HB hw485_1 :) (cb_ HB hw485_2 :) (cb_ HB hw485_3 :) (cb_ HB hw485_4 :)) (fun hHeld => ?_)
        clear hK K
        refine norm_ (a' := ?_) ?_ ?_
        rotate_left
        ·show Act.put _ (some 18) _ = _
         simp only [Act.put, la_, lz_, ls_, i64_w, i32_w]
         rfl
        refine pv_' 7 19 (on_ 8 0) rfl rfl HT_ ?_
        refine done_ (done_of HT_.out (by kernel_rfl)) ?_
        have p487 : 0 ≤ (x5_1 : Int) := of_decide_eq_true as_
        have q487 : x5_1 < (l0.length : Int) := of_decide_eq_true as_
        obtain ⟨ad487, e487, hx487_0, hx487_1, hx487_2, hx487_3, hx487_4⟩ := at_T71 HR0.out x5_1 p487 q487
        obtain rfl : ad485 = ad487 := (by injection e487)
        (try replace hx487_0 := cb_ HB hx487_0)
        (try replace hx487_1 := cb_ HB hx487_1)
        (try replace hx487_2 := cb_ HB hx487_2)
        (try replace hx487_3 := cb_ HB hx487_3)
        (try replace hx487_4 := cb_ HB hx487_4)
        replace p487 := eq_true p487
        replace q487 := eq_true q487
        have p488 : 0 ≤ (x5_1 : Int) := of_decide_eq_true as_
        have q488 : x5_1 < (l0.length : Int) := of_decide_eq_true as_
        obtain ⟨ad488, e488, hx488_0, hx488_1, hx488_2, hx488_3, hx488_4⟩ := at_T71 HR0.out x5_1 p488 q488
        obtain rfl : ad485 = ad488 := (by injection e488)
        (try replace hx488_0 := cb_ HB hx488_0)
        (try replace hx488_1 := cb_ HB hx488_1)
        (try replace hx488_2 := cb_ HB hx488_2)
        (try replace hx488_3 := cb_ HB hx488_3)
        (try replace hx488_4 := cb_ HB hx488_4)
        replace p488 := eq_true p488
        replace q488 := eq_true q488
        try go_wp2
        go_ret
        exact ⟨re_, hb_ HB⟩
      ·rw [if_neg c7] at H
       have c7b0 : (((rd_T71 l0 x5_1).f1) == (wrap64 (x1_1 + 1))) = false := beq_eq_false_iff_ne.mpr c7
       have c7b1 : (((rd_T71 l0 x5_1).f1) != (wrap64 (x1_1 + 1))) = true := bne_iff_ne.mpr c7
       obtain rfl := Option.some.inj H
       try go_wp2
       replace HB := hd_ HB
       have p485 : 0 ≤ (x5_1 : Int) := of_decide_eq_true as_
       have q485 : x5_1 < (l0.length : Int) := of_decide_eq_true as_
       obtain ⟨ad485, e485, hx485_0, hx485_1, hx485_2, hx485_3, hx485_4⟩ := at_T71 HR0.out x5_1 p485 q485
       have hw485_4 := hx485_4
       have hw485_3 := hx485_3
       have hw485_2 := hx485_2
       have hw485_1 := hx485_1
       have hw485_0 := hx485_0
       cases e485
       (try replace hx485_0 := cb_ HB hx485_0)
       (try replace hx485_1 := cb_ HB hx485_1)
       (try replace hx485_2 := cb_ HB hx485_2)
       (try replace hx485_3 := cb_ HB hx485_3)
       (try replace hx485_4 := cb_ HB hx485_4)
       replace p485 := eq_true p485
       replace q485 := eq_true q485
       refine start_ (n := 8) (S := e5e_ (ad485.add ((x5_1).toNat * 5)) (.string ((rd_T71 l0 x5_1).f0)) (.int .i64 ((rd_T71 l0 x5_1).f1)) (.int .i64 ((rd_T71 l0 x5_1).f2)) (.int .i64 ((rd_T71 l0 x5_1).f3)) (.int .i64 ((rd_T71 l0 x5_1).f4))) (ds := []) (on_ 0 8) (by kernel_rfl) rfl rfl (q5e_ (cb_ HB hw485_0 :) (cb_ HB hw485_1 :) (cb_ HB hw485_2 :) (cb_ HB hw485_3 :) (cb_ HB hw485_4 :)) (fun hHeld => ?_); refine with_tabW laws_heldEntryS.tab4 laws_heldEntryS.bits4 (fun HT_ HW_ => ?_)
       generalize wr.drew = w19 at HB hx485_0 hx485_1 hx485_2 hx485_3 hx485_4 hHeld ⊢
       refine pv_' 0 12 (on_ 1 7) rfl rfl HT_ ?_
       refine pv_' 1 13 (on_ 2 6) rfl rfl HT_ ?_
       refine pv_' 2 14 (on_ 3 5) rfl rfl HT_ ?_
       refine pv_' 3 15 (on_ 4 4) rfl rfl HT_ ?_
       refine pv_' 5 17 #[i',i',i',i',o',i',o',o'] rfl rfl HT_ ?_
       refine take_ (i := 4) (N := some 16) (v := ?_) (a' := ?_) (on_ 6 2) rfl rfl (take_ofW HT_.out HW_.out (by kernel_rfl)) (fun _ _ _ h => h) (Or.inl ⟨by rfl, ?_⟩) hHeld ?_ ?_
       rotate_left
       ·rintro w' ⟨s0, s1, s2, s3, s4⟩
        go_simp
        with_reducible rfl
       rotate_left
       ·simp only [Act.put, la_, lz_, ls_, i64_w, i32_w]
        rfl
       refine one_ (i := 6) (N := some 18) (on_ 7 1) rfl rfl (one_of HT_.out (by kernel_rfl)) (by decide) (fun K hK => ?_)
       refine goes_ Try.func30 (by kernel_rfl) rfl #[.int .i64 x1_1] (by rfl) rfl rfl ar_ ?_
       with_reducible refine (laws_markText.calls k1 x1_1 t486 _ A5.out).mono ?_
       rintro e w20 ⟨rfl, hb⟩
       refine ⟨_, rfl, ?_⟩
       replace HB := bs_ HB hb
       (try clear hb)
       (try clear hb2)
       (try clear hk)
       (try clear hi)
       refine hK.out _ _ (q5e_ (cb_ HB hw485_0 :) (cb_ HB hw485_1 :) (cb_ HB hw485_2 :) (cb_ HB hw485_3 :) (cb_ HB hw485_4 :)) (fun hHeld => ?_)
       clear hK K
       refine norm_ (a' := ?_) ?_ ?_
       rotate_left
       ·show Act.put _ (some 18) _ = _
        simp only [Act.put, la_, lz_, ls_, i64_w, i32_w]
        rfl
       refine pv_' 7 19 (on_ 8 0) rfl rfl HT_ ?_
       refine done_ (done_of HT_.out (by kernel_rfl)) ?_
       have p487 : 0 ≤ (x5_1 : Int) := of_decide_eq_true as_
       have q487 : x5_1 < (l0.length : Int) := of_decide_eq_true as_
       obtain ⟨ad487, e487, hx487_0, hx487_1, hx487_2, hx487_3, hx487_4⟩ := at_T71 HR0.out x5_1 p487 q487
       obtain rfl : ad485 = ad487 := (by injection e487)
       (try replace hx487_0 := cb_ HB hx487_0)
       (try replace hx487_1 := cb_ HB hx487_1)
       (try replace hx487_2 := cb_ HB hx487_2)
       (try replace hx487_3 := cb_ HB hx487_3)
       (try replace hx487_4 := cb_ HB hx487_4)
       replace p487 := eq_true p487
       replace q487 := eq_true q487
       try go_wp2
       go_ret
       exact ⟨re_, hb_ HB⟩
     ·rw [if_neg c6] at H
      have c6b0 : (((rd_T71 l0 x5_1).f0).toList == t486.toList) = false := beq_eq_false_iff_ne.mpr c6
      have c6b1 : (((rd_T71 l0 x5_1).f0).toList != t486.toList) = true := bne_iff_ne.mpr c6
      obtain rfl := Option.some.inj H
      try go_wp2
      replace HB := hd_ HB
      have p485 : 0 ≤ (x5_1 : Int) := of_decide_eq_true as_
      have q485 : x5_1 < (l0.length : Int) := of_decide_eq_true as_
      obtain ⟨ad485, e485, hx485_0, hx485_1, hx485_2, hx485_3, hx485_4⟩ := at_T71 HR0.out x5_1 p485 q485
      have hw485_4 := hx485_4
      have hw485_3 := hx485_3
      have hw485_2 := hx485_2
      have hw485_1 := hx485_1
      have hw485_0 := hx485_0
      cases e485
      (try replace hx485_0 := cb_ HB hx485_0)
      (try replace hx485_1 := cb_ HB hx485_1)
      (try replace hx485_2 := cb_ HB hx485_2)
      (try replace hx485_3 := cb_ HB hx485_3)
      (try replace hx485_4 := cb_ HB hx485_4)
      replace p485 := eq_true p485
      replace q485 := eq_true q485
      refine start_ (n := 8) (S := e5e_ (ad485.add ((x5_1).toNat * 5)) (.string ((rd_T71 l0 x5_1).f0)) (.int .i64 ((rd_T71 l0 x5_1).f1)) (.int .i64 ((rd_T71 l0 x5_1).f2)) (.int .i64 ((rd_T71 l0 x5_1).f3)) (.int .i64 ((rd_T71 l0 x5_1).f4))) (ds := []) (on_ 0 8) (by kernel_rfl) rfl rfl (q5e_ (cb_ HB hw485_0 :) (cb_ HB hw485_1 :) (cb_ HB hw485_2 :) (cb_ HB hw485_3 :) (cb_ HB hw485_4 :)) (fun hHeld => ?_); refine with_tabW laws_heldEntryS.tab4 laws_heldEntryS.bits4 (fun HT_ HW_ => ?_)
      generalize wr.drew = w21 at HB hx485_0 hx485_1 hx485_2 hx485_3 hx485_4 hHeld ⊢
      refine pv_' 0 12 (on_ 1 7) rfl rfl HT_ ?_
      refine pv_' 1 13 (on_ 2 6) rfl rfl HT_ ?_
      refine pv_' 2 14 (on_ 3 5) rfl rfl HT_ ?_
      refine pv_' 3 15 (on_ 4 4) rfl rfl HT_ ?_
      refine pv_' 5 17 #[i',i',i',i',o',i',o',o'] rfl rfl HT_ ?_
      refine take_ (i := 4) (N := some 16) (v := ?_) (a' := ?_) (on_ 6 2) rfl rfl (take_ofW HT_.out HW_.out (by kernel_rfl)) (fun _ _ _ h => h) (Or.inl ⟨by rfl, ?_⟩) hHeld ?_ ?_
      rotate_left
      ·rintro w' ⟨s0, s1, s2, s3, s4⟩
       go_simp
       with_reducible rfl
      rotate_left
      ·simp only [Act.put, la_, lz_, ls_, i64_w, i32_w]
       rfl
      refine one_ (i := 6) (N := some 18) (on_ 7 1) rfl rfl (one_of HT_.out (by kernel_rfl)) (by decide) (fun K hK => ?_)
      refine goes_ Try.func30 (by kernel_rfl) rfl #[.int .i64 x1_1] (by rfl) rfl rfl ar_ ?_
      with_reducible refine (laws_markText.calls k1 x1_1 t486 _ A5.out).mono ?_
      rintro e w22 ⟨rfl, hb⟩
      refine ⟨_, rfl, ?_⟩
      replace HB := bs_ HB hb
      (try clear hb)
      (try clear hb2)
      (try clear hk)
      (try clear hi)
      refine hK.out _ _ (q5e_ (cb_ HB hw485_0 :) (cb_ HB hw485_1 :) (cb_ HB hw485_2 :) (cb_ HB hw485_3 :) (cb_ HB hw485_4 :)) (fun hHeld => ?_)
      clear hK K
      refine norm_ (a' := ?_) ?_ ?_
      rotate_left
      ·show Act.put _ (some 18) _ = _
       simp only [Act.put, la_, lz_, ls_, i64_w, i32_w]
       rfl
      refine pv_' 7 19 (on_ 8 0) rfl rfl HT_ ?_
      refine done_ (done_of HT_.out (by kernel_rfl)) ?_
      try go_wp2
      go_ret
      exact ⟨re_, hb_ HB⟩
    ·rw [if_neg c4] at H
     exact absurd H (by simp)
   ·rw [if_neg c3] at H
    have c3b0 : decide (x5_1 < (l0.length : Int)) = false := decide_eq_false c3
    clear c3
    obtain rfl := Option.some.inj H
    go_wp2
    go_ret
    exact ⟨re_, hb_ HB⟩

end Go.Proofs.Ytcnmdjibogojnaa.PFnExactRegroup
