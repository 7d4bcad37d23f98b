-- Laid by a program of this session, a copy of the kit's printer with additions (wip/patch_print.py): myhead. Lean checks it.
import Derived.Test.YtebeafcdabkkfaaPFnExactReadHintx0
import Derived.Test.YtebeafcdabkkfaaPFnExactReadHintx12
namespace Go.Proofs.Ytebeafcdabkkfaa.PFnExactReadHint
open Go.RowKit Go.Proofs.YtebeafcdabkkfaaW.PrintWords Go.Proofs.YtebeafcdabkkfaaW.PrintLast Go.Proofs.YtebeafcdabkkfaaW.PrintMore
attribute [local go_sem] max2_int min2_int max_two min_two max_three min_three max_four min_four   -- for this text's walks alone
set_option linter.unusedVariables false
set_option linter.unusedSimpArgs false

/-! ### laws_heldEntryS: function 115 -/
def laws_heldEntryS.l0 : Nat → List (S113) → Int → Int → Option (Int)
 | 0, _, _, _ => none
 | k + 1, x0, x1, x5 => if x5 < (x0.length : Int) then (if 0 ≤ x5 then ((laws_markText.f k x1).bind fun t293 => (if ((rd_T113 x0 x5).f0).toList = t293.toList then (if ((rd_T113 x0 x5).f1) = (wrap64 (x1 + 1)) then (if ((rd_T113 x0 x5).f2) = (wrap64 ((wrap64 (x1 + 1)) + 1)) then (if ((rd_T113 x0 x5).f3) = (wrap64 ((wrap64 ((wrap64 (x1 + 1)) + 1)) + 1)) then (if ((rd_T113 x0 x5).f4) = (wrap64 ((wrap64 ((wrap64 ((wrap64 (x1 + 1)) + 1)) + 1)) + 1)) then (laws_heldEntryS.l0 k x0 (wrap64 ((wrap64 ((wrap64 ((wrap64 ((wrap64 (x1 + 1)) + 1)) + 1)) + 1)) + 1)) (wrap64 (x5 + 1))) else (some (-1))) else (some (-1))) else (some (-1))) else (some (-1))) else (some (-1)))) else (none)) else (some x1)
def laws_heldEntryS.f (k : Nat) (l0 : List (S113)) (a1 : Int) : Option (Int) := laws_heldEntryS.l0 k l0 a1 0
theorem laws_heldEntryS.mono_l : ∀ k, (∀ y0 y1 y2, LeO (laws_heldEntryS.l0 k y0 y1 y2) (laws_heldEntryS.l0 (k + 1) y0 y1 y2))
 | 0 => fun _ _ _ r h => by simp [laws_heldEntryS.l0] at h
 | k + 1 => by
  have ih0 := laws_heldEntryS.mono_l k
  ·intro y0 y1 y2
   unfold laws_heldEntryS.l0
   repeat' first
   | (with_reducible exact ih0 _ _ _)
   | (with_reducible exact laws_markText.mono _ _)
   | (with_reducible exact LeO.refl _)
   | (with_reducible exact LeO.none _)
   | (with_reducible refine LeO.ite ?_ ?_)
   | (with_reducible refine LeO.bind ?_ (fun _ => ?_))
   | exact ih0 _ _ _
   | exact laws_markText.mono _ _
   | exact LeO.none _
   | refine LeO.ite ?_ ?_
   | refine LeO.bind ?_ (fun _ => ?_)
theorem laws_heldEntryS.mono : ∀ a0 a1 k, LeO (laws_heldEntryS.f k a0 a1) (laws_heldEntryS.f (k + 1) a0 a1) := by
 intro a0 a1 k
 have ih0 := laws_heldEntryS.mono_l k
 unfold laws_heldEntryS.f
 repeat' first
   | (with_reducible exact ih0 _ _ _)
   | (with_reducible exact laws_markText.mono _ _)
   | (with_reducible exact LeO.refl _)
   | (with_reducible exact LeO.none _)
   | (with_reducible refine LeO.ite ?_ ?_)
   | (with_reducible refine LeO.bind ?_ (fun _ => ?_))
   | exact ih0 _ _ _
   | exact laws_markText.mono _ _
   | exact LeO.none _
   | refine LeO.ite ?_ ?_
   | refine LeO.bind ?_ (fun _ => ?_)
def laws_heldEntryS.T4 : Bool × List (List Nat × List Nat) := (true, [([], []), ([], []), ([0, 1], [0, 1]), ([2], [2]), ([3], [3]), ([], []), ([5], [5]), ([4, 6], [4, 6])])
def laws_heldEntryS.B4 : List Nat := [0, 0, 3, 7, 15, 0, 32, 127]
theorem laws_heldEntryS.tab4 : rtab .any (opsOf Try.f115 4) = laws_heldEntryS.T4 := by kernel_rfl
theorem laws_heldEntryS.bits4 : waitsOk laws_heldEntryS.T4.2 laws_heldEntryS.B4 = true := by kernel_rfl
set_option maxHeartbeats 8000000 in
set_option maxRecDepth 100000 in
theorem laws_heldEntryS.calls (k : Nat) (A0 : Option Addr) (c0 : Nat) (l0 : List (S113)) (a1 : Int) (r : Int) (w : World) (hr0 : Kd.C k113 w A0 l0.length l0) (hc0 : l0.length ≤ c0) (h : laws_heldEntryS.f k l0 a1 = some r) :
  Calls Try.prog 115 #[.slice A0 l0.length c0, .int .i64 a1] w fun e w' => e = .returned (.int .i64 r) ∧ Below w.heap.size w w' := by
 have HR0 := Aside0.mk hr0
 have HC0 := Aside0.mk hc0
 clear hr0 hc0
 have HB := Aside0.mk (Below.refl w.heap.size w)
 have H : (laws_heldEntryS.l0 k l0 a1 0) = some r := h
 clear h
 have H' := Aside0.mk H
 clear H
 go_enter Try.func115, Try.ntmps115
 go_wp2
 go_loopg [1, 5] k (fun kq v1 v5 w' => ∃ (x1_1 : Int) (x5_1 : Int), v1 = .int .i64 x1_1 ∧ v5 = .int .i64 x5_1 ∧ Aside0 (laws_heldEntryS.l0 kq l0 x1_1 x5_1 = some r) ∧ Aside0 (kq ≤ k) ∧ Aside0 (Below w.heap.size w w'))
 case atStart => exact ⟨(a1), (0), rs_, rs_, H', ⟨Nat.le_refl _⟩, ⟨hb_ HB⟩⟩
 case round =>
  clear H'
  try clear c1
  try clear p2
  obtain ⟨x1_1, x5_1, rfl, rfl, HA, HK1, HB⟩ := hrel
  cases gk with
  | zero => exact absurd HA.out (by simp [laws_heldEntryS.l0])
  | succ k1 =>
   have H := HA.out
   clear HA
   simp only [laws_heldEntryS.l0] at H
   by_cases c3 : x5_1 < (l0.length : Int)
   ·rw [if_pos c3] at H
    have c3b0 : decide (x5_1 < (l0.length : Int)) = true := decide_eq_true c3
    clear c3
    by_cases c4 : 0 ≤ x5_1
    ·rw [if_pos c4] at H
     have c4b0 : decide (0 ≤ x5_1) = true := decide_eq_true c4
     clear c4
     replace H := Option.bind_eq_some_iff.mp H
     obtain ⟨t293, A50, H⟩ := H
     replace H : (if ((rd_T113 l0 x5_1).f0).toList = t293.toList then (if ((rd_T113 l0 x5_1).f1) = (wrap64 (x1_1 + 1)) then (if ((rd_T113 l0 x5_1).f2) = (wrap64 ((wrap64 (x1_1 + 1)) + 1)) then (if ((rd_T113 l0 x5_1).f3) = (wrap64 ((wrap64 ((wrap64 (x1_1 + 1)) + 1)) + 1)) then (if ((rd_T113 l0 x5_1).f4) = (wrap64 ((wrap64 ((wrap64 ((wrap64 (x1_1 + 1)) + 1)) + 1)) + 1)) then (laws_heldEntryS.l0 k1 l0 (wrap64 ((wrap64 ((wrap64 ((wrap64 ((wrap64 (x1_1 + 1)) + 1)) + 1)) + 1)) + 1)) (wrap64 (x5_1 + 1))) else (some (-1))) else (some (-1))) else (some (-1))) else (some (-1))) else (some (-1))) = some r := H
     have A5 := Aside0.mk A50
     clear A50
     by_cases c6 : ((rd_T113 l0 x5_1).f0).toList = t293.toList
     ·rw [if_pos c6] at H
      have c6b0 : (((rd_T113 l0 x5_1).f0).toList == t293.toList) = true := beq_iff_eq.mpr c6
      have c6b1 : (((rd_T113 l0 x5_1).f0).toList != t293.toList) = false := bne_eq_false_iff_eq.mpr c6
      clear c6
      by_cases c7 : ((rd_T113 l0 x5_1).f1) = (wrap64 (x1_1 + 1))
      ·rw [if_pos c7] at H
       have c7b0 : (((rd_T113 l0 x5_1).f1) == (wrap64 (x1_1 + 1))) = true := beq_iff_eq.mpr c7
       have c7b1 : (((rd_T113 l0 x5_1).f1) != (wrap64 (x1_1 + 1))) = false := bne_eq_false_iff_eq.mpr c7
       clear c7
       by_cases c8 : ((rd_T113 l0 x5_1).f2) = (wrap64 ((wrap64 (x1_1 + 1)) + 1))
       ·rw [if_pos c8] at H
        have c8b0 : (((rd_T113 l0 x5_1).f2) == (wrap64 ((wrap64 (x1_1 + 1)) + 1))) = true := beq_iff_eq.mpr c8
        have c8b1 : (((rd_T113 l0 x5_1).f2) != (wrap64 ((wrap64 (x1_1 + 1)) + 1))) = false := bne_eq_false_iff_eq.mpr c8
        clear c8
        by_cases c9 : ((rd_T113 l0 x5_1).f3) = (wrap64 ((wrap64 ((wrap64 (x1_1 + 1)) + 1)) + 1))
        ·rw [if_pos c9] at H
         have c9b0 : (((rd_T113 l0 x5_1).f3) == (wrap64 ((wrap64 ((wrap64 (x1_1 + 1)) + 1)) + 1))) = true := beq_iff_eq.mpr c9
         have c9b1 : (((rd_T113 l0 x5_1).f3) != (wrap64 ((wrap64 ((wrap64 (x1_1 + 1)) + 1)) + 1))) = false := bne_eq_false_iff_eq.mpr c9
         clear c9
         by_cases c10 : ((rd_T113 l0 x5_1).f4) = (wrap64 ((wrap64 ((wrap64 ((wrap64 (x1_1 + 1)) + 1)) + 1)) + 1))
         ·rw [if_pos c10] at H
          have c10b0 : (((rd_T113 l0 x5_1).f4) == (wrap64 ((wrap64 ((wrap64 ((wrap64 (x1_1 + 1)) + 1)) + 1)) + 1))) = true := beq_iff_eq.mpr c10
          have c10b1 : (((rd_T113 l0 x5_1).f4) != (wrap64 ((wrap64 ((wrap64 ((wrap64 (x1_1 + 1)) + 1)) + 1)) + 1))) = false := bne_eq_false_iff_eq.mpr c10
          clear c10
          have H' := Aside0.mk H
          clear H
          try go_wp2
          have n0_ := Aside0.mk (below_drew1 HB.out)
          clear HB
          have HB := n0_
          clear n0_
          have p292 : 0 ≤ (x5_1 : Int) := of_decide_eq_true as_
          have q292 : x5_1 < (l0.length : Int) := of_decide_eq_true as_
          obtain ⟨ad292, e292, hx292_0, hx292_1, hx292_2, hx292_3, hx292_4⟩ := at_T113 HR0.out x5_1 p292 q292
          have hw292_4 := hx292_4
          have hw292_3 := hx292_3
          have hw292_2 := hx292_2
          have hw292_1 := hx292_1
          have hw292_0 := hx292_0
          cases e292
          replace hx292_0 := cb_ HB hx292_0
          replace hx292_1 := cb_ HB hx292_1
          replace hx292_2 := cb_ HB hx292_2
          replace hx292_3 := cb_ HB hx292_3
          replace hx292_4 := cb_ HB hx292_4
          replace p292 := eq_true p292
          replace q292 := eq_true q292
          refine start_ (n := 8) (S := fun w' => w'.cell? (ad292.add ((x5_1).toNat * 5)) = some (.string ((rd_T113 l0 x5_1).f0)) ∧ w'.cell? ⟨(ad292.add ((x5_1).toNat * 5)).block, (ad292.add ((x5_1).toNat * 5)).off + 1, none⟩ = some (.int .i64 ((rd_T113 l0 x5_1).f1)) ∧ w'.cell? ⟨(ad292.add ((x5_1).toNat * 5)).block, (ad292.add ((x5_1).toNat * 5)).off + 2, none⟩ = some (.int .i64 ((rd_T113 l0 x5_1).f2)) ∧ w'.cell? ⟨(ad292.add ((x5_1).toNat * 5)).block, (ad292.add ((x5_1).toNat * 5)).off + 3, none⟩ = some (.int .i64 ((rd_T113 l0 x5_1).f3)) ∧ w'.cell? ⟨(ad292.add ((x5_1).toNat * 5)).block, (ad292.add ((x5_1).toNat * 5)).off + 4, none⟩ = some (.int .i64 ((rd_T113 l0 x5_1).f4))) (ds := []) (on_ 0 8) (by kernel_rfl) rfl rfl ⟨(cb_ HB hw292_0 :), (cb_ HB hw292_1 :), (cb_ HB hw292_2 :), (cb_ HB hw292_3 :), (cb_ HB hw292_4 :)⟩ (fun hHeld => ?_); refine with_tabW laws_heldEntryS.tab4 laws_heldEntryS.bits4 (fun HT_ HW_ => ?_)
          generalize wr.drew = w11 at HB hx292_0 hx292_1 hx292_2 hx292_3 hx292_4 hHeld ⊢
          refine pv_ (i := 0) (N := some 12) (on_ 1 7) rfl rfl HT_ ?_
          refine pv_ (i := 1) (N := some 13) (on_ 2 6) rfl rfl HT_ ?_
          refine pv_ (i := 2) (N := some 14) (on_ 3 5) rfl rfl HT_ ?_
          refine pv_ (i := 3) (N := some 15) (on_ 4 4) rfl rfl HT_ ?_
          refine pv_ (i := 5) (N := some 17) #[i',i',i',i',o',i',o',o'] rfl rfl HT_ ?_
          refine take_ (i := 4) (N := some 16) (v := ?_) (a' := ?_) (on_ 6 2) rfl rfl (take_ofW HT_.out HW_.out (by kernel_rfl)) (fun _ _ _ h => h) (Or.inl ⟨by rfl, ?_⟩) hHeld ?_ ?_
          rotate_left
          ·rintro w' ⟨s0, s1, s2, s3, s4⟩
           go_simp
           with_reducible rfl
          rotate_left
          ·simp only [Act.put, la_, lz_, ls_, i64_w, i32_w]
           rfl
          refine one_ (i := 6) (N := some 18) (on_ 7 1) rfl rfl (one_of HT_.out (by kernel_rfl)) (by decide) (fun K hK => ?_)
          refine goes_ Try.func120 (by kernel_rfl) rfl #[.int .i64 x1_1] (by rfl) rfl rfl ar_ ?_
          with_reducible refine (laws_markText.calls k1 x1_1 t293 _ A5.out).mono ?_
          rintro e w12 ⟨rfl, hb⟩
          refine ⟨_, rfl, ?_⟩
          have n0_ := Aside0.mk (below_step (hb_ HB) hb)
          clear HB
          have HB := n0_
          clear n0_
          (try clear hb)
          (try clear hb2)
          (try clear hk)
          (try clear hi)
          refine hK.out _ _ ⟨(cb_ HB hw292_0 :), (cb_ HB hw292_1 :), (cb_ HB hw292_2 :), (cb_ HB hw292_3 :), (cb_ HB hw292_4 :)⟩ (fun hHeld => ?_)
          clear hK K
          refine norm_ (a' := ?_) ?_ ?_
          rotate_left
          ·show Act.put _ (some 18) _ = _
           simp only [Act.put, la_, lz_, ls_, i64_w, i32_w]
           rfl
          refine pv_ (i := 7) (N := some 19) (on_ 8 0) rfl rfl HT_ ?_
          refine done_ (done_of HT_.out (by kernel_rfl)) ?_
          have p294 : 0 ≤ (x5_1 : Int) := of_decide_eq_true as_
          have q294 : x5_1 < (l0.length : Int) := of_decide_eq_true as_
          obtain ⟨ad294, e294, hx294_0, hx294_1, hx294_2, hx294_3, hx294_4⟩ := at_T113 HR0.out x5_1 p294 q294
          obtain rfl : ad292 = ad294 := (by injection e294)
          replace hx294_0 := cb_ HB hx294_0
          replace hx294_1 := cb_ HB hx294_1
          replace hx294_2 := cb_ HB hx294_2
          replace hx294_3 := cb_ HB hx294_3
          replace hx294_4 := cb_ HB hx294_4
          replace p294 := eq_true p294
          replace q294 := eq_true q294
          have p295 : 0 ≤ (x5_1 : Int) := of_decide_eq_true as_
          have q295 : x5_1 < (l0.length : Int) := of_decide_eq_true as_
          obtain ⟨ad295, e295, hx295_0, hx295_1, hx295_2, hx295_3, hx295_4⟩ := at_T113 HR0.out x5_1 p295 q295
          obtain rfl : ad292 = ad295 := (by injection e295)
          replace hx295_0 := cb_ HB hx295_0
          replace hx295_1 := cb_ HB hx295_1
          replace hx295_2 := cb_ HB hx295_2
          replace hx295_3 := cb_ HB hx295_3
          replace hx295_4 := cb_ HB hx295_4
          replace p295 := eq_true p295
          replace q295 := eq_true q295
          have p296 : 0 ≤ (x5_1 : Int) := of_decide_eq_true as_
          have q296 : x5_1 < (l0.length : Int) := of_decide_eq_true as_
          obtain ⟨ad296, e296, hx296_0, hx296_1, hx296_2, hx296_3, hx296_4⟩ := at_T113 HR0.out x5_1 p296 q296
          obtain rfl : ad292 = ad296 := (by injection e296)
          replace hx296_0 := cb_ HB hx296_0
          replace hx296_1 := cb_ HB hx296_1
          replace hx296_2 := cb_ HB hx296_2
          replace hx296_3 := cb_ HB hx296_3
          replace hx296_4 := cb_ HB hx296_4
          replace p296 := eq_true p296
          replace q296 := eq_true q296
          have p297 : 0 ≤ (x5_1 : Int) := of_decide_eq_true as_
          have q297 : x5_1 < (l0.length : Int) := of_decide_eq_true as_
          obtain ⟨ad297, e297, hx297_0, hx297_1, hx297_2, hx297_3, hx297_4⟩ := at_T113 HR0.out x5_1 p297 q297
          obtain rfl : ad292 = ad297 := (by injection e297)
          replace hx297_0 := cb_ HB hx297_0
          replace hx297_1 := cb_ HB hx297_1
          replace hx297_2 := cb_ HB hx297_2
          replace hx297_3 := cb_ HB hx297_3
          replace hx297_4 := cb_ HB hx297_4
          replace p297 := eq_true p297
          replace q297 := eq_true q297
          try go_wp2
          go_roundg k1
          case measure => have := HK1.out; first | exact this | exact Nat.le_of_succ_le this | exact Nat.le_refl _ | omega
          case rel => exact ⟨(wrap64 ((wrap64 ((wrap64 ((wrap64 ((wrap64 (x1_1 + 1)) + 1)) + 1)) + 1)) + 1)), (wrap64 (x5_1 + 1)), rs_, rs_, H', ⟨by have := HK1.out; first | exact this | exact Nat.le_of_succ_le this | exact Nat.le_refl _ | omega⟩, ⟨hb_ HB⟩⟩
         ·rw [if_neg c10] at H
          have c10b0 : (((rd_T113 l0 x5_1).f4) == (wrap64 ((wrap64 ((wrap64 ((wrap64 (x1_1 + 1)) + 1)) + 1)) + 1))) = false := beq_eq_false_iff_ne.mpr c10
          have c10b1 : (((rd_T113 l0 x5_1).f4) != (wrap64 ((wrap64 ((wrap64 ((wrap64 (x1_1 + 1)) + 1)) + 1)) + 1))) = true := bne_iff_ne.mpr c10
          obtain rfl := Option.some.inj H
          try go_wp2
          have n0_ := Aside0.mk (below_drew1 HB.out)
          clear HB
          have HB := n0_
          clear n0_
          have p292 : 0 ≤ (x5_1 : Int) := of_decide_eq_true as_
          have q292 : x5_1 < (l0.length : Int) := of_decide_eq_true as_
          obtain ⟨ad292, e292, hx292_0, hx292_1, hx292_2, hx292_3, hx292_4⟩ := at_T113 HR0.out x5_1 p292 q292
          have hw292_4 := hx292_4
          have hw292_3 := hx292_3
          have hw292_2 := hx292_2
          have hw292_1 := hx292_1
          have hw292_0 := hx292_0
          cases e292
          replace hx292_0 := cb_ HB hx292_0
          replace hx292_1 := cb_ HB hx292_1
          replace hx292_2 := cb_ HB hx292_2
          replace hx292_3 := cb_ HB hx292_3
          replace hx292_4 := cb_ HB hx292_4
          replace p292 := eq_true p292
          replace q292 := eq_true q292
          refine start_ (n := 8) (S := fun w' => w'.cell? (ad292.add ((x5_1).toNat * 5)) = some (.string ((rd_T113 l0 x5_1).f0)) ∧ w'.cell? ⟨(ad292.add ((x5_1).toNat * 5)).block, (ad292.add ((x5_1).toNat * 5)).off + 1, none⟩ = some (.int .i64 ((rd_T113 l0 x5_1).f1)) ∧ w'.cell? ⟨(ad292.add ((x5_1).toNat * 5)).block, (ad292.add ((x5_1).toNat * 5)).off + 2, none⟩ = some (.int .i64 ((rd_T113 l0 x5_1).f2)) ∧ w'.cell? ⟨(ad292.add ((x5_1).toNat * 5)).block, (ad292.add ((x5_1).toNat * 5)).off + 3, none⟩ = some (.int .i64 ((rd_T113 l0 x5_1).f3)) ∧ w'.cell? ⟨(ad292.add ((x5_1).toNat * 5)).block, (ad292.add ((x5_1).toNat * 5)).off + 4, none⟩ = some (.int .i64 ((rd_T113 l0 x5_1).f4))) (ds := []) (on_ 0 8) (by kernel_rfl) rfl rfl ⟨(cb_ HB hw292_0 :), (cb_ HB hw292_1 :), (cb_ HB hw292_2 :), (cb_ HB hw292_3 :), (cb_ HB hw292_4 :)⟩ (fun hHeld => ?_); refine with_tabW laws_heldEntryS.tab4 laws_heldEntryS.bits4 (fun HT_ HW_ => ?_)
          generalize wr.drew = w13 at HB hx292_0 hx292_1 hx292_2 hx292_3 hx292_4 hHeld ⊢
          refine pv_ (i := 0) (N := some 12) (on_ 1 7) rfl rfl HT_ ?_
          refine pv_ (i := 1) (N := some 13) (on_ 2 6) rfl rfl HT_ ?_
          refine pv_ (i := 2) (N := some 14) (on_ 3 5) rfl rfl HT_ ?_
          refine pv_ (i := 3) (N := some 15) (on_ 4 4) rfl rfl HT_ ?_
          refine pv_ (i := 5) (N := some 17) #[i',i',i',i',o',i',o',o'] rfl rfl HT_ ?_
          refine take_ (i := 4) (N := some 16) (v := ?_) (a' := ?_) (on_ 6 2) rfl rfl (take_ofW HT_.out HW_.out (by kernel_rfl)) (fun _ _ _ h => h) (Or.inl ⟨by rfl, ?_⟩) hHeld ?_ ?_
          rotate_left
          ·rintro w' ⟨s0, s1, s2, s3, s4⟩
           go_simp
           with_reducible rfl
          rotate_left
          ·simp only [Act.put, la_, lz_, ls_, i64_w, i32_w]
           rfl
          refine one_ (i := 6) (N := some 18) (on_ 7 1) rfl rfl (one_of HT_.out (by kernel_rfl)) (by decide) (fun K hK => ?_)
          refine goes_ Try.func120 (by kernel_rfl) rfl #[.int .i64 x1_1] (by rfl) rfl rfl ar_ ?_
          with_reducible refine (laws_markText.calls k1 x1_1 t293 _ A5.out).mono ?_
          rintro e w14 ⟨rfl, hb⟩
          refine ⟨_, rfl, ?_⟩
          have n0_ := Aside0.mk (below_step (hb_ HB) hb)
          clear HB
          have HB := n0_
          clear n0_
          (try clear hb)
          (try clear hb2)
          (try clear hk)
          (try clear hi)
          refine hK.out _ _ ⟨(cb_ HB hw292_0 :), (cb_ HB hw292_1 :), (cb_ HB hw292_2 :), (cb_ HB hw292_3 :), (cb_ HB hw292_4 :)⟩ (fun hHeld => ?_)
          clear hK K
          refine norm_ (a' := ?_) ?_ ?_
          rotate_left
          ·show Act.put _ (some 18) _ = _
           simp only [Act.put, la_, lz_, ls_, i64_w, i32_w]
           rfl
          refine pv_ (i := 7) (N := some 19) (on_ 8 0) rfl rfl HT_ ?_
          refine done_ (done_of HT_.out (by kernel_rfl)) ?_
          have p294 : 0 ≤ (x5_1 : Int) := of_decide_eq_true as_
          have q294 : x5_1 < (l0.length : Int) := of_decide_eq_true as_
          obtain ⟨ad294, e294, hx294_0, hx294_1, hx294_2, hx294_3, hx294_4⟩ := at_T113 HR0.out x5_1 p294 q294
          obtain rfl : ad292 = ad294 := (by injection e294)
          replace hx294_0 := cb_ HB hx294_0
          replace hx294_1 := cb_ HB hx294_1
          replace hx294_2 := cb_ HB hx294_2
          replace hx294_3 := cb_ HB hx294_3
          replace hx294_4 := cb_ HB hx294_4
          replace p294 := eq_true p294
          replace q294 := eq_true q294
          have p295 : 0 ≤ (x5_1 : Int) := of_decide_eq_true as_
          have q295 : x5_1 < (l0.length : Int) := of_decide_eq_true as_
          obtain ⟨ad295, e295, hx295_0, hx295_1, hx295_2, hx295_3, hx295_4⟩ := at_T113 HR0.out x5_1 p295 q295
          obtain rfl : ad292 = ad295 := (by injection e295)
          replace hx295_0 := cb_ HB hx295_0
          replace hx295_1 := cb_ HB hx295_1
          replace hx295_2 := cb_ HB hx295_2
          replace hx295_3 := cb_ HB hx295_3
          replace hx295_4 := cb_ HB hx295_4
          replace p295 := eq_true p295
          replace q295 := eq_true q295
          have p296 : 0 ≤ (x5_1 : Int) := of_decide_eq_true as_
          have q296 : x5_1 < (l0.length : Int) := of_decide_eq_true as_
          obtain ⟨ad296, e296, hx296_0, hx296_1, hx296_2, hx296_3, hx296_4⟩ := at_T113 HR0.out x5_1 p296 q296
          obtain rfl : ad292 = ad296 := (by injection e296)
          replace hx296_0 := cb_ HB hx296_0
          replace hx296_1 := cb_ HB hx296_1
          replace hx296_2 := cb_ HB hx296_2
          replace hx296_3 := cb_ HB hx296_3
          replace hx296_4 := cb_ HB hx296_4
          replace p296 := eq_true p296
          replace q296 := eq_true q296
          have p297 : 0 ≤ (x5_1 : Int) := of_decide_eq_true as_
          have q297 : x5_1 < (l0.length : Int) := of_decide_eq_true as_
          obtain ⟨ad297, e297, hx297_0, hx297_1, hx297_2, hx297_3, hx297_4⟩ := at_T113 HR0.out x5_1 p297 q297
          obtain rfl : ad292 = ad297 := (by injection e297)
          replace hx297_0 := cb_ HB hx297_0
          replace hx297_1 := cb_ HB hx297_1
          replace hx297_2 := cb_ HB hx297_2
          replace hx297_3 := cb_ HB hx297_3
          replace hx297_4 := cb_ HB hx297_4
          replace p297 := eq_true p297
          replace q297 := eq_true q297
          try go_wp2
          go_ret
          exact ⟨re_, hb_ HB⟩
        ·rw [if_neg c9] at H
         have c9b0 : (((rd_T113 l0 x5_1).f3) == (wrap64 ((wrap64 ((wrap64 (x1_1 + 1)) + 1)) + 1))) = false := beq_eq_false_iff_ne.mpr c9
         have c9b1 : (((rd_T113 l0 x5_1).f3) != (wrap64 ((wrap64 ((wrap64 (x1_1 + 1)) + 1)) + 1))) = true := bne_iff_ne.mpr c9
         obtain rfl := Option.some.inj H
         try go_wp2
         have n0_ := Aside0.mk (below_drew1 HB.out)
         clear HB
         have HB := n0_
         clear n0_
         have p292 : 0 ≤ (x5_1 : Int) := of_decide_eq_true as_
         have q292 : x5_1 < (l0.length : Int) := of_decide_eq_true as_
         obtain ⟨ad292, e292, hx292_0, hx292_1, hx292_2, hx292_3, hx292_4⟩ := at_T113 HR0.out x5_1 p292 q292
         have hw292_4 := hx292_4
         have hw292_3 := hx292_3
         have hw292_2 := hx292_2
         have hw292_1 := hx292_1
         have hw292_0 := hx292_0
         cases e292
         replace hx292_0 := cb_ HB hx292_0
         replace hx292_1 := cb_ HB hx292_1
         replace hx292_2 := cb_ HB hx292_2
         replace hx292_3 := cb_ HB hx292_3
         replace hx292_4 := cb_ HB hx292_4
         replace p292 := eq_true p292
         replace q292 := eq_true q292
         refine start_ (n := 8) (S := fun w' => w'.cell? (ad292.add ((x5_1).toNat * 5)) = some (.string ((rd_T113 l0 x5_1).f0)) ∧ w'.cell? ⟨(ad292.add ((x5_1).toNat * 5)).block, (ad292.add ((x5_1).toNat * 5)).off + 1, none⟩ = some (.int .i64 ((rd_T113 l0 x5_1).f1)) ∧ w'.cell? ⟨(ad292.add ((x5_1).toNat * 5)).block, (ad292.add ((x5_1).toNat * 5)).off + 2, none⟩ = some (.int .i64 ((rd_T113 l0 x5_1).f2)) ∧ w'.cell? ⟨(ad292.add ((x5_1).toNat * 5)).block, (ad292.add ((x5_1).toNat * 5)).off + 3, none⟩ = some (.int .i64 ((rd_T113 l0 x5_1).f3)) ∧ w'.cell? ⟨(ad292.add ((x5_1).toNat * 5)).block, (ad292.add ((x5_1).toNat * 5)).off + 4, none⟩ = some (.int .i64 ((rd_T113 l0 x5_1).f4))) (ds := []) (on_ 0 8) (by kernel_rfl) rfl rfl ⟨(cb_ HB hw292_0 :), (cb_ HB hw292_1 :), (cb_ HB hw292_2 :), (cb_ HB hw292_3 :), (cb_ HB hw292_4 :)⟩ (fun hHeld => ?_); refine with_tabW laws_heldEntryS.tab4 laws_heldEntryS.bits4 (fun HT_ HW_ => ?_)
         generalize wr.drew = w15 at HB hx292_0 hx292_1 hx292_2 hx292_3 hx292_4 hHeld ⊢
         refine pv_ (i := 0) (N := some 12) (on_ 1 7) rfl rfl HT_ ?_
         refine pv_ (i := 1) (N := some 13) (on_ 2 6) rfl rfl HT_ ?_
         refine pv_ (i := 2) (N := some 14) (on_ 3 5) rfl rfl HT_ ?_
         refine pv_ (i := 3) (N := some 15) (on_ 4 4) rfl rfl HT_ ?_
         refine pv_ (i := 5) (N := some 17) #[i',i',i',i',o',i',o',o'] rfl rfl HT_ ?_
         refine take_ (i := 4) (N := some 16) (v := ?_) (a' := ?_) (on_ 6 2) rfl rfl (take_ofW HT_.out HW_.out (by kernel_rfl)) (fun _ _ _ h => h) (Or.inl ⟨by rfl, ?_⟩) hHeld ?_ ?_
         rotate_left
         ·rintro w' ⟨s0, s1, s2, s3, s4⟩
          go_simp
          with_reducible rfl
         rotate_left
         ·simp only [Act.put, la_, lz_, ls_, i64_w, i32_w]
          rfl
         refine one_ (i := 6) (N := some 18) (on_ 7 1) rfl rfl (one_of HT_.out (by kernel_rfl)) (by decide) (fun K hK => ?_)
         refine goes_ Try.func120 (by kernel_rfl) rfl #[.int .i64 x1_1] (by rfl) rfl rfl ar_ ?_
         with_reducible refine (laws_markText.calls k1 x1_1 t293 _ A5.out).mono ?_
         rintro e w16 ⟨rfl, hb⟩
         refine ⟨_, rfl, ?_⟩
         have n0_ := Aside0.mk (below_step (hb_ HB) hb)
         clear HB
         have HB := n0_
         clear n0_
         (try clear hb)
         (try clear hb2)
         (try clear hk)
         (try clear hi)
         refine hK.out _ _ ⟨(cb_ HB hw292_0 :), (cb_ HB hw292_1 :), (cb_ HB hw292_2 :), (cb_ HB hw292_3 :), (cb_ HB hw292_4 :)⟩ (fun hHeld => ?_)
         clear hK K
         refine norm_ (a' := ?_) ?_ ?_
         rotate_left
         ·show Act.put _ (some 18) _ = _
          simp only [Act.put, la_, lz_, ls_, i64_w, i32_w]
          rfl
         refine pv_ (i := 7) (N := some 19) (on_ 8 0) rfl rfl HT_ ?_
         refine done_ (done_of HT_.out (by kernel_rfl)) ?_
         have p294 : 0 ≤ (x5_1 : Int) := of_decide_eq_true as_
         have q294 : x5_1 < (l0.length : Int) := of_decide_eq_true as_
         obtain ⟨ad294, e294, hx294_0, hx294_1, hx294_2, hx294_3, hx294_4⟩ := at_T113 HR0.out x5_1 p294 q294
         obtain rfl : ad292 = ad294 := (by injection e294)
         replace hx294_0 := cb_ HB hx294_0
         replace hx294_1 := cb_ HB hx294_1
         replace hx294_2 := cb_ HB hx294_2
         replace hx294_3 := cb_ HB hx294_3
         replace hx294_4 := cb_ HB hx294_4
         replace p294 := eq_true p294
         replace q294 := eq_true q294
         have p295 : 0 ≤ (x5_1 : Int) := of_decide_eq_true as_
         have q295 : x5_1 < (l0.length : Int) := of_decide_eq_true as_
         obtain ⟨ad295, e295, hx295_0, hx295_1, hx295_2, hx295_3, hx295_4⟩ := at_T113 HR0.out x5_1 p295 q295
         obtain rfl : ad292 = ad295 := (by injection e295)
         replace hx295_0 := cb_ HB hx295_0
         replace hx295_1 := cb_ HB hx295_1
         replace hx295_2 := cb_ HB hx295_2
         replace hx295_3 := cb_ HB hx295_3
         replace hx295_4 := cb_ HB hx295_4
         replace p295 := eq_true p295
         replace q295 := eq_true q295
         have p296 : 0 ≤ (x5_1 : Int) := of_decide_eq_true as_
         have q296 : x5_1 < (l0.length : Int) := of_decide_eq_true as_
         obtain ⟨ad296, e296, hx296_0, hx296_1, hx296_2, hx296_3, hx296_4⟩ := at_T113 HR0.out x5_1 p296 q296
         obtain rfl : ad292 = ad296 := (by injection e296)
         replace hx296_0 := cb_ HB hx296_0
         replace hx296_1 := cb_ HB hx296_1
         replace hx296_2 := cb_ HB hx296_2
         replace hx296_3 := cb_ HB hx296_3
         replace hx296_4 := cb_ HB hx296_4
         replace p296 := eq_true p296
         replace q296 := eq_true q296
         try go_wp2
         go_ret
         exact ⟨re_, hb_ HB⟩
       ·rw [if_neg c8] at H
        have c8b0 : (((rd_T113 l0 x5_1).f2) == (wrap64 ((wrap64 (x1_1 + 1)) + 1))) = false := beq_eq_false_iff_ne.mpr c8
        have c8b1 : (((rd_T113 l0 x5_1).f2) != (wrap64 ((wrap64 (x1_1 + 1)) + 1))) = true := bne_iff_ne.mpr c8
        obtain rfl := Option.some.inj H
        try go_wp2
        have n0_ := Aside0.mk (below_drew1 HB.out)
        clear HB
        have HB := n0_
        clear n0_
        have p292 : 0 ≤ (x5_1 : Int) := of_decide_eq_true as_
        have q292 : x5_1 < (l0.length : Int) := of_decide_eq_true as_
        obtain ⟨ad292, e292, hx292_0, hx292_1, hx292_2, hx292_3, hx292_4⟩ := at_T113 HR0.out x5_1 p292 q292
        have hw292_4 := hx292_4
        have hw292_3 := hx292_3
        have hw292_2 := hx292_2
        have hw292_1 := hx292_1
        have hw292_0 := hx292_0
        cases e292
        replace hx292_0 := cb_ HB hx292_0
        replace hx292_1 := cb_ HB hx292_1
        replace hx292_2 := cb_ HB hx292_2
        replace hx292_3 := cb_ HB hx292_3
        replace hx292_4 := cb_ HB hx292_4
        replace p292 := eq_true p292
        replace q292 := eq_true q292
        refine start_ (n := 8) (S := fun w' => w'.cell? (ad292.add ((x5_1).toNat * 5)) = some (.string ((rd_T113 l0 x5_1).f0)) ∧ w'.cell? ⟨(ad292.add ((x5_1).toNat * 5)).block, (ad292.add ((x5_1).toNat * 5)).off + 1, none⟩ = some (.int .i64 ((rd_T113 l0 x5_1).f1)) ∧ w'.cell? ⟨(ad292.add ((x5_1).toNat * 5)).block, (ad292.add ((x5_1).toNat * 5)).off + 2, none⟩ = some (.int .i64 ((rd_T113 l0 x5_1).f2)) ∧ w'.cell? ⟨(ad292.add ((x5_1).toNat * 5)).block, (ad292.add ((x5_1).toNat * 5)).off + 3, none⟩ = some (.int .i64 ((rd_T113 l0 x5_1).f3)) ∧ w'.cell? ⟨(ad292.add ((x5_1).toNat * 5)).block, (ad292.add ((x5_1).toNat * 5)).off + 4, none⟩ = some (.int .i64 ((rd_T113 l0 x5_1).f4))) (ds := []) (on_ 0 8) (by kernel_rfl) rfl rfl ⟨(cb_ HB hw292_0 :), (cb_ HB hw292_1 :), (cb_ HB hw292_2 :), (cb_ HB hw292_3 :), (cb_ HB hw292_4 :)⟩ (fun hHeld => ?_); refine with_tabW laws_heldEntryS.tab4 laws_heldEntryS.bits4 (fun HT_ HW_ => ?_)
        generalize wr.drew = w17 at HB hx292_0 hx292_1 hx292_2 hx292_3 hx292_4 hHeld ⊢
        refine pv_ (i := 0) (N := some 12) (on_ 1 7) rfl rfl HT_ ?_
        refine pv_ (i := 1) (N := some 13) (on_ 2 6) rfl rfl HT_ ?_
        refine pv_ (i := 2) (N := some 14) (on_ 3 5) rfl rfl HT_ ?_
        refine pv_ (i := 3) (N := some 15) (on_ 4 4) rfl rfl HT_ ?_
        refine pv_ (i := 5) (N := some 17) #[i',i',i',i',o',i',o',o'] rfl rfl HT_ ?_
        refine take_ (i := 4) (N := some 16) (v := ?_) (a' := ?_) (on_ 6 2) rfl rfl (take_ofW HT_.out HW_.out (by kernel_rfl)) (fun _ _ _ h => h) (Or.inl ⟨by rfl, ?_⟩) hHeld ?_ ?_
        rotate_left
        ·rintro w' ⟨s0, s1, s2, s3, s4⟩
         go_simp
         with_reducible rfl
        rotate_left
        ·simp only [Act.put, la_, lz_, ls_, i64_w, i32_w]
         rfl
        refine one_ (i := 6) (N := some 18) (on_ 7 1) rfl rfl (one_of HT_.out (by kernel_rfl)) (by decide) (fun K hK => ?_)
        refine goes_ Try.func120 (by kernel_rfl) rfl #[.int .i64 x1_1] (by rfl) rfl rfl ar_ ?_
        with_reducible refine (laws_markText.calls k1 x1_1 t293 _ A5.out).mono ?_
        rintro e w18 ⟨rfl, hb⟩
        refine ⟨_, rfl, ?_⟩
        have n0_ := Aside0.mk (below_step (hb_ HB) hb)
        clear HB
        have HB := n0_
        clear n0_
        (try clear hb)
        (try clear hb2)
        (try clear hk)
        (try clear hi)
        refine hK.out _ _ ⟨(cb_ HB hw292_0 :), (cb_ HB hw292_1 :), (cb_ HB hw292_2 :), (cb_ HB hw292_3 :), (cb_ HB hw292_4 :)⟩ (fun hHeld => ?_)
        clear hK K
        refine norm_ (a' := ?_) ?_ ?_
        rotate_left
        ·show Act.put _ (some 18) _ = _
         simp only [Act.put, la_, lz_, ls_, i64_w, i32_w]
         rfl
        refine pv_ (i := 7) (N := some 19) (on_ 8 0) rfl rfl HT_ ?_
        refine done_ (done_of HT_.out (by kernel_rfl)) ?_
        have p294 : 0 ≤ (x5_1 : Int) := of_decide_eq_true as_
        have q294 : x5_1 < (l0.length : Int) := of_decide_eq_true as_
        obtain ⟨ad294, e294, hx294_0, hx294_1, hx294_2, hx294_3, hx294_4⟩ := at_T113 HR0.out x5_1 p294 q294
        obtain rfl : ad292 = ad294 := (by injection e294)
        replace hx294_0 := cb_ HB hx294_0
        replace hx294_1 := cb_ HB hx294_1
        replace hx294_2 := cb_ HB hx294_2
        replace hx294_3 := cb_ HB hx294_3
        replace hx294_4 := cb_ HB hx294_4
        replace p294 := eq_true p294
        replace q294 := eq_true q294
        have p295 : 0 ≤ (x5_1 : Int) := of_decide_eq_true as_
        have q295 : x5_1 < (l0.length : Int) := of_decide_eq_true as_
        obtain ⟨ad295, e295, hx295_0, hx295_1, hx295_2, hx295_3, hx295_4⟩ := at_T113 HR0.out x5_1 p295 q295
        obtain rfl : ad292 = ad295 := (by injection e295)
        replace hx295_0 := cb_ HB hx295_0
        replace hx295_1 := cb_ HB hx295_1
        replace hx295_2 := cb_ HB hx295_2
        replace hx295_3 := cb_ HB hx295_3
        replace hx295_4 := cb_ HB hx295_4
        replace p295 := eq_true p295
        replace q295 := eq_true q295
        try go_wp2
        go_ret
        exact ⟨re_, hb_ HB⟩
      ·rw [if_neg c7] at H
       have c7b0 : (((rd_T113 l0 x5_1).f1) == (wrap64 (x1_1 + 1))) = false := beq_eq_false_iff_ne.mpr c7
       have c7b1 : (((rd_T113 l0 x5_1).f1) != (wrap64 (x1_1 + 1))) = true := bne_iff_ne.mpr c7
       obtain rfl := Option.some.inj H
       try go_wp2
       have n0_ := Aside0.mk (below_drew1 HB.out)
       clear HB
       have HB := n0_
       clear n0_
       have p292 : 0 ≤ (x5_1 : Int) := of_decide_eq_true as_
       have q292 : x5_1 < (l0.length : Int) := of_decide_eq_true as_
       obtain ⟨ad292, e292, hx292_0, hx292_1, hx292_2, hx292_3, hx292_4⟩ := at_T113 HR0.out x5_1 p292 q292
       have hw292_4 := hx292_4
       have hw292_3 := hx292_3
       have hw292_2 := hx292_2
       have hw292_1 := hx292_1
       have hw292_0 := hx292_0
       cases e292
       replace hx292_0 := cb_ HB hx292_0
       replace hx292_1 := cb_ HB hx292_1
       replace hx292_2 := cb_ HB hx292_2
       replace hx292_3 := cb_ HB hx292_3
       replace hx292_4 := cb_ HB hx292_4
       replace p292 := eq_true p292
       replace q292 := eq_true q292
       refine start_ (n := 8) (S := fun w' => w'.cell? (ad292.add ((x5_1).toNat * 5)) = some (.string ((rd_T113 l0 x5_1).f0)) ∧ w'.cell? ⟨(ad292.add ((x5_1).toNat * 5)).block, (ad292.add ((x5_1).toNat * 5)).off + 1, none⟩ = some (.int .i64 ((rd_T113 l0 x5_1).f1)) ∧ w'.cell? ⟨(ad292.add ((x5_1).toNat * 5)).block, (ad292.add ((x5_1).toNat * 5)).off + 2, none⟩ = some (.int .i64 ((rd_T113 l0 x5_1).f2)) ∧ w'.cell? ⟨(ad292.add ((x5_1).toNat * 5)).block, (ad292.add ((x5_1).toNat * 5)).off + 3, none⟩ = some (.int .i64 ((rd_T113 l0 x5_1).f3)) ∧ w'.cell? ⟨(ad292.add ((x5_1).toNat * 5)).block, (ad292.add ((x5_1).toNat * 5)).off + 4, none⟩ = some (.int .i64 ((rd_T113 l0 x5_1).f4))) (ds := []) (on_ 0 8) (by kernel_rfl) rfl rfl ⟨(cb_ HB hw292_0 :), (cb_ HB hw292_1 :), (cb_ HB hw292_2 :), (cb_ HB hw292_3 :), (cb_ HB hw292_4 :)⟩ (fun hHeld => ?_); refine with_tabW laws_heldEntryS.tab4 laws_heldEntryS.bits4 (fun HT_ HW_ => ?_)
       generalize wr.drew = w19 at HB hx292_0 hx292_1 hx292_2 hx292_3 hx292_4 hHeld ⊢
       refine pv_ (i := 0) (N := some 12) (on_ 1 7) rfl rfl HT_ ?_
       refine pv_ (i := 1) (N := some 13) (on_ 2 6) rfl rfl HT_ ?_
       refine pv_ (i := 2) (N := some 14) (on_ 3 5) rfl rfl HT_ ?_
       refine pv_ (i := 3) (N := some 15) (on_ 4 4) rfl rfl HT_ ?_
       refine pv_ (i := 5) (N := some 17) #[i',i',i',i',o',i',o',o'] rfl rfl HT_ ?_
       refine take_ (i := 4) (N := some 16) (v := ?_) (a' := ?_) (on_ 6 2) rfl rfl (take_ofW HT_.out HW_.out (by kernel_rfl)) (fun _ _ _ h => h) (Or.inl ⟨by rfl, ?_⟩) hHeld ?_ ?_
       rotate_left
       ·rintro w' ⟨s0, s1, s2, s3, s4⟩
        go_simp
        with_reducible rfl
       rotate_left
       ·simp only [Act.put, la_, lz_, ls_, i64_w, i32_w]
        rfl
       refine one_ (i := 6) (N := some 18) (on_ 7 1) rfl rfl (one_of HT_.out (by kernel_rfl)) (by decide) (fun K hK => ?_)
       refine goes_ Try.func120 (by kernel_rfl) rfl #[.int .i64 x1_1] (by rfl) rfl rfl ar_ ?_
       with_reducible refine (laws_markText.calls k1 x1_1 t293 _ A5.out).mono ?_
       rintro e w20 ⟨rfl, hb⟩
       refine ⟨_, rfl, ?_⟩
       have n0_ := Aside0.mk (below_step (hb_ HB) hb)
       clear HB
       have HB := n0_
       clear n0_
       (try clear hb)
       (try clear hb2)
       (try clear hk)
       (try clear hi)
       refine hK.out _ _ ⟨(cb_ HB hw292_0 :), (cb_ HB hw292_1 :), (cb_ HB hw292_2 :), (cb_ HB hw292_3 :), (cb_ HB hw292_4 :)⟩ (fun hHeld => ?_)
       clear hK K
       refine norm_ (a' := ?_) ?_ ?_
       rotate_left
       ·show Act.put _ (some 18) _ = _
        simp only [Act.put, la_, lz_, ls_, i64_w, i32_w]
        rfl
       refine pv_ (i := 7) (N := some 19) (on_ 8 0) rfl rfl HT_ ?_
       refine done_ (done_of HT_.out (by kernel_rfl)) ?_
       have p294 : 0 ≤ (x5_1 : Int) := of_decide_eq_true as_
       have q294 : x5_1 < (l0.length : Int) := of_decide_eq_true as_
       obtain ⟨ad294, e294, hx294_0, hx294_1, hx294_2, hx294_3, hx294_4⟩ := at_T113 HR0.out x5_1 p294 q294
       obtain rfl : ad292 = ad294 := (by injection e294)
       replace hx294_0 := cb_ HB hx294_0
       replace hx294_1 := cb_ HB hx294_1
       replace hx294_2 := cb_ HB hx294_2
       replace hx294_3 := cb_ HB hx294_3
       replace hx294_4 := cb_ HB hx294_4
       replace p294 := eq_true p294
       replace q294 := eq_true q294
       try go_wp2
       go_ret
       exact ⟨re_, hb_ HB⟩
     ·rw [if_neg c6] at H
      have c6b0 : (((rd_T113 l0 x5_1).f0).toList == t293.toList) = false := beq_eq_false_iff_ne.mpr c6
      have c6b1 : (((rd_T113 l0 x5_1).f0).toList != t293.toList) = true := bne_iff_ne.mpr c6
      obtain rfl := Option.some.inj H
      try go_wp2
      have n0_ := Aside0.mk (below_drew1 HB.out)
      clear HB
      have HB := n0_
      clear n0_
      have p292 : 0 ≤ (x5_1 : Int) := of_decide_eq_true as_
      have q292 : x5_1 < (l0.length : Int) := of_decide_eq_true as_
      obtain ⟨ad292, e292, hx292_0, hx292_1, hx292_2, hx292_3, hx292_4⟩ := at_T113 HR0.out x5_1 p292 q292
      have hw292_4 := hx292_4
      have hw292_3 := hx292_3
      have hw292_2 := hx292_2
      have hw292_1 := hx292_1
      have hw292_0 := hx292_0
      cases e292
      replace hx292_0 := cb_ HB hx292_0
      replace hx292_1 := cb_ HB hx292_1
      replace hx292_2 := cb_ HB hx292_2
      replace hx292_3 := cb_ HB hx292_3
      replace hx292_4 := cb_ HB hx292_4
      replace p292 := eq_true p292
      replace q292 := eq_true q292
      refine start_ (n := 8) (S := fun w' => w'.cell? (ad292.add ((x5_1).toNat * 5)) = some (.string ((rd_T113 l0 x5_1).f0)) ∧ w'.cell? ⟨(ad292.add ((x5_1).toNat * 5)).block, (ad292.add ((x5_1).toNat * 5)).off + 1, none⟩ = some (.int .i64 ((rd_T113 l0 x5_1).f1)) ∧ w'.cell? ⟨(ad292.add ((x5_1).toNat * 5)).block, (ad292.add ((x5_1).toNat * 5)).off + 2, none⟩ = some (.int .i64 ((rd_T113 l0 x5_1).f2)) ∧ w'.cell? ⟨(ad292.add ((x5_1).toNat * 5)).block, (ad292.add ((x5_1).toNat * 5)).off + 3, none⟩ = some (.int .i64 ((rd_T113 l0 x5_1).f3)) ∧ w'.cell? ⟨(ad292.add ((x5_1).toNat * 5)).block, (ad292.add ((x5_1).toNat * 5)).off + 4, none⟩ = some (.int .i64 ((rd_T113 l0 x5_1).f4))) (ds := []) (on_ 0 8) (by kernel_rfl) rfl rfl ⟨(cb_ HB hw292_0 :), (cb_ HB hw292_1 :), (cb_ HB hw292_2 :), (cb_ HB hw292_3 :), (cb_ HB hw292_4 :)⟩ (fun hHeld => ?_); refine with_tabW laws_heldEntryS.tab4 laws_heldEntryS.bits4 (fun HT_ HW_ => ?_)
      generalize wr.drew = w21 at HB hx292_0 hx292_1 hx292_2 hx292_3 hx292_4 hHeld ⊢
      refine pv_ (i := 0) (N := some 12) (on_ 1 7) rfl rfl HT_ ?_
      refine pv_ (i := 1) (N := some 13) (on_ 2 6) rfl rfl HT_ ?_
      refine pv_ (i := 2) (N := some 14) (on_ 3 5) rfl rfl HT_ ?_
      refine pv_ (i := 3) (N := some 15) (on_ 4 4) rfl rfl HT_ ?_
      refine pv_ (i := 5) (N := some 17) #[i',i',i',i',o',i',o',o'] rfl rfl HT_ ?_
      refine take_ (i := 4) (N := some 16) (v := ?_) (a' := ?_) (on_ 6 2) rfl rfl (take_ofW HT_.out HW_.out (by kernel_rfl)) (fun _ _ _ h => h) (Or.inl ⟨by rfl, ?_⟩) hHeld ?_ ?_
      rotate_left
      ·rintro w' ⟨s0, s1, s2, s3, s4⟩
       go_simp
       with_reducible rfl
      rotate_left
      ·simp only [Act.put, la_, lz_, ls_, i64_w, i32_w]
       rfl
      refine one_ (i := 6) (N := some 18) (on_ 7 1) rfl rfl (one_of HT_.out (by kernel_rfl)) (by decide) (fun K hK => ?_)
      refine goes_ Try.func120 (by kernel_rfl) rfl #[.int .i64 x1_1] (by rfl) rfl rfl ar_ ?_
      with_reducible refine (laws_markText.calls k1 x1_1 t293 _ A5.out).mono ?_
      rintro e w22 ⟨rfl, hb⟩
      refine ⟨_, rfl, ?_⟩
      have n0_ := Aside0.mk (below_step (hb_ HB) hb)
      clear HB
      have HB := n0_
      clear n0_
      (try clear hb)
      (try clear hb2)
      (try clear hk)
      (try clear hi)
      refine hK.out _ _ ⟨(cb_ HB hw292_0 :), (cb_ HB hw292_1 :), (cb_ HB hw292_2 :), (cb_ HB hw292_3 :), (cb_ HB hw292_4 :)⟩ (fun hHeld => ?_)
      clear hK K
      refine norm_ (a' := ?_) ?_ ?_
      rotate_left
      ·show Act.put _ (some 18) _ = _
       simp only [Act.put, la_, lz_, ls_, i64_w, i32_w]
       rfl
      refine pv_ (i := 7) (N := some 19) (on_ 8 0) rfl rfl HT_ ?_
      refine done_ (done_of HT_.out (by kernel_rfl)) ?_
      try go_wp2
      go_ret
      exact ⟨re_, hb_ HB⟩
    ·rw [if_neg c4] at H
     exact absurd H (by simp)
   ·rw [if_neg c3] at H
    have c3b0 : decide (x5_1 < (l0.length : Int)) = false := decide_eq_false c3
    clear c3
    obtain rfl := Option.some.inj H
    go_wp2
    go_ret
    exact ⟨re_, hb_ HB⟩

end Go.Proofs.Ytebeafcdabkkfaa.PFnExactReadHint
