-- Laid by a program of this session, a copy of the kit's printer with additions (wip/patch_print.py): myhead. Lean checks it.
import Derived.Test.YtigbekefjbfopaaPFnExactPowerx0
import Derived.Test.YtigbekefjbfopaaPFnExactPowerx7
namespace Go.Proofs.Ytigbekefjbfopaa.PFnExactPower
open Go.RowKit Go.Proofs.YtigbekefjbfopaaW.PrintWords Go.Proofs.YtigbekefjbfopaaW.PrintLast Go.Proofs.YtigbekefjbfopaaW.PrintMore
attribute [local go_sem] max2_int min2_int max_two min_two max_three min_three max_four min_four   -- for this text's walks alone
set_option linter.unusedVariables false
set_option linter.unusedSimpArgs false

/-! ### laws_heldFileS: function 42 -/
def laws_heldFileS.l0 : Nat → List (S45) → Int → Int → Option (Int)
 | 0, _, _, _ => none
 | k + 1, x0, x1, x5 => if x5 < (x0.length : Int) then (if 0 ≤ x5 then ((laws_markText.f k x1).bind fun t225 => (if ((rd_T45 x0 x5).f0).toList = t225.toList then ((laws_markText.f k (wrap64 (x1 + 1))).bind fun t227 => (if ((rd_T45 x0 x5).f1).toList = t227.toList then (if ((rd_T45 x0 x5).f2) = (wrap64 ((wrap64 (x1 + 1)) + 1)) then (laws_heldFileS.l0 k x0 (wrap64 ((wrap64 ((wrap64 (x1 + 1)) + 1)) + 1)) (wrap64 (x5 + 1))) else (some (-1))) else (some (-1)))) else (some (-1)))) else (none)) else (some x1)
def laws_heldFileS.f (k : Nat) (l0 : List (S45)) (a1 : Int) : Option (Int) := laws_heldFileS.l0 k l0 a1 0
theorem laws_heldFileS.mono_l : ∀ k, (∀ y0 y1 y2, LeO (laws_heldFileS.l0 k y0 y1 y2) (laws_heldFileS.l0 (k + 1) y0 y1 y2))
 | 0 => fun _ _ _ r h => by simp [laws_heldFileS.l0] at h
 | k + 1 => by
  have ih0 := laws_heldFileS.mono_l k
  ·intro y0 y1 y2
   unfold laws_heldFileS.l0
   repeat' first | (with_reducible first | exact ih0 .. | exact laws_markText.mono .. | exact LeO.refl .. | exact LeO.none .. | refine LeO.ite ?_ ?_ | refine LeO.bind ?_ (fun _ => ?_)) | exact ih0 .. | exact laws_markText.mono .. | exact LeO.none .. | refine LeO.ite ?_ ?_ | refine LeO.bind ?_ (fun _ => ?_)
theorem laws_heldFileS.mono : ∀ a0 a1 k, LeO (laws_heldFileS.f k a0 a1) (laws_heldFileS.f (k + 1) a0 a1) := by
 intro a0 a1 k
 have ih0 := laws_heldFileS.mono_l k
 unfold laws_heldFileS.f
 repeat' first | (with_reducible first | exact ih0 .. | exact laws_markText.mono .. | exact LeO.refl .. | exact LeO.none .. | refine LeO.ite ?_ ?_ | refine LeO.bind ?_ (fun _ => ?_)) | exact ih0 .. | exact laws_markText.mono .. | exact LeO.none .. | refine LeO.ite ?_ ?_ | refine LeO.bind ?_ (fun _ => ?_)
def laws_heldFileS.T4 : Bool × List (List Nat × List Nat) := (true, [([], []), ([], []), ([0, 1], [0, 1]), ([2], [2]), ([3], [3]), ([], []), ([5], [5]), ([4, 6], [4, 6])])
def laws_heldFileS.B4 : List Nat := [0, 0, 3, 7, 15, 0, 32, 127]
theorem laws_heldFileS.tab4 : rtab .any (opsOf Try.f42 4) = laws_heldFileS.T4 := by kernel_rfl
theorem laws_heldFileS.bits4 : waitsOk laws_heldFileS.T4.2 laws_heldFileS.B4 = true := by kernel_rfl
def laws_heldFileS.T7 : Bool × List (List Nat × List Nat) := (true, [([], []), ([], []), ([0, 1], [0, 1]), ([2], [2]), ([3], [3]), ([], []), ([5], [5]), ([4, 6], [4, 6])])
def laws_heldFileS.B7 : List Nat := [0, 0, 3, 7, 15, 0, 32, 127]
theorem laws_heldFileS.tab7 : rtab .any (opsOf Try.f42 7) = laws_heldFileS.T7 := by kernel_rfl
theorem laws_heldFileS.bits7 : waitsOk laws_heldFileS.T7.2 laws_heldFileS.B7 = true := by kernel_rfl
set_option maxHeartbeats 80000000 in
set_option maxRecDepth 100000 in
theorem laws_heldFileS.calls (k : Nat) (A0 : Option Addr) (c0 : Nat) (l0 : List (S45)) (a1 : Int) (r : Int) (w : World) (hr0 : Kd.C k45 w A0 l0.length l0) (hc0 : l0.length ≤ c0) (h : laws_heldFileS.f k l0 a1 = some r) :
  Calls Try.prog 42 #[.slice A0 l0.length c0, .int .i64 a1] w fun e w' => e = .returned (.int .i64 r) ∧ Below w.heap.size w w' := by
 have HR0 := Aside0.mk hr0
 have HC0 := Aside0.mk hc0
 clear hr0 hc0
 have HB := Aside0.mk (Below.refl w.heap.size w)
 have H : (laws_heldFileS.l0 k l0 a1 0) = some r := h
 clear h
 have H' := Aside0.mk H
 clear H
 go_enter Try.func42, Try.ntmps42
 go_wp2
 go_loopg [1, 5] k (fun kq v1 v5 w' => ∃ (x1_1 : Int) (x5_1 : Int), v1 = .int .i64 x1_1 ∧ v5 = .int .i64 x5_1 ∧ Aside0 (laws_heldFileS.l0 kq l0 x1_1 x5_1 = some r) ∧ Aside0 (kq ≤ k) ∧ Aside0 (Below w.heap.size w w'))
 case atStart => exact ⟨(a1), (0), rs_, rs_, H', ⟨Nat.le_refl _⟩, ⟨hb_ HB⟩⟩
 case round =>
  clear H'
  try clear p2
  obtain ⟨x1_1, x5_1, rfl, rfl, HA, HK1, HB⟩ := hrel
  cases gk with
  | zero => exact absurd HA.out (by simp [laws_heldFileS.l0])
  | succ k1 =>
   have H := HA.out
   clear HA
   simp only [laws_heldFileS.l0] at H
   by_cases c3 : x5_1 < (l0.length : Int)
   ·rw [if_pos c3] at H
    have c3b0 : decide (x5_1 < (l0.length : Int)) = true := decide_eq_true c3
    clear c3
    by_cases c4 : 0 ≤ x5_1
    ·rw [if_pos c4] at H
     have c4b0 : decide (0 ≤ x5_1) = true := decide_eq_true c4
     clear c4
     replace H := Option.bind_eq_some_iff.mp H
     obtain ⟨t225, A50, H⟩ := H
     replace H : (if ((rd_T45 l0 x5_1).f0).toList = t225.toList then ((laws_markText.f k1 (wrap64 (x1_1 + 1))).bind fun t227 => (if ((rd_T45 l0 x5_1).f1).toList = t227.toList then (if ((rd_T45 l0 x5_1).f2) = (wrap64 ((wrap64 (x1_1 + 1)) + 1)) then (laws_heldFileS.l0 k1 l0 (wrap64 ((wrap64 ((wrap64 (x1_1 + 1)) + 1)) + 1)) (wrap64 (x5_1 + 1))) else (some (-1))) else (some (-1)))) else (some (-1))) = some r := H
     have A5 := Aside0.mk A50
     clear A50
     by_cases c6 : ((rd_T45 l0 x5_1).f0).toList = t225.toList
     ·rw [if_pos c6] at H
      have c6b0 : (((rd_T45 l0 x5_1).f0).toList == t225.toList) = true := beq_iff_eq.mpr c6
      have c6b1 : (((rd_T45 l0 x5_1).f0).toList != t225.toList) = false := bne_eq_false_iff_eq.mpr c6
      clear c6
      replace H := Option.bind_eq_some_iff.mp H
      obtain ⟨t227, A70, H⟩ := H
      replace H : (if ((rd_T45 l0 x5_1).f1).toList = t227.toList then (if ((rd_T45 l0 x5_1).f2) = (wrap64 ((wrap64 (x1_1 + 1)) + 1)) then (laws_heldFileS.l0 k1 l0 (wrap64 ((wrap64 ((wrap64 (x1_1 + 1)) + 1)) + 1)) (wrap64 (x5_1 + 1))) else (some (-1))) else (some (-1))) = some r := H
      have A7 := Aside0.mk A70
      clear A70
      by_cases c8 : ((rd_T45 l0 x5_1).f1).toList = t227.toList
      ·rw [if_pos c8] at H
       have c8b0 : (((rd_T45 l0 x5_1).f1).toList == t227.toList) = true := beq_iff_eq.mpr c8
       have c8b1 : (((rd_T45 l0 x5_1).f1).toList != t227.toList) = false := bne_eq_false_iff_eq.mpr c8
       clear c8
       by_cases c9 : ((rd_T45 l0 x5_1).f2) = (wrap64 ((wrap64 (x1_1 + 1)) + 1))
       ·rw [if_pos c9] at H
        have c9b0 : (((rd_T45 l0 x5_1).f2) == (wrap64 ((wrap64 (x1_1 + 1)) + 1))) = true := beq_iff_eq.mpr c9
        have c9b1 : (((rd_T45 l0 x5_1).f2) != (wrap64 ((wrap64 (x1_1 + 1)) + 1))) = false := bne_eq_false_iff_eq.mpr c9
        clear c9
        have H' := Aside0.mk H
        clear H
        try go_wp2
        replace HB := hd_ HB
        have p224 : 0 ≤ (x5_1 : Int) := of_decide_eq_true as_
        have q224 : x5_1 < (l0.length : Int) := of_decide_eq_true as_
        obtain ⟨ad224, e224, hx224_0, hx224_1, hx224_2⟩ := at_T45 HR0.out x5_1 p224 q224
        have hw224_2 := hx224_2
        have hw224_1 := hx224_1
        have hw224_0 := hx224_0
        cases e224
        (try replace hx224_0 := cb_ HB hx224_0)
        (try replace hx224_1 := cb_ HB hx224_1)
        (try replace hx224_2 := cb_ HB hx224_2)
        replace p224 := eq_true p224
        replace q224 := eq_true q224
        refine start_ (n := 8) (S := e3e_ (ad224.add ((x5_1).toNat * 3)) (.string ((rd_T45 l0 x5_1).f0)) (.string ((rd_T45 l0 x5_1).f1)) (.int .i64 ((rd_T45 l0 x5_1).f2))) (ds := []) (on_ 0 8) (by kernel_rfl) rfl rfl (q3e_ (cb_ HB hw224_0 :) (cb_ HB hw224_1 :) (cb_ HB hw224_2 :)) (fun hHeld => ?_); refine with_tabW laws_heldFileS.tab4 laws_heldFileS.bits4 (fun HT_ HW_ => ?_)
        generalize wr.drew = w10 at HB hx224_0 hx224_1 hx224_2 hHeld ⊢
        refine pv_' 0 12 (on_ 1 7) rfl rfl HT_ ?_
        refine pv_' 1 13 (on_ 2 6) rfl rfl HT_ ?_
        refine pv_' 2 14 (on_ 3 5) rfl rfl HT_ ?_
        refine pv_' 3 15 (on_ 4 4) rfl rfl HT_ ?_
        refine pv_' 5 17 #[i',i',i',i',o',i',o',o'] rfl rfl HT_ ?_
        refine take_ (i := 4) (N := some 16) (v := ?_) (a' := ?_) (on_ 6 2) rfl rfl (take_ofW HT_.out HW_.out (by kernel_rfl)) (fun _ _ _ h => h) (Or.inl ⟨by rfl, ?_⟩) hHeld ?_ ?_
        rotate_left
        ·rintro w' ⟨s0, s1, s2⟩
         go_simp
         with_reducible rfl
        rotate_left
        ·simp only [Act.put, la_, lz_, ls_, i64_w, i32_w]
         rfl
        refine one_ (i := 6) (N := some 18) (on_ 7 1) rfl rfl (one_of HT_.out (by kernel_rfl)) (by decide) (fun K hK => ?_)
        refine goes_ Try.func65 (by kernel_rfl) rfl #[.int .i64 x1_1] (by rfl) rfl rfl ar_ ?_
        with_reducible refine (laws_markText.calls k1 x1_1 t225 _ A5.out).mono ?_
        rintro e w11 ⟨rfl, hb⟩
        refine ⟨_, rfl, ?_⟩
        replace HB := bs_ HB hb
        (try clear hb)
        (try clear hb2)
        (try clear hk)
        (try clear hi)
        refine hK.out _ _ (q3e_ (cb_ HB hw224_0 :) (cb_ HB hw224_1 :) (cb_ HB hw224_2 :)) (fun hHeld => ?_)
        clear hK K
        refine norm_ (a' := ?_) ?_ ?_
        rotate_left
        ·show Act.put _ (some 18) _ = _
         simp only [Act.put, la_, lz_, ls_, i64_w, i32_w]
         rfl
        refine pv_' 7 19 (on_ 8 0) rfl rfl HT_ ?_
        refine done_ (done_of HT_.out (by kernel_rfl)) ?_
        try go_wp2
        replace HB := hd_ HB
        have p226 : 0 ≤ (x5_1 : Int) := of_decide_eq_true as_
        have q226 : x5_1 < (l0.length : Int) := of_decide_eq_true as_
        obtain ⟨ad226, e226, hx226_0, hx226_1, hx226_2⟩ := at_T45 HR0.out x5_1 p226 q226
        have hw226_2 := hx226_2
        have hw226_1 := hx226_1
        have hw226_0 := hx226_0
        obtain rfl : ad224 = ad226 := (by injection e226)
        (try replace hx226_0 := cb_ HB hx226_0)
        (try replace hx226_1 := cb_ HB hx226_1)
        (try replace hx226_2 := cb_ HB hx226_2)
        replace p226 := eq_true p226
        replace q226 := eq_true q226
        refine start_ (n := 8) (S := e3e_ (ad224.add ((x5_1).toNat * 3)) (.string ((rd_T45 l0 x5_1).f0)) (.string ((rd_T45 l0 x5_1).f1)) (.int .i64 ((rd_T45 l0 x5_1).f2))) (ds := []) (on_ 0 8) (by kernel_rfl) rfl rfl (q3e_ (cb_ HB hw226_0 :) (cb_ HB hw226_1 :) (cb_ HB hw226_2 :)) (fun hHeld => ?_); refine with_tabW laws_heldFileS.tab7 laws_heldFileS.bits7 (fun HT_ HW_ => ?_)
        generalize w11.drew = w12 at HB hx226_0 hx226_1 hx226_2 hHeld ⊢
        refine pv_' 0 22 (on_ 1 7) rfl rfl HT_ ?_
        refine pv_' 1 23 (on_ 2 6) rfl rfl HT_ ?_
        refine pv_' 2 24 (on_ 3 5) rfl rfl HT_ ?_
        refine pv_' 3 25 (on_ 4 4) rfl rfl HT_ ?_
        refine pv_' 5 27 #[i',i',i',i',o',i',o',o'] rfl rfl HT_ ?_
        refine take_ (i := 4) (N := some 26) (v := ?_) (a' := ?_) (on_ 6 2) rfl rfl (take_ofW HT_.out HW_.out (by kernel_rfl)) (fun _ _ _ h => h) (Or.inl ⟨by rfl, ?_⟩) hHeld ?_ ?_
        rotate_left
        ·rintro w' ⟨s0, s1, s2⟩
         go_simp
         with_reducible rfl
        rotate_left
        ·simp only [Act.put, la_, lz_, ls_, i64_w, i32_w]
         rfl
        refine one_ (i := 6) (N := some 28) (on_ 7 1) rfl rfl (one_of HT_.out (by kernel_rfl)) (by decide) (fun K hK => ?_)
        refine goes_ Try.func65 (by kernel_rfl) rfl #[.int .i64 (wrap64 (x1_1 + 1))] (by rfl) rfl rfl ar_ ?_
        with_reducible refine (laws_markText.calls k1 (wrap64 (x1_1 + 1)) t227 _ A7.out).mono ?_
        rintro e w13 ⟨rfl, hb⟩
        refine ⟨_, rfl, ?_⟩
        replace HB := bs_ HB hb
        (try clear hb)
        (try clear hb2)
        (try clear hk)
        (try clear hi)
        refine hK.out _ _ (q3e_ (cb_ HB hw226_0 :) (cb_ HB hw226_1 :) (cb_ HB hw226_2 :)) (fun hHeld => ?_)
        clear hK K
        refine norm_ (a' := ?_) ?_ ?_
        rotate_left
        ·show Act.put _ (some 28) _ = _
         simp only [Act.put, la_, lz_, ls_, i64_w, i32_w]
         rfl
        refine pv_' 7 29 (on_ 8 0) rfl rfl HT_ ?_
        refine done_ (done_of HT_.out (by kernel_rfl)) ?_
        have p228 : 0 ≤ (x5_1 : Int) := of_decide_eq_true as_
        have q228 : x5_1 < (l0.length : Int) := of_decide_eq_true as_
        obtain ⟨ad228, e228, hx228_0, hx228_1, hx228_2⟩ := at_T45 HR0.out x5_1 p228 q228
        obtain rfl : ad224 = ad228 := (by injection e228)
        (try replace hx228_0 := cb_ HB hx228_0)
        (try replace hx228_1 := cb_ HB hx228_1)
        (try replace hx228_2 := cb_ HB hx228_2)
        replace p228 := eq_true p228
        replace q228 := eq_true q228
        try go_wp2
        go_roundg k1
        case measure => have := HK1.out; first | exact this | exact Nat.le_of_succ_le this | exact Nat.le_refl _ | omega
        case rel => exact ⟨(wrap64 ((wrap64 ((wrap64 (x1_1 + 1)) + 1)) + 1)), (wrap64 (x5_1 + 1)), rs_, rs_, H', ⟨by have := HK1.out; first | exact this | exact Nat.le_of_succ_le this | exact Nat.le_refl _ | omega⟩, ⟨hb_ HB⟩⟩
       ·rw [if_neg c9] at H
        have c9b0 : (((rd_T45 l0 x5_1).f2) == (wrap64 ((wrap64 (x1_1 + 1)) + 1))) = false := beq_eq_false_iff_ne.mpr c9
        have c9b1 : (((rd_T45 l0 x5_1).f2) != (wrap64 ((wrap64 (x1_1 + 1)) + 1))) = true := bne_iff_ne.mpr c9
        obtain rfl := Option.some.inj H
        try go_wp2
        replace HB := hd_ HB
        have p224 : 0 ≤ (x5_1 : Int) := of_decide_eq_true as_
        have q224 : x5_1 < (l0.length : Int) := of_decide_eq_true as_
        obtain ⟨ad224, e224, hx224_0, hx224_1, hx224_2⟩ := at_T45 HR0.out x5_1 p224 q224
        have hw224_2 := hx224_2
        have hw224_1 := hx224_1
        have hw224_0 := hx224_0
        cases e224
        (try replace hx224_0 := cb_ HB hx224_0)
        (try replace hx224_1 := cb_ HB hx224_1)
        (try replace hx224_2 := cb_ HB hx224_2)
        replace p224 := eq_true p224
        replace q224 := eq_true q224
        refine start_ (n := 8) (S := e3e_ (ad224.add ((x5_1).toNat * 3)) (.string ((rd_T45 l0 x5_1).f0)) (.string ((rd_T45 l0 x5_1).f1)) (.int .i64 ((rd_T45 l0 x5_1).f2))) (ds := []) (on_ 0 8) (by kernel_rfl) rfl rfl (q3e_ (cb_ HB hw224_0 :) (cb_ HB hw224_1 :) (cb_ HB hw224_2 :)) (fun hHeld => ?_); refine with_tabW laws_heldFileS.tab4 laws_heldFileS.bits4 (fun HT_ HW_ => ?_)
        generalize wr.drew = w14 at HB hx224_0 hx224_1 hx224_2 hHeld ⊢
        refine pv_' 0 12 (on_ 1 7) rfl rfl HT_ ?_
        refine pv_' 1 13 (on_ 2 6) rfl rfl HT_ ?_
        refine pv_' 2 14 (on_ 3 5) rfl rfl HT_ ?_
        refine pv_' 3 15 (on_ 4 4) rfl rfl HT_ ?_
        refine pv_' 5 17 #[i',i',i',i',o',i',o',o'] rfl rfl HT_ ?_
        refine take_ (i := 4) (N := some 16) (v := ?_) (a' := ?_) (on_ 6 2) rfl rfl (take_ofW HT_.out HW_.out (by kernel_rfl)) (fun _ _ _ h => h) (Or.inl ⟨by rfl, ?_⟩) hHeld ?_ ?_
        rotate_left
        ·rintro w' ⟨s0, s1, s2⟩
         go_simp
         with_reducible rfl
        rotate_left
        ·simp only [Act.put, la_, lz_, ls_, i64_w, i32_w]
         rfl
        refine one_ (i := 6) (N := some 18) (on_ 7 1) rfl rfl (one_of HT_.out (by kernel_rfl)) (by decide) (fun K hK => ?_)
        refine goes_ Try.func65 (by kernel_rfl) rfl #[.int .i64 x1_1] (by rfl) rfl rfl ar_ ?_
        with_reducible refine (laws_markText.calls k1 x1_1 t225 _ A5.out).mono ?_
        rintro e w15 ⟨rfl, hb⟩
        refine ⟨_, rfl, ?_⟩
        replace HB := bs_ HB hb
        (try clear hb)
        (try clear hb2)
        (try clear hk)
        (try clear hi)
        refine hK.out _ _ (q3e_ (cb_ HB hw224_0 :) (cb_ HB hw224_1 :) (cb_ HB hw224_2 :)) (fun hHeld => ?_)
        clear hK K
        refine norm_ (a' := ?_) ?_ ?_
        rotate_left
        ·show Act.put _ (some 18) _ = _
         simp only [Act.put, la_, lz_, ls_, i64_w, i32_w]
         rfl
        refine pv_' 7 19 (on_ 8 0) rfl rfl HT_ ?_
        refine done_ (done_of HT_.out (by kernel_rfl)) ?_
        try go_wp2
        replace HB := hd_ HB
        have p226 : 0 ≤ (x5_1 : Int) := of_decide_eq_true as_
        have q226 : x5_1 < (l0.length : Int) := of_decide_eq_true as_
        obtain ⟨ad226, e226, hx226_0, hx226_1, hx226_2⟩ := at_T45 HR0.out x5_1 p226 q226
        have hw226_2 := hx226_2
        have hw226_1 := hx226_1
        have hw226_0 := hx226_0
        obtain rfl : ad224 = ad226 := (by injection e226)
        (try replace hx226_0 := cb_ HB hx226_0)
        (try replace hx226_1 := cb_ HB hx226_1)
        (try replace hx226_2 := cb_ HB hx226_2)
        replace p226 := eq_true p226
        replace q226 := eq_true q226
        refine start_ (n := 8) (S := e3e_ (ad224.add ((x5_1).toNat * 3)) (.string ((rd_T45 l0 x5_1).f0)) (.string ((rd_T45 l0 x5_1).f1)) (.int .i64 ((rd_T45 l0 x5_1).f2))) (ds := []) (on_ 0 8) (by kernel_rfl) rfl rfl (q3e_ (cb_ HB hw226_0 :) (cb_ HB hw226_1 :) (cb_ HB hw226_2 :)) (fun hHeld => ?_); refine with_tabW laws_heldFileS.tab7 laws_heldFileS.bits7 (fun HT_ HW_ => ?_)
        generalize w15.drew = w16 at HB hx226_0 hx226_1 hx226_2 hHeld ⊢
        refine pv_' 0 22 (on_ 1 7) rfl rfl HT_ ?_
        refine pv_' 1 23 (on_ 2 6) rfl rfl HT_ ?_
        refine pv_' 2 24 (on_ 3 5) rfl rfl HT_ ?_
        refine pv_' 3 25 (on_ 4 4) rfl rfl HT_ ?_
        refine pv_' 5 27 #[i',i',i',i',o',i',o',o'] rfl rfl HT_ ?_
        refine take_ (i := 4) (N := some 26) (v := ?_) (a' := ?_) (on_ 6 2) rfl rfl (take_ofW HT_.out HW_.out (by kernel_rfl)) (fun _ _ _ h => h) (Or.inl ⟨by rfl, ?_⟩) hHeld ?_ ?_
        rotate_left
        ·rintro w' ⟨s0, s1, s2⟩
         go_simp
         with_reducible rfl
        rotate_left
        ·simp only [Act.put, la_, lz_, ls_, i64_w, i32_w]
         rfl
        refine one_ (i := 6) (N := some 28) (on_ 7 1) rfl rfl (one_of HT_.out (by kernel_rfl)) (by decide) (fun K hK => ?_)
        refine goes_ Try.func65 (by kernel_rfl) rfl #[.int .i64 (wrap64 (x1_1 + 1))] (by rfl) rfl rfl ar_ ?_
        with_reducible refine (laws_markText.calls k1 (wrap64 (x1_1 + 1)) t227 _ A7.out).mono ?_
        rintro e w17 ⟨rfl, hb⟩
        refine ⟨_, rfl, ?_⟩
        replace HB := bs_ HB hb
        (try clear hb)
        (try clear hb2)
        (try clear hk)
        (try clear hi)
        refine hK.out _ _ (q3e_ (cb_ HB hw226_0 :) (cb_ HB hw226_1 :) (cb_ HB hw226_2 :)) (fun hHeld => ?_)
        clear hK K
        refine norm_ (a' := ?_) ?_ ?_
        rotate_left
        ·show Act.put _ (some 28) _ = _
         simp only [Act.put, la_, lz_, ls_, i64_w, i32_w]
         rfl
        refine pv_' 7 29 (on_ 8 0) rfl rfl HT_ ?_
        refine done_ (done_of HT_.out (by kernel_rfl)) ?_
        have p228 : 0 ≤ (x5_1 : Int) := of_decide_eq_true as_
        have q228 : x5_1 < (l0.length : Int) := of_decide_eq_true as_
        obtain ⟨ad228, e228, hx228_0, hx228_1, hx228_2⟩ := at_T45 HR0.out x5_1 p228 q228
        obtain rfl : ad224 = ad228 := (by injection e228)
        (try replace hx228_0 := cb_ HB hx228_0)
        (try replace hx228_1 := cb_ HB hx228_1)
        (try replace hx228_2 := cb_ HB hx228_2)
        replace p228 := eq_true p228
        replace q228 := eq_true q228
        try go_wp2
        go_ret
        exact ⟨re_, hb_ HB⟩
      ·rw [if_neg c8] at H
       have c8b0 : (((rd_T45 l0 x5_1).f1).toList == t227.toList) = false := beq_eq_false_iff_ne.mpr c8
       have c8b1 : (((rd_T45 l0 x5_1).f1).toList != t227.toList) = true := bne_iff_ne.mpr c8
       obtain rfl := Option.some.inj H
       try go_wp2
       replace HB := hd_ HB
       have p224 : 0 ≤ (x5_1 : Int) := of_decide_eq_true as_
       have q224 : x5_1 < (l0.length : Int) := of_decide_eq_true as_
       obtain ⟨ad224, e224, hx224_0, hx224_1, hx224_2⟩ := at_T45 HR0.out x5_1 p224 q224
       have hw224_2 := hx224_2
       have hw224_1 := hx224_1
       have hw224_0 := hx224_0
       cases e224
       (try replace hx224_0 := cb_ HB hx224_0)
       (try replace hx224_1 := cb_ HB hx224_1)
       (try replace hx224_2 := cb_ HB hx224_2)
       replace p224 := eq_true p224
       replace q224 := eq_true q224
       refine start_ (n := 8) (S := e3e_ (ad224.add ((x5_1).toNat * 3)) (.string ((rd_T45 l0 x5_1).f0)) (.string ((rd_T45 l0 x5_1).f1)) (.int .i64 ((rd_T45 l0 x5_1).f2))) (ds := []) (on_ 0 8) (by kernel_rfl) rfl rfl (q3e_ (cb_ HB hw224_0 :) (cb_ HB hw224_1 :) (cb_ HB hw224_2 :)) (fun hHeld => ?_); refine with_tabW laws_heldFileS.tab4 laws_heldFileS.bits4 (fun HT_ HW_ => ?_)
       generalize wr.drew = w18 at HB hx224_0 hx224_1 hx224_2 hHeld ⊢
       refine pv_' 0 12 (on_ 1 7) rfl rfl HT_ ?_
       refine pv_' 1 13 (on_ 2 6) rfl rfl HT_ ?_
       refine pv_' 2 14 (on_ 3 5) rfl rfl HT_ ?_
       refine pv_' 3 15 (on_ 4 4) rfl rfl HT_ ?_
       refine pv_' 5 17 #[i',i',i',i',o',i',o',o'] rfl rfl HT_ ?_
       refine take_ (i := 4) (N := some 16) (v := ?_) (a' := ?_) (on_ 6 2) rfl rfl (take_ofW HT_.out HW_.out (by kernel_rfl)) (fun _ _ _ h => h) (Or.inl ⟨by rfl, ?_⟩) hHeld ?_ ?_
       rotate_left
       ·rintro w' ⟨s0, s1, s2⟩
        go_simp
        with_reducible rfl
       rotate_left
       ·simp only [Act.put, la_, lz_, ls_, i64_w, i32_w]
        rfl
       refine one_ (i := 6) (N := some 18) (on_ 7 1) rfl rfl (one_of HT_.out (by kernel_rfl)) (by decide) (fun K hK => ?_)
       refine goes_ Try.func65 (by kernel_rfl) rfl #[.int .i64 x1_1] (by rfl) rfl rfl ar_ ?_
       with_reducible refine (laws_markText.calls k1 x1_1 t225 _ A5.out).mono ?_
       rintro e w19 ⟨rfl, hb⟩
       refine ⟨_, rfl, ?_⟩
       replace HB := bs_ HB hb
       (try clear hb)
       (try clear hb2)
       (try clear hk)
       (try clear hi)
       refine hK.out _ _ (q3e_ (cb_ HB hw224_0 :) (cb_ HB hw224_1 :) (cb_ HB hw224_2 :)) (fun hHeld => ?_)
       clear hK K
       refine norm_ (a' := ?_) ?_ ?_
       rotate_left
       ·show Act.put _ (some 18) _ = _
        simp only [Act.put, la_, lz_, ls_, i64_w, i32_w]
        rfl
       refine pv_' 7 19 (on_ 8 0) rfl rfl HT_ ?_
       refine done_ (done_of HT_.out (by kernel_rfl)) ?_
       try go_wp2
       replace HB := hd_ HB
       have p226 : 0 ≤ (x5_1 : Int) := of_decide_eq_true as_
       have q226 : x5_1 < (l0.length : Int) := of_decide_eq_true as_
       obtain ⟨ad226, e226, hx226_0, hx226_1, hx226_2⟩ := at_T45 HR0.out x5_1 p226 q226
       have hw226_2 := hx226_2
       have hw226_1 := hx226_1
       have hw226_0 := hx226_0
       obtain rfl : ad224 = ad226 := (by injection e226)
       (try replace hx226_0 := cb_ HB hx226_0)
       (try replace hx226_1 := cb_ HB hx226_1)
       (try replace hx226_2 := cb_ HB hx226_2)
       replace p226 := eq_true p226
       replace q226 := eq_true q226
       refine start_ (n := 8) (S := e3e_ (ad224.add ((x5_1).toNat * 3)) (.string ((rd_T45 l0 x5_1).f0)) (.string ((rd_T45 l0 x5_1).f1)) (.int .i64 ((rd_T45 l0 x5_1).f2))) (ds := []) (on_ 0 8) (by kernel_rfl) rfl rfl (q3e_ (cb_ HB hw226_0 :) (cb_ HB hw226_1 :) (cb_ HB hw226_2 :)) (fun hHeld => ?_); refine with_tabW laws_heldFileS.tab7 laws_heldFileS.bits7 (fun HT_ HW_ => ?_)
       generalize w19.drew = w20 at HB hx226_0 hx226_1 hx226_2 hHeld ⊢
       refine pv_' 0 22 (on_ 1 7) rfl rfl HT_ ?_
       refine pv_' 1 23 (on_ 2 6) rfl rfl HT_ ?_
       refine pv_' 2 24 (on_ 3 5) rfl rfl HT_ ?_
       refine pv_' 3 25 (on_ 4 4) rfl rfl HT_ ?_
       refine pv_' 5 27 #[i',i',i',i',o',i',o',o'] rfl rfl HT_ ?_
       refine take_ (i := 4) (N := some 26) (v := ?_) (a' := ?_) (on_ 6 2) rfl rfl (take_ofW HT_.out HW_.out (by kernel_rfl)) (fun _ _ _ h => h) (Or.inl ⟨by rfl, ?_⟩) hHeld ?_ ?_
       rotate_left
       ·rintro w' ⟨s0, s1, s2⟩
        go_simp
        with_reducible rfl
       rotate_left
       ·simp only [Act.put, la_, lz_, ls_, i64_w, i32_w]
        rfl
       refine one_ (i := 6) (N := some 28) (on_ 7 1) rfl rfl (one_of HT_.out (by kernel_rfl)) (by decide) (fun K hK => ?_)
       refine goes_ Try.func65 (by kernel_rfl) rfl #[.int .i64 (wrap64 (x1_1 + 1))] (by rfl) rfl rfl ar_ ?_
       with_reducible refine (laws_markText.calls k1 (wrap64 (x1_1 + 1)) t227 _ A7.out).mono ?_
       rintro e w21 ⟨rfl, hb⟩
       refine ⟨_, rfl, ?_⟩
       replace HB := bs_ HB hb
       (try clear hb)
       (try clear hb2)
       (try clear hk)
       (try clear hi)
       refine hK.out _ _ (q3e_ (cb_ HB hw226_0 :) (cb_ HB hw226_1 :) (cb_ HB hw226_2 :)) (fun hHeld => ?_)
       clear hK K
       refine norm_ (a' := ?_) ?_ ?_
       rotate_left
       ·show Act.put _ (some 28) _ = _
        simp only [Act.put, la_, lz_, ls_, i64_w, i32_w]
        rfl
       refine pv_' 7 29 (on_ 8 0) rfl rfl HT_ ?_
       refine done_ (done_of HT_.out (by kernel_rfl)) ?_
       try go_wp2
       go_ret
       exact ⟨re_, hb_ HB⟩
     ·rw [if_neg c6] at H
      have c6b0 : (((rd_T45 l0 x5_1).f0).toList == t225.toList) = false := beq_eq_false_iff_ne.mpr c6
      have c6b1 : (((rd_T45 l0 x5_1).f0).toList != t225.toList) = true := bne_iff_ne.mpr c6
      obtain rfl := Option.some.inj H
      try go_wp2
      replace HB := hd_ HB
      have p224 : 0 ≤ (x5_1 : Int) := of_decide_eq_true as_
      have q224 : x5_1 < (l0.length : Int) := of_decide_eq_true as_
      obtain ⟨ad224, e224, hx224_0, hx224_1, hx224_2⟩ := at_T45 HR0.out x5_1 p224 q224
      have hw224_2 := hx224_2
      have hw224_1 := hx224_1
      have hw224_0 := hx224_0
      cases e224
      (try replace hx224_0 := cb_ HB hx224_0)
      (try replace hx224_1 := cb_ HB hx224_1)
      (try replace hx224_2 := cb_ HB hx224_2)
      replace p224 := eq_true p224
      replace q224 := eq_true q224
      refine start_ (n := 8) (S := e3e_ (ad224.add ((x5_1).toNat * 3)) (.string ((rd_T45 l0 x5_1).f0)) (.string ((rd_T45 l0 x5_1).f1)) (.int .i64 ((rd_T45 l0 x5_1).f2))) (ds := []) (on_ 0 8) (by kernel_rfl) rfl rfl (q3e_ (cb_ HB hw224_0 :) (cb_ HB hw224_1 :) (cb_ HB hw224_2 :)) (fun hHeld => ?_); refine with_tabW laws_heldFileS.tab4 laws_heldFileS.bits4 (fun HT_ HW_ => ?_)
      generalize wr.drew = w22 at HB hx224_0 hx224_1 hx224_2 hHeld ⊢
      refine pv_' 0 12 (on_ 1 7) rfl rfl HT_ ?_
      refine pv_' 1 13 (on_ 2 6) rfl rfl HT_ ?_
      refine pv_' 2 14 (on_ 3 5) rfl rfl HT_ ?_
      refine pv_' 3 15 (on_ 4 4) rfl rfl HT_ ?_
      refine pv_' 5 17 #[i',i',i',i',o',i',o',o'] rfl rfl HT_ ?_
      refine take_ (i := 4) (N := some 16) (v := ?_) (a' := ?_) (on_ 6 2) rfl rfl (take_ofW HT_.out HW_.out (by kernel_rfl)) (fun _ _ _ h => h) (Or.inl ⟨by rfl, ?_⟩) hHeld ?_ ?_
      rotate_left
      ·rintro w' ⟨s0, s1, s2⟩
       go_simp
       with_reducible rfl
      rotate_left
      ·simp only [Act.put, la_, lz_, ls_, i64_w, i32_w]
       rfl
      refine one_ (i := 6) (N := some 18) (on_ 7 1) rfl rfl (one_of HT_.out (by kernel_rfl)) (by decide) (fun K hK => ?_)
      refine goes_ Try.func65 (by kernel_rfl) rfl #[.int .i64 x1_1] (by rfl) rfl rfl ar_ ?_
      with_reducible refine (laws_markText.calls k1 x1_1 t225 _ A5.out).mono ?_
      rintro e w23 ⟨rfl, hb⟩
      refine ⟨_, rfl, ?_⟩
      replace HB := bs_ HB hb
      (try clear hb)
      (try clear hb2)
      (try clear hk)
      (try clear hi)
      refine hK.out _ _ (q3e_ (cb_ HB hw224_0 :) (cb_ HB hw224_1 :) (cb_ HB hw224_2 :)) (fun hHeld => ?_)
      clear hK K
      refine norm_ (a' := ?_) ?_ ?_
      rotate_left
      ·show Act.put _ (some 18) _ = _
       simp only [Act.put, la_, lz_, ls_, i64_w, i32_w]
       rfl
      refine pv_' 7 19 (on_ 8 0) rfl rfl HT_ ?_
      refine done_ (done_of HT_.out (by kernel_rfl)) ?_
      try go_wp2
      go_ret
      exact ⟨re_, hb_ HB⟩
    ·rw [if_neg c4] at H
     exact absurd H (by simp)
   ·rw [if_neg c3] at H
    have c3b0 : decide (x5_1 < (l0.length : Int)) = false := decide_eq_false c3
    clear c3
    obtain rfl := Option.some.inj H
    go_wp2
    go_ret
    exact ⟨re_, hb_ HB⟩

/-! ### laws_heldDisk: function 15 -/
def laws_heldDisk.f (k : Nat) (l0_0 : List (S45)) (a0_1 : Int) (a0_2 : Int) (a0_3 : Bool) (a1 : Int) : Option (Int) := (laws_heldFileS.f k l0_0 a1).bind fun t230 => (if t230 < 0 then (some (-1)) else (some t230))
theorem laws_heldDisk.mono : ∀ a0 a1 a2 a3 a4 k, LeO (laws_heldDisk.f k a0 a1 a2 a3 a4) (laws_heldDisk.f (k + 1) a0 a1 a2 a3 a4) := by
 intro a0 a1 a2 a3 a4 k
 unfold laws_heldDisk.f
 repeat' first | (with_reducible first | exact laws_heldFileS.mono .. | exact LeO.refl .. | exact LeO.none .. | refine LeO.ite ?_ ?_ | refine LeO.bind ?_ (fun _ => ?_)) | exact laws_heldFileS.mono .. | exact LeO.none .. | refine LeO.ite ?_ ?_ | refine LeO.bind ?_ (fun _ => ?_)
set_option maxHeartbeats 80000000 in
set_option maxRecDepth 100000 in
theorem laws_heldDisk.calls (k : Nat) (A0_0 : Option Addr) (c0_0 : Nat) (l0_0 : List (S45)) (a0_1 : Int) (a0_2 : Int) (a0_3 : Bool) (a1 : Int) (r : Int) (w : World) (hr0_0 : Kd.C k45 w A0_0 l0_0.length l0_0) (hc0_0 : l0_0.length ≤ c0_0) (h : laws_heldDisk.f k l0_0 a0_1 a0_2 a0_3 a1 = some r) :
  Calls Try.prog 15 #[.agg #[.slice A0_0 l0_0.length c0_0, .int .i64 a0_1, .int .i64 a0_2, .bool a0_3], .int .i64 a1] w fun e w' => e = .returned (.int .i64 r) ∧ Below w.heap.size w w' := by
 have hu29 := Try.underlying29
 have HR0_0 := Aside0.mk hr0_0
 have HC0_0 := Aside0.mk hc0_0
 clear hr0_0 hc0_0
 have HB := Aside0.mk (Below.refl w.heap.size w)
 have H : ((laws_heldFileS.f k l0_0 a1).bind fun t230 => (if t230 < 0 then (some (-1)) else (some t230))) = some r := h
 clear h
 replace H := Option.bind_eq_some_iff.mp H
 obtain ⟨t230, A30, H⟩ := H
 replace H : (if t230 < 0 then (some (-1)) else (some t230)) = some r := H
 have A3 := Aside0.mk A30
 clear A30
 by_cases c4 : t230 < 0
 ·rw [if_pos c4] at H
  have c4b0 : decide (t230 < 0) = true := decide_eq_true c4
  clear c4
  obtain rfl := Option.some.inj H
  go_enter Try.func15, Try.ntmps15
  go_wp2_with (first | ((with_reducible refine gate_dst (N := 2) rfl ?_); refine box_event ?hg (N := 2) ?hd (cs := #[.slice A0_0 l0_0.length c0_0, .int .i64 a0_1, .int .i64 a0_2, .bool a0_3]) (t := 29) ?hr ?_; (case hd => rfl); (case hg => rfl); (case hr => first | (go_simp; done) | (go_simp; rfl)); intro gb229 hg w5 hbox hb; have BK229 := Aside0.mk (hbox); have GW229 := ge_ hg (hb_ HB); have GE229 := ge_ hg (hb_ HB); replace HB := bs_ HB hb; clear hb hbox hg; obtain ⟨hcz6_0, hcz6_1, hcz6_2, hcz6_3, hfz6_0, hfz6_1, hfz6_2, hfz6_3⟩ := bc4_ BK229) | ((with_reducible refine gate_callee (f := 42) rfl ?_); refine goesL_ (some 8) rfl rfl Try.func42 (by kernel_rfl) rfl #[.slice A0_0 l0_0.length c0_0, .int .i64 a1] rfl ar_ ?_; (with_reducible refine (laws_heldFileS.calls k _ _ l0_0 a1 t230 _ ?side1 ?side2 A3.out).mono ?_); (case side1 => repeat (first | exact (Kd.C_below HR0_0.out HB.out) | (with_reducible refine Kd.C_alloc ?_ _) | (with_reducible refine Kd.C_drewN ?_ _) | (with_reducible refine Kd.C_drew ?_))); (case side2 => exact HC0_0.out); rintro e w7 ⟨rfl, hb⟩; refine ⟨_, rfl, ?_⟩; replace BK229 := bb_ BK229 hb; replace HB := bt_ HB GE229 hb; (try clear hb); (try clear hb2); (try clear hk); (try clear hi)))
  go_ret
  exact ⟨re_, hs_ HB GE229⟩
 ·rw [if_neg c4] at H
  have c4b0 : decide (t230 < 0) = false := decide_eq_false c4
  clear c4
  obtain rfl := Option.some.inj H
  go_enter Try.func15, Try.ntmps15
  go_wp2_with (first | ((with_reducible refine gate_dst (N := 2) rfl ?_); refine box_event ?hg (N := 2) ?hd (cs := #[.slice A0_0 l0_0.length c0_0, .int .i64 a0_1, .int .i64 a0_2, .bool a0_3]) (t := 29) ?hr ?_; (case hd => rfl); (case hg => rfl); (case hr => first | (go_simp; done) | (go_simp; rfl)); intro gb229 hg w8 hbox hb; have BK229 := Aside0.mk (hbox); have GW229 := ge_ hg (hb_ HB); have GE229 := ge_ hg (hb_ HB); replace HB := bs_ HB hb; clear hb hbox hg; obtain ⟨hcz9_0, hcz9_1, hcz9_2, hcz9_3, hfz9_0, hfz9_1, hfz9_2, hfz9_3⟩ := bc4_ BK229) | ((with_reducible refine gate_callee (f := 42) rfl ?_); refine goesL_ (some 8) rfl rfl Try.func42 (by kernel_rfl) rfl #[.slice A0_0 l0_0.length c0_0, .int .i64 a1] rfl ar_ ?_; (with_reducible refine (laws_heldFileS.calls k _ _ l0_0 a1 t230 _ ?side1 ?side2 A3.out).mono ?_); (case side1 => repeat (first | exact (Kd.C_below HR0_0.out HB.out) | (with_reducible refine Kd.C_alloc ?_ _) | (with_reducible refine Kd.C_drewN ?_ _) | (with_reducible refine Kd.C_drew ?_))); (case side2 => exact HC0_0.out); rintro e w10 ⟨rfl, hb⟩; refine ⟨_, rfl, ?_⟩; replace BK229 := bb_ BK229 hb; replace HB := bt_ HB GE229 hb; (try clear hb); (try clear hb2); (try clear hk); (try clear hi)))
  go_ret
  exact ⟨re_, hs_ HB GE229⟩

end Go.Proofs.Ytigbekefjbfopaa.PFnExactPower
