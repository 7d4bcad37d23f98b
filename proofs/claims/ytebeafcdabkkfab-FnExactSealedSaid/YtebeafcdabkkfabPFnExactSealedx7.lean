-- Laid by a program of this session, a copy of the kit's printer with additions (wip/patch_print.py): myhead. Lean checks it.
import Derived.Test.YtebeafcdabkkfabPFnExactSealedx0
import Derived.Test.YtebeafcdabkkfabPFnExactSealedx5
import Derived.Test.YtebeafcdabkkfabPFnExactSealedx6
namespace Go.Proofs.Ytebeafcdabkkfab.PFnExactSealed
open Go.RowKit Go.Proofs.YtebeafcdabkkfabW.PrintWords Go.Proofs.YtebeafcdabkkfabW.PrintLast Go.Proofs.YtebeafcdabkkfabW.PrintMore
attribute [local go_sem] max2_int min2_int max_two min_two max_three min_three max_four min_four   -- for this text's walks alone
set_option linter.unusedVariables false
set_option linter.unusedSimpArgs false

/-! ### spec_Sealed: function 10 -/
def spec_Sealed.l0 : Nat → List (S82) → List Int → Int → Option (List Int)
 | 0, _, _, _ => none
 | k + 1, x0, x3, x4 => if x4 < (x0.length : Int) then (if 0 ≤ x4 then (if ((rd_T82 x0 x4).f3.f0) = 3 then ((spec_l9Of.f k x0 x4 ((rd_T82 x0 x4).f3.f1)).bind fun t183 => ((spec_l9Fits.f k ((rd_T82 x0 x4).f3.f0) ((rd_T82 x0 x4).f3.f1) ((rd_T82 x0 x4).f3.f2) ((rd_T82 x0 x4).f3.f3) ((rd_T82 x0 x4).f3.f4) ((rd_T82 x0 x4).f3.f5) t183).bind fun t186 => (if t186 = true then (if x3.length < 17592186044416 then (spec_Sealed.l0 k x0 (x3 ++ [(rd_T82 x0 x4).f3.f1]) (wrap64 (x4 + 1))) else (none)) else (spec_Sealed.l0 k x0 x3 (wrap64 (x4 + 1)))))) else (spec_Sealed.l0 k x0 x3 (wrap64 (x4 + 1)))) else (none)) else (some x3)
def spec_Sealed.f (k : Nat) (l0 : List (S82)) : Option (List Int) := spec_Sealed.l0 k l0 (([] : List Int)) 0
theorem spec_Sealed.mono_l : ∀ k, (∀ y0 y1 y2, LeO (spec_Sealed.l0 k y0 y1 y2) (spec_Sealed.l0 (k + 1) y0 y1 y2))
 | 0 => fun _ _ _ r h => by simp [spec_Sealed.l0] at h
 | k + 1 => by
  have ih0 := spec_Sealed.mono_l k
  ·intro y0 y1 y2
   unfold spec_Sealed.l0
   repeat' first
   | (with_reducible exact ih0 _ _ _)
   | (with_reducible exact spec_l9Fits.mono _ _ _ _ _ _ _ _)
   | (with_reducible exact spec_l9Of.mono _ _ _ _)
   | (with_reducible exact LeO.refl _)
   | (with_reducible exact LeO.none _)
   | (with_reducible refine LeO.ite ?_ ?_)
   | (with_reducible refine LeO.bind ?_ (fun _ => ?_))
   | exact ih0 _ _ _
   | exact spec_l9Fits.mono _ _ _ _ _ _ _ _
   | exact spec_l9Of.mono _ _ _ _
   | exact LeO.none _
   | refine LeO.ite ?_ ?_
   | refine LeO.bind ?_ (fun _ => ?_)
theorem spec_Sealed.mono : ∀ a0 k, LeO (spec_Sealed.f k a0) (spec_Sealed.f (k + 1) a0) := by
 intro a0 k
 have ih0 := spec_Sealed.mono_l k
 unfold spec_Sealed.f
 repeat' first
   | (with_reducible exact ih0 _ _ _)
   | (with_reducible exact spec_l9Fits.mono _ _ _ _ _ _ _ _)
   | (with_reducible exact spec_l9Of.mono _ _ _ _)
   | (with_reducible exact LeO.refl _)
   | (with_reducible exact LeO.none _)
   | (with_reducible refine LeO.ite ?_ ?_)
   | (with_reducible refine LeO.bind ?_ (fun _ => ?_))
   | exact ih0 _ _ _
   | exact spec_l9Fits.mono _ _ _ _ _ _ _ _
   | exact spec_l9Of.mono _ _ _ _
   | exact LeO.none _
   | refine LeO.ite ?_ ?_
   | refine LeO.bind ?_ (fun _ => ?_)
def spec_Sealed.T5 : Bool × List (List Nat × List Nat) := (true, [([], []), ([], []), ([0, 1], [0, 1]), ([2], [2]), ([3], [3]), ([4], [4]), ([5], [5]), ([6], [6]), ([7], [7]), ([7], [7]), ([8, 9, 7], [7, 8, 9]), ([10, 7], [7, 10]), ([11, 7], [7, 11]), ([7], [7]), ([7], [7]), ([7], [7]), ([7], [7]), ([15, 16, 7], [7, 15, 16]), ([17, 7], [7, 17]), ([18, 7], [7, 18]), ([19, 7], [7, 19]), ([13, 14, 20, 7, 7], [7, 13, 14, 20]), ([12, 21, 21, 7], [7, 12, 21]), ([7, 22], [7, 22])])
def spec_Sealed.B5 : List Nat := [0, 0, 3, 7, 15, 31, 63, 127, 255, 255, 1023, 2047, 4095, 255, 255, 255, 255, 98559, 229631, 491775, 1016063, 2089215, 4194303, 8388607]
theorem spec_Sealed.tab5 : rtab .any (opsOf Try.f10 5) = spec_Sealed.T5 := by kernel_rfl
theorem spec_Sealed.bits5 : waitsOk spec_Sealed.T5.2 spec_Sealed.B5 = true := by kernel_rfl
set_option maxHeartbeats 8000000 in
set_option maxRecDepth 100000 in
theorem spec_Sealed.calls (k : Nat) (A0 : Option Addr) (c0 : Nat) (l0 : List (S82)) (r : List Int) (w : World) (hr0 : Kd.C k82 w A0 l0.length l0) (hc0 : l0.length ≤ c0) (h : spec_Sealed.f k l0 = some r) :
  Calls Try.prog 10 #[.slice A0 l0.length c0] w fun e w' => ∃ v0_ : Value, e = .returned (v0_) ∧ Kd.R (Kd.int .i64) 3 w' w.heap.size (fun _ => True) v0_ r ∧ Below w.heap.size w w' := by
 have hu47 := Try.underlying47
 have HR0 := Aside0.mk hr0
 have HC0 := Aside0.mk hc0
 clear hr0 hc0
 have HB := Aside0.mk (Below.refl w.heap.size w)
 have H : (spec_Sealed.l0 k l0 (([] : List Int)) 0) = some r := h
 clear h
 obtain ⟨y177, hy177⟩ : ∃ y_ : List Int, y_ = (([] : List Int)) := ⟨_, rfl⟩
 replace H : (spec_Sealed.l0 k l0 y177 0) = some r := by first | (rw [hy177]; with_reducible exact H) | (have H2_ := (Option.bind_some _ _).symm.trans H; rw [hy177]; with_reducible exact H2_) | (have H2_ := (Option.bind_some _ _).symm.trans H; with_reducible exact H2_) | with_reducible exact H | (rw [hy177]; exact H) | exact H
 have Ny177 := Aside0.mk hy177
 clear hy177
 have H' := Aside0.mk H
 clear H
 go_enter Try.func10, Try.ntmps10
 go_wp2_with (first | ((with_reducible refine gate_dst (N := 5) rfl ?_); refine Kd.R_lit (Kd.int .i64) _ 3 ?hg (N := 5) ?hd (xs := ([] : List Int)) (inner := []) (ok := fun _ => True) (okp := fun _ => True) ?hr ?hp (fun _ hk => hk) trivial (Below.refl _ _) (Nat.le_refl _) (by simp) ?_; (case hd => rfl); (case hg => rfl); (case hr => first | (go_simp; done) | (go_simp; rfl)); (case hp => exact (Reps.none _ _)); intro v178 w2 ho3 hb hg_ hnew_; clear hg_ hnew_; (first | rw [← Ny177.out] at ho3 | (simp only [Int.reduceToNat] at ho3; rw [← Ny177.out] at ho3)); have n0_ := Aside0.mk (Kd.R_lower ho3 (below_size (hb_ HB))); have n1_ := Aside0.mk (below_step (hb_ HB) hb); clear HB; have HO179 := n0_; have HB := n1_; clear n0_ n1_; clear hb ho3))
 go_loopg [3, 4] k (fun kq v3 v4 w' => ∃ (x3_1 : List Int) (x4_1 : Int), v4 = .int .i64 x4_1 ∧ Aside0 (spec_Sealed.l0 kq l0 x3_1 x4_1 = some r) ∧ Aside0 (kq ≤ k) ∧ Aside0 (Kd.R (Kd.int .i64) 3 w' w.heap.size (fun _ => True) v3 x3_1) ∧ Aside0 (Below w.heap.size w w'))
 case atStart => exact ⟨(y177), (0), rs_, H', ⟨Nat.le_refl _⟩, ⟨rr_ HO179⟩, ⟨hb_ HB⟩⟩
 case round =>
  clear H'
  try clear c1
  try clear p2
  obtain ⟨x3_1, x4_1, rfl, HA, HK1, HO_3, HB⟩ := hrel
  cases gk with
  | zero => exact absurd HA.out (by simp [spec_Sealed.l0])
  | succ k1 =>
   have H := HA.out
   clear HA
   simp only [spec_Sealed.l0] at H
   by_cases c4 : x4_1 < (l0.length : Int)
   ·rw [if_pos c4] at H
    have c4b0 : decide (x4_1 < (l0.length : Int)) = true := decide_eq_true c4
    clear c4
    by_cases c5 : 0 ≤ x4_1
    ·rw [if_pos c5] at H
     have c5b0 : decide (0 ≤ x4_1) = true := decide_eq_true c5
     clear c5
     by_cases c6 : ((rd_T82 l0 x4_1).f3.f0) = 3
     ·rw [if_pos c6] at H
      have c6b0 : (((rd_T82 l0 x4_1).f3.f0) == 3) = true := beq_iff_eq.mpr c6
      have c6b1 : (((rd_T82 l0 x4_1).f3.f0) != 3) = false := bne_eq_false_iff_eq.mpr c6
      clear c6
      replace H := Option.bind_eq_some_iff.mp H
      obtain ⟨t183, A70, H⟩ := H
      replace H : ((spec_l9Fits.f k1 ((rd_T82 l0 x4_1).f3.f0) ((rd_T82 l0 x4_1).f3.f1) ((rd_T82 l0 x4_1).f3.f2) ((rd_T82 l0 x4_1).f3.f3) ((rd_T82 l0 x4_1).f3.f4) ((rd_T82 l0 x4_1).f3.f5) t183).bind fun t186 => (if t186 = true then (if x3_1.length < 17592186044416 then (spec_Sealed.l0 k1 l0 (x3_1 ++ [(rd_T82 l0 x4_1).f3.f1]) (wrap64 (x4_1 + 1))) else (none)) else (spec_Sealed.l0 k1 l0 x3_1 (wrap64 (x4_1 + 1))))) = some r := H
      have A7 := Aside0.mk A70
      clear A70
      replace H := Option.bind_eq_some_iff.mp H
      obtain ⟨t186, A80, H⟩ := H
      replace H : (if t186 = true then (if x3_1.length < 17592186044416 then (spec_Sealed.l0 k1 l0 (x3_1 ++ [(rd_T82 l0 x4_1).f3.f1]) (wrap64 (x4_1 + 1))) else (none)) else (spec_Sealed.l0 k1 l0 x3_1 (wrap64 (x4_1 + 1)))) = some r := H
      have A8 := Aside0.mk A80
      clear A80
      by_cases c9 : t186 = true
      ·subst c9
       have H1 : (if x3_1.length < 17592186044416 then (spec_Sealed.l0 k1 l0 (x3_1 ++ [(rd_T82 l0 x4_1).f3.f1]) (wrap64 (x4_1 + 1))) else (none)) = some r := by rw [if_pos rfl] at H; exact H
       clear H
       have H := H1
       clear H1
       by_cases c10 : x3_1.length < 17592186044416
       ·rw [if_pos c10] at H
        have LMc10 := Aside0.mk c10
        clear c10
        obtain ⟨y188, hy188⟩ : ∃ y_ : List Int, y_ = (x3_1 ++ [(rd_T82 l0 x4_1).f3.f1]) := ⟨_, rfl⟩
        replace H : (spec_Sealed.l0 k1 l0 y188 (wrap64 (x4_1 + 1))) = some r := by first | (rw [hy188]; with_reducible exact H) | (have H2_ := (Option.bind_some _ _).symm.trans H; rw [hy188]; with_reducible exact H2_) | (have H2_ := (Option.bind_some _ _).symm.trans H; with_reducible exact H2_) | with_reducible exact H | (rw [hy188]; exact H) | exact H
        have Ny188 := Aside0.mk hy188
        clear hy188
        have H' := Aside0.mk H
        clear H
        try go_wp2
        have n0_ := Aside0.mk (Kd.R_drew HO_3.out)
        have n1_ := Aside0.mk (below_drew1 HB.out)
        clear HO_3
        clear HB
        have HO_3 := n0_
        have HB := n1_
        clear n0_ n1_
        have p180 : 0 ≤ (x4_1 : Int) := of_decide_eq_true as_
        have q180 : x4_1 < (l0.length : Int) := of_decide_eq_true as_
        obtain ⟨ad180, e180, hx180_0, hx180_1, hx180_2, hx180_3, hx180_4, hx180_5, hx180_6, hx180_7, hx180_8⟩ := at_T82 HR0.out x4_1 p180 q180
        have hw180_8 := hx180_8
        have hw180_7 := hx180_7
        have hw180_6 := hx180_6
        have hw180_5 := hx180_5
        have hw180_4 := hx180_4
        have hw180_3 := hx180_3
        have hw180_2 := hx180_2
        have hw180_1 := hx180_1
        have hw180_0 := hx180_0
        cases e180
        replace hx180_0 := (HB.out.cell (World.block_lt_of_cell? w _ hx180_0)).trans hx180_0
        replace hx180_1 := (HB.out.cell (World.block_lt_of_cell? w _ hx180_1)).trans hx180_1
        replace hx180_2 := (HB.out.cell (World.block_lt_of_cell? w _ hx180_2)).trans hx180_2
        replace hx180_3 := (HB.out.cell (World.block_lt_of_cell? w _ hx180_3)).trans hx180_3
        replace hx180_4 := (HB.out.cell (World.block_lt_of_cell? w _ hx180_4)).trans hx180_4
        replace hx180_5 := (HB.out.cell (World.block_lt_of_cell? w _ hx180_5)).trans hx180_5
        replace hx180_6 := (HB.out.cell (World.block_lt_of_cell? w _ hx180_6)).trans hx180_6
        replace hx180_7 := (HB.out.cell (World.block_lt_of_cell? w _ hx180_7)).trans hx180_7
        replace hx180_8 := (HB.out.cell (World.block_lt_of_cell? w _ hx180_8)).trans hx180_8
        replace p180 := eq_true p180
        replace q180 := eq_true q180
        have p181 : 0 ≤ (x4_1 : Int) := of_decide_eq_true as_
        have q181 : x4_1 < (l0.length : Int) := of_decide_eq_true as_
        obtain ⟨ad181, e181, hx181_0, hx181_1, hx181_2, hx181_3, hx181_4, hx181_5, hx181_6, hx181_7, hx181_8⟩ := at_T82 HR0.out x4_1 p181 q181
        have hw181_8 := hx181_8
        have hw181_7 := hx181_7
        have hw181_6 := hx181_6
        have hw181_5 := hx181_5
        have hw181_4 := hx181_4
        have hw181_3 := hx181_3
        have hw181_2 := hx181_2
        have hw181_1 := hx181_1
        have hw181_0 := hx181_0
        obtain rfl : ad180 = ad181 := (by injection e181)
        replace hx181_0 := (HB.out.cell (World.block_lt_of_cell? w _ hx181_0)).trans hx181_0
        replace hx181_1 := (HB.out.cell (World.block_lt_of_cell? w _ hx181_1)).trans hx181_1
        replace hx181_2 := (HB.out.cell (World.block_lt_of_cell? w _ hx181_2)).trans hx181_2
        replace hx181_3 := (HB.out.cell (World.block_lt_of_cell? w _ hx181_3)).trans hx181_3
        replace hx181_4 := (HB.out.cell (World.block_lt_of_cell? w _ hx181_4)).trans hx181_4
        replace hx181_5 := (HB.out.cell (World.block_lt_of_cell? w _ hx181_5)).trans hx181_5
        replace hx181_6 := (HB.out.cell (World.block_lt_of_cell? w _ hx181_6)).trans hx181_6
        replace hx181_7 := (HB.out.cell (World.block_lt_of_cell? w _ hx181_7)).trans hx181_7
        replace hx181_8 := (HB.out.cell (World.block_lt_of_cell? w _ hx181_8)).trans hx181_8
        replace p181 := eq_true p181
        replace q181 := eq_true q181
        have p182 : 0 ≤ (x4_1 : Int) := of_decide_eq_true as_
        have q182 : x4_1 < (l0.length : Int) := of_decide_eq_true as_
        obtain ⟨ad182, e182, hx182_0, hx182_1, hx182_2, hx182_3, hx182_4, hx182_5, hx182_6, hx182_7, hx182_8⟩ := at_T82 HR0.out x4_1 p182 q182
        have hw182_8 := hx182_8
        have hw182_7 := hx182_7
        have hw182_6 := hx182_6
        have hw182_5 := hx182_5
        have hw182_4 := hx182_4
        have hw182_3 := hx182_3
        have hw182_2 := hx182_2
        have hw182_1 := hx182_1
        have hw182_0 := hx182_0
        obtain rfl : ad180 = ad182 := (by injection e182)
        replace hx182_0 := (HB.out.cell (World.block_lt_of_cell? w _ hx182_0)).trans hx182_0
        replace hx182_1 := (HB.out.cell (World.block_lt_of_cell? w _ hx182_1)).trans hx182_1
        replace hx182_2 := (HB.out.cell (World.block_lt_of_cell? w _ hx182_2)).trans hx182_2
        replace hx182_3 := (HB.out.cell (World.block_lt_of_cell? w _ hx182_3)).trans hx182_3
        replace hx182_4 := (HB.out.cell (World.block_lt_of_cell? w _ hx182_4)).trans hx182_4
        replace hx182_5 := (HB.out.cell (World.block_lt_of_cell? w _ hx182_5)).trans hx182_5
        replace hx182_6 := (HB.out.cell (World.block_lt_of_cell? w _ hx182_6)).trans hx182_6
        replace hx182_7 := (HB.out.cell (World.block_lt_of_cell? w _ hx182_7)).trans hx182_7
        replace hx182_8 := (HB.out.cell (World.block_lt_of_cell? w _ hx182_8)).trans hx182_8
        replace p182 := eq_true p182
        replace q182 := eq_true q182
        refine start_ (n := 24) (S := fun w' => w'.cell? (ad180.add ((x4_1).toNat * 9)) = some (.int .i64 ((rd_T82 l0 x4_1).f0)) ∧ w'.cell? ⟨(ad180.add ((x4_1).toNat * 9)).block, (ad180.add ((x4_1).toNat * 9)).off + 1, none⟩ = some (.int .i64 ((rd_T82 l0 x4_1).f1)) ∧ w'.cell? ⟨(ad180.add ((x4_1).toNat * 9)).block, (ad180.add ((x4_1).toNat * 9)).off + 2, none⟩ = some (.int .i64 ((rd_T82 l0 x4_1).f2)) ∧ w'.cell? ⟨(ad180.add ((x4_1).toNat * 9)).block, (ad180.add ((x4_1).toNat * 9)).off + 3, none⟩ = some (.int .i64 ((rd_T82 l0 x4_1).f3.f0)) ∧ w'.cell? ⟨(ad180.add ((x4_1).toNat * 9)).block, (ad180.add ((x4_1).toNat * 9)).off + 4, none⟩ = some (.int .i64 ((rd_T82 l0 x4_1).f3.f1)) ∧ w'.cell? ⟨(ad180.add ((x4_1).toNat * 9)).block, (ad180.add ((x4_1).toNat * 9)).off + 5, none⟩ = some (.string ((rd_T82 l0 x4_1).f3.f2)) ∧ w'.cell? ⟨(ad180.add ((x4_1).toNat * 9)).block, (ad180.add ((x4_1).toNat * 9)).off + 6, none⟩ = some (.string ((rd_T82 l0 x4_1).f3.f3)) ∧ w'.cell? ⟨(ad180.add ((x4_1).toNat * 9)).block, (ad180.add ((x4_1).toNat * 9)).off + 7, none⟩ = some (.int .i64 ((rd_T82 l0 x4_1).f3.f4)) ∧ w'.cell? ⟨(ad180.add ((x4_1).toNat * 9)).block, (ad180.add ((x4_1).toNat * 9)).off + 8, none⟩ = some (.int .i64 ((rd_T82 l0 x4_1).f3.f5)) ∧ w'.cell? (ad180.add ((x4_1).toNat * 9)) = some (.int .i64 ((rd_T82 l0 x4_1).f0)) ∧ w'.cell? ⟨(ad180.add ((x4_1).toNat * 9)).block, (ad180.add ((x4_1).toNat * 9)).off + 1, none⟩ = some (.int .i64 ((rd_T82 l0 x4_1).f1)) ∧ w'.cell? ⟨(ad180.add ((x4_1).toNat * 9)).block, (ad180.add ((x4_1).toNat * 9)).off + 2, none⟩ = some (.int .i64 ((rd_T82 l0 x4_1).f2)) ∧ w'.cell? ⟨(ad180.add ((x4_1).toNat * 9)).block, (ad180.add ((x4_1).toNat * 9)).off + 3, none⟩ = some (.int .i64 ((rd_T82 l0 x4_1).f3.f0)) ∧ w'.cell? ⟨(ad180.add ((x4_1).toNat * 9)).block, (ad180.add ((x4_1).toNat * 9)).off + 4, none⟩ = some (.int .i64 ((rd_T82 l0 x4_1).f3.f1)) ∧ w'.cell? ⟨(ad180.add ((x4_1).toNat * 9)).block, (ad180.add ((x4_1).toNat * 9)).off + 5, none⟩ = some (.string ((rd_T82 l0 x4_1).f3.f2)) ∧ w'.cell? ⟨(ad180.add ((x4_1).toNat * 9)).block, (ad180.add ((x4_1).toNat * 9)).off + 6, none⟩ = some (.string ((rd_T82 l0 x4_1).f3.f3)) ∧ w'.cell? ⟨(ad180.add ((x4_1).toNat * 9)).block, (ad180.add ((x4_1).toNat * 9)).off + 7, none⟩ = some (.int .i64 ((rd_T82 l0 x4_1).f3.f4)) ∧ w'.cell? ⟨(ad180.add ((x4_1).toNat * 9)).block, (ad180.add ((x4_1).toNat * 9)).off + 8, none⟩ = some (.int .i64 ((rd_T82 l0 x4_1).f3.f5)) ∧ w'.cell? (ad180.add ((x4_1).toNat * 9)) = some (.int .i64 ((rd_T82 l0 x4_1).f0)) ∧ w'.cell? ⟨(ad180.add ((x4_1).toNat * 9)).block, (ad180.add ((x4_1).toNat * 9)).off + 1, none⟩ = some (.int .i64 ((rd_T82 l0 x4_1).f1)) ∧ w'.cell? ⟨(ad180.add ((x4_1).toNat * 9)).block, (ad180.add ((x4_1).toNat * 9)).off + 2, none⟩ = some (.int .i64 ((rd_T82 l0 x4_1).f2)) ∧ w'.cell? ⟨(ad180.add ((x4_1).toNat * 9)).block, (ad180.add ((x4_1).toNat * 9)).off + 3, none⟩ = some (.int .i64 ((rd_T82 l0 x4_1).f3.f0)) ∧ w'.cell? ⟨(ad180.add ((x4_1).toNat * 9)).block, (ad180.add ((x4_1).toNat * 9)).off + 4, none⟩ = some (.int .i64 ((rd_T82 l0 x4_1).f3.f1)) ∧ w'.cell? ⟨(ad180.add ((x4_1).toNat * 9)).block, (ad180.add ((x4_1).toNat * 9)).off + 5, none⟩ = some (.string ((rd_T82 l0 x4_1).f3.f2)) ∧ w'.cell? ⟨(ad180.add ((x4_1).toNat * 9)).block, (ad180.add ((x4_1).toNat * 9)).off + 6, none⟩ = some (.string ((rd_T82 l0 x4_1).f3.f3)) ∧ w'.cell? ⟨(ad180.add ((x4_1).toNat * 9)).block, (ad180.add ((x4_1).toNat * 9)).off + 7, none⟩ = some (.int .i64 ((rd_T82 l0 x4_1).f3.f4)) ∧ w'.cell? ⟨(ad180.add ((x4_1).toNat * 9)).block, (ad180.add ((x4_1).toNat * 9)).off + 8, none⟩ = some (.int .i64 ((rd_T82 l0 x4_1).f3.f5))) (ds := []) #[o',o',o',o',o',o',o',o',o',o',o',o',o',o',o',o',o',o',o',o',o',o',o',o'] (by kernel_rfl) rfl rfl ⟨((HB.out.cell (World.block_lt_of_cell? w _ hw180_0)).trans hw180_0), ((HB.out.cell (World.block_lt_of_cell? w _ hw180_1)).trans hw180_1), ((HB.out.cell (World.block_lt_of_cell? w _ hw180_2)).trans hw180_2), ((HB.out.cell (World.block_lt_of_cell? w _ hw180_3)).trans hw180_3), ((HB.out.cell (World.block_lt_of_cell? w _ hw180_4)).trans hw180_4), ((HB.out.cell (World.block_lt_of_cell? w _ hw180_5)).trans hw180_5), ((HB.out.cell (World.block_lt_of_cell? w _ hw180_6)).trans hw180_6), ((HB.out.cell (World.block_lt_of_cell? w _ hw180_7)).trans hw180_7), ((HB.out.cell (World.block_lt_of_cell? w _ hw180_8)).trans hw180_8), ((HB.out.cell (World.block_lt_of_cell? w _ hw181_0)).trans hw181_0), ((HB.out.cell (World.block_lt_of_cell? w _ hw181_1)).trans hw181_1), ((HB.out.cell (World.block_lt_of_cell? w _ hw181_2)).trans hw181_2), ((HB.out.cell (World.block_lt_of_cell? w _ hw181_3)).trans hw181_3), ((HB.out.cell (World.block_lt_of_cell? w _ hw181_4)).trans hw181_4), ((HB.out.cell (World.block_lt_of_cell? w _ hw181_5)).trans hw181_5), ((HB.out.cell (World.block_lt_of_cell? w _ hw181_6)).trans hw181_6), ((HB.out.cell (World.block_lt_of_cell? w _ hw181_7)).trans hw181_7), ((HB.out.cell (World.block_lt_of_cell? w _ hw181_8)).trans hw181_8), ((HB.out.cell (World.block_lt_of_cell? w _ hw182_0)).trans hw182_0), ((HB.out.cell (World.block_lt_of_cell? w _ hw182_1)).trans hw182_1), ((HB.out.cell (World.block_lt_of_cell? w _ hw182_2)).trans hw182_2), ((HB.out.cell (World.block_lt_of_cell? w _ hw182_3)).trans hw182_3), ((HB.out.cell (World.block_lt_of_cell? w _ hw182_4)).trans hw182_4), ((HB.out.cell (World.block_lt_of_cell? w _ hw182_5)).trans hw182_5), ((HB.out.cell (World.block_lt_of_cell? w _ hw182_6)).trans hw182_6), ((HB.out.cell (World.block_lt_of_cell? w _ hw182_7)).trans hw182_7), ((HB.out.cell (World.block_lt_of_cell? w _ hw182_8)).trans hw182_8)⟩ (fun hHeld => ?_); refine with_tabW spec_Sealed.tab5 spec_Sealed.bits5 (fun HT_ HW_ => ?_)
        generalize wr.drew = w11 at HO_3 HB hx180_0 hx180_1 hx180_2 hx180_3 hx180_4 hx180_5 hx180_6 hx180_7 hx180_8 hx181_0 hx181_1 hx181_2 hx181_3 hx181_4 hx181_5 hx181_6 hx181_7 hx181_8 hx182_0 hx182_1 hx182_2 hx182_3 hx182_4 hx182_5 hx182_6 hx182_7 hx182_8 hHeld ⊢
        refine pure_ (i := 0) (N := some 12) (v := ?_) (a' := ?_) #[i',o',o',o',o',o',o',o',o',o',o',o',o',o',o',o',o',o',o',o',o',o',o',o'] rfl rfl (any_of HT_.out (by kernel_rfl)) (fun _ _ _ h => h) (Or.inl ⟨by rfl, ?_⟩) ?_ ?_
        rotate_left;·intro w';go_simp;with_reducible rfl
        rotate_left;·simp only [Act.put, la_, lz_, ls_, i64_w, i32_w];rfl
        refine pure_ (i := 1) (N := some 13) (v := ?_) (a' := ?_) #[i',i',o',o',o',o',o',o',o',o',o',o',o',o',o',o',o',o',o',o',o',o',o',o'] rfl rfl (any_of HT_.out (by kernel_rfl)) (fun _ _ _ h => h) (Or.inl ⟨by rfl, ?_⟩) ?_ ?_
        rotate_left;·intro w';go_simp;with_reducible rfl
        rotate_left;·simp only [Act.put, la_, lz_, ls_, i64_w, i32_w];rfl
        refine pure_ (i := 2) (N := some 14) (v := ?_) (a' := ?_) #[i',i',i',o',o',o',o',o',o',o',o',o',o',o',o',o',o',o',o',o',o',o',o',o'] rfl rfl (any_of HT_.out (by kernel_rfl)) (fun _ _ _ h => h) (Or.inl ⟨by rfl, ?_⟩) ?_ ?_
        rotate_left;·intro w';go_simp;with_reducible rfl
        rotate_left;·simp only [Act.put, la_, lz_, ls_, i64_w, i32_w];rfl
        refine pure_ (i := 3) (N := some 15) (v := ?_) (a' := ?_) #[i',i',i',i',o',o',o',o',o',o',o',o',o',o',o',o',o',o',o',o',o',o',o',o'] rfl rfl (any_of HT_.out (by kernel_rfl)) (fun _ _ _ h => h) (Or.inl ⟨by rfl, ?_⟩) ?_ ?_
        rotate_left;·intro w';go_simp;with_reducible rfl
        rotate_left;·simp only [Act.put, la_, lz_, ls_, i64_w, i32_w];rfl
        refine pure_ (i := 4) (N := some 16) (v := ?_) (a' := ?_) #[i',i',i',i',i',o',o',o',o',o',o',o',o',o',o',o',o',o',o',o',o',o',o',o'] rfl rfl (any_of HT_.out (by kernel_rfl)) (fun _ _ _ h => h) (Or.inl ⟨by rfl, ?_⟩) ?_ ?_
        rotate_left;·intro w';go_simp;with_reducible rfl
        rotate_left;·simp only [Act.put, la_, lz_, ls_, i64_w, i32_w];rfl
        refine take_ (i := 5) (N := some 17) (v := ?_) (a' := ?_) #[i',i',i',i',i',i',o',o',o',o',o',o',o',o',o',o',o',o',o',o',o',o',o',o'] rfl rfl (take_ofW HT_.out HW_.out (by kernel_rfl)) (fun _ _ _ h => h) (Or.inl ⟨by rfl, ?_⟩) hHeld ?_ ?_
        rotate_left
        ·rintro w' ⟨s0, s1, s2, s3, s4, s5, s6, s7, s8, s9, s10, s11, s12, s13, s14, s15, s16, s17, s18, s19, s20, s21, s22, s23, s24, s25, s26⟩
         go_simp
         with_reducible rfl
        rotate_left
        ·simp only [Act.put, la_, lz_, ls_, i64_w, i32_w]
         rfl
        refine pure_ (i := 6) (N := some 18) (v := ?_) (a' := ?_) #[i',i',i',i',i',i',i',o',o',o',o',o',o',o',o',o',o',o',o',o',o',o',o',o'] rfl rfl (any_of HT_.out (by kernel_rfl)) (fun _ _ _ h => h) (Or.inl ⟨by rfl, ?_⟩) ?_ ?_
        rotate_left;·intro w';go_simp;with_reducible rfl
        rotate_left;·simp only [Act.put, la_, lz_, ls_, i64_w, i32_w];rfl
        refine pure_ (i := 7) (N := some 19) (v := ?_) (a' := ?_) #[i',i',i',i',i',i',i',i',o',o',o',o',o',o',o',o',o',o',o',o',o',o',o',o'] rfl rfl (any_of HT_.out (by kernel_rfl)) (fun _ _ _ h => h) (Or.inl ⟨by rfl, ?_⟩) ?_ ?_
        rotate_left;·intro w';go_simp;with_reducible rfl
        rotate_left;·simp only [Act.put, la_, lz_, ls_, i64_w, i32_w];rfl
        refine pure_ (i := 8) (N := some 20) (v := ?_) (a' := ?_) #[i',i',i',i',i',i',i',i',i',o',o',o',o',o',o',o',o',o',o',o',o',o',o',o'] rfl rfl (any_of HT_.out (by kernel_rfl)) (fun _ _ _ h => h) (Or.inl ⟨by rfl, ?_⟩) ?_ ?_
        rotate_left;·intro w';go_simp;with_reducible rfl
        rotate_left;·simp only [Act.put, la_, lz_, ls_, i64_w, i32_w];rfl
        refine pure_ (i := 9) (N := some 21) (v := ?_) (a' := ?_) #[i',i',i',i',i',i',i',i',i',i',o',o',o',o',o',o',o',o',o',o',o',o',o',o'] rfl rfl (any_of HT_.out (by kernel_rfl)) (fun _ _ _ h => h) (Or.inl ⟨by rfl, ?_⟩) ?_ ?_
        rotate_left;·intro w';go_simp;with_reducible rfl
        rotate_left;·simp only [Act.put, la_, lz_, ls_, i64_w, i32_w];rfl
        refine pure_ (i := 10) (N := some 22) (v := ?_) (a' := ?_) #[i',i',i',i',i',i',i',i',i',i',i',o',o',o',o',o',o',o',o',o',o',o',o',o'] rfl rfl (any_of HT_.out (by kernel_rfl)) (fun _ _ _ h => h) (Or.inl ⟨by rfl, ?_⟩) ?_ ?_
        rotate_left;·intro w';go_simp;with_reducible rfl
        rotate_left;·simp only [Act.put, la_, lz_, ls_, i64_w, i32_w];rfl
        refine pure_ (i := 11) (N := some 23) (v := ?_) (a' := ?_) #[i',i',i',i',i',i',i',i',i',i',i',i',o',o',o',o',o',o',o',o',o',o',o',o'] rfl rfl (any_of HT_.out (by kernel_rfl)) (fun _ _ _ h => h) (Or.inl ⟨by rfl, ?_⟩) ?_ ?_
        rotate_left;·intro w';go_simp;with_reducible rfl
        rotate_left;·simp only [Act.put, la_, lz_, ls_, i64_w, i32_w];rfl
        refine pure_ (i := 13) (N := some 25) (v := ?_) (a' := ?_) #[i',i',i',i',i',i',i',i',i',i',i',i',o',i',o',o',o',o',o',o',o',o',o',o'] rfl rfl (any_of HT_.out (by kernel_rfl)) (fun _ _ _ h => h) (Or.inl ⟨by rfl, ?_⟩) ?_ ?_
        rotate_left;·intro w';go_simp;with_reducible rfl
        rotate_left;·simp only [Act.put, la_, lz_, ls_, i64_w, i32_w];rfl
        refine pure_ (i := 14) (N := some 26) (v := ?_) (a' := ?_) #[i',i',i',i',i',i',i',i',i',i',i',i',o',i',i',o',o',o',o',o',o',o',o',o'] rfl rfl (any_of HT_.out (by kernel_rfl)) (fun _ _ _ h => h) (Or.inl ⟨by rfl, ?_⟩) ?_ ?_
        rotate_left;·intro w';go_simp;with_reducible rfl
        rotate_left;·simp only [Act.put, la_, lz_, ls_, i64_w, i32_w];rfl
        refine pure_ (i := 15) (N := some 27) (v := ?_) (a' := ?_) #[i',i',i',i',i',i',i',i',i',i',i',i',o',i',i',i',o',o',o',o',o',o',o',o'] rfl rfl (any_of HT_.out (by kernel_rfl)) (fun _ _ _ h => h) (Or.inl ⟨by rfl, ?_⟩) ?_ ?_
        rotate_left;·intro w';go_simp;with_reducible rfl
        rotate_left;·simp only [Act.put, la_, lz_, ls_, i64_w, i32_w];rfl
        refine pure_ (i := 16) (N := some 28) (v := ?_) (a' := ?_) #[i',i',i',i',i',i',i',i',i',i',i',i',o',i',i',i',i',o',o',o',o',o',o',o'] rfl rfl (any_of HT_.out (by kernel_rfl)) (fun _ _ _ h => h) (Or.inl ⟨by rfl, ?_⟩) ?_ ?_
        rotate_left;·intro w';go_simp;with_reducible rfl
        rotate_left;·simp only [Act.put, la_, lz_, ls_, i64_w, i32_w];rfl
        refine pure_ (i := 17) (N := some 29) (v := ?_) (a' := ?_) #[i',i',i',i',i',i',i',i',i',i',i',i',o',i',i',i',i',i',o',o',o',o',o',o'] rfl rfl (any_of HT_.out (by kernel_rfl)) (fun _ _ _ h => h) (Or.inl ⟨by rfl, ?_⟩) ?_ ?_
        rotate_left;·intro w';go_simp;with_reducible rfl
        rotate_left;·simp only [Act.put, la_, lz_, ls_, i64_w, i32_w];rfl
        refine pure_ (i := 18) (N := some 30) (v := ?_) (a' := ?_) #[i',i',i',i',i',i',i',i',i',i',i',i',o',i',i',i',i',i',i',o',o',o',o',o'] rfl rfl (any_of HT_.out (by kernel_rfl)) (fun _ _ _ h => h) (Or.inl ⟨by rfl, ?_⟩) ?_ ?_
        rotate_left;·intro w';go_simp;with_reducible rfl
        rotate_left;·simp only [Act.put, la_, lz_, ls_, i64_w, i32_w];rfl
        refine pure_ (i := 19) (N := some 31) (v := ?_) (a' := ?_) #[i',i',i',i',i',i',i',i',i',i',i',i',o',i',i',i',i',i',i',i',o',o',o',o'] rfl rfl (any_of HT_.out (by kernel_rfl)) (fun _ _ _ h => h) (Or.inl ⟨by rfl, ?_⟩) ?_ ?_
        rotate_left;·intro w';go_simp;with_reducible rfl
        rotate_left;·simp only [Act.put, la_, lz_, ls_, i64_w, i32_w];rfl
        refine take_ (i := 12) (N := some 24) (v := ?_) (a' := ?_) #[i',i',i',i',i',i',i',i',i',i',i',i',i',i',i',i',i',i',i',i',o',o',o',o'] rfl rfl (take_ofW HT_.out HW_.out (by kernel_rfl)) (fun _ _ _ h => h) (Or.inl ⟨by rfl, ?_⟩) hHeld ?_ ?_
        rotate_left
        ·rintro w' ⟨s0, s1, s2, s3, s4, s5, s6, s7, s8, s9, s10, s11, s12, s13, s14, s15, s16, s17, s18, s19, s20, s21, s22, s23, s24, s25, s26⟩
         go_simp
         with_reducible rfl
        rotate_left
        ·simp only [Act.put, la_, lz_, ls_, i64_w, i32_w]
         rfl
        refine take_ (i := 20) (N := some 32) (v := ?_) (a' := ?_) #[i',i',i',i',i',i',i',i',i',i',i',i',i',i',i',i',i',i',i',i',i',o',o',o'] rfl rfl (take_ofW HT_.out HW_.out (by kernel_rfl)) (fun _ _ _ h => h) (Or.inl ⟨by rfl, ?_⟩) hHeld ?_ ?_
        rotate_left
        ·rintro w' ⟨s0, s1, s2, s3, s4, s5, s6, s7, s8, s9, s10, s11, s12, s13, s14, s15, s16, s17, s18, s19, s20, s21, s22, s23, s24, s25, s26⟩
         go_simp
         with_reducible rfl
        rotate_left
        ·simp only [Act.put, la_, lz_, ls_, i64_w, i32_w]
         rfl
        refine one_ (i := 21) (N := some 33) #[i',i',i',i',i',i',i',i',i',i',i',i',i',i',i',i',i',i',i',i',i',i',o',o'] rfl rfl (one_of HT_.out (by kernel_rfl)) (by decide) (fun K hK => ?_)
        refine goes_ Try.func48 (by kernel_rfl) rfl #[.slice (some ad180) l0.length c0, .int .i64 x4_1, .int .i64 ((rd_T82 l0 x4_1).f3.f1)] (by rfl) rfl rfl ar_ ?_
        with_reducible refine (spec_l9Of.calls k1 _ _ l0 x4_1 ((rd_T82 l0 x4_1).f3.f1) t183 _ ?side1 ?side2 A7.out).mono ?_
        (case side1 => repeat (first | exact (Kd.C_below HR0.out HB.out) | (with_reducible refine Kd.C_alloc ?_ _) | (with_reducible refine Kd.C_drewN ?_ _) | (with_reducible refine Kd.C_drew ?_)))
        (case side2 => exact HC0.out)
        rintro e w12 ⟨v184, rfl, ho0, hb⟩
        refine ⟨_, rfl, ?_⟩
        have n0_ := Aside0.mk (Kd.R_below (rr_ HO_3) hb)
        have n1_ := Aside0.mk (Kd.R_lower ho0 (below_size (hb_ HB)))
        have n2_ := Aside0.mk (below_step (hb_ HB) hb)
        clear HO_3
        clear HB
        have HO_3 := n0_
        have HO185 := n1_
        have HB := n2_
        clear n0_ n1_ n2_
        (try clear hb)
        (try clear hb2)
        (try clear hk)
        (try clear hi)
        (try clear ho0)
        obtain ⟨Ao13, co13, eo13⟩ := Kd.R_slice HO185.out
        (first | subst eo13 | (injection eo13 with f1_ f2_ f3_; have f4_ := f1_.symm; have f5_ := f3_.symm; clear f1_ f2_ f3_; subst f4_; subst f5_))
        refine hK.out _ _ ⟨((HB.out.cell (World.block_lt_of_cell? w _ hw180_0)).trans hw180_0), ((HB.out.cell (World.block_lt_of_cell? w _ hw180_1)).trans hw180_1), ((HB.out.cell (World.block_lt_of_cell? w _ hw180_2)).trans hw180_2), ((HB.out.cell (World.block_lt_of_cell? w _ hw180_3)).trans hw180_3), ((HB.out.cell (World.block_lt_of_cell? w _ hw180_4)).trans hw180_4), ((HB.out.cell (World.block_lt_of_cell? w _ hw180_5)).trans hw180_5), ((HB.out.cell (World.block_lt_of_cell? w _ hw180_6)).trans hw180_6), ((HB.out.cell (World.block_lt_of_cell? w _ hw180_7)).trans hw180_7), ((HB.out.cell (World.block_lt_of_cell? w _ hw180_8)).trans hw180_8), ((HB.out.cell (World.block_lt_of_cell? w _ hw181_0)).trans hw181_0), ((HB.out.cell (World.block_lt_of_cell? w _ hw181_1)).trans hw181_1), ((HB.out.cell (World.block_lt_of_cell? w _ hw181_2)).trans hw181_2), ((HB.out.cell (World.block_lt_of_cell? w _ hw181_3)).trans hw181_3), ((HB.out.cell (World.block_lt_of_cell? w _ hw181_4)).trans hw181_4), ((HB.out.cell (World.block_lt_of_cell? w _ hw181_5)).trans hw181_5), ((HB.out.cell (World.block_lt_of_cell? w _ hw181_6)).trans hw181_6), ((HB.out.cell (World.block_lt_of_cell? w _ hw181_7)).trans hw181_7), ((HB.out.cell (World.block_lt_of_cell? w _ hw181_8)).trans hw181_8), ((HB.out.cell (World.block_lt_of_cell? w _ hw182_0)).trans hw182_0), ((HB.out.cell (World.block_lt_of_cell? w _ hw182_1)).trans hw182_1), ((HB.out.cell (World.block_lt_of_cell? w _ hw182_2)).trans hw182_2), ((HB.out.cell (World.block_lt_of_cell? w _ hw182_3)).trans hw182_3), ((HB.out.cell (World.block_lt_of_cell? w _ hw182_4)).trans hw182_4), ((HB.out.cell (World.block_lt_of_cell? w _ hw182_5)).trans hw182_5), ((HB.out.cell (World.block_lt_of_cell? w _ hw182_6)).trans hw182_6), ((HB.out.cell (World.block_lt_of_cell? w _ hw182_7)).trans hw182_7), ((HB.out.cell (World.block_lt_of_cell? w _ hw182_8)).trans hw182_8)⟩ (fun hHeld => ?_)
        clear hK K
        refine norm_ (a' := ?_) ?_ ?_
        rotate_left
        ·show Act.put _ (some 33) _ = _
         simp only [Act.put, la_, lz_, ls_, i64_w, i32_w]
         rfl
        refine one_ (i := 22) (N := some 34) #[i',i',i',i',i',i',i',i',i',i',i',i',i',i',i',i',i',i',i',i',i',i',i',o'] rfl rfl (one_of HT_.out (by kernel_rfl)) (by decide) (fun K hK => ?_)
        refine goes_ Try.func47 (by kernel_rfl) rfl #[.agg #[.int .i64 ((rd_T82 l0 x4_1).f3.f0), .int .i64 ((rd_T82 l0 x4_1).f3.f1), .string ((rd_T82 l0 x4_1).f3.f2), .string ((rd_T82 l0 x4_1).f3.f3), .int .i64 ((rd_T82 l0 x4_1).f3.f4), .int .i64 ((rd_T82 l0 x4_1).f3.f5)], .slice Ao13 t183.length co13] (by rfl) rfl rfl ar_ ?_
        with_reducible refine (spec_l9Fits.calls k1 ((rd_T82 l0 x4_1).f3.f0) ((rd_T82 l0 x4_1).f3.f1) ((rd_T82 l0 x4_1).f3.f2) ((rd_T82 l0 x4_1).f3.f3) ((rd_T82 l0 x4_1).f3.f4) ((rd_T82 l0 x4_1).f3.f5) _ _ t183 true _ ?side1 ?side2 A8.out).mono ?_
        (case side1 => repeat (first | exact (Kd.R_reads' HO185.out).2.2 | (with_reducible refine Kd.C_alloc ?_ _) | (with_reducible refine Kd.C_drewN ?_ _) | (with_reducible refine Kd.C_drew ?_)))
        (case side2 => exact (Kd.R_reads' HO185.out).2.1)
        rintro e w14 ⟨rfl, hb⟩
        refine ⟨_, rfl, ?_⟩
        have n0_ := Aside0.mk (Kd.R_below (rr_ HO_3) hb)
        have n1_ := Aside0.mk (Kd.R_below (rr_ HO185) hb)
        have n2_ := Aside0.mk (below_step (hb_ HB) hb)
        clear HO_3
        clear HO185
        clear HB
        have HO_3 := n0_
        have HO185 := n1_
        have HB := n2_
        clear n0_ n1_ n2_
        (try clear hb)
        (try clear hb2)
        (try clear hk)
        (try clear hi)
        refine hK.out _ _ ⟨((HB.out.cell (World.block_lt_of_cell? w _ hw180_0)).trans hw180_0), ((HB.out.cell (World.block_lt_of_cell? w _ hw180_1)).trans hw180_1), ((HB.out.cell (World.block_lt_of_cell? w _ hw180_2)).trans hw180_2), ((HB.out.cell (World.block_lt_of_cell? w _ hw180_3)).trans hw180_3), ((HB.out.cell (World.block_lt_of_cell? w _ hw180_4)).trans hw180_4), ((HB.out.cell (World.block_lt_of_cell? w _ hw180_5)).trans hw180_5), ((HB.out.cell (World.block_lt_of_cell? w _ hw180_6)).trans hw180_6), ((HB.out.cell (World.block_lt_of_cell? w _ hw180_7)).trans hw180_7), ((HB.out.cell (World.block_lt_of_cell? w _ hw180_8)).trans hw180_8), ((HB.out.cell (World.block_lt_of_cell? w _ hw181_0)).trans hw181_0), ((HB.out.cell (World.block_lt_of_cell? w _ hw181_1)).trans hw181_1), ((HB.out.cell (World.block_lt_of_cell? w _ hw181_2)).trans hw181_2), ((HB.out.cell (World.block_lt_of_cell? w _ hw181_3)).trans hw181_3), ((HB.out.cell (World.block_lt_of_cell? w _ hw181_4)).trans hw181_4), ((HB.out.cell (World.block_lt_of_cell? w _ hw181_5)).trans hw181_5), ((HB.out.cell (World.block_lt_of_cell? w _ hw181_6)).trans hw181_6), ((HB.out.cell (World.block_lt_of_cell? w _ hw181_7)).trans hw181_7), ((HB.out.cell (World.block_lt_of_cell? w _ hw181_8)).trans hw181_8), ((HB.out.cell (World.block_lt_of_cell? w _ hw182_0)).trans hw182_0), ((HB.out.cell (World.block_lt_of_cell? w _ hw182_1)).trans hw182_1), ((HB.out.cell (World.block_lt_of_cell? w _ hw182_2)).trans hw182_2), ((HB.out.cell (World.block_lt_of_cell? w _ hw182_3)).trans hw182_3), ((HB.out.cell (World.block_lt_of_cell? w _ hw182_4)).trans hw182_4), ((HB.out.cell (World.block_lt_of_cell? w _ hw182_5)).trans hw182_5), ((HB.out.cell (World.block_lt_of_cell? w _ hw182_6)).trans hw182_6), ((HB.out.cell (World.block_lt_of_cell? w _ hw182_7)).trans hw182_7), ((HB.out.cell (World.block_lt_of_cell? w _ hw182_8)).trans hw182_8)⟩ (fun hHeld => ?_)
        clear hK K
        refine norm_ (a' := ?_) ?_ ?_
        rotate_left
        ·show Act.put _ (some 34) _ = _
         simp only [Act.put, la_, lz_, ls_, i64_w, i32_w]
         rfl
        refine pure_ (i := 23) (N := some 35) (v := ?_) (a' := ?_) #[i',i',i',i',i',i',i',i',i',i',i',i',i',i',i',i',i',i',i',i',i',i',i',i'] rfl rfl (any_of HT_.out (by kernel_rfl)) (fun _ _ _ h => h) (Or.inl ⟨by rfl, ?_⟩) ?_ ?_
        rotate_left;·intro w';go_simp;with_reducible rfl
        rotate_left;·simp only [Act.put, la_, lz_, ls_, i64_w, i32_w];rfl
        refine done_ (done_of HT_.out (by kernel_rfl)) ?_
        have p187 : 0 ≤ (x4_1 : Int) := of_decide_eq_true as_
        have q187 : x4_1 < (l0.length : Int) := of_decide_eq_true as_
        obtain ⟨ad187, e187, hx187_0, hx187_1, hx187_2, hx187_3, hx187_4, hx187_5, hx187_6, hx187_7, hx187_8⟩ := at_T82 HR0.out x4_1 p187 q187
        obtain rfl : ad180 = ad187 := (by injection e187)
        replace hx187_0 := (HB.out.cell (World.block_lt_of_cell? w _ hx187_0)).trans hx187_0
        replace hx187_1 := (HB.out.cell (World.block_lt_of_cell? w _ hx187_1)).trans hx187_1
        replace hx187_2 := (HB.out.cell (World.block_lt_of_cell? w _ hx187_2)).trans hx187_2
        replace hx187_3 := (HB.out.cell (World.block_lt_of_cell? w _ hx187_3)).trans hx187_3
        replace hx187_4 := (HB.out.cell (World.block_lt_of_cell? w _ hx187_4)).trans hx187_4
        replace hx187_5 := (HB.out.cell (World.block_lt_of_cell? w _ hx187_5)).trans hx187_5
        replace hx187_6 := (HB.out.cell (World.block_lt_of_cell? w _ hx187_6)).trans hx187_6
        replace hx187_7 := (HB.out.cell (World.block_lt_of_cell? w _ hx187_7)).trans hx187_7
        replace hx187_8 := (HB.out.cell (World.block_lt_of_cell? w _ hx187_8)).trans hx187_8
        replace p187 := eq_true p187
        replace q187 := eq_true q187
        try go_wp2_with (first | ((with_reducible refine gate_builtin (b := .append) (xs := #[.tmp 36, .tmp 43]) rfl ?_); at_builtin; refine Kd.R_append (Kd.int .i64) (w0 := w) w.heap.size rfl (.tmp 36) (.tmp 43) 24 3 (.int .i64 0) 8 rfl Try.underlying24 info3 rfl (by decide) (by omega) u3 x3_1 ((rd_T82 l0 x4_1).f3.f1) [.int .i64 ((rd_T82 l0 x4_1).f3.f1)] (fun _ => True) (fun _ => False) rfl rfl ?aP (fun _ hk => hk.elim) ?aF ?aO ?aB ?aS ?aL ?_; (case aP => exact rfl); (case aB => exact (hb_ HB)); (case aF => exact (fun _ _ => trivial)); (case aO => exact (rr_ HO_3)); (case aS => exact (below_size (hb_ HB))); (case aL => have := LMc10.out; omega); intro v189 w15 ho hb hg hat; rw [← Ny188.out] at ho; have n0_ := Aside0.mk (Kd.R_over' (rr_ HO185) (Kd.R_typed (rr_ HO_3)) (by decide) hg); have n1_ := Aside0.mk (hb); have n2_ := Aside0.mk (ho); clear HO185; clear HB; clear HO_3; have HO185 := n0_; have HB := n1_; have HO190 := n2_; clear n0_ n1_ n2_; clear ho hb hg hat))
        go_roundg k1
        case measure => have := HK1.out; first | exact this | exact Nat.le_of_succ_le this | exact Nat.le_refl _ | omega
        case rel => exact ⟨(y188), (wrap64 (x4_1 + 1)), rs_, H', ⟨by have := HK1.out; first | exact this | exact Nat.le_of_succ_le this | exact Nat.le_refl _ | omega⟩, ⟨rr_ HO190⟩, ⟨hb_ HB⟩⟩
       ·rw [if_neg c10] at H
        exact absurd H (by simp)
      ·replace c9 := Bool.eq_false_iff.mpr c9
       subst c9
       have H1 : (spec_Sealed.l0 k1 l0 x3_1 (wrap64 (x4_1 + 1))) = some r := by rw [if_neg (show ¬ (false = true) by decide)] at H; exact H
       clear H
       have H := H1
       clear H1
       have H' := Aside0.mk H
       clear H
       try go_wp2
       have n0_ := Aside0.mk (Kd.R_drew HO_3.out)
       have n1_ := Aside0.mk (below_drew1 HB.out)
       clear HO_3
       clear HB
       have HO_3 := n0_
       have HB := n1_
       clear n0_ n1_
       have p180 : 0 ≤ (x4_1 : Int) := of_decide_eq_true as_
       have q180 : x4_1 < (l0.length : Int) := of_decide_eq_true as_
       obtain ⟨ad180, e180, hx180_0, hx180_1, hx180_2, hx180_3, hx180_4, hx180_5, hx180_6, hx180_7, hx180_8⟩ := at_T82 HR0.out x4_1 p180 q180
       have hw180_8 := hx180_8
       have hw180_7 := hx180_7
       have hw180_6 := hx180_6
       have hw180_5 := hx180_5
       have hw180_4 := hx180_4
       have hw180_3 := hx180_3
       have hw180_2 := hx180_2
       have hw180_1 := hx180_1
       have hw180_0 := hx180_0
       cases e180
       replace hx180_0 := (HB.out.cell (World.block_lt_of_cell? w _ hx180_0)).trans hx180_0
       replace hx180_1 := (HB.out.cell (World.block_lt_of_cell? w _ hx180_1)).trans hx180_1
       replace hx180_2 := (HB.out.cell (World.block_lt_of_cell? w _ hx180_2)).trans hx180_2
       replace hx180_3 := (HB.out.cell (World.block_lt_of_cell? w _ hx180_3)).trans hx180_3
       replace hx180_4 := (HB.out.cell (World.block_lt_of_cell? w _ hx180_4)).trans hx180_4
       replace hx180_5 := (HB.out.cell (World.block_lt_of_cell? w _ hx180_5)).trans hx180_5
       replace hx180_6 := (HB.out.cell (World.block_lt_of_cell? w _ hx180_6)).trans hx180_6
       replace hx180_7 := (HB.out.cell (World.block_lt_of_cell? w _ hx180_7)).trans hx180_7
       replace hx180_8 := (HB.out.cell (World.block_lt_of_cell? w _ hx180_8)).trans hx180_8
       replace p180 := eq_true p180
       replace q180 := eq_true q180
       have p181 : 0 ≤ (x4_1 : Int) := of_decide_eq_true as_
       have q181 : x4_1 < (l0.length : Int) := of_decide_eq_true as_
       obtain ⟨ad181, e181, hx181_0, hx181_1, hx181_2, hx181_3, hx181_4, hx181_5, hx181_6, hx181_7, hx181_8⟩ := at_T82 HR0.out x4_1 p181 q181
       have hw181_8 := hx181_8
       have hw181_7 := hx181_7
       have hw181_6 := hx181_6
       have hw181_5 := hx181_5
       have hw181_4 := hx181_4
       have hw181_3 := hx181_3
       have hw181_2 := hx181_2
       have hw181_1 := hx181_1
       have hw181_0 := hx181_0
       obtain rfl : ad180 = ad181 := (by injection e181)
       replace hx181_0 := (HB.out.cell (World.block_lt_of_cell? w _ hx181_0)).trans hx181_0
       replace hx181_1 := (HB.out.cell (World.block_lt_of_cell? w _ hx181_1)).trans hx181_1
       replace hx181_2 := (HB.out.cell (World.block_lt_of_cell? w _ hx181_2)).trans hx181_2
       replace hx181_3 := (HB.out.cell (World.block_lt_of_cell? w _ hx181_3)).trans hx181_3
       replace hx181_4 := (HB.out.cell (World.block_lt_of_cell? w _ hx181_4)).trans hx181_4
       replace hx181_5 := (HB.out.cell (World.block_lt_of_cell? w _ hx181_5)).trans hx181_5
       replace hx181_6 := (HB.out.cell (World.block_lt_of_cell? w _ hx181_6)).trans hx181_6
       replace hx181_7 := (HB.out.cell (World.block_lt_of_cell? w _ hx181_7)).trans hx181_7
       replace hx181_8 := (HB.out.cell (World.block_lt_of_cell? w _ hx181_8)).trans hx181_8
       replace p181 := eq_true p181
       replace q181 := eq_true q181
       have p182 : 0 ≤ (x4_1 : Int) := of_decide_eq_true as_
       have q182 : x4_1 < (l0.length : Int) := of_decide_eq_true as_
       obtain ⟨ad182, e182, hx182_0, hx182_1, hx182_2, hx182_3, hx182_4, hx182_5, hx182_6, hx182_7, hx182_8⟩ := at_T82 HR0.out x4_1 p182 q182
       have hw182_8 := hx182_8
       have hw182_7 := hx182_7
       have hw182_6 := hx182_6
       have hw182_5 := hx182_5
       have hw182_4 := hx182_4
       have hw182_3 := hx182_3
       have hw182_2 := hx182_2
       have hw182_1 := hx182_1
       have hw182_0 := hx182_0
       obtain rfl : ad180 = ad182 := (by injection e182)
       replace hx182_0 := (HB.out.cell (World.block_lt_of_cell? w _ hx182_0)).trans hx182_0
       replace hx182_1 := (HB.out.cell (World.block_lt_of_cell? w _ hx182_1)).trans hx182_1
       replace hx182_2 := (HB.out.cell (World.block_lt_of_cell? w _ hx182_2)).trans hx182_2
       replace hx182_3 := (HB.out.cell (World.block_lt_of_cell? w _ hx182_3)).trans hx182_3
       replace hx182_4 := (HB.out.cell (World.block_lt_of_cell? w _ hx182_4)).trans hx182_4
       replace hx182_5 := (HB.out.cell (World.block_lt_of_cell? w _ hx182_5)).trans hx182_5
       replace hx182_6 := (HB.out.cell (World.block_lt_of_cell? w _ hx182_6)).trans hx182_6
       replace hx182_7 := (HB.out.cell (World.block_lt_of_cell? w _ hx182_7)).trans hx182_7
       replace hx182_8 := (HB.out.cell (World.block_lt_of_cell? w _ hx182_8)).trans hx182_8
       replace p182 := eq_true p182
       replace q182 := eq_true q182
       refine start_ (n := 24) (S := fun w' => w'.cell? (ad180.add ((x4_1).toNat * 9)) = some (.int .i64 ((rd_T82 l0 x4_1).f0)) ∧ w'.cell? ⟨(ad180.add ((x4_1).toNat * 9)).block, (ad180.add ((x4_1).toNat * 9)).off + 1, none⟩ = some (.int .i64 ((rd_T82 l0 x4_1).f1)) ∧ w'.cell? ⟨(ad180.add ((x4_1).toNat * 9)).block, (ad180.add ((x4_1).toNat * 9)).off + 2, none⟩ = some (.int .i64 ((rd_T82 l0 x4_1).f2)) ∧ w'.cell? ⟨(ad180.add ((x4_1).toNat * 9)).block, (ad180.add ((x4_1).toNat * 9)).off + 3, none⟩ = some (.int .i64 ((rd_T82 l0 x4_1).f3.f0)) ∧ w'.cell? ⟨(ad180.add ((x4_1).toNat * 9)).block, (ad180.add ((x4_1).toNat * 9)).off + 4, none⟩ = some (.int .i64 ((rd_T82 l0 x4_1).f3.f1)) ∧ w'.cell? ⟨(ad180.add ((x4_1).toNat * 9)).block, (ad180.add ((x4_1).toNat * 9)).off + 5, none⟩ = some (.string ((rd_T82 l0 x4_1).f3.f2)) ∧ w'.cell? ⟨(ad180.add ((x4_1).toNat * 9)).block, (ad180.add ((x4_1).toNat * 9)).off + 6, none⟩ = some (.string ((rd_T82 l0 x4_1).f3.f3)) ∧ w'.cell? ⟨(ad180.add ((x4_1).toNat * 9)).block, (ad180.add ((x4_1).toNat * 9)).off + 7, none⟩ = some (.int .i64 ((rd_T82 l0 x4_1).f3.f4)) ∧ w'.cell? ⟨(ad180.add ((x4_1).toNat * 9)).block, (ad180.add ((x4_1).toNat * 9)).off + 8, none⟩ = some (.int .i64 ((rd_T82 l0 x4_1).f3.f5)) ∧ w'.cell? (ad180.add ((x4_1).toNat * 9)) = some (.int .i64 ((rd_T82 l0 x4_1).f0)) ∧ w'.cell? ⟨(ad180.add ((x4_1).toNat * 9)).block, (ad180.add ((x4_1).toNat * 9)).off + 1, none⟩ = some (.int .i64 ((rd_T82 l0 x4_1).f1)) ∧ w'.cell? ⟨(ad180.add ((x4_1).toNat * 9)).block, (ad180.add ((x4_1).toNat * 9)).off + 2, none⟩ = some (.int .i64 ((rd_T82 l0 x4_1).f2)) ∧ w'.cell? ⟨(ad180.add ((x4_1).toNat * 9)).block, (ad180.add ((x4_1).toNat * 9)).off + 3, none⟩ = some (.int .i64 ((rd_T82 l0 x4_1).f3.f0)) ∧ w'.cell? ⟨(ad180.add ((x4_1).toNat * 9)).block, (ad180.add ((x4_1).toNat * 9)).off + 4, none⟩ = some (.int .i64 ((rd_T82 l0 x4_1).f3.f1)) ∧ w'.cell? ⟨(ad180.add ((x4_1).toNat * 9)).block, (ad180.add ((x4_1).toNat * 9)).off + 5, none⟩ = some (.string ((rd_T82 l0 x4_1).f3.f2)) ∧ w'.cell? ⟨(ad180.add ((x4_1).toNat * 9)).block, (ad180.add ((x4_1).toNat * 9)).off + 6, none⟩ = some (.string ((rd_T82 l0 x4_1).f3.f3)) ∧ w'.cell? ⟨(ad180.add ((x4_1).toNat * 9)).block, (ad180.add ((x4_1).toNat * 9)).off + 7, none⟩ = some (.int .i64 ((rd_T82 l0 x4_1).f3.f4)) ∧ w'.cell? ⟨(ad180.add ((x4_1).toNat * 9)).block, (ad180.add ((x4_1).toNat * 9)).off + 8, none⟩ = some (.int .i64 ((rd_T82 l0 x4_1).f3.f5)) ∧ w'.cell? (ad180.add ((x4_1).toNat * 9)) = some (.int .i64 ((rd_T82 l0 x4_1).f0)) ∧ w'.cell? ⟨(ad180.add ((x4_1).toNat * 9)).block, (ad180.add ((x4_1).toNat * 9)).off + 1, none⟩ = some (.int .i64 ((rd_T82 l0 x4_1).f1)) ∧ w'.cell? ⟨(ad180.add ((x4_1).toNat * 9)).block, (ad180.add ((x4_1).toNat * 9)).off + 2, none⟩ = some (.int .i64 ((rd_T82 l0 x4_1).f2)) ∧ w'.cell? ⟨(ad180.add ((x4_1).toNat * 9)).block, (ad180.add ((x4_1).toNat * 9)).off + 3, none⟩ = some (.int .i64 ((rd_T82 l0 x4_1).f3.f0)) ∧ w'.cell? ⟨(ad180.add ((x4_1).toNat * 9)).block, (ad180.add ((x4_1).toNat * 9)).off + 4, none⟩ = some (.int .i64 ((rd_T82 l0 x4_1).f3.f1)) ∧ w'.cell? ⟨(ad180.add ((x4_1).toNat * 9)).block, (ad180.add ((x4_1).toNat * 9)).off + 5, none⟩ = some (.string ((rd_T82 l0 x4_1).f3.f2)) ∧ w'.cell? ⟨(ad180.add ((x4_1).toNat * 9)).block, (ad180.add ((x4_1).toNat * 9)).off + 6, none⟩ = some (.string ((rd_T82 l0 x4_1).f3.f3)) ∧ w'.cell? ⟨(ad180.add ((x4_1).toNat * 9)).block, (ad180.add ((x4_1).toNat * 9)).off + 7, none⟩ = some (.int .i64 ((rd_T82 l0 x4_1).f3.f4)) ∧ w'.cell? ⟨(ad180.add ((x4_1).toNat * 9)).block, (ad180.add ((x4_1).toNat * 9)).off + 8, none⟩ = some (.int .i64 ((rd_T82 l0 x4_1).f3.f5))) (ds := []) #[o',o',o',o',o',o',o',o',o',o',o',o',o',o',o',o',o',o',o',o',o',o',o',o'] (by kernel_rfl) rfl rfl ⟨((HB.out.cell (World.block_lt_of_cell? w _ hw180_0)).trans hw180_0), ((HB.out.cell (World.block_lt_of_cell? w _ hw180_1)).trans hw180_1), ((HB.out.cell (World.block_lt_of_cell? w _ hw180_2)).trans hw180_2), ((HB.out.cell (World.block_lt_of_cell? w _ hw180_3)).trans hw180_3), ((HB.out.cell (World.block_lt_of_cell? w _ hw180_4)).trans hw180_4), ((HB.out.cell (World.block_lt_of_cell? w _ hw180_5)).trans hw180_5), ((HB.out.cell (World.block_lt_of_cell? w _ hw180_6)).trans hw180_6), ((HB.out.cell (World.block_lt_of_cell? w _ hw180_7)).trans hw180_7), ((HB.out.cell (World.block_lt_of_cell? w _ hw180_8)).trans hw180_8), ((HB.out.cell (World.block_lt_of_cell? w _ hw181_0)).trans hw181_0), ((HB.out.cell (World.block_lt_of_cell? w _ hw181_1)).trans hw181_1), ((HB.out.cell (World.block_lt_of_cell? w _ hw181_2)).trans hw181_2), ((HB.out.cell (World.block_lt_of_cell? w _ hw181_3)).trans hw181_3), ((HB.out.cell (World.block_lt_of_cell? w _ hw181_4)).trans hw181_4), ((HB.out.cell (World.block_lt_of_cell? w _ hw181_5)).trans hw181_5), ((HB.out.cell (World.block_lt_of_cell? w _ hw181_6)).trans hw181_6), ((HB.out.cell (World.block_lt_of_cell? w _ hw181_7)).trans hw181_7), ((HB.out.cell (World.block_lt_of_cell? w _ hw181_8)).trans hw181_8), ((HB.out.cell (World.block_lt_of_cell? w _ hw182_0)).trans hw182_0), ((HB.out.cell (World.block_lt_of_cell? w _ hw182_1)).trans hw182_1), ((HB.out.cell (World.block_lt_of_cell? w _ hw182_2)).trans hw182_2), ((HB.out.cell (World.block_lt_of_cell? w _ hw182_3)).trans hw182_3), ((HB.out.cell (World.block_lt_of_cell? w _ hw182_4)).trans hw182_4), ((HB.out.cell (World.block_lt_of_cell? w _ hw182_5)).trans hw182_5), ((HB.out.cell (World.block_lt_of_cell? w _ hw182_6)).trans hw182_6), ((HB.out.cell (World.block_lt_of_cell? w _ hw182_7)).trans hw182_7), ((HB.out.cell (World.block_lt_of_cell? w _ hw182_8)).trans hw182_8)⟩ (fun hHeld => ?_); refine with_tabW spec_Sealed.tab5 spec_Sealed.bits5 (fun HT_ HW_ => ?_)
       generalize wr.drew = w16 at HO_3 HB hx180_0 hx180_1 hx180_2 hx180_3 hx180_4 hx180_5 hx180_6 hx180_7 hx180_8 hx181_0 hx181_1 hx181_2 hx181_3 hx181_4 hx181_5 hx181_6 hx181_7 hx181_8 hx182_0 hx182_1 hx182_2 hx182_3 hx182_4 hx182_5 hx182_6 hx182_7 hx182_8 hHeld ⊢
       refine pure_ (i := 0) (N := some 12) (v := ?_) (a' := ?_) #[i',o',o',o',o',o',o',o',o',o',o',o',o',o',o',o',o',o',o',o',o',o',o',o'] rfl rfl (any_of HT_.out (by kernel_rfl)) (fun _ _ _ h => h) (Or.inl ⟨by rfl, ?_⟩) ?_ ?_
       rotate_left;·intro w';go_simp;with_reducible rfl
       rotate_left;·simp only [Act.put, la_, lz_, ls_, i64_w, i32_w];rfl
       refine pure_ (i := 1) (N := some 13) (v := ?_) (a' := ?_) #[i',i',o',o',o',o',o',o',o',o',o',o',o',o',o',o',o',o',o',o',o',o',o',o'] rfl rfl (any_of HT_.out (by kernel_rfl)) (fun _ _ _ h => h) (Or.inl ⟨by rfl, ?_⟩) ?_ ?_
       rotate_left;·intro w';go_simp;with_reducible rfl
       rotate_left;·simp only [Act.put, la_, lz_, ls_, i64_w, i32_w];rfl
       refine pure_ (i := 2) (N := some 14) (v := ?_) (a' := ?_) #[i',i',i',o',o',o',o',o',o',o',o',o',o',o',o',o',o',o',o',o',o',o',o',o'] rfl rfl (any_of HT_.out (by kernel_rfl)) (fun _ _ _ h => h) (Or.inl ⟨by rfl, ?_⟩) ?_ ?_
       rotate_left;·intro w';go_simp;with_reducible rfl
       rotate_left;·simp only [Act.put, la_, lz_, ls_, i64_w, i32_w];rfl
       refine pure_ (i := 3) (N := some 15) (v := ?_) (a' := ?_) #[i',i',i',i',o',o',o',o',o',o',o',o',o',o',o',o',o',o',o',o',o',o',o',o'] rfl rfl (any_of HT_.out (by kernel_rfl)) (fun _ _ _ h => h) (Or.inl ⟨by rfl, ?_⟩) ?_ ?_
       rotate_left;·intro w';go_simp;with_reducible rfl
       rotate_left;·simp only [Act.put, la_, lz_, ls_, i64_w, i32_w];rfl
       refine pure_ (i := 4) (N := some 16) (v := ?_) (a' := ?_) #[i',i',i',i',i',o',o',o',o',o',o',o',o',o',o',o',o',o',o',o',o',o',o',o'] rfl rfl (any_of HT_.out (by kernel_rfl)) (fun _ _ _ h => h) (Or.inl ⟨by rfl, ?_⟩) ?_ ?_
       rotate_left;·intro w';go_simp;with_reducible rfl
       rotate_left;·simp only [Act.put, la_, lz_, ls_, i64_w, i32_w];rfl
       refine take_ (i := 5) (N := some 17) (v := ?_) (a' := ?_) #[i',i',i',i',i',i',o',o',o',o',o',o',o',o',o',o',o',o',o',o',o',o',o',o'] rfl rfl (take_ofW HT_.out HW_.out (by kernel_rfl)) (fun _ _ _ h => h) (Or.inl ⟨by rfl, ?_⟩) hHeld ?_ ?_
       rotate_left
       ·rintro w' ⟨s0, s1, s2, s3, s4, s5, s6, s7, s8, s9, s10, s11, s12, s13, s14, s15, s16, s17, s18, s19, s20, s21, s22, s23, s24, s25, s26⟩
        go_simp
        with_reducible rfl
       rotate_left
       ·simp only [Act.put, la_, lz_, ls_, i64_w, i32_w]
        rfl
       refine pure_ (i := 6) (N := some 18) (v := ?_) (a' := ?_) #[i',i',i',i',i',i',i',o',o',o',o',o',o',o',o',o',o',o',o',o',o',o',o',o'] rfl rfl (any_of HT_.out (by kernel_rfl)) (fun _ _ _ h => h) (Or.inl ⟨by rfl, ?_⟩) ?_ ?_
       rotate_left;·intro w';go_simp;with_reducible rfl
       rotate_left;·simp only [Act.put, la_, lz_, ls_, i64_w, i32_w];rfl
       refine pure_ (i := 7) (N := some 19) (v := ?_) (a' := ?_) #[i',i',i',i',i',i',i',i',o',o',o',o',o',o',o',o',o',o',o',o',o',o',o',o'] rfl rfl (any_of HT_.out (by kernel_rfl)) (fun _ _ _ h => h) (Or.inl ⟨by rfl, ?_⟩) ?_ ?_
       rotate_left;·intro w';go_simp;with_reducible rfl
       rotate_left;·simp only [Act.put, la_, lz_, ls_, i64_w, i32_w];rfl
       refine pure_ (i := 8) (N := some 20) (v := ?_) (a' := ?_) #[i',i',i',i',i',i',i',i',i',o',o',o',o',o',o',o',o',o',o',o',o',o',o',o'] rfl rfl (any_of HT_.out (by kernel_rfl)) (fun _ _ _ h => h) (Or.inl ⟨by rfl, ?_⟩) ?_ ?_
       rotate_left;·intro w';go_simp;with_reducible rfl
       rotate_left;·simp only [Act.put, la_, lz_, ls_, i64_w, i32_w];rfl
       refine pure_ (i := 9) (N := some 21) (v := ?_) (a' := ?_) #[i',i',i',i',i',i',i',i',i',i',o',o',o',o',o',o',o',o',o',o',o',o',o',o'] rfl rfl (any_of HT_.out (by kernel_rfl)) (fun _ _ _ h => h) (Or.inl ⟨by rfl, ?_⟩) ?_ ?_
       rotate_left;·intro w';go_simp;with_reducible rfl
       rotate_left;·simp only [Act.put, la_, lz_, ls_, i64_w, i32_w];rfl
       refine pure_ (i := 10) (N := some 22) (v := ?_) (a' := ?_) #[i',i',i',i',i',i',i',i',i',i',i',o',o',o',o',o',o',o',o',o',o',o',o',o'] rfl rfl (any_of HT_.out (by kernel_rfl)) (fun _ _ _ h => h) (Or.inl ⟨by rfl, ?_⟩) ?_ ?_
       rotate_left;·intro w';go_simp;with_reducible rfl
       rotate_left;·simp only [Act.put, la_, lz_, ls_, i64_w, i32_w];rfl
       refine pure_ (i := 11) (N := some 23) (v := ?_) (a' := ?_) #[i',i',i',i',i',i',i',i',i',i',i',i',o',o',o',o',o',o',o',o',o',o',o',o'] rfl rfl (any_of HT_.out (by kernel_rfl)) (fun _ _ _ h => h) (Or.inl ⟨by rfl, ?_⟩) ?_ ?_
       rotate_left;·intro w';go_simp;with_reducible rfl
       rotate_left;·simp only [Act.put, la_, lz_, ls_, i64_w, i32_w];rfl
       refine pure_ (i := 13) (N := some 25) (v := ?_) (a' := ?_) #[i',i',i',i',i',i',i',i',i',i',i',i',o',i',o',o',o',o',o',o',o',o',o',o'] rfl rfl (any_of HT_.out (by kernel_rfl)) (fun _ _ _ h => h) (Or.inl ⟨by rfl, ?_⟩) ?_ ?_
       rotate_left;·intro w';go_simp;with_reducible rfl
       rotate_left;·simp only [Act.put, la_, lz_, ls_, i64_w, i32_w];rfl
       refine pure_ (i := 14) (N := some 26) (v := ?_) (a' := ?_) #[i',i',i',i',i',i',i',i',i',i',i',i',o',i',i',o',o',o',o',o',o',o',o',o'] rfl rfl (any_of HT_.out (by kernel_rfl)) (fun _ _ _ h => h) (Or.inl ⟨by rfl, ?_⟩) ?_ ?_
       rotate_left;·intro w';go_simp;with_reducible rfl
       rotate_left;·simp only [Act.put, la_, lz_, ls_, i64_w, i32_w];rfl
       refine pure_ (i := 15) (N := some 27) (v := ?_) (a' := ?_) #[i',i',i',i',i',i',i',i',i',i',i',i',o',i',i',i',o',o',o',o',o',o',o',o'] rfl rfl (any_of HT_.out (by kernel_rfl)) (fun _ _ _ h => h) (Or.inl ⟨by rfl, ?_⟩) ?_ ?_
       rotate_left;·intro w';go_simp;with_reducible rfl
       rotate_left;·simp only [Act.put, la_, lz_, ls_, i64_w, i32_w];rfl
       refine pure_ (i := 16) (N := some 28) (v := ?_) (a' := ?_) #[i',i',i',i',i',i',i',i',i',i',i',i',o',i',i',i',i',o',o',o',o',o',o',o'] rfl rfl (any_of HT_.out (by kernel_rfl)) (fun _ _ _ h => h) (Or.inl ⟨by rfl, ?_⟩) ?_ ?_
       rotate_left;·intro w';go_simp;with_reducible rfl
       rotate_left;·simp only [Act.put, la_, lz_, ls_, i64_w, i32_w];rfl
       refine pure_ (i := 17) (N := some 29) (v := ?_) (a' := ?_) #[i',i',i',i',i',i',i',i',i',i',i',i',o',i',i',i',i',i',o',o',o',o',o',o'] rfl rfl (any_of HT_.out (by kernel_rfl)) (fun _ _ _ h => h) (Or.inl ⟨by rfl, ?_⟩) ?_ ?_
       rotate_left;·intro w';go_simp;with_reducible rfl
       rotate_left;·simp only [Act.put, la_, lz_, ls_, i64_w, i32_w];rfl
       refine pure_ (i := 18) (N := some 30) (v := ?_) (a' := ?_) #[i',i',i',i',i',i',i',i',i',i',i',i',o',i',i',i',i',i',i',o',o',o',o',o'] rfl rfl (any_of HT_.out (by kernel_rfl)) (fun _ _ _ h => h) (Or.inl ⟨by rfl, ?_⟩) ?_ ?_
       rotate_left;·intro w';go_simp;with_reducible rfl
       rotate_left;·simp only [Act.put, la_, lz_, ls_, i64_w, i32_w];rfl
       refine pure_ (i := 19) (N := some 31) (v := ?_) (a' := ?_) #[i',i',i',i',i',i',i',i',i',i',i',i',o',i',i',i',i',i',i',i',o',o',o',o'] rfl rfl (any_of HT_.out (by kernel_rfl)) (fun _ _ _ h => h) (Or.inl ⟨by rfl, ?_⟩) ?_ ?_
       rotate_left;·intro w';go_simp;with_reducible rfl
       rotate_left;·simp only [Act.put, la_, lz_, ls_, i64_w, i32_w];rfl
       refine take_ (i := 12) (N := some 24) (v := ?_) (a' := ?_) #[i',i',i',i',i',i',i',i',i',i',i',i',i',i',i',i',i',i',i',i',o',o',o',o'] rfl rfl (take_ofW HT_.out HW_.out (by kernel_rfl)) (fun _ _ _ h => h) (Or.inl ⟨by rfl, ?_⟩) hHeld ?_ ?_
       rotate_left
       ·rintro w' ⟨s0, s1, s2, s3, s4, s5, s6, s7, s8, s9, s10, s11, s12, s13, s14, s15, s16, s17, s18, s19, s20, s21, s22, s23, s24, s25, s26⟩
        go_simp
        with_reducible rfl
       rotate_left
       ·simp only [Act.put, la_, lz_, ls_, i64_w, i32_w]
        rfl
       refine take_ (i := 20) (N := some 32) (v := ?_) (a' := ?_) #[i',i',i',i',i',i',i',i',i',i',i',i',i',i',i',i',i',i',i',i',i',o',o',o'] rfl rfl (take_ofW HT_.out HW_.out (by kernel_rfl)) (fun _ _ _ h => h) (Or.inl ⟨by rfl, ?_⟩) hHeld ?_ ?_
       rotate_left
       ·rintro w' ⟨s0, s1, s2, s3, s4, s5, s6, s7, s8, s9, s10, s11, s12, s13, s14, s15, s16, s17, s18, s19, s20, s21, s22, s23, s24, s25, s26⟩
        go_simp
        with_reducible rfl
       rotate_left
       ·simp only [Act.put, la_, lz_, ls_, i64_w, i32_w]
        rfl
       refine one_ (i := 21) (N := some 33) #[i',i',i',i',i',i',i',i',i',i',i',i',i',i',i',i',i',i',i',i',i',i',o',o'] rfl rfl (one_of HT_.out (by kernel_rfl)) (by decide) (fun K hK => ?_)
       refine goes_ Try.func48 (by kernel_rfl) rfl #[.slice (some ad180) l0.length c0, .int .i64 x4_1, .int .i64 ((rd_T82 l0 x4_1).f3.f1)] (by rfl) rfl rfl ar_ ?_
       with_reducible refine (spec_l9Of.calls k1 _ _ l0 x4_1 ((rd_T82 l0 x4_1).f3.f1) t183 _ ?side1 ?side2 A7.out).mono ?_
       (case side1 => repeat (first | exact (Kd.C_below HR0.out HB.out) | (with_reducible refine Kd.C_alloc ?_ _) | (with_reducible refine Kd.C_drewN ?_ _) | (with_reducible refine Kd.C_drew ?_)))
       (case side2 => exact HC0.out)
       rintro e w17 ⟨v184, rfl, ho0, hb⟩
       refine ⟨_, rfl, ?_⟩
       have n0_ := Aside0.mk (Kd.R_below (rr_ HO_3) hb)
       have n1_ := Aside0.mk (Kd.R_lower ho0 (below_size (hb_ HB)))
       have n2_ := Aside0.mk (below_step (hb_ HB) hb)
       clear HO_3
       clear HB
       have HO_3 := n0_
       have HO185 := n1_
       have HB := n2_
       clear n0_ n1_ n2_
       (try clear hb)
       (try clear hb2)
       (try clear hk)
       (try clear hi)
       (try clear ho0)
       obtain ⟨Ao18, co18, eo18⟩ := Kd.R_slice HO185.out
       (first | subst eo18 | (injection eo18 with f1_ f2_ f3_; have f4_ := f1_.symm; have f5_ := f3_.symm; clear f1_ f2_ f3_; subst f4_; subst f5_))
       refine hK.out _ _ ⟨((HB.out.cell (World.block_lt_of_cell? w _ hw180_0)).trans hw180_0), ((HB.out.cell (World.block_lt_of_cell? w _ hw180_1)).trans hw180_1), ((HB.out.cell (World.block_lt_of_cell? w _ hw180_2)).trans hw180_2), ((HB.out.cell (World.block_lt_of_cell? w _ hw180_3)).trans hw180_3), ((HB.out.cell (World.block_lt_of_cell? w _ hw180_4)).trans hw180_4), ((HB.out.cell (World.block_lt_of_cell? w _ hw180_5)).trans hw180_5), ((HB.out.cell (World.block_lt_of_cell? w _ hw180_6)).trans hw180_6), ((HB.out.cell (World.block_lt_of_cell? w _ hw180_7)).trans hw180_7), ((HB.out.cell (World.block_lt_of_cell? w _ hw180_8)).trans hw180_8), ((HB.out.cell (World.block_lt_of_cell? w _ hw181_0)).trans hw181_0), ((HB.out.cell (World.block_lt_of_cell? w _ hw181_1)).trans hw181_1), ((HB.out.cell (World.block_lt_of_cell? w _ hw181_2)).trans hw181_2), ((HB.out.cell (World.block_lt_of_cell? w _ hw181_3)).trans hw181_3), ((HB.out.cell (World.block_lt_of_cell? w _ hw181_4)).trans hw181_4), ((HB.out.cell (World.block_lt_of_cell? w _ hw181_5)).trans hw181_5), ((HB.out.cell (World.block_lt_of_cell? w _ hw181_6)).trans hw181_6), ((HB.out.cell (World.block_lt_of_cell? w _ hw181_7)).trans hw181_7), ((HB.out.cell (World.block_lt_of_cell? w _ hw181_8)).trans hw181_8), ((HB.out.cell (World.block_lt_of_cell? w _ hw182_0)).trans hw182_0), ((HB.out.cell (World.block_lt_of_cell? w _ hw182_1)).trans hw182_1), ((HB.out.cell (World.block_lt_of_cell? w _ hw182_2)).trans hw182_2), ((HB.out.cell (World.block_lt_of_cell? w _ hw182_3)).trans hw182_3), ((HB.out.cell (World.block_lt_of_cell? w _ hw182_4)).trans hw182_4), ((HB.out.cell (World.block_lt_of_cell? w _ hw182_5)).trans hw182_5), ((HB.out.cell (World.block_lt_of_cell? w _ hw182_6)).trans hw182_6), ((HB.out.cell (World.block_lt_of_cell? w _ hw182_7)).trans hw182_7), ((HB.out.cell (World.block_lt_of_cell? w _ hw182_8)).trans hw182_8)⟩ (fun hHeld => ?_)
       clear hK K
       refine norm_ (a' := ?_) ?_ ?_
       rotate_left
       ·show Act.put _ (some 33) _ = _
        simp only [Act.put, la_, lz_, ls_, i64_w, i32_w]
        rfl
       refine one_ (i := 22) (N := some 34) #[i',i',i',i',i',i',i',i',i',i',i',i',i',i',i',i',i',i',i',i',i',i',i',o'] rfl rfl (one_of HT_.out (by kernel_rfl)) (by decide) (fun K hK => ?_)
       refine goes_ Try.func47 (by kernel_rfl) rfl #[.agg #[.int .i64 ((rd_T82 l0 x4_1).f3.f0), .int .i64 ((rd_T82 l0 x4_1).f3.f1), .string ((rd_T82 l0 x4_1).f3.f2), .string ((rd_T82 l0 x4_1).f3.f3), .int .i64 ((rd_T82 l0 x4_1).f3.f4), .int .i64 ((rd_T82 l0 x4_1).f3.f5)], .slice Ao18 t183.length co18] (by rfl) rfl rfl ar_ ?_
       with_reducible refine (spec_l9Fits.calls k1 ((rd_T82 l0 x4_1).f3.f0) ((rd_T82 l0 x4_1).f3.f1) ((rd_T82 l0 x4_1).f3.f2) ((rd_T82 l0 x4_1).f3.f3) ((rd_T82 l0 x4_1).f3.f4) ((rd_T82 l0 x4_1).f3.f5) _ _ t183 false _ ?side1 ?side2 A8.out).mono ?_
       (case side1 => repeat (first | exact (Kd.R_reads' HO185.out).2.2 | (with_reducible refine Kd.C_alloc ?_ _) | (with_reducible refine Kd.C_drewN ?_ _) | (with_reducible refine Kd.C_drew ?_)))
       (case side2 => exact (Kd.R_reads' HO185.out).2.1)
       rintro e w19 ⟨rfl, hb⟩
       refine ⟨_, rfl, ?_⟩
       have n0_ := Aside0.mk (Kd.R_below (rr_ HO_3) hb)
       have n1_ := Aside0.mk (Kd.R_below (rr_ HO185) hb)
       have n2_ := Aside0.mk (below_step (hb_ HB) hb)
       clear HO_3
       clear HO185
       clear HB
       have HO_3 := n0_
       have HO185 := n1_
       have HB := n2_
       clear n0_ n1_ n2_
       (try clear hb)
       (try clear hb2)
       (try clear hk)
       (try clear hi)
       refine hK.out _ _ ⟨((HB.out.cell (World.block_lt_of_cell? w _ hw180_0)).trans hw180_0), ((HB.out.cell (World.block_lt_of_cell? w _ hw180_1)).trans hw180_1), ((HB.out.cell (World.block_lt_of_cell? w _ hw180_2)).trans hw180_2), ((HB.out.cell (World.block_lt_of_cell? w _ hw180_3)).trans hw180_3), ((HB.out.cell (World.block_lt_of_cell? w _ hw180_4)).trans hw180_4), ((HB.out.cell (World.block_lt_of_cell? w _ hw180_5)).trans hw180_5), ((HB.out.cell (World.block_lt_of_cell? w _ hw180_6)).trans hw180_6), ((HB.out.cell (World.block_lt_of_cell? w _ hw180_7)).trans hw180_7), ((HB.out.cell (World.block_lt_of_cell? w _ hw180_8)).trans hw180_8), ((HB.out.cell (World.block_lt_of_cell? w _ hw181_0)).trans hw181_0), ((HB.out.cell (World.block_lt_of_cell? w _ hw181_1)).trans hw181_1), ((HB.out.cell (World.block_lt_of_cell? w _ hw181_2)).trans hw181_2), ((HB.out.cell (World.block_lt_of_cell? w _ hw181_3)).trans hw181_3), ((HB.out.cell (World.block_lt_of_cell? w _ hw181_4)).trans hw181_4), ((HB.out.cell (World.block_lt_of_cell? w _ hw181_5)).trans hw181_5), ((HB.out.cell (World.block_lt_of_cell? w _ hw181_6)).trans hw181_6), ((HB.out.cell (World.block_lt_of_cell? w _ hw181_7)).trans hw181_7), ((HB.out.cell (World.block_lt_of_cell? w _ hw181_8)).trans hw181_8), ((HB.out.cell (World.block_lt_of_cell? w _ hw182_0)).trans hw182_0), ((HB.out.cell (World.block_lt_of_cell? w _ hw182_1)).trans hw182_1), ((HB.out.cell (World.block_lt_of_cell? w _ hw182_2)).trans hw182_2), ((HB.out.cell (World.block_lt_of_cell? w _ hw182_3)).trans hw182_3), ((HB.out.cell (World.block_lt_of_cell? w _ hw182_4)).trans hw182_4), ((HB.out.cell (World.block_lt_of_cell? w _ hw182_5)).trans hw182_5), ((HB.out.cell (World.block_lt_of_cell? w _ hw182_6)).trans hw182_6), ((HB.out.cell (World.block_lt_of_cell? w _ hw182_7)).trans hw182_7), ((HB.out.cell (World.block_lt_of_cell? w _ hw182_8)).trans hw182_8)⟩ (fun hHeld => ?_)
       clear hK K
       refine norm_ (a' := ?_) ?_ ?_
       rotate_left
       ·show Act.put _ (some 34) _ = _
        simp only [Act.put, la_, lz_, ls_, i64_w, i32_w]
        rfl
       refine pure_ (i := 23) (N := some 35) (v := ?_) (a' := ?_) #[i',i',i',i',i',i',i',i',i',i',i',i',i',i',i',i',i',i',i',i',i',i',i',i'] rfl rfl (any_of HT_.out (by kernel_rfl)) (fun _ _ _ h => h) (Or.inl ⟨by rfl, ?_⟩) ?_ ?_
       rotate_left;·intro w';go_simp;with_reducible rfl
       rotate_left;·simp only [Act.put, la_, lz_, ls_, i64_w, i32_w];rfl
       refine done_ (done_of HT_.out (by kernel_rfl)) ?_
       try go_wp2
       go_roundg k1
       case measure => have := HK1.out; first | exact this | exact Nat.le_of_succ_le this | exact Nat.le_refl _ | omega
       case rel => exact ⟨(x3_1), (wrap64 (x4_1 + 1)), rs_, H', ⟨by have := HK1.out; first | exact this | exact Nat.le_of_succ_le this | exact Nat.le_refl _ | omega⟩, ⟨rr_ HO_3⟩, ⟨hb_ HB⟩⟩
     ·rw [if_neg c6] at H
      have c6b0 : (((rd_T82 l0 x4_1).f3.f0) == 3) = false := beq_eq_false_iff_ne.mpr c6
      have c6b1 : (((rd_T82 l0 x4_1).f3.f0) != 3) = true := bne_iff_ne.mpr c6
      have H' := Aside0.mk H
      clear H
      try go_wp2
      have n0_ := Aside0.mk (Kd.R_drew HO_3.out)
      have n1_ := Aside0.mk (below_drew1 HB.out)
      clear HO_3
      clear HB
      have HO_3 := n0_
      have HB := n1_
      clear n0_ n1_
      have p180 : 0 ≤ (x4_1 : Int) := of_decide_eq_true as_
      have q180 : x4_1 < (l0.length : Int) := of_decide_eq_true as_
      obtain ⟨ad180, e180, hx180_0, hx180_1, hx180_2, hx180_3, hx180_4, hx180_5, hx180_6, hx180_7, hx180_8⟩ := at_T82 HR0.out x4_1 p180 q180
      have hw180_8 := hx180_8
      have hw180_7 := hx180_7
      have hw180_6 := hx180_6
      have hw180_5 := hx180_5
      have hw180_4 := hx180_4
      have hw180_3 := hx180_3
      have hw180_2 := hx180_2
      have hw180_1 := hx180_1
      have hw180_0 := hx180_0
      cases e180
      replace hx180_0 := (HB.out.cell (World.block_lt_of_cell? w _ hx180_0)).trans hx180_0
      replace hx180_1 := (HB.out.cell (World.block_lt_of_cell? w _ hx180_1)).trans hx180_1
      replace hx180_2 := (HB.out.cell (World.block_lt_of_cell? w _ hx180_2)).trans hx180_2
      replace hx180_3 := (HB.out.cell (World.block_lt_of_cell? w _ hx180_3)).trans hx180_3
      replace hx180_4 := (HB.out.cell (World.block_lt_of_cell? w _ hx180_4)).trans hx180_4
      replace hx180_5 := (HB.out.cell (World.block_lt_of_cell? w _ hx180_5)).trans hx180_5
      replace hx180_6 := (HB.out.cell (World.block_lt_of_cell? w _ hx180_6)).trans hx180_6
      replace hx180_7 := (HB.out.cell (World.block_lt_of_cell? w _ hx180_7)).trans hx180_7
      replace hx180_8 := (HB.out.cell (World.block_lt_of_cell? w _ hx180_8)).trans hx180_8
      replace p180 := eq_true p180
      replace q180 := eq_true q180
      refine start_ (n := 24) (S := fun w' => w'.cell? (ad180.add ((x4_1).toNat * 9)) = some (.int .i64 ((rd_T82 l0 x4_1).f0)) ∧ w'.cell? ⟨(ad180.add ((x4_1).toNat * 9)).block, (ad180.add ((x4_1).toNat * 9)).off + 1, none⟩ = some (.int .i64 ((rd_T82 l0 x4_1).f1)) ∧ w'.cell? ⟨(ad180.add ((x4_1).toNat * 9)).block, (ad180.add ((x4_1).toNat * 9)).off + 2, none⟩ = some (.int .i64 ((rd_T82 l0 x4_1).f2)) ∧ w'.cell? ⟨(ad180.add ((x4_1).toNat * 9)).block, (ad180.add ((x4_1).toNat * 9)).off + 3, none⟩ = some (.int .i64 ((rd_T82 l0 x4_1).f3.f0)) ∧ w'.cell? ⟨(ad180.add ((x4_1).toNat * 9)).block, (ad180.add ((x4_1).toNat * 9)).off + 4, none⟩ = some (.int .i64 ((rd_T82 l0 x4_1).f3.f1)) ∧ w'.cell? ⟨(ad180.add ((x4_1).toNat * 9)).block, (ad180.add ((x4_1).toNat * 9)).off + 5, none⟩ = some (.string ((rd_T82 l0 x4_1).f3.f2)) ∧ w'.cell? ⟨(ad180.add ((x4_1).toNat * 9)).block, (ad180.add ((x4_1).toNat * 9)).off + 6, none⟩ = some (.string ((rd_T82 l0 x4_1).f3.f3)) ∧ w'.cell? ⟨(ad180.add ((x4_1).toNat * 9)).block, (ad180.add ((x4_1).toNat * 9)).off + 7, none⟩ = some (.int .i64 ((rd_T82 l0 x4_1).f3.f4)) ∧ w'.cell? ⟨(ad180.add ((x4_1).toNat * 9)).block, (ad180.add ((x4_1).toNat * 9)).off + 8, none⟩ = some (.int .i64 ((rd_T82 l0 x4_1).f3.f5))) (ds := []) #[o',o',o',o',o',o',o',o',o',o',o',o',o',o',o',o',o',o',o',o',o',o',o',o'] (by kernel_rfl) rfl rfl ⟨((HB.out.cell (World.block_lt_of_cell? w _ hw180_0)).trans hw180_0), ((HB.out.cell (World.block_lt_of_cell? w _ hw180_1)).trans hw180_1), ((HB.out.cell (World.block_lt_of_cell? w _ hw180_2)).trans hw180_2), ((HB.out.cell (World.block_lt_of_cell? w _ hw180_3)).trans hw180_3), ((HB.out.cell (World.block_lt_of_cell? w _ hw180_4)).trans hw180_4), ((HB.out.cell (World.block_lt_of_cell? w _ hw180_5)).trans hw180_5), ((HB.out.cell (World.block_lt_of_cell? w _ hw180_6)).trans hw180_6), ((HB.out.cell (World.block_lt_of_cell? w _ hw180_7)).trans hw180_7), ((HB.out.cell (World.block_lt_of_cell? w _ hw180_8)).trans hw180_8)⟩ (fun hHeld => ?_); refine with_tabW spec_Sealed.tab5 spec_Sealed.bits5 (fun HT_ HW_ => ?_)
      generalize wr.drew = w20 at HO_3 HB hx180_0 hx180_1 hx180_2 hx180_3 hx180_4 hx180_5 hx180_6 hx180_7 hx180_8 hHeld ⊢
      refine pure_ (i := 0) (N := some 12) (v := ?_) (a' := ?_) #[i',o',o',o',o',o',o',o',o',o',o',o',o',o',o',o',o',o',o',o',o',o',o',o'] rfl rfl (any_of HT_.out (by kernel_rfl)) (fun _ _ _ h => h) (Or.inl ⟨by rfl, ?_⟩) ?_ ?_
      rotate_left;·intro w';go_simp;with_reducible rfl
      rotate_left;·simp only [Act.put, la_, lz_, ls_, i64_w, i32_w];rfl
      refine pure_ (i := 1) (N := some 13) (v := ?_) (a' := ?_) #[i',i',o',o',o',o',o',o',o',o',o',o',o',o',o',o',o',o',o',o',o',o',o',o'] rfl rfl (any_of HT_.out (by kernel_rfl)) (fun _ _ _ h => h) (Or.inl ⟨by rfl, ?_⟩) ?_ ?_
      rotate_left;·intro w';go_simp;with_reducible rfl
      rotate_left;·simp only [Act.put, la_, lz_, ls_, i64_w, i32_w];rfl
      refine pure_ (i := 2) (N := some 14) (v := ?_) (a' := ?_) #[i',i',i',o',o',o',o',o',o',o',o',o',o',o',o',o',o',o',o',o',o',o',o',o'] rfl rfl (any_of HT_.out (by kernel_rfl)) (fun _ _ _ h => h) (Or.inl ⟨by rfl, ?_⟩) ?_ ?_
      rotate_left;·intro w';go_simp;with_reducible rfl
      rotate_left;·simp only [Act.put, la_, lz_, ls_, i64_w, i32_w];rfl
      refine pure_ (i := 3) (N := some 15) (v := ?_) (a' := ?_) #[i',i',i',i',o',o',o',o',o',o',o',o',o',o',o',o',o',o',o',o',o',o',o',o'] rfl rfl (any_of HT_.out (by kernel_rfl)) (fun _ _ _ h => h) (Or.inl ⟨by rfl, ?_⟩) ?_ ?_
      rotate_left;·intro w';go_simp;with_reducible rfl
      rotate_left;·simp only [Act.put, la_, lz_, ls_, i64_w, i32_w];rfl
      refine pure_ (i := 4) (N := some 16) (v := ?_) (a' := ?_) #[i',i',i',i',i',o',o',o',o',o',o',o',o',o',o',o',o',o',o',o',o',o',o',o'] rfl rfl (any_of HT_.out (by kernel_rfl)) (fun _ _ _ h => h) (Or.inl ⟨by rfl, ?_⟩) ?_ ?_
      rotate_left;·intro w';go_simp;with_reducible rfl
      rotate_left;·simp only [Act.put, la_, lz_, ls_, i64_w, i32_w];rfl
      refine take_ (i := 5) (N := some 17) (v := ?_) (a' := ?_) #[i',i',i',i',i',i',o',o',o',o',o',o',o',o',o',o',o',o',o',o',o',o',o',o'] rfl rfl (take_ofW HT_.out HW_.out (by kernel_rfl)) (fun _ _ _ h => h) (Or.inl ⟨by rfl, ?_⟩) hHeld ?_ ?_
      rotate_left
      ·rintro w' ⟨s0, s1, s2, s3, s4, s5, s6, s7, s8⟩
       go_simp
       with_reducible rfl
      rotate_left
      ·simp only [Act.put, la_, lz_, ls_, i64_w, i32_w]
       rfl
      refine pure_ (i := 6) (N := some 18) (v := ?_) (a' := ?_) #[i',i',i',i',i',i',i',o',o',o',o',o',o',o',o',o',o',o',o',o',o',o',o',o'] rfl rfl (any_of HT_.out (by kernel_rfl)) (fun _ _ _ h => h) (Or.inl ⟨by rfl, ?_⟩) ?_ ?_
      rotate_left;·intro w';go_simp;with_reducible rfl
      rotate_left;·simp only [Act.put, la_, lz_, ls_, i64_w, i32_w];rfl
      refine pure_ (i := 7) (N := some 19) (v := ?_) (a' := ?_) #[i',i',i',i',i',i',i',i',o',o',o',o',o',o',o',o',o',o',o',o',o',o',o',o'] rfl rfl (any_of HT_.out (by kernel_rfl)) (fun _ _ _ h => h) (Or.inl ⟨by rfl, ?_⟩) ?_ ?_
      rotate_left;·intro w';go_simp;with_reducible rfl
      rotate_left;·simp only [Act.put, la_, lz_, ls_, i64_w, i32_w];rfl
      refine pure_ (i := 8) (N := some 20) (v := undef) (a' := ?_) #[i',i',i',i',i',i',i',i',i',o',o',o',o',o',o',o',o',o',o',o',o',o',o',o'] rfl rfl (any_of HT_.out (by kernel_rfl)) (fun _ _ _ h => h) (Or.inr ⟨by rfl, rfl⟩) ?_ ?_
      rotate_left
      ·simp only [Act.put, la_, lz_, ls_, i64_w, i32_w]
       rfl
      refine pure_ (i := 9) (N := some 21) (v := undef) (a' := ?_) #[i',i',i',i',i',i',i',i',i',i',o',o',o',o',o',o',o',o',o',o',o',o',o',o'] rfl rfl (any_of HT_.out (by kernel_rfl)) (fun _ _ _ h => h) (Or.inr ⟨by rfl, rfl⟩) ?_ ?_
      rotate_left
      ·simp only [Act.put, la_, lz_, ls_, i64_w, i32_w]
       rfl
      refine pure_ (i := 10) (N := some 22) (v := undef) (a' := ?_) #[i',i',i',i',i',i',i',i',i',i',i',o',o',o',o',o',o',o',o',o',o',o',o',o'] rfl rfl (any_of HT_.out (by kernel_rfl)) (fun _ _ _ h => h) (Or.inr ⟨by rfl, rfl⟩) ?_ ?_
      rotate_left
      ·simp only [Act.put, la_, lz_, ls_, i64_w, i32_w]
       rfl
      refine pure_ (i := 11) (N := some 23) (v := undef) (a' := ?_) #[i',i',i',i',i',i',i',i',i',i',i',i',o',o',o',o',o',o',o',o',o',o',o',o'] rfl rfl (any_of HT_.out (by kernel_rfl)) (fun _ _ _ h => h) (Or.inr ⟨by rfl, rfl⟩) ?_ ?_
      rotate_left
      ·simp only [Act.put, la_, lz_, ls_, i64_w, i32_w]
       rfl
      refine pure_ (i := 12) (N := some 24) (v := undef) (a' := ?_) #[i',i',i',i',i',i',i',i',i',i',i',i',i',o',o',o',o',o',o',o',o',o',o',o'] rfl rfl (any_of HT_.out (by kernel_rfl)) (fun _ _ _ h => h) (Or.inr ⟨by rfl, rfl⟩) ?_ ?_
      rotate_left
      ·simp only [Act.put, la_, lz_, ls_, i64_w, i32_w]
       rfl
      refine pure_ (i := 13) (N := some 25) (v := undef) (a' := ?_) #[i',i',i',i',i',i',i',i',i',i',i',i',i',i',o',o',o',o',o',o',o',o',o',o'] rfl rfl (any_of HT_.out (by kernel_rfl)) (fun _ _ _ h => h) (Or.inr ⟨by rfl, rfl⟩) ?_ ?_
      rotate_left
      ·simp only [Act.put, la_, lz_, ls_, i64_w, i32_w]
       rfl
      refine pure_ (i := 14) (N := some 26) (v := undef) (a' := ?_) #[i',i',i',i',i',i',i',i',i',i',i',i',i',i',i',o',o',o',o',o',o',o',o',o'] rfl rfl (any_of HT_.out (by kernel_rfl)) (fun _ _ _ h => h) (Or.inr ⟨by rfl, rfl⟩) ?_ ?_
      rotate_left
      ·simp only [Act.put, la_, lz_, ls_, i64_w, i32_w]
       rfl
      refine pure_ (i := 15) (N := some 27) (v := undef) (a' := ?_) #[i',i',i',i',i',i',i',i',i',i',i',i',i',i',i',i',o',o',o',o',o',o',o',o'] rfl rfl (any_of HT_.out (by kernel_rfl)) (fun _ _ _ h => h) (Or.inr ⟨by rfl, rfl⟩) ?_ ?_
      rotate_left
      ·simp only [Act.put, la_, lz_, ls_, i64_w, i32_w]
       rfl
      refine pure_ (i := 16) (N := some 28) (v := undef) (a' := ?_) #[i',i',i',i',i',i',i',i',i',i',i',i',i',i',i',i',i',o',o',o',o',o',o',o'] rfl rfl (any_of HT_.out (by kernel_rfl)) (fun _ _ _ h => h) (Or.inr ⟨by rfl, rfl⟩) ?_ ?_
      rotate_left
      ·simp only [Act.put, la_, lz_, ls_, i64_w, i32_w]
       rfl
      refine pure_ (i := 17) (N := some 29) (v := undef) (a' := ?_) #[i',i',i',i',i',i',i',i',i',i',i',i',i',i',i',i',i',i',o',o',o',o',o',o'] rfl rfl (any_of HT_.out (by kernel_rfl)) (fun _ _ _ h => h) (Or.inr ⟨by rfl, rfl⟩) ?_ ?_
      rotate_left
      ·simp only [Act.put, la_, lz_, ls_, i64_w, i32_w]
       rfl
      refine pure_ (i := 18) (N := some 30) (v := undef) (a' := ?_) #[i',i',i',i',i',i',i',i',i',i',i',i',i',i',i',i',i',i',i',o',o',o',o',o'] rfl rfl (any_of HT_.out (by kernel_rfl)) (fun _ _ _ h => h) (Or.inr ⟨by rfl, rfl⟩) ?_ ?_
      rotate_left
      ·simp only [Act.put, la_, lz_, ls_, i64_w, i32_w]
       rfl
      refine pure_ (i := 19) (N := some 31) (v := undef) (a' := ?_) #[i',i',i',i',i',i',i',i',i',i',i',i',i',i',i',i',i',i',i',i',o',o',o',o'] rfl rfl (any_of HT_.out (by kernel_rfl)) (fun _ _ _ h => h) (Or.inr ⟨by rfl, rfl⟩) ?_ ?_
      rotate_left
      ·simp only [Act.put, la_, lz_, ls_, i64_w, i32_w]
       rfl
      refine pure_ (i := 20) (N := some 32) (v := undef) (a' := ?_) #[i',i',i',i',i',i',i',i',i',i',i',i',i',i',i',i',i',i',i',i',i',o',o',o'] rfl rfl (any_of HT_.out (by kernel_rfl)) (fun _ _ _ h => h) (Or.inr ⟨by rfl, rfl⟩) ?_ ?_
      rotate_left
      ·simp only [Act.put, la_, lz_, ls_, i64_w, i32_w]
       rfl
      refine pure_ (i := 21) (N := some 33) (v := undef) (a' := ?_) #[i',i',i',i',i',i',i',i',i',i',i',i',i',i',i',i',i',i',i',i',i',i',o',o'] rfl rfl (any_of HT_.out (by kernel_rfl)) (fun _ _ _ h => h) (Or.inr ⟨by rfl, rfl⟩) ?_ ?_
      rotate_left
      ·simp only [Act.put, la_, lz_, ls_, i64_w, i32_w]
       rfl
      refine pure_ (i := 22) (N := some 34) (v := undef) (a' := ?_) #[i',i',i',i',i',i',i',i',i',i',i',i',i',i',i',i',i',i',i',i',i',i',i',o'] rfl rfl (any_of HT_.out (by kernel_rfl)) (fun _ _ _ h => h) (Or.inr ⟨by rfl, rfl⟩) ?_ ?_
      rotate_left
      ·simp only [Act.put, la_, lz_, ls_, i64_w, i32_w]
       rfl
      refine pure_ (i := 23) (N := some 35) (v := ?_) (a' := ?_) #[i',i',i',i',i',i',i',i',i',i',i',i',i',i',i',i',i',i',i',i',i',i',i',i'] rfl rfl (any_of HT_.out (by kernel_rfl)) (fun _ _ _ h => h) (Or.inl ⟨by rfl, ?_⟩) ?_ ?_
      rotate_left;·intro w';go_simp;with_reducible rfl
      rotate_left;·simp only [Act.put, la_, lz_, ls_, i64_w, i32_w];rfl
      refine done_ (done_of HT_.out (by kernel_rfl)) ?_
      try go_wp2
      go_roundg k1
      case measure => have := HK1.out; first | exact this | exact Nat.le_of_succ_le this | exact Nat.le_refl _ | omega
      case rel => exact ⟨(x3_1), (wrap64 (x4_1 + 1)), rs_, H', ⟨by have := HK1.out; first | exact this | exact Nat.le_of_succ_le this | exact Nat.le_refl _ | omega⟩, ⟨rr_ HO_3⟩, ⟨hb_ HB⟩⟩
    ·rw [if_neg c5] at H
     exact absurd H (by simp)
   ·rw [if_neg c4] at H
    have c4b0 : decide (x4_1 < (l0.length : Int)) = false := decide_eq_false c4
    clear c4
    obtain rfl := Option.some.inj H
    go_wp2
    go_ret
    exact ⟨_, by first | rfl | (simp [errW_none, errW_some] <;> rfl) | (simp [*, errW_none, errW_some] <;> rfl), rr_ HO_3, hb_ HB⟩

end Go.Proofs.Ytebeafcdabkkfab.PFnExactSealed
