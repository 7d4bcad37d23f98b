-- Laid by a program of this session, a copy of the kit's printer with additions (wip/patch_print.py): myhead. Lean checks it.
import Derived.Test.YtebeafcdabkkfabPFnExactSealedx0
import Derived.Test.YtebeafcdabkkfabPFnExactSealedx11
import Derived.Test.YtebeafcdabkkfabPFnExactSealedx12
namespace Go.Proofs.Ytebeafcdabkkfab.PFnExactSealed
open Go.RowKit Go.Proofs.YtebeafcdabkkfabW.PrintWords Go.Proofs.YtebeafcdabkkfabW.PrintLast Go.Proofs.YtebeafcdabkkfabW.PrintMore
attribute [local go_sem] max2_int min2_int max_two min_two max_three min_three max_four min_four   -- for this text's walks alone
set_option linter.unusedVariables false
set_option linter.unusedSimpArgs false

/-! ### impl_Sealed: function 12 -/
def impl_Sealed.l0 : Nat → List (S82) → List Int → List (S82) → Int → Int → Option (List Int)
 | 0, _, _, _, _, _ => none
 | k + 1, x0, x3, x6, x7, x8 => if x8 < x7 then (if 0 ≤ x8 then (if x8 < (x6.length : Int) then (if ((rd_T82 x6 x8).f3.f0) = 3 then (if x8 ≤ (x0.length : Int) then ((impl_ownOf.f k (x0.take (x8 : Int).toNat) ((rd_T82 x6 x8).f3.f0) ((rd_T82 x6 x8).f3.f1) ((rd_T82 x6 x8).f3.f2) ((rd_T82 x6 x8).f3.f3) ((rd_T82 x6 x8).f3.f4) ((rd_T82 x6 x8).f3.f5)).bind fun t284 => ((impl_fits.f k ((rd_T82 x6 x8).f3.f0) ((rd_T82 x6 x8).f3.f1) ((rd_T82 x6 x8).f3.f2) ((rd_T82 x6 x8).f3.f3) ((rd_T82 x6 x8).f3.f4) ((rd_T82 x6 x8).f3.f5) t284).bind fun t287 => (if t287 = true then (if x3.length < 17592186044416 then (impl_Sealed.l0 k x0 (x3 ++ [(rd_T82 x6 x8).f3.f1]) x6 x7 (wrap64 (x8 + 1))) else (none)) else (impl_Sealed.l0 k x0 x3 x6 x7 (wrap64 (x8 + 1)))))) else (none)) else (impl_Sealed.l0 k x0 x3 x6 x7 (wrap64 (x8 + 1)))) else (none)) else (none)) else (some x3)
def impl_Sealed.f (k : Nat) (l0 : List (S82)) : Option (List Int) := impl_Sealed.l0 k l0 ([] : List Int) l0 (l0.length : Int) 0
theorem impl_Sealed.mono_l : ∀ k, (∀ y0 y1 y2 y3 y4, LeO (impl_Sealed.l0 k y0 y1 y2 y3 y4) (impl_Sealed.l0 (k + 1) y0 y1 y2 y3 y4))
 | 0 => fun _ _ _ _ _ r h => by simp [impl_Sealed.l0] at h
 | k + 1 => by
  have ih0 := impl_Sealed.mono_l k
  ·intro y0 y1 y2 y3 y4
   unfold impl_Sealed.l0
   repeat' first
   | (with_reducible exact ih0 _ _ _ _ _)
   | (with_reducible exact impl_fits.mono _ _ _ _ _ _ _ _)
   | (with_reducible exact impl_ownOf.mono _ _ _ _ _ _ _ _)
   | (with_reducible exact LeO.refl _)
   | (with_reducible exact LeO.none _)
   | (with_reducible refine LeO.ite ?_ ?_)
   | (with_reducible refine LeO.bind ?_ (fun _ => ?_))
   | exact ih0 _ _ _ _ _
   | exact impl_fits.mono _ _ _ _ _ _ _ _
   | exact impl_ownOf.mono _ _ _ _ _ _ _ _
   | exact LeO.none _
   | refine LeO.ite ?_ ?_
   | refine LeO.bind ?_ (fun _ => ?_)
theorem impl_Sealed.mono : ∀ a0 k, LeO (impl_Sealed.f k a0) (impl_Sealed.f (k + 1) a0) := by
 intro a0 k
 have ih0 := impl_Sealed.mono_l k
 unfold impl_Sealed.f
 repeat' first
   | (with_reducible exact ih0 _ _ _ _ _)
   | (with_reducible exact impl_fits.mono _ _ _ _ _ _ _ _)
   | (with_reducible exact impl_ownOf.mono _ _ _ _ _ _ _ _)
   | (with_reducible exact LeO.refl _)
   | (with_reducible exact LeO.none _)
   | (with_reducible refine LeO.ite ?_ ?_)
   | (with_reducible refine LeO.bind ?_ (fun _ => ?_))
   | exact ih0 _ _ _ _ _
   | exact impl_fits.mono _ _ _ _ _ _ _ _
   | exact impl_ownOf.mono _ _ _ _ _ _ _ _
   | exact LeO.none _
   | refine LeO.ite ?_ ?_
   | refine LeO.bind ?_ (fun _ => ?_)
def impl_Sealed.T5 : Bool × List (List Nat × List Nat) := (true, [([], []), ([0], [0]), ([1], [1]), ([2], [2]), ([3], [3]), ([4], [4]), ([5, 4], [4, 5]), ([4], [4]), ([4], [4]), ([7, 8, 4], [4, 7, 8]), ([4], [4]), ([10, 4], [4, 10]), ([9, 11, 4, 4], [4, 9, 11]), ([6, 12, 12, 4], [4, 6, 12]), ([4, 13], [4, 13])])
def impl_Sealed.B5 : List Nat := [0, 1, 3, 7, 15, 31, 63, 31, 31, 415, 31, 1055, 3999, 8191, 16383]
theorem impl_Sealed.tab5 : rtab .any (opsOf Try.f12 5) = impl_Sealed.T5 := by kernel_rfl
theorem impl_Sealed.bits5 : waitsOk impl_Sealed.T5.2 impl_Sealed.B5 = true := by kernel_rfl
set_option maxHeartbeats 8000000 in
set_option maxRecDepth 100000 in
theorem impl_Sealed.calls (k : Nat) (A0 : Option Addr) (c0 : Nat) (l0 : List (S82)) (r : List Int) (w : World) (hr0 : Kd.C k82 w A0 l0.length l0) (hc0 : l0.length ≤ c0) (h : impl_Sealed.f k l0 = some r) :
  Calls Try.prog 12 #[.slice A0 l0.length c0] w fun e w' => ∃ v0_ : Value, e = .returned (v0_) ∧ Kd.R (Kd.int .i64) 3 w' w.heap.size (fun _ => True) v0_ r ∧ Below w.heap.size w w' := by
 have hu82 := Try.underlying82
 have hu47 := Try.underlying47
 have HR0 := Aside0.mk hr0
 have HC0 := Aside0.mk hc0
 clear hr0 hc0
 have HB := Aside0.mk (Below.refl w.heap.size w)
 have H : (impl_Sealed.l0 k l0 ([] : List Int) l0 (l0.length : Int) 0) = some r := h
 clear h
 have H' := Aside0.mk H
 clear H
 go_enter Try.func12, Try.ntmps12
 go_wp2
 go_loopg [3, 8] k (fun kq v3 v8 w' => ∃ (x3_1 : List Int) (x8_1 : Int), v8 = .int .i64 x8_1 ∧ Aside0 (impl_Sealed.l0 kq l0 x3_1 l0 (l0.length : Int) x8_1 = some r) ∧ Aside0 (kq ≤ k) ∧ Aside0 (Kd.R (Kd.int .i64) 3 w' w.heap.size (fun _ => True) v3 x3_1) ∧ Aside0 (Below w.heap.size w w'))
 case atStart => exact ⟨(([] : List Int)), (0), rs_, H', ⟨Nat.le_refl _⟩, ⟨by first | exact Kd.R_nil _ _ _ _ _ | exact Kd.N_nil _ _ _ _ _ | exact Kd.V_nil _ _ _ _ _ | exact Kd.Q_nil _ _ _ _ _ | exact Kd.S_nil _ _ _ _ _⟩, ⟨hb_ HB⟩⟩
 case round =>
  clear H'
  try clear c1
  obtain ⟨x3_1, x8_1, rfl, HA, HK1, HO_3, HB⟩ := hrel
  cases gk with
  | zero => exact absurd HA.out (by simp [impl_Sealed.l0])
  | succ k1 =>
   have H := HA.out
   clear HA
   simp only [impl_Sealed.l0] at H
   by_cases c2 : x8_1 < (l0.length : Int)
   ·rw [if_pos c2] at H
    have c2b0 : decide (x8_1 < (l0.length : Int)) = true := decide_eq_true c2
    clear c2
    by_cases c3 : 0 ≤ x8_1
    ·rw [if_pos c3] at H
     have c3b0 : decide (0 ≤ x8_1) = true := decide_eq_true c3
     clear c3
     by_cases c4 : x8_1 < (l0.length : Int)
     ·rw [if_pos c4] at H
      have c4b0 : decide (x8_1 < (l0.length : Int)) = true := decide_eq_true c4
      clear c4
      by_cases c5 : ((rd_T82 l0 x8_1).f3.f0) = 3
      ·rw [if_pos c5] at H
       have c5b0 : (((rd_T82 l0 x8_1).f3.f0) == 3) = true := beq_iff_eq.mpr c5
       have c5b1 : (((rd_T82 l0 x8_1).f3.f0) != 3) = false := bne_eq_false_iff_eq.mpr c5
       clear c5
       have c6b0 := eq_true (of_decide_eq_true as_ : 0 ≤ x8_1)
       by_cases c7 : x8_1 ≤ (l0.length : Int)
       ·rw [if_pos c7] at H
        have c7b0 := eq_true c7
        have c7b1 : decide (x8_1 ≤ (l0.length : Int)) = true := decide_eq_true c7
        clear c7
        obtain ⟨y280, hy280⟩ : ∃ y_ : List (S82), y_ = (l0.take (x8_1 : Int).toNat) := ⟨_, rfl⟩
        replace H : ((impl_ownOf.f k1 y280 ((rd_T82 l0 x8_1).f3.f0) ((rd_T82 l0 x8_1).f3.f1) ((rd_T82 l0 x8_1).f3.f2) ((rd_T82 l0 x8_1).f3.f3) ((rd_T82 l0 x8_1).f3.f4) ((rd_T82 l0 x8_1).f3.f5)).bind fun t284 => ((impl_fits.f k1 ((rd_T82 l0 x8_1).f3.f0) ((rd_T82 l0 x8_1).f3.f1) ((rd_T82 l0 x8_1).f3.f2) ((rd_T82 l0 x8_1).f3.f3) ((rd_T82 l0 x8_1).f3.f4) ((rd_T82 l0 x8_1).f3.f5) t284).bind fun t287 => (if t287 = true then (if x3_1.length < 17592186044416 then (impl_Sealed.l0 k1 l0 (x3_1 ++ [(rd_T82 l0 x8_1).f3.f1]) l0 (l0.length : Int) (wrap64 (x8_1 + 1))) else (none)) else (impl_Sealed.l0 k1 l0 x3_1 l0 (l0.length : Int) (wrap64 (x8_1 + 1)))))) = some r := by first | (rw [hy280]; with_reducible exact H) | (have H2_ := (Option.bind_some _ _).symm.trans H; rw [hy280]; with_reducible exact H2_) | (have H2_ := (Option.bind_some _ _).symm.trans H; with_reducible exact H2_) | with_reducible exact H | (rw [hy280]; exact H) | exact H
        have Ny280 := Aside0.mk hy280
        clear hy280
        replace H := Option.bind_eq_some_iff.mp H
        obtain ⟨t284, A80, H⟩ := H
        replace H : ((impl_fits.f k1 ((rd_T82 l0 x8_1).f3.f0) ((rd_T82 l0 x8_1).f3.f1) ((rd_T82 l0 x8_1).f3.f2) ((rd_T82 l0 x8_1).f3.f3) ((rd_T82 l0 x8_1).f3.f4) ((rd_T82 l0 x8_1).f3.f5) t284).bind fun t287 => (if t287 = true then (if x3_1.length < 17592186044416 then (impl_Sealed.l0 k1 l0 (x3_1 ++ [(rd_T82 l0 x8_1).f3.f1]) l0 (l0.length : Int) (wrap64 (x8_1 + 1))) else (none)) else (impl_Sealed.l0 k1 l0 x3_1 l0 (l0.length : Int) (wrap64 (x8_1 + 1))))) = some r := H
        have A8 := Aside0.mk A80
        clear A80
        replace H := Option.bind_eq_some_iff.mp H
        obtain ⟨t287, A90, H⟩ := H
        replace H : (if t287 = true then (if x3_1.length < 17592186044416 then (impl_Sealed.l0 k1 l0 (x3_1 ++ [(rd_T82 l0 x8_1).f3.f1]) l0 (l0.length : Int) (wrap64 (x8_1 + 1))) else (none)) else (impl_Sealed.l0 k1 l0 x3_1 l0 (l0.length : Int) (wrap64 (x8_1 + 1)))) = some r := H
        have A9 := Aside0.mk A90
        clear A90
        by_cases c10 : t287 = true
        ·subst c10
         have H1 : (if x3_1.length < 17592186044416 then (impl_Sealed.l0 k1 l0 (x3_1 ++ [(rd_T82 l0 x8_1).f3.f1]) l0 (l0.length : Int) (wrap64 (x8_1 + 1))) else (none)) = some r := by rw [if_pos rfl] at H; exact H
         clear H
         have H := H1
         clear H1
         by_cases c11 : x3_1.length < 17592186044416
         ·rw [if_pos c11] at H
          have LMc11 := Aside0.mk c11
          clear c11
          obtain ⟨y288, hy288⟩ : ∃ y_ : List Int, y_ = (x3_1 ++ [(rd_T82 l0 x8_1).f3.f1]) := ⟨_, rfl⟩
          replace H : (impl_Sealed.l0 k1 l0 y288 l0 (l0.length : Int) (wrap64 (x8_1 + 1))) = some r := by first | (rw [hy288]; with_reducible exact H) | (have H2_ := (Option.bind_some _ _).symm.trans H; rw [hy288]; with_reducible exact H2_) | (have H2_ := (Option.bind_some _ _).symm.trans H; with_reducible exact H2_) | with_reducible exact H | (rw [hy288]; exact H) | exact H
          have Ny288 := Aside0.mk hy288
          clear hy288
          have H' := Aside0.mk H
          clear H
          have p278 : 0 ≤ (x8_1 : Int) := of_decide_eq_true as_
          have q278 : x8_1 < (l0.length : Int) := of_decide_eq_true as_
          obtain ⟨ad278, e278, hx278_0, hx278_1, hx278_2, hx278_3, hx278_4, hx278_5, hx278_6, hx278_7, hx278_8⟩ := at_T82 HR0.out x8_1 p278 q278
          cases e278
          replace hx278_0 := (HB.out.cell (World.block_lt_of_cell? w _ hx278_0)).trans hx278_0
          replace hx278_1 := (HB.out.cell (World.block_lt_of_cell? w _ hx278_1)).trans hx278_1
          replace hx278_2 := (HB.out.cell (World.block_lt_of_cell? w _ hx278_2)).trans hx278_2
          replace hx278_3 := (HB.out.cell (World.block_lt_of_cell? w _ hx278_3)).trans hx278_3
          replace hx278_4 := (HB.out.cell (World.block_lt_of_cell? w _ hx278_4)).trans hx278_4
          replace hx278_5 := (HB.out.cell (World.block_lt_of_cell? w _ hx278_5)).trans hx278_5
          replace hx278_6 := (HB.out.cell (World.block_lt_of_cell? w _ hx278_6)).trans hx278_6
          replace hx278_7 := (HB.out.cell (World.block_lt_of_cell? w _ hx278_7)).trans hx278_7
          replace hx278_8 := (HB.out.cell (World.block_lt_of_cell? w _ hx278_8)).trans hx278_8
          replace p278 := eq_true p278
          replace q278 := eq_true q278
          try go_wp2_with (first | ((with_reducible refine gate_dst (N := 5) rfl ?_); refine box_event ?hg (N := 5) ?hd (cs := #[.int .i64 0, .int .i64 0, .int .i64 0, .int .i64 0, .int .i64 0, .string (⟨#[]⟩ : ByteArray), .string (⟨#[]⟩ : ByteArray), .int .i64 0, .int .i64 0]) (t := 82) ?hr ?_; (case hd => rfl); (case hg => rfl); (case hr => first | (go_simp; done) | (go_simp; rfl)); intro gb279 hg w12 hbox hb; have n0_ := Aside0.mk (Kd.R_below (rr_ HO_3) hb); have n1_ := Aside0.mk (below_step (hb_ HB) hb); have n2_ := Aside0.mk (hbox); have n3_ := Aside0.mk ((by rw [hg]; exact (below_size (hb_ HB)) : w.heap.size ≤ gb279)); have n4_ := Aside0.mk ((by rw [hg]; exact (below_size (hb_ HB)) : w.heap.size ≤ gb279)); clear HO_3; clear HB; have HO_3 := n0_; have HB := n1_; have BK279 := n2_; have GW279 := n3_; have GE279 := n4_; clear n0_ n1_ n2_ n3_ n4_; clear hb hbox hg; have hcz13_0 : w12.cell? ⟨gb279, 0, none⟩ = some (.int .i64 0) := (blk_cell BK279.out 0).trans rfl; have hcz13_1 : w12.cell? ⟨gb279, 1, none⟩ = some (.int .i64 0) := (blk_cell BK279.out 1).trans rfl; have hcz13_2 : w12.cell? ⟨gb279, 2, none⟩ = some (.int .i64 0) := (blk_cell BK279.out 2).trans rfl; have hcz13_3 : w12.cell? ⟨gb279, 3, none⟩ = some (.int .i64 0) := (blk_cell BK279.out 3).trans rfl; have hcz13_4 : w12.cell? ⟨gb279, 4, none⟩ = some (.int .i64 0) := (blk_cell BK279.out 4).trans rfl; have hcz13_5 : w12.cell? ⟨gb279, 5, none⟩ = some (.string (⟨#[]⟩ : ByteArray)) := (blk_cell BK279.out 5).trans rfl; have hcz13_6 : w12.cell? ⟨gb279, 6, none⟩ = some (.string (⟨#[]⟩ : ByteArray)) := (blk_cell BK279.out 6).trans rfl; have hcz13_7 : w12.cell? ⟨gb279, 7, none⟩ = some (.int .i64 0) := (blk_cell BK279.out 7).trans rfl; have hcz13_8 : w12.cell? ⟨gb279, 8, none⟩ = some (.int .i64 0) := (blk_cell BK279.out 8).trans rfl; have hfz13_0 := blk_frozen BK279.out 0; have hfz13_1 := blk_frozen BK279.out 1; have hfz13_2 := blk_frozen BK279.out 2; have hfz13_3 := blk_frozen BK279.out 3; have hfz13_4 := blk_frozen BK279.out 4; have hfz13_5 := blk_frozen BK279.out 5; have hfz13_6 := blk_frozen BK279.out 6; have hfz13_7 := blk_frozen BK279.out 7; have hfz13_8 := blk_frozen BK279.out 8))
          have n0_ : Aside0 (Kd.R (Kd.int .i64) 3 (((((((((w12.setCell ⟨gb279, 0, none⟩ (.int .i64 ((rd_T82 l0 x8_1).f0))).setCell ⟨gb279, 1, none⟩ (.int .i64 ((rd_T82 l0 x8_1).f1))).setCell ⟨gb279, 2, none⟩ (.int .i64 ((rd_T82 l0 x8_1).f2))).setCell ⟨gb279, 3, none⟩ (.int .i64 ((rd_T82 l0 x8_1).f3.f0))).setCell ⟨gb279, 4, none⟩ (.int .i64 ((rd_T82 l0 x8_1).f3.f1))).setCell ⟨gb279, 5, none⟩ (.string ((rd_T82 l0 x8_1).f3.f2))).setCell ⟨gb279, 6, none⟩ (.string ((rd_T82 l0 x8_1).f3.f3))).setCell ⟨gb279, 7, none⟩ (.int .i64 ((rd_T82 l0 x8_1).f3.f4))).setCell ⟨gb279, 8, none⟩ (.int .i64 ((rd_T82 l0 x8_1).f3.f5))) w.heap.size (fun _ => True) u3 x3_1) := ⟨by (with_reducible repeat (first | apply Kd.R_alloc | apply Kd.R_drewN | apply Kd.R_drew)); exact Kd.R_mono (Kd.R_far (p := ⟨gb279, 8, none⟩) (Kd.R_far (p := ⟨gb279, 7, none⟩) (Kd.R_far (p := ⟨gb279, 6, none⟩) (Kd.R_far (p := ⟨gb279, 5, none⟩) (Kd.R_far (p := ⟨gb279, 4, none⟩) (Kd.R_far (p := ⟨gb279, 3, none⟩) (Kd.R_far (p := ⟨gb279, 2, none⟩) (Kd.R_far (p := ⟨gb279, 1, none⟩) (Kd.R_far (p := ⟨gb279, 0, none⟩) (Kd.R_types HO_3.out BK279.out (by decide)) (fun _ hk => hk.2) (.int .i64 ((rd_T82 l0 x8_1).f0))) (fun _ hk => hk.2) (.int .i64 ((rd_T82 l0 x8_1).f1))) (fun _ hk => hk.2) (.int .i64 ((rd_T82 l0 x8_1).f2))) (fun _ hk => hk.2) (.int .i64 ((rd_T82 l0 x8_1).f3.f0))) (fun _ hk => hk.2) (.int .i64 ((rd_T82 l0 x8_1).f3.f1))) (fun _ hk => hk.2) (.string ((rd_T82 l0 x8_1).f3.f2))) (fun _ hk => hk.2) (.string ((rd_T82 l0 x8_1).f3.f3))) (fun _ hk => hk.2) (.int .i64 ((rd_T82 l0 x8_1).f3.f4))) (fun _ hk => hk.2) (.int .i64 ((rd_T82 l0 x8_1).f3.f5))) (fun _ hk => trivial)⟩
          have n1_ : Aside0 ((((((((((w12.setCell ⟨gb279, 0, none⟩ (.int .i64 ((rd_T82 l0 x8_1).f0))).setCell ⟨gb279, 1, none⟩ (.int .i64 ((rd_T82 l0 x8_1).f1))).setCell ⟨gb279, 2, none⟩ (.int .i64 ((rd_T82 l0 x8_1).f2))).setCell ⟨gb279, 3, none⟩ (.int .i64 ((rd_T82 l0 x8_1).f3.f0))).setCell ⟨gb279, 4, none⟩ (.int .i64 ((rd_T82 l0 x8_1).f3.f1))).setCell ⟨gb279, 5, none⟩ (.string ((rd_T82 l0 x8_1).f3.f2))).setCell ⟨gb279, 6, none⟩ (.string ((rd_T82 l0 x8_1).f3.f3))).setCell ⟨gb279, 7, none⟩ (.int .i64 ((rd_T82 l0 x8_1).f3.f4))).setCell ⟨gb279, 8, none⟩ (.int .i64 ((rd_T82 l0 x8_1).f3.f5))).heap[gb279]? = some (.cells #[.int .i64 ((rd_T82 l0 x8_1).f0), .int .i64 ((rd_T82 l0 x8_1).f1), .int .i64 ((rd_T82 l0 x8_1).f2), .int .i64 ((rd_T82 l0 x8_1).f3.f0), .int .i64 ((rd_T82 l0 x8_1).f3.f1), .string ((rd_T82 l0 x8_1).f3.f2), .string ((rd_T82 l0 x8_1).f3.f3), .int .i64 ((rd_T82 l0 x8_1).f3.f4), .int .i64 ((rd_T82 l0 x8_1).f3.f5)] 82 (0, 0))) := ⟨by (with_reducible repeat (first | refine blk_drewN ?_ _ | refine blk_drew ?_ | refine blk_alloc ?_ _)); refine blk_put (cs := #[.int .i64 ((rd_T82 l0 x8_1).f0), .int .i64 ((rd_T82 l0 x8_1).f1), .int .i64 ((rd_T82 l0 x8_1).f2), .int .i64 ((rd_T82 l0 x8_1).f3.f0), .int .i64 ((rd_T82 l0 x8_1).f3.f1), .string ((rd_T82 l0 x8_1).f3.f2), .string ((rd_T82 l0 x8_1).f3.f3), .int .i64 ((rd_T82 l0 x8_1).f3.f4), .int .i64 0]) ?_ 8 _ rfl; (with_reducible repeat (first | refine blk_drewN ?_ _ | refine blk_drew ?_ | refine blk_alloc ?_ _)); refine blk_put (cs := #[.int .i64 ((rd_T82 l0 x8_1).f0), .int .i64 ((rd_T82 l0 x8_1).f1), .int .i64 ((rd_T82 l0 x8_1).f2), .int .i64 ((rd_T82 l0 x8_1).f3.f0), .int .i64 ((rd_T82 l0 x8_1).f3.f1), .string ((rd_T82 l0 x8_1).f3.f2), .string ((rd_T82 l0 x8_1).f3.f3), .int .i64 0, .int .i64 0]) ?_ 7 _ rfl; (with_reducible repeat (first | refine blk_drewN ?_ _ | refine blk_drew ?_ | refine blk_alloc ?_ _)); refine blk_put (cs := #[.int .i64 ((rd_T82 l0 x8_1).f0), .int .i64 ((rd_T82 l0 x8_1).f1), .int .i64 ((rd_T82 l0 x8_1).f2), .int .i64 ((rd_T82 l0 x8_1).f3.f0), .int .i64 ((rd_T82 l0 x8_1).f3.f1), .string ((rd_T82 l0 x8_1).f3.f2), .string (⟨#[]⟩ : ByteArray), .int .i64 0, .int .i64 0]) ?_ 6 _ rfl; (with_reducible repeat (first | refine blk_drewN ?_ _ | refine blk_drew ?_ | refine blk_alloc ?_ _)); refine blk_put (cs := #[.int .i64 ((rd_T82 l0 x8_1).f0), .int .i64 ((rd_T82 l0 x8_1).f1), .int .i64 ((rd_T82 l0 x8_1).f2), .int .i64 ((rd_T82 l0 x8_1).f3.f0), .int .i64 ((rd_T82 l0 x8_1).f3.f1), .string (⟨#[]⟩ : ByteArray), .string (⟨#[]⟩ : ByteArray), .int .i64 0, .int .i64 0]) ?_ 5 _ rfl; (with_reducible repeat (first | refine blk_drewN ?_ _ | refine blk_drew ?_ | refine blk_alloc ?_ _)); refine blk_put (cs := #[.int .i64 ((rd_T82 l0 x8_1).f0), .int .i64 ((rd_T82 l0 x8_1).f1), .int .i64 ((rd_T82 l0 x8_1).f2), .int .i64 ((rd_T82 l0 x8_1).f3.f0), .int .i64 0, .string (⟨#[]⟩ : ByteArray), .string (⟨#[]⟩ : ByteArray), .int .i64 0, .int .i64 0]) ?_ 4 _ rfl; (with_reducible repeat (first | refine blk_drewN ?_ _ | refine blk_drew ?_ | refine blk_alloc ?_ _)); refine blk_put (cs := #[.int .i64 ((rd_T82 l0 x8_1).f0), .int .i64 ((rd_T82 l0 x8_1).f1), .int .i64 ((rd_T82 l0 x8_1).f2), .int .i64 0, .int .i64 0, .string (⟨#[]⟩ : ByteArray), .string (⟨#[]⟩ : ByteArray), .int .i64 0, .int .i64 0]) ?_ 3 _ rfl; (with_reducible repeat (first | refine blk_drewN ?_ _ | refine blk_drew ?_ | refine blk_alloc ?_ _)); refine blk_put (cs := #[.int .i64 ((rd_T82 l0 x8_1).f0), .int .i64 ((rd_T82 l0 x8_1).f1), .int .i64 0, .int .i64 0, .int .i64 0, .string (⟨#[]⟩ : ByteArray), .string (⟨#[]⟩ : ByteArray), .int .i64 0, .int .i64 0]) ?_ 2 _ rfl; (with_reducible repeat (first | refine blk_drewN ?_ _ | refine blk_drew ?_ | refine blk_alloc ?_ _)); refine blk_put (cs := #[.int .i64 ((rd_T82 l0 x8_1).f0), .int .i64 0, .int .i64 0, .int .i64 0, .int .i64 0, .string (⟨#[]⟩ : ByteArray), .string (⟨#[]⟩ : ByteArray), .int .i64 0, .int .i64 0]) ?_ 1 _ rfl; (with_reducible repeat (first | refine blk_drewN ?_ _ | refine blk_drew ?_ | refine blk_alloc ?_ _)); refine blk_put (cs := #[.int .i64 0, .int .i64 0, .int .i64 0, .int .i64 0, .int .i64 0, .string (⟨#[]⟩ : ByteArray), .string (⟨#[]⟩ : ByteArray), .int .i64 0, .int .i64 0]) ?_ 0 _ rfl; (with_reducible repeat (first | refine blk_drewN ?_ _ | refine blk_drew ?_ | refine blk_alloc ?_ _)); exact BK279.out⟩
          have n2_ : Aside0 (Below w.heap.size w (((((((((w12.setCell ⟨gb279, 0, none⟩ (.int .i64 ((rd_T82 l0 x8_1).f0))).setCell ⟨gb279, 1, none⟩ (.int .i64 ((rd_T82 l0 x8_1).f1))).setCell ⟨gb279, 2, none⟩ (.int .i64 ((rd_T82 l0 x8_1).f2))).setCell ⟨gb279, 3, none⟩ (.int .i64 ((rd_T82 l0 x8_1).f3.f0))).setCell ⟨gb279, 4, none⟩ (.int .i64 ((rd_T82 l0 x8_1).f3.f1))).setCell ⟨gb279, 5, none⟩ (.string ((rd_T82 l0 x8_1).f3.f2))).setCell ⟨gb279, 6, none⟩ (.string ((rd_T82 l0 x8_1).f3.f3))).setCell ⟨gb279, 7, none⟩ (.int .i64 ((rd_T82 l0 x8_1).f3.f4))).setCell ⟨gb279, 8, none⟩ (.int .i64 ((rd_T82 l0 x8_1).f3.f5)))) := ⟨hs_ HB GE279⟩
          (try clear HO_3)
          (try clear BK279)
          (try clear HB)
          generalize (((((((((w12.setCell ⟨gb279, 0, none⟩ (.int .i64 ((rd_T82 l0 x8_1).f0))).setCell ⟨gb279, 1, none⟩ (.int .i64 ((rd_T82 l0 x8_1).f1))).setCell ⟨gb279, 2, none⟩ (.int .i64 ((rd_T82 l0 x8_1).f2))).setCell ⟨gb279, 3, none⟩ (.int .i64 ((rd_T82 l0 x8_1).f3.f0))).setCell ⟨gb279, 4, none⟩ (.int .i64 ((rd_T82 l0 x8_1).f3.f1))).setCell ⟨gb279, 5, none⟩ (.string ((rd_T82 l0 x8_1).f3.f2))).setCell ⟨gb279, 6, none⟩ (.string ((rd_T82 l0 x8_1).f3.f3))).setCell ⟨gb279, 7, none⟩ (.int .i64 ((rd_T82 l0 x8_1).f3.f4))).setCell ⟨gb279, 8, none⟩ (.int .i64 ((rd_T82 l0 x8_1).f3.f5))) = w14 at n0_ n1_ n2_ ⊢
          have HO_3 := n0_
          have BK279 := n1_
          have HB := n2_
          clear n0_ n1_ n2_
          have n0_ := Aside0.mk (Kd.R_drew HO_3.out)
          have n1_ := Aside0.mk (blk_drew BK279.out)
          have n2_ := Aside0.mk (below_drew1 HB.out)
          clear HO_3
          clear BK279
          clear HB
          have HO_3 := n0_
          have BK279 := n1_
          have HB := n2_
          clear n0_ n1_ n2_
          have q16 : (x8_1 : Int) ≤ ((l0.length : Int) : Int) := of_decide_eq_true as_
          obtain ⟨i016, hi016, _, hsz16, _⟩ := info_parts info82
          have hroom16 : l0.length ≤ c0 := HC0.out
          have hC16 : Kd.C k82 _ (some ad278) l0.length l0 := HR0.out
          have hcut16 := cut_to (P := Try.prog) 26 82 .i64 Try.underlying26 hi016 (some ad278) l0.length c0 x8_1 (of_decide_eq_true as_) q16 hroom16
          have hr16 := Kd.C_take (m := (x8_1 : Int).toNat) hC16 (by omega)
          have hy16 : y280.length = (x8_1 : Int).toNat := (by rw [Ny280.out, List.length_take]; omega)
          rw [← Ny280.out] at hr16
          rw [← hy16] at hcut16
          have HR283 := Aside0.mk hr16
          have HC283 := Aside0.mk (show y280.length ≤ c0 from by omega)
          clear hr16 hC16 hroom16 hi016 hsz16
          have KY16 := Aside0.mk hy16
          clear hy16
          replace q16 := eq_true q16
          refine start_ (n := 15) (S := fun w' => w'.cell? ⟨gb279, 0, none⟩ = some (.int .i64 ((rd_T82 l0 x8_1).f0)) ∧ w'.cell? ⟨gb279, 1, none⟩ = some (.int .i64 ((rd_T82 l0 x8_1).f1)) ∧ w'.cell? ⟨gb279, 2, none⟩ = some (.int .i64 ((rd_T82 l0 x8_1).f2)) ∧ w'.cell? ⟨gb279, 3, none⟩ = some (.int .i64 ((rd_T82 l0 x8_1).f3.f0)) ∧ w'.cell? ⟨gb279, 4, none⟩ = some (.int .i64 ((rd_T82 l0 x8_1).f3.f1)) ∧ w'.cell? ⟨gb279, 5, none⟩ = some (.string ((rd_T82 l0 x8_1).f3.f2)) ∧ w'.cell? ⟨gb279, 6, none⟩ = some (.string ((rd_T82 l0 x8_1).f3.f3)) ∧ w'.cell? ⟨gb279, 7, none⟩ = some (.int .i64 ((rd_T82 l0 x8_1).f3.f4)) ∧ w'.cell? ⟨gb279, 8, none⟩ = some (.int .i64 ((rd_T82 l0 x8_1).f3.f5))) (ds := []) #[o',o',o',o',o',o',o',o',o',o',o',o',o',o',o'] (by kernel_rfl) rfl rfl ⟨(blk_cell BK279.out 0).trans rfl, (blk_cell BK279.out 1).trans rfl, (blk_cell BK279.out 2).trans rfl, (blk_cell BK279.out 3).trans rfl, (blk_cell BK279.out 4).trans rfl, (blk_cell BK279.out 5).trans rfl, (blk_cell BK279.out 6).trans rfl, (blk_cell BK279.out 7).trans rfl, (blk_cell BK279.out 8).trans rfl⟩ (fun hHeld => ?_); refine with_tabW impl_Sealed.tab5 impl_Sealed.bits5 (fun HT_ HW_ => ?_)
          generalize w14.drew = w15 at HO_3 BK279 HB HR283 hHeld ⊢
          refine pure_ (i := 0) (N := some 13) (v := ?_) (a' := ?_) #[i',o',o',o',o',o',o',o',o',o',o',o',o',o',o'] rfl rfl (any_of HT_.out (by kernel_rfl)) (fun _ _ _ h => h) (Or.inl ⟨by rfl, ?_⟩) ?_ ?_
          rotate_left;·intro w';go_simp;with_reducible rfl
          rotate_left;·simp only [Act.put, la_, lz_, ls_, i64_w, i32_w];rfl
          refine pure_ (i := 1) (N := some 14) (v := ?_) (a' := ?_) #[i',i',o',o',o',o',o',o',o',o',o',o',o',o',o'] rfl rfl (any_of HT_.out (by kernel_rfl)) (fun _ _ _ h => h) (Or.inl ⟨by rfl, ?_⟩) ?_ ?_
          rotate_left;·intro w';go_simp;with_reducible rfl
          rotate_left;·simp only [Act.put, la_, lz_, ls_, i64_w, i32_w];rfl
          refine take_ (i := 2) (N := some 15) (v := ?_) (a' := ?_) #[i',i',i',o',o',o',o',o',o',o',o',o',o',o',o'] rfl rfl (take_ofW HT_.out HW_.out (by kernel_rfl)) (fun _ _ _ h => h) (Or.inl ⟨by rfl, ?_⟩) hHeld ?_ ?_
          rotate_left
          ·rintro w' ⟨s0, s1, s2, s3, s4, s5, s6, s7, s8⟩
           go_simp
           with_reducible rfl
          rotate_left
          ·simp only [Act.put, la_, lz_, ls_, i64_w, i32_w]
           rfl
          refine pure_ (i := 3) (N := some 16) (v := ?_) (a' := ?_) #[i',i',i',i',o',o',o',o',o',o',o',o',o',o',o'] rfl rfl (any_of HT_.out (by kernel_rfl)) (fun _ _ _ h => h) (Or.inl ⟨by rfl, ?_⟩) ?_ ?_
          rotate_left;·intro w';go_simp;with_reducible rfl
          rotate_left;·simp only [Act.put, la_, lz_, ls_, i64_w, i32_w];rfl
          refine pure_ (i := 4) (N := some 17) (v := ?_) (a' := ?_) #[i',i',i',i',i',o',o',o',o',o',o',o',o',o',o'] rfl rfl (any_of HT_.out (by kernel_rfl)) (fun _ _ _ h => h) (Or.inl ⟨by rfl, ?_⟩) ?_ ?_
          rotate_left;·intro w';go_simp;with_reducible rfl
          rotate_left;·simp only [Act.put, la_, lz_, ls_, i64_w, i32_w];rfl
          refine pure_ (i := 5) (N := some 18) (v := ?_) (a' := ?_) #[i',i',i',i',i',i',o',o',o',o',o',o',o',o',o'] rfl rfl (any_of HT_.out (by kernel_rfl)) (fun _ _ _ h => h) (Or.inl ⟨by rfl, ?_⟩) ?_ ?_
          rotate_left;·intro w';go_simp;with_reducible rfl
          rotate_left;·simp only [Act.put, la_, lz_, ls_, i64_w, i32_w];rfl
          refine pure_ (i := 7) (N := some 20) (v := ?_) (a' := ?_) #[i',i',i',i',i',i',o',i',o',o',o',o',o',o',o'] rfl rfl (any_of HT_.out (by kernel_rfl)) (fun _ _ _ h => h) (Or.inl ⟨by rfl, ?_⟩) ?_ ?_
          rotate_left;·intro w';go_simp;with_reducible rfl
          rotate_left;·simp only [Act.put, la_, lz_, ls_, i64_w, i32_w];rfl
          refine pure_ (i := 8) (N := some 21) (v := ?_) (a' := ?_) #[i',i',i',i',i',i',o',i',i',o',o',o',o',o',o'] rfl rfl (any_of HT_.out (by kernel_rfl)) (fun _ _ _ h => h) (Or.inl ⟨by rfl, ?_⟩) ?_ ?_
          rotate_left;·intro w';go_simp;with_reducible rfl
          rotate_left;·simp only [Act.put, la_, lz_, ls_, i64_w, i32_w];rfl
          refine pure_ (i := 9) (N := some 22) (v := ?_) (a' := ?_) #[i',i',i',i',i',i',o',i',i',i',o',o',o',o',o'] rfl rfl (any_of HT_.out (by kernel_rfl)) (fun _ _ _ h => h) (Or.inl ⟨by rfl, ?_⟩) ?_ ?_
          rotate_left;·intro w';go_simp;with_reducible rfl
          rotate_left;·simp only [Act.put, la_, lz_, ls_, i64_w, i32_w];rfl
          refine pure_ (i := 10) (N := some 23) (v := ?_) (a' := ?_) #[i',i',i',i',i',i',o',i',i',i',i',o',o',o',o'] rfl rfl (any_of HT_.out (by kernel_rfl)) (fun _ _ _ h => h) (Or.inl ⟨by rfl, ?_⟩) ?_ ?_
          rotate_left;·intro w';go_simp;with_reducible rfl
          rotate_left;·simp only [Act.put, la_, lz_, ls_, i64_w, i32_w];rfl
          refine take_ (i := 6) (N := some 19) (v := ?_) (a' := ?_) #[i',i',i',i',i',i',i',i',i',i',i',o',o',o',o'] rfl rfl (take_ofW HT_.out HW_.out (by kernel_rfl)) (fun _ _ _ h => h) (Or.inl ⟨by rfl, ?_⟩) hHeld ?_ ?_
          rotate_left
          ·rintro w' ⟨s0, s1, s2, s3, s4, s5, s6, s7, s8⟩
           go_simp
           with_reducible rfl
          rotate_left
          ·simp only [Act.put, la_, lz_, ls_, i64_w, i32_w]
           rfl
          refine take_ (i := 11) (N := some 24) (v := ?_) (a' := ?_) #[i',i',i',i',i',i',i',i',i',i',i',i',o',o',o'] rfl rfl (take_ofW HT_.out HW_.out (by kernel_rfl)) (fun _ _ _ h => h) (Or.inl ⟨by rfl, ?_⟩) hHeld ?_ ?_
          rotate_left
          ·rintro w' ⟨s0, s1, s2, s3, s4, s5, s6, s7, s8⟩
           go_simp
           with_reducible rfl
          rotate_left
          ·simp only [Act.put, la_, lz_, ls_, i64_w, i32_w]
           rfl
          refine one_ (i := 12) (N := some 25) #[i',i',i',i',i',i',i',i',i',i',i',i',i',o',o'] rfl rfl (one_of HT_.out (by kernel_rfl)) (by decide) (fun K hK => ?_)
          refine goes_ Try.func51 (by kernel_rfl) rfl #[.slice (some ad278) y280.length c0, .agg #[.int .i64 ((rd_T82 l0 x8_1).f3.f0), .int .i64 ((rd_T82 l0 x8_1).f3.f1), .string ((rd_T82 l0 x8_1).f3.f2), .string ((rd_T82 l0 x8_1).f3.f3), .int .i64 ((rd_T82 l0 x8_1).f3.f4), .int .i64 ((rd_T82 l0 x8_1).f3.f5)]] (by rfl) rfl rfl ar_ ?_
          with_reducible refine (impl_ownOf.calls k1 _ _ y280 ((rd_T82 l0 x8_1).f3.f0) ((rd_T82 l0 x8_1).f3.f1) ((rd_T82 l0 x8_1).f3.f2) ((rd_T82 l0 x8_1).f3.f3) ((rd_T82 l0 x8_1).f3.f4) ((rd_T82 l0 x8_1).f3.f5) t284 _ ?side1 ?side2 A8.out).mono ?_
          (case side1 => repeat (first | exact (Kd.C_below HR283.out HB.out) | (with_reducible refine Kd.C_alloc ?_ _) | (with_reducible refine Kd.C_drewN ?_ _) | (with_reducible refine Kd.C_drew ?_)))
          (case side2 => exact HC283.out)
          rintro e w17 ⟨v285, rfl, ho0, hb⟩
          refine ⟨_, rfl, ?_⟩
          have n0_ := Aside0.mk (Kd.R_below (rr_ HO_3) hb)
          have n1_ := Aside0.mk (Kd.R_lower (Kd.R_newB ho0 (g := gb279) (o := .cells #[.int .i64 ((rd_T82 l0 x8_1).f0), .int .i64 ((rd_T82 l0 x8_1).f1), .int .i64 ((rd_T82 l0 x8_1).f2), .int .i64 ((rd_T82 l0 x8_1).f3.f0), .int .i64 ((rd_T82 l0 x8_1).f3.f1), .string ((rd_T82 l0 x8_1).f3.f2), .string ((rd_T82 l0 x8_1).f3.f3), .int .i64 ((rd_T82 l0 x8_1).f3.f4), .int .i64 ((rd_T82 l0 x8_1).f3.f5)] 82 (0, 0)) (bk_ BK279)) (below_size (hs_ HB GE279)))
          have n2_ := Aside0.mk (blk_below (g := gb279) (o := .cells #[.int .i64 ((rd_T82 l0 x8_1).f0), .int .i64 ((rd_T82 l0 x8_1).f1), .int .i64 ((rd_T82 l0 x8_1).f2), .int .i64 ((rd_T82 l0 x8_1).f3.f0), .int .i64 ((rd_T82 l0 x8_1).f3.f1), .string ((rd_T82 l0 x8_1).f3.f2), .string ((rd_T82 l0 x8_1).f3.f3), .int .i64 ((rd_T82 l0 x8_1).f3.f4), .int .i64 ((rd_T82 l0 x8_1).f3.f5)] 82 (0, 0)) (bk_ BK279) hb)
          have n3_ := Aside0.mk (below_step (hs_ HB GE279) hb)
          clear HO_3
          clear BK279
          clear HB
          have HO_3 := n0_
          have HO286 := n1_
          have BK279 := n2_
          have HB := n3_
          clear n0_ n1_ n2_ n3_
          (try clear hb)
          (try clear hb2)
          (try clear hk)
          (try clear hi)
          (try clear ho0)
          obtain ⟨Ao18, co18, eo18⟩ := Kd.R_slice HO286.out
          (first | subst eo18 | (injection eo18 with f1_ f2_ f3_; have f4_ := f1_.symm; have f5_ := f3_.symm; clear f1_ f2_ f3_; subst f4_; subst f5_))
          refine hK.out _ _ ⟨(blk_cell BK279.out 0).trans rfl, (blk_cell BK279.out 1).trans rfl, (blk_cell BK279.out 2).trans rfl, (blk_cell BK279.out 3).trans rfl, (blk_cell BK279.out 4).trans rfl, (blk_cell BK279.out 5).trans rfl, (blk_cell BK279.out 6).trans rfl, (blk_cell BK279.out 7).trans rfl, (blk_cell BK279.out 8).trans rfl⟩ (fun hHeld => ?_)
          clear hK K
          refine norm_ (a' := ?_) ?_ ?_
          rotate_left
          ·show Act.put _ (some 25) _ = _
           simp only [Act.put, la_, lz_, ls_, i64_w, i32_w]
           rfl
          refine one_ (i := 13) (N := some 26) #[i',i',i',i',i',i',i',i',i',i',i',i',i',i',o'] rfl rfl (one_of HT_.out (by kernel_rfl)) (by decide) (fun K hK => ?_)
          refine goes_ Try.func50 (by kernel_rfl) rfl #[.agg #[.int .i64 ((rd_T82 l0 x8_1).f3.f0), .int .i64 ((rd_T82 l0 x8_1).f3.f1), .string ((rd_T82 l0 x8_1).f3.f2), .string ((rd_T82 l0 x8_1).f3.f3), .int .i64 ((rd_T82 l0 x8_1).f3.f4), .int .i64 ((rd_T82 l0 x8_1).f3.f5)], .slice Ao18 t284.length co18] (by rfl) rfl rfl ar_ ?_
          with_reducible refine (impl_fits.calls k1 ((rd_T82 l0 x8_1).f3.f0) ((rd_T82 l0 x8_1).f3.f1) ((rd_T82 l0 x8_1).f3.f2) ((rd_T82 l0 x8_1).f3.f3) ((rd_T82 l0 x8_1).f3.f4) ((rd_T82 l0 x8_1).f3.f5) _ _ t284 true _ ?side1 ?side2 A9.out).mono ?_
          (case side1 => repeat (first | exact (Kd.R_reads' HO286.out).2.2 | (with_reducible refine Kd.C_alloc ?_ _) | (with_reducible refine Kd.C_drewN ?_ _) | (with_reducible refine Kd.C_drew ?_)))
          (case side2 => exact (Kd.R_reads' HO286.out).2.1)
          rintro e w19 ⟨rfl, hb⟩
          refine ⟨_, rfl, ?_⟩
          have n0_ := Aside0.mk (Kd.R_below (rr_ HO_3) hb)
          have n1_ := Aside0.mk (Kd.R_below (rr_ HO286) hb)
          have n2_ := Aside0.mk (blk_below (g := gb279) (o := .cells #[.int .i64 ((rd_T82 l0 x8_1).f0), .int .i64 ((rd_T82 l0 x8_1).f1), .int .i64 ((rd_T82 l0 x8_1).f2), .int .i64 ((rd_T82 l0 x8_1).f3.f0), .int .i64 ((rd_T82 l0 x8_1).f3.f1), .string ((rd_T82 l0 x8_1).f3.f2), .string ((rd_T82 l0 x8_1).f3.f3), .int .i64 ((rd_T82 l0 x8_1).f3.f4), .int .i64 ((rd_T82 l0 x8_1).f3.f5)] 82 (0, 0)) (bk_ BK279) hb)
          have n3_ := Aside0.mk (below_step (hs_ HB GE279) hb)
          clear HO_3
          clear HO286
          clear BK279
          clear HB
          have HO_3 := n0_
          have HO286 := n1_
          have BK279 := n2_
          have HB := n3_
          clear n0_ n1_ n2_ n3_
          (try clear hb)
          (try clear hb2)
          (try clear hk)
          (try clear hi)
          refine hK.out _ _ ⟨(blk_cell BK279.out 0).trans rfl, (blk_cell BK279.out 1).trans rfl, (blk_cell BK279.out 2).trans rfl, (blk_cell BK279.out 3).trans rfl, (blk_cell BK279.out 4).trans rfl, (blk_cell BK279.out 5).trans rfl, (blk_cell BK279.out 6).trans rfl, (blk_cell BK279.out 7).trans rfl, (blk_cell BK279.out 8).trans rfl⟩ (fun hHeld => ?_)
          clear hK K
          refine norm_ (a' := ?_) ?_ ?_
          rotate_left
          ·show Act.put _ (some 26) _ = _
           simp only [Act.put, la_, lz_, ls_, i64_w, i32_w]
           rfl
          refine pure_ (i := 14) (N := some 27) (v := ?_) (a' := ?_) #[i',i',i',i',i',i',i',i',i',i',i',i',i',i',i'] rfl rfl (any_of HT_.out (by kernel_rfl)) (fun _ _ _ h => h) (Or.inl ⟨by rfl, ?_⟩) ?_ ?_
          rotate_left;·intro w';go_simp;with_reducible rfl
          rotate_left;·simp only [Act.put, la_, lz_, ls_, i64_w, i32_w];rfl
          refine done_ (done_of HT_.out (by kernel_rfl)) ?_
          have hcz20_0 : w19.cell? ⟨gb279, 0, none⟩ = some (.int .i64 ((rd_T82 l0 x8_1).f0)) := (blk_cell BK279.out 0).trans rfl
          have hcz20_1 : w19.cell? ⟨gb279, 1, none⟩ = some (.int .i64 ((rd_T82 l0 x8_1).f1)) := (blk_cell BK279.out 1).trans rfl
          have hcz20_2 : w19.cell? ⟨gb279, 2, none⟩ = some (.int .i64 ((rd_T82 l0 x8_1).f2)) := (blk_cell BK279.out 2).trans rfl
          have hcz20_3 : w19.cell? ⟨gb279, 3, none⟩ = some (.int .i64 ((rd_T82 l0 x8_1).f3.f0)) := (blk_cell BK279.out 3).trans rfl
          have hcz20_4 : w19.cell? ⟨gb279, 4, none⟩ = some (.int .i64 ((rd_T82 l0 x8_1).f3.f1)) := (blk_cell BK279.out 4).trans rfl
          have hcz20_5 : w19.cell? ⟨gb279, 5, none⟩ = some (.string ((rd_T82 l0 x8_1).f3.f2)) := (blk_cell BK279.out 5).trans rfl
          have hcz20_6 : w19.cell? ⟨gb279, 6, none⟩ = some (.string ((rd_T82 l0 x8_1).f3.f3)) := (blk_cell BK279.out 6).trans rfl
          have hcz20_7 : w19.cell? ⟨gb279, 7, none⟩ = some (.int .i64 ((rd_T82 l0 x8_1).f3.f4)) := (blk_cell BK279.out 7).trans rfl
          have hcz20_8 : w19.cell? ⟨gb279, 8, none⟩ = some (.int .i64 ((rd_T82 l0 x8_1).f3.f5)) := (blk_cell BK279.out 8).trans rfl
          have hfz20_0 := blk_frozen BK279.out 0
          have hfz20_1 := blk_frozen BK279.out 1
          have hfz20_2 := blk_frozen BK279.out 2
          have hfz20_3 := blk_frozen BK279.out 3
          have hfz20_4 := blk_frozen BK279.out 4
          have hfz20_5 := blk_frozen BK279.out 5
          have hfz20_6 := blk_frozen BK279.out 6
          have hfz20_7 := blk_frozen BK279.out 7
          have hfz20_8 := blk_frozen BK279.out 8
          try go_wp2_with (first | ((with_reducible refine gate_builtin (b := .append) (xs := #[.tmp 28, .tmp 32]) rfl ?_); at_builtin; refine Kd.R_append (Kd.int .i64) (w0 := w) w.heap.size rfl (.tmp 28) (.tmp 32) 24 3 (.int .i64 0) 8 rfl Try.underlying24 info3 rfl (by decide) (by omega) u3 x3_1 ((rd_T82 l0 x8_1).f3.f1) [.int .i64 ((rd_T82 l0 x8_1).f3.f1)] (fun _ => True) (fun _ => False) rfl rfl ?aP (fun _ hk => hk.elim) ?aF ?aO ?aB ?aS ?aL ?_; (case aP => exact rfl); (case aB => exact (hs_ HB GE279)); (case aF => exact (fun _ _ => trivial)); (case aO => exact (rr_ HO_3)); (case aS => exact (below_size (hs_ HB GE279))); (case aL => have := LMc11.out; omega); intro v289 w21 ho hb hg hat; rw [← Ny288.out] at ho; have n0_ := Aside0.mk (blk_grown (g := gb279) (o := .cells #[.int .i64 ((rd_T82 l0 x8_1).f0), .int .i64 ((rd_T82 l0 x8_1).f1), .int .i64 ((rd_T82 l0 x8_1).f2), .int .i64 ((rd_T82 l0 x8_1).f3.f0), .int .i64 ((rd_T82 l0 x8_1).f3.f1), .string ((rd_T82 l0 x8_1).f3.f2), .string ((rd_T82 l0 x8_1).f3.f3), .int .i64 ((rd_T82 l0 x8_1).f3.f4), .int .i64 ((rd_T82 l0 x8_1).f3.f5)] 82 (0, 0)) (bk_ BK279) hg (Kd.R_ne HO_3.out BK279.out (by decide))); have n1_ := Aside0.mk (Kd.R_over' (rr_ HO286) (Kd.R_typed (rr_ HO_3)) (by decide) hg); have n2_ := Aside0.mk (hb); have n3_ := Aside0.mk (ho); clear BK279; clear HO286; clear HB; clear HO_3; have BK279 := n0_; have HO286 := n1_; have HB := n2_; have HO290 := n3_; clear n0_ n1_ n2_ n3_; clear ho hb hg hat))
          go_roundg k1
          case measure => have := HK1.out; first | exact this | exact Nat.le_of_succ_le this | exact Nat.le_refl _ | omega
          case rel => exact ⟨(y288), (wrap64 (x8_1 + 1)), rs_, H', ⟨by have := HK1.out; first | exact this | exact Nat.le_of_succ_le this | exact Nat.le_refl _ | omega⟩, ⟨rr_ HO290⟩, ⟨hs_ HB GE279⟩⟩
         ·rw [if_neg c11] at H
          exact absurd H (by simp)
        ·replace c10 := Bool.eq_false_iff.mpr c10
         subst c10
         have H1 : (impl_Sealed.l0 k1 l0 x3_1 l0 (l0.length : Int) (wrap64 (x8_1 + 1))) = some r := by rw [if_neg (show ¬ (false = true) by decide)] at H; exact H
         clear H
         have H := H1
         clear H1
         have H' := Aside0.mk H
         clear H
         have p278 : 0 ≤ (x8_1 : Int) := of_decide_eq_true as_
         have q278 : x8_1 < (l0.length : Int) := of_decide_eq_true as_
         obtain ⟨ad278, e278, hx278_0, hx278_1, hx278_2, hx278_3, hx278_4, hx278_5, hx278_6, hx278_7, hx278_8⟩ := at_T82 HR0.out x8_1 p278 q278
         cases e278
         replace hx278_0 := (HB.out.cell (World.block_lt_of_cell? w _ hx278_0)).trans hx278_0
         replace hx278_1 := (HB.out.cell (World.block_lt_of_cell? w _ hx278_1)).trans hx278_1
         replace hx278_2 := (HB.out.cell (World.block_lt_of_cell? w _ hx278_2)).trans hx278_2
         replace hx278_3 := (HB.out.cell (World.block_lt_of_cell? w _ hx278_3)).trans hx278_3
         replace hx278_4 := (HB.out.cell (World.block_lt_of_cell? w _ hx278_4)).trans hx278_4
         replace hx278_5 := (HB.out.cell (World.block_lt_of_cell? w _ hx278_5)).trans hx278_5
         replace hx278_6 := (HB.out.cell (World.block_lt_of_cell? w _ hx278_6)).trans hx278_6
         replace hx278_7 := (HB.out.cell (World.block_lt_of_cell? w _ hx278_7)).trans hx278_7
         replace hx278_8 := (HB.out.cell (World.block_lt_of_cell? w _ hx278_8)).trans hx278_8
         replace p278 := eq_true p278
         replace q278 := eq_true q278
         try go_wp2_with (first | ((with_reducible refine gate_dst (N := 5) rfl ?_); refine box_event ?hg (N := 5) ?hd (cs := #[.int .i64 0, .int .i64 0, .int .i64 0, .int .i64 0, .int .i64 0, .string (⟨#[]⟩ : ByteArray), .string (⟨#[]⟩ : ByteArray), .int .i64 0, .int .i64 0]) (t := 82) ?hr ?_; (case hd => rfl); (case hg => rfl); (case hr => first | (go_simp; done) | (go_simp; rfl)); intro gb279 hg w22 hbox hb; have n0_ := Aside0.mk (Kd.R_below (rr_ HO_3) hb); have n1_ := Aside0.mk (below_step (hb_ HB) hb); have n2_ := Aside0.mk (hbox); have n3_ := Aside0.mk ((by rw [hg]; exact (below_size (hb_ HB)) : w.heap.size ≤ gb279)); have n4_ := Aside0.mk ((by rw [hg]; exact (below_size (hb_ HB)) : w.heap.size ≤ gb279)); clear HO_3; clear HB; have HO_3 := n0_; have HB := n1_; have BK279 := n2_; have GW279 := n3_; have GE279 := n4_; clear n0_ n1_ n2_ n3_ n4_; clear hb hbox hg; have hcz23_0 : w22.cell? ⟨gb279, 0, none⟩ = some (.int .i64 0) := (blk_cell BK279.out 0).trans rfl; have hcz23_1 : w22.cell? ⟨gb279, 1, none⟩ = some (.int .i64 0) := (blk_cell BK279.out 1).trans rfl; have hcz23_2 : w22.cell? ⟨gb279, 2, none⟩ = some (.int .i64 0) := (blk_cell BK279.out 2).trans rfl; have hcz23_3 : w22.cell? ⟨gb279, 3, none⟩ = some (.int .i64 0) := (blk_cell BK279.out 3).trans rfl; have hcz23_4 : w22.cell? ⟨gb279, 4, none⟩ = some (.int .i64 0) := (blk_cell BK279.out 4).trans rfl; have hcz23_5 : w22.cell? ⟨gb279, 5, none⟩ = some (.string (⟨#[]⟩ : ByteArray)) := (blk_cell BK279.out 5).trans rfl; have hcz23_6 : w22.cell? ⟨gb279, 6, none⟩ = some (.string (⟨#[]⟩ : ByteArray)) := (blk_cell BK279.out 6).trans rfl; have hcz23_7 : w22.cell? ⟨gb279, 7, none⟩ = some (.int .i64 0) := (blk_cell BK279.out 7).trans rfl; have hcz23_8 : w22.cell? ⟨gb279, 8, none⟩ = some (.int .i64 0) := (blk_cell BK279.out 8).trans rfl; have hfz23_0 := blk_frozen BK279.out 0; have hfz23_1 := blk_frozen BK279.out 1; have hfz23_2 := blk_frozen BK279.out 2; have hfz23_3 := blk_frozen BK279.out 3; have hfz23_4 := blk_frozen BK279.out 4; have hfz23_5 := blk_frozen BK279.out 5; have hfz23_6 := blk_frozen BK279.out 6; have hfz23_7 := blk_frozen BK279.out 7; have hfz23_8 := blk_frozen BK279.out 8))
         have n0_ : Aside0 (Kd.R (Kd.int .i64) 3 (((((((((w22.setCell ⟨gb279, 0, none⟩ (.int .i64 ((rd_T82 l0 x8_1).f0))).setCell ⟨gb279, 1, none⟩ (.int .i64 ((rd_T82 l0 x8_1).f1))).setCell ⟨gb279, 2, none⟩ (.int .i64 ((rd_T82 l0 x8_1).f2))).setCell ⟨gb279, 3, none⟩ (.int .i64 ((rd_T82 l0 x8_1).f3.f0))).setCell ⟨gb279, 4, none⟩ (.int .i64 ((rd_T82 l0 x8_1).f3.f1))).setCell ⟨gb279, 5, none⟩ (.string ((rd_T82 l0 x8_1).f3.f2))).setCell ⟨gb279, 6, none⟩ (.string ((rd_T82 l0 x8_1).f3.f3))).setCell ⟨gb279, 7, none⟩ (.int .i64 ((rd_T82 l0 x8_1).f3.f4))).setCell ⟨gb279, 8, none⟩ (.int .i64 ((rd_T82 l0 x8_1).f3.f5))) w.heap.size (fun _ => True) u3 x3_1) := ⟨by (with_reducible repeat (first | apply Kd.R_alloc | apply Kd.R_drewN | apply Kd.R_drew)); exact Kd.R_mono (Kd.R_far (p := ⟨gb279, 8, none⟩) (Kd.R_far (p := ⟨gb279, 7, none⟩) (Kd.R_far (p := ⟨gb279, 6, none⟩) (Kd.R_far (p := ⟨gb279, 5, none⟩) (Kd.R_far (p := ⟨gb279, 4, none⟩) (Kd.R_far (p := ⟨gb279, 3, none⟩) (Kd.R_far (p := ⟨gb279, 2, none⟩) (Kd.R_far (p := ⟨gb279, 1, none⟩) (Kd.R_far (p := ⟨gb279, 0, none⟩) (Kd.R_types HO_3.out BK279.out (by decide)) (fun _ hk => hk.2) (.int .i64 ((rd_T82 l0 x8_1).f0))) (fun _ hk => hk.2) (.int .i64 ((rd_T82 l0 x8_1).f1))) (fun _ hk => hk.2) (.int .i64 ((rd_T82 l0 x8_1).f2))) (fun _ hk => hk.2) (.int .i64 ((rd_T82 l0 x8_1).f3.f0))) (fun _ hk => hk.2) (.int .i64 ((rd_T82 l0 x8_1).f3.f1))) (fun _ hk => hk.2) (.string ((rd_T82 l0 x8_1).f3.f2))) (fun _ hk => hk.2) (.string ((rd_T82 l0 x8_1).f3.f3))) (fun _ hk => hk.2) (.int .i64 ((rd_T82 l0 x8_1).f3.f4))) (fun _ hk => hk.2) (.int .i64 ((rd_T82 l0 x8_1).f3.f5))) (fun _ hk => trivial)⟩
         have n1_ : Aside0 ((((((((((w22.setCell ⟨gb279, 0, none⟩ (.int .i64 ((rd_T82 l0 x8_1).f0))).setCell ⟨gb279, 1, none⟩ (.int .i64 ((rd_T82 l0 x8_1).f1))).setCell ⟨gb279, 2, none⟩ (.int .i64 ((rd_T82 l0 x8_1).f2))).setCell ⟨gb279, 3, none⟩ (.int .i64 ((rd_T82 l0 x8_1).f3.f0))).setCell ⟨gb279, 4, none⟩ (.int .i64 ((rd_T82 l0 x8_1).f3.f1))).setCell ⟨gb279, 5, none⟩ (.string ((rd_T82 l0 x8_1).f3.f2))).setCell ⟨gb279, 6, none⟩ (.string ((rd_T82 l0 x8_1).f3.f3))).setCell ⟨gb279, 7, none⟩ (.int .i64 ((rd_T82 l0 x8_1).f3.f4))).setCell ⟨gb279, 8, none⟩ (.int .i64 ((rd_T82 l0 x8_1).f3.f5))).heap[gb279]? = some (.cells #[.int .i64 ((rd_T82 l0 x8_1).f0), .int .i64 ((rd_T82 l0 x8_1).f1), .int .i64 ((rd_T82 l0 x8_1).f2), .int .i64 ((rd_T82 l0 x8_1).f3.f0), .int .i64 ((rd_T82 l0 x8_1).f3.f1), .string ((rd_T82 l0 x8_1).f3.f2), .string ((rd_T82 l0 x8_1).f3.f3), .int .i64 ((rd_T82 l0 x8_1).f3.f4), .int .i64 ((rd_T82 l0 x8_1).f3.f5)] 82 (0, 0))) := ⟨by (with_reducible repeat (first | refine blk_drewN ?_ _ | refine blk_drew ?_ | refine blk_alloc ?_ _)); refine blk_put (cs := #[.int .i64 ((rd_T82 l0 x8_1).f0), .int .i64 ((rd_T82 l0 x8_1).f1), .int .i64 ((rd_T82 l0 x8_1).f2), .int .i64 ((rd_T82 l0 x8_1).f3.f0), .int .i64 ((rd_T82 l0 x8_1).f3.f1), .string ((rd_T82 l0 x8_1).f3.f2), .string ((rd_T82 l0 x8_1).f3.f3), .int .i64 ((rd_T82 l0 x8_1).f3.f4), .int .i64 0]) ?_ 8 _ rfl; (with_reducible repeat (first | refine blk_drewN ?_ _ | refine blk_drew ?_ | refine blk_alloc ?_ _)); refine blk_put (cs := #[.int .i64 ((rd_T82 l0 x8_1).f0), .int .i64 ((rd_T82 l0 x8_1).f1), .int .i64 ((rd_T82 l0 x8_1).f2), .int .i64 ((rd_T82 l0 x8_1).f3.f0), .int .i64 ((rd_T82 l0 x8_1).f3.f1), .string ((rd_T82 l0 x8_1).f3.f2), .string ((rd_T82 l0 x8_1).f3.f3), .int .i64 0, .int .i64 0]) ?_ 7 _ rfl; (with_reducible repeat (first | refine blk_drewN ?_ _ | refine blk_drew ?_ | refine blk_alloc ?_ _)); refine blk_put (cs := #[.int .i64 ((rd_T82 l0 x8_1).f0), .int .i64 ((rd_T82 l0 x8_1).f1), .int .i64 ((rd_T82 l0 x8_1).f2), .int .i64 ((rd_T82 l0 x8_1).f3.f0), .int .i64 ((rd_T82 l0 x8_1).f3.f1), .string ((rd_T82 l0 x8_1).f3.f2), .string (⟨#[]⟩ : ByteArray), .int .i64 0, .int .i64 0]) ?_ 6 _ rfl; (with_reducible repeat (first | refine blk_drewN ?_ _ | refine blk_drew ?_ | refine blk_alloc ?_ _)); refine blk_put (cs := #[.int .i64 ((rd_T82 l0 x8_1).f0), .int .i64 ((rd_T82 l0 x8_1).f1), .int .i64 ((rd_T82 l0 x8_1).f2), .int .i64 ((rd_T82 l0 x8_1).f3.f0), .int .i64 ((rd_T82 l0 x8_1).f3.f1), .string (⟨#[]⟩ : ByteArray), .string (⟨#[]⟩ : ByteArray), .int .i64 0, .int .i64 0]) ?_ 5 _ rfl; (with_reducible repeat (first | refine blk_drewN ?_ _ | refine blk_drew ?_ | refine blk_alloc ?_ _)); refine blk_put (cs := #[.int .i64 ((rd_T82 l0 x8_1).f0), .int .i64 ((rd_T82 l0 x8_1).f1), .int .i64 ((rd_T82 l0 x8_1).f2), .int .i64 ((rd_T82 l0 x8_1).f3.f0), .int .i64 0, .string (⟨#[]⟩ : ByteArray), .string (⟨#[]⟩ : ByteArray), .int .i64 0, .int .i64 0]) ?_ 4 _ rfl; (with_reducible repeat (first | refine blk_drewN ?_ _ | refine blk_drew ?_ | refine blk_alloc ?_ _)); refine blk_put (cs := #[.int .i64 ((rd_T82 l0 x8_1).f0), .int .i64 ((rd_T82 l0 x8_1).f1), .int .i64 ((rd_T82 l0 x8_1).f2), .int .i64 0, .int .i64 0, .string (⟨#[]⟩ : ByteArray), .string (⟨#[]⟩ : ByteArray), .int .i64 0, .int .i64 0]) ?_ 3 _ rfl; (with_reducible repeat (first | refine blk_drewN ?_ _ | refine blk_drew ?_ | refine blk_alloc ?_ _)); refine blk_put (cs := #[.int .i64 ((rd_T82 l0 x8_1).f0), .int .i64 ((rd_T82 l0 x8_1).f1), .int .i64 0, .int .i64 0, .int .i64 0, .string (⟨#[]⟩ : ByteArray), .string (⟨#[]⟩ : ByteArray), .int .i64 0, .int .i64 0]) ?_ 2 _ rfl; (with_reducible repeat (first | refine blk_drewN ?_ _ | refine blk_drew ?_ | refine blk_alloc ?_ _)); refine blk_put (cs := #[.int .i64 ((rd_T82 l0 x8_1).f0), .int .i64 0, .int .i64 0, .int .i64 0, .int .i64 0, .string (⟨#[]⟩ : ByteArray), .string (⟨#[]⟩ : ByteArray), .int .i64 0, .int .i64 0]) ?_ 1 _ rfl; (with_reducible repeat (first | refine blk_drewN ?_ _ | refine blk_drew ?_ | refine blk_alloc ?_ _)); refine blk_put (cs := #[.int .i64 0, .int .i64 0, .int .i64 0, .int .i64 0, .int .i64 0, .string (⟨#[]⟩ : ByteArray), .string (⟨#[]⟩ : ByteArray), .int .i64 0, .int .i64 0]) ?_ 0 _ rfl; (with_reducible repeat (first | refine blk_drewN ?_ _ | refine blk_drew ?_ | refine blk_alloc ?_ _)); exact BK279.out⟩
         have n2_ : Aside0 (Below w.heap.size w (((((((((w22.setCell ⟨gb279, 0, none⟩ (.int .i64 ((rd_T82 l0 x8_1).f0))).setCell ⟨gb279, 1, none⟩ (.int .i64 ((rd_T82 l0 x8_1).f1))).setCell ⟨gb279, 2, none⟩ (.int .i64 ((rd_T82 l0 x8_1).f2))).setCell ⟨gb279, 3, none⟩ (.int .i64 ((rd_T82 l0 x8_1).f3.f0))).setCell ⟨gb279, 4, none⟩ (.int .i64 ((rd_T82 l0 x8_1).f3.f1))).setCell ⟨gb279, 5, none⟩ (.string ((rd_T82 l0 x8_1).f3.f2))).setCell ⟨gb279, 6, none⟩ (.string ((rd_T82 l0 x8_1).f3.f3))).setCell ⟨gb279, 7, none⟩ (.int .i64 ((rd_T82 l0 x8_1).f3.f4))).setCell ⟨gb279, 8, none⟩ (.int .i64 ((rd_T82 l0 x8_1).f3.f5)))) := ⟨hs_ HB GE279⟩
         (try clear HO_3)
         (try clear BK279)
         (try clear HB)
         generalize (((((((((w22.setCell ⟨gb279, 0, none⟩ (.int .i64 ((rd_T82 l0 x8_1).f0))).setCell ⟨gb279, 1, none⟩ (.int .i64 ((rd_T82 l0 x8_1).f1))).setCell ⟨gb279, 2, none⟩ (.int .i64 ((rd_T82 l0 x8_1).f2))).setCell ⟨gb279, 3, none⟩ (.int .i64 ((rd_T82 l0 x8_1).f3.f0))).setCell ⟨gb279, 4, none⟩ (.int .i64 ((rd_T82 l0 x8_1).f3.f1))).setCell ⟨gb279, 5, none⟩ (.string ((rd_T82 l0 x8_1).f3.f2))).setCell ⟨gb279, 6, none⟩ (.string ((rd_T82 l0 x8_1).f3.f3))).setCell ⟨gb279, 7, none⟩ (.int .i64 ((rd_T82 l0 x8_1).f3.f4))).setCell ⟨gb279, 8, none⟩ (.int .i64 ((rd_T82 l0 x8_1).f3.f5))) = w24 at n0_ n1_ n2_ ⊢
         have HO_3 := n0_
         have BK279 := n1_
         have HB := n2_
         clear n0_ n1_ n2_
         have n0_ := Aside0.mk (Kd.R_drew HO_3.out)
         have n1_ := Aside0.mk (blk_drew BK279.out)
         have n2_ := Aside0.mk (below_drew1 HB.out)
         clear HO_3
         clear BK279
         clear HB
         have HO_3 := n0_
         have BK279 := n1_
         have HB := n2_
         clear n0_ n1_ n2_
         have q26 : (x8_1 : Int) ≤ ((l0.length : Int) : Int) := of_decide_eq_true as_
         obtain ⟨i026, hi026, _, hsz26, _⟩ := info_parts info82
         have hroom26 : l0.length ≤ c0 := HC0.out
         have hC26 : Kd.C k82 _ (some ad278) l0.length l0 := HR0.out
         have hcut26 := cut_to (P := Try.prog) 26 82 .i64 Try.underlying26 hi026 (some ad278) l0.length c0 x8_1 (of_decide_eq_true as_) q26 hroom26
         have hr26 := Kd.C_take (m := (x8_1 : Int).toNat) hC26 (by omega)
         have hy26 : y280.length = (x8_1 : Int).toNat := (by rw [Ny280.out, List.length_take]; omega)
         rw [← Ny280.out] at hr26
         rw [← hy26] at hcut26
         have HR283 := Aside0.mk hr26
         have HC283 := Aside0.mk (show y280.length ≤ c0 from by omega)
         clear hr26 hC26 hroom26 hi026 hsz26
         have KY26 := Aside0.mk hy26
         clear hy26
         replace q26 := eq_true q26
         refine start_ (n := 15) (S := fun w' => w'.cell? ⟨gb279, 0, none⟩ = some (.int .i64 ((rd_T82 l0 x8_1).f0)) ∧ w'.cell? ⟨gb279, 1, none⟩ = some (.int .i64 ((rd_T82 l0 x8_1).f1)) ∧ w'.cell? ⟨gb279, 2, none⟩ = some (.int .i64 ((rd_T82 l0 x8_1).f2)) ∧ w'.cell? ⟨gb279, 3, none⟩ = some (.int .i64 ((rd_T82 l0 x8_1).f3.f0)) ∧ w'.cell? ⟨gb279, 4, none⟩ = some (.int .i64 ((rd_T82 l0 x8_1).f3.f1)) ∧ w'.cell? ⟨gb279, 5, none⟩ = some (.string ((rd_T82 l0 x8_1).f3.f2)) ∧ w'.cell? ⟨gb279, 6, none⟩ = some (.string ((rd_T82 l0 x8_1).f3.f3)) ∧ w'.cell? ⟨gb279, 7, none⟩ = some (.int .i64 ((rd_T82 l0 x8_1).f3.f4)) ∧ w'.cell? ⟨gb279, 8, none⟩ = some (.int .i64 ((rd_T82 l0 x8_1).f3.f5))) (ds := []) #[o',o',o',o',o',o',o',o',o',o',o',o',o',o',o'] (by kernel_rfl) rfl rfl ⟨(blk_cell BK279.out 0).trans rfl, (blk_cell BK279.out 1).trans rfl, (blk_cell BK279.out 2).trans rfl, (blk_cell BK279.out 3).trans rfl, (blk_cell BK279.out 4).trans rfl, (blk_cell BK279.out 5).trans rfl, (blk_cell BK279.out 6).trans rfl, (blk_cell BK279.out 7).trans rfl, (blk_cell BK279.out 8).trans rfl⟩ (fun hHeld => ?_); refine with_tabW impl_Sealed.tab5 impl_Sealed.bits5 (fun HT_ HW_ => ?_)
         generalize w24.drew = w25 at HO_3 BK279 HB HR283 hHeld ⊢
         refine pure_ (i := 0) (N := some 13) (v := ?_) (a' := ?_) #[i',o',o',o',o',o',o',o',o',o',o',o',o',o',o'] rfl rfl (any_of HT_.out (by kernel_rfl)) (fun _ _ _ h => h) (Or.inl ⟨by rfl, ?_⟩) ?_ ?_
         rotate_left;·intro w';go_simp;with_reducible rfl
         rotate_left;·simp only [Act.put, la_, lz_, ls_, i64_w, i32_w];rfl
         refine pure_ (i := 1) (N := some 14) (v := ?_) (a' := ?_) #[i',i',o',o',o',o',o',o',o',o',o',o',o',o',o'] rfl rfl (any_of HT_.out (by kernel_rfl)) (fun _ _ _ h => h) (Or.inl ⟨by rfl, ?_⟩) ?_ ?_
         rotate_left;·intro w';go_simp;with_reducible rfl
         rotate_left;·simp only [Act.put, la_, lz_, ls_, i64_w, i32_w];rfl
         refine take_ (i := 2) (N := some 15) (v := ?_) (a' := ?_) #[i',i',i',o',o',o',o',o',o',o',o',o',o',o',o'] rfl rfl (take_ofW HT_.out HW_.out (by kernel_rfl)) (fun _ _ _ h => h) (Or.inl ⟨by rfl, ?_⟩) hHeld ?_ ?_
         rotate_left
         ·rintro w' ⟨s0, s1, s2, s3, s4, s5, s6, s7, s8⟩
          go_simp
          with_reducible rfl
         rotate_left
         ·simp only [Act.put, la_, lz_, ls_, i64_w, i32_w]
          rfl
         refine pure_ (i := 3) (N := some 16) (v := ?_) (a' := ?_) #[i',i',i',i',o',o',o',o',o',o',o',o',o',o',o'] rfl rfl (any_of HT_.out (by kernel_rfl)) (fun _ _ _ h => h) (Or.inl ⟨by rfl, ?_⟩) ?_ ?_
         rotate_left;·intro w';go_simp;with_reducible rfl
         rotate_left;·simp only [Act.put, la_, lz_, ls_, i64_w, i32_w];rfl
         refine pure_ (i := 4) (N := some 17) (v := ?_) (a' := ?_) #[i',i',i',i',i',o',o',o',o',o',o',o',o',o',o'] rfl rfl (any_of HT_.out (by kernel_rfl)) (fun _ _ _ h => h) (Or.inl ⟨by rfl, ?_⟩) ?_ ?_
         rotate_left;·intro w';go_simp;with_reducible rfl
         rotate_left;·simp only [Act.put, la_, lz_, ls_, i64_w, i32_w];rfl
         refine pure_ (i := 5) (N := some 18) (v := ?_) (a' := ?_) #[i',i',i',i',i',i',o',o',o',o',o',o',o',o',o'] rfl rfl (any_of HT_.out (by kernel_rfl)) (fun _ _ _ h => h) (Or.inl ⟨by rfl, ?_⟩) ?_ ?_
         rotate_left;·intro w';go_simp;with_reducible rfl
         rotate_left;·simp only [Act.put, la_, lz_, ls_, i64_w, i32_w];rfl
         refine pure_ (i := 7) (N := some 20) (v := ?_) (a' := ?_) #[i',i',i',i',i',i',o',i',o',o',o',o',o',o',o'] rfl rfl (any_of HT_.out (by kernel_rfl)) (fun _ _ _ h => h) (Or.inl ⟨by rfl, ?_⟩) ?_ ?_
         rotate_left;·intro w';go_simp;with_reducible rfl
         rotate_left;·simp only [Act.put, la_, lz_, ls_, i64_w, i32_w];rfl
         refine pure_ (i := 8) (N := some 21) (v := ?_) (a' := ?_) #[i',i',i',i',i',i',o',i',i',o',o',o',o',o',o'] rfl rfl (any_of HT_.out (by kernel_rfl)) (fun _ _ _ h => h) (Or.inl ⟨by rfl, ?_⟩) ?_ ?_
         rotate_left;·intro w';go_simp;with_reducible rfl
         rotate_left;·simp only [Act.put, la_, lz_, ls_, i64_w, i32_w];rfl
         refine pure_ (i := 9) (N := some 22) (v := ?_) (a' := ?_) #[i',i',i',i',i',i',o',i',i',i',o',o',o',o',o'] rfl rfl (any_of HT_.out (by kernel_rfl)) (fun _ _ _ h => h) (Or.inl ⟨by rfl, ?_⟩) ?_ ?_
         rotate_left;·intro w';go_simp;with_reducible rfl
         rotate_left;·simp only [Act.put, la_, lz_, ls_, i64_w, i32_w];rfl
         refine pure_ (i := 10) (N := some 23) (v := ?_) (a' := ?_) #[i',i',i',i',i',i',o',i',i',i',i',o',o',o',o'] rfl rfl (any_of HT_.out (by kernel_rfl)) (fun _ _ _ h => h) (Or.inl ⟨by rfl, ?_⟩) ?_ ?_
         rotate_left;·intro w';go_simp;with_reducible rfl
         rotate_left;·simp only [Act.put, la_, lz_, ls_, i64_w, i32_w];rfl
         refine take_ (i := 6) (N := some 19) (v := ?_) (a' := ?_) #[i',i',i',i',i',i',i',i',i',i',i',o',o',o',o'] rfl rfl (take_ofW HT_.out HW_.out (by kernel_rfl)) (fun _ _ _ h => h) (Or.inl ⟨by rfl, ?_⟩) hHeld ?_ ?_
         rotate_left
         ·rintro w' ⟨s0, s1, s2, s3, s4, s5, s6, s7, s8⟩
          go_simp
          with_reducible rfl
         rotate_left
         ·simp only [Act.put, la_, lz_, ls_, i64_w, i32_w]
          rfl
         refine take_ (i := 11) (N := some 24) (v := ?_) (a' := ?_) #[i',i',i',i',i',i',i',i',i',i',i',i',o',o',o'] rfl rfl (take_ofW HT_.out HW_.out (by kernel_rfl)) (fun _ _ _ h => h) (Or.inl ⟨by rfl, ?_⟩) hHeld ?_ ?_
         rotate_left
         ·rintro w' ⟨s0, s1, s2, s3, s4, s5, s6, s7, s8⟩
          go_simp
          with_reducible rfl
         rotate_left
         ·simp only [Act.put, la_, lz_, ls_, i64_w, i32_w]
          rfl
         refine one_ (i := 12) (N := some 25) #[i',i',i',i',i',i',i',i',i',i',i',i',i',o',o'] rfl rfl (one_of HT_.out (by kernel_rfl)) (by decide) (fun K hK => ?_)
         refine goes_ Try.func51 (by kernel_rfl) rfl #[.slice (some ad278) y280.length c0, .agg #[.int .i64 ((rd_T82 l0 x8_1).f3.f0), .int .i64 ((rd_T82 l0 x8_1).f3.f1), .string ((rd_T82 l0 x8_1).f3.f2), .string ((rd_T82 l0 x8_1).f3.f3), .int .i64 ((rd_T82 l0 x8_1).f3.f4), .int .i64 ((rd_T82 l0 x8_1).f3.f5)]] (by rfl) rfl rfl ar_ ?_
         with_reducible refine (impl_ownOf.calls k1 _ _ y280 ((rd_T82 l0 x8_1).f3.f0) ((rd_T82 l0 x8_1).f3.f1) ((rd_T82 l0 x8_1).f3.f2) ((rd_T82 l0 x8_1).f3.f3) ((rd_T82 l0 x8_1).f3.f4) ((rd_T82 l0 x8_1).f3.f5) t284 _ ?side1 ?side2 A8.out).mono ?_
         (case side1 => repeat (first | exact (Kd.C_below HR283.out HB.out) | (with_reducible refine Kd.C_alloc ?_ _) | (with_reducible refine Kd.C_drewN ?_ _) | (with_reducible refine Kd.C_drew ?_)))
         (case side2 => exact HC283.out)
         rintro e w27 ⟨v285, rfl, ho0, hb⟩
         refine ⟨_, rfl, ?_⟩
         have n0_ := Aside0.mk (Kd.R_below (rr_ HO_3) hb)
         have n1_ := Aside0.mk (Kd.R_lower (Kd.R_newB ho0 (g := gb279) (o := .cells #[.int .i64 ((rd_T82 l0 x8_1).f0), .int .i64 ((rd_T82 l0 x8_1).f1), .int .i64 ((rd_T82 l0 x8_1).f2), .int .i64 ((rd_T82 l0 x8_1).f3.f0), .int .i64 ((rd_T82 l0 x8_1).f3.f1), .string ((rd_T82 l0 x8_1).f3.f2), .string ((rd_T82 l0 x8_1).f3.f3), .int .i64 ((rd_T82 l0 x8_1).f3.f4), .int .i64 ((rd_T82 l0 x8_1).f3.f5)] 82 (0, 0)) (bk_ BK279)) (below_size (hs_ HB GE279)))
         have n2_ := Aside0.mk (blk_below (g := gb279) (o := .cells #[.int .i64 ((rd_T82 l0 x8_1).f0), .int .i64 ((rd_T82 l0 x8_1).f1), .int .i64 ((rd_T82 l0 x8_1).f2), .int .i64 ((rd_T82 l0 x8_1).f3.f0), .int .i64 ((rd_T82 l0 x8_1).f3.f1), .string ((rd_T82 l0 x8_1).f3.f2), .string ((rd_T82 l0 x8_1).f3.f3), .int .i64 ((rd_T82 l0 x8_1).f3.f4), .int .i64 ((rd_T82 l0 x8_1).f3.f5)] 82 (0, 0)) (bk_ BK279) hb)
         have n3_ := Aside0.mk (below_step (hs_ HB GE279) hb)
         clear HO_3
         clear BK279
         clear HB
         have HO_3 := n0_
         have HO286 := n1_
         have BK279 := n2_
         have HB := n3_
         clear n0_ n1_ n2_ n3_
         (try clear hb)
         (try clear hb2)
         (try clear hk)
         (try clear hi)
         (try clear ho0)
         obtain ⟨Ao28, co28, eo28⟩ := Kd.R_slice HO286.out
         (first | subst eo28 | (injection eo28 with f1_ f2_ f3_; have f4_ := f1_.symm; have f5_ := f3_.symm; clear f1_ f2_ f3_; subst f4_; subst f5_))
         refine hK.out _ _ ⟨(blk_cell BK279.out 0).trans rfl, (blk_cell BK279.out 1).trans rfl, (blk_cell BK279.out 2).trans rfl, (blk_cell BK279.out 3).trans rfl, (blk_cell BK279.out 4).trans rfl, (blk_cell BK279.out 5).trans rfl, (blk_cell BK279.out 6).trans rfl, (blk_cell BK279.out 7).trans rfl, (blk_cell BK279.out 8).trans rfl⟩ (fun hHeld => ?_)
         clear hK K
         refine norm_ (a' := ?_) ?_ ?_
         rotate_left
         ·show Act.put _ (some 25) _ = _
          simp only [Act.put, la_, lz_, ls_, i64_w, i32_w]
          rfl
         refine one_ (i := 13) (N := some 26) #[i',i',i',i',i',i',i',i',i',i',i',i',i',i',o'] rfl rfl (one_of HT_.out (by kernel_rfl)) (by decide) (fun K hK => ?_)
         refine goes_ Try.func50 (by kernel_rfl) rfl #[.agg #[.int .i64 ((rd_T82 l0 x8_1).f3.f0), .int .i64 ((rd_T82 l0 x8_1).f3.f1), .string ((rd_T82 l0 x8_1).f3.f2), .string ((rd_T82 l0 x8_1).f3.f3), .int .i64 ((rd_T82 l0 x8_1).f3.f4), .int .i64 ((rd_T82 l0 x8_1).f3.f5)], .slice Ao28 t284.length co28] (by rfl) rfl rfl ar_ ?_
         with_reducible refine (impl_fits.calls k1 ((rd_T82 l0 x8_1).f3.f0) ((rd_T82 l0 x8_1).f3.f1) ((rd_T82 l0 x8_1).f3.f2) ((rd_T82 l0 x8_1).f3.f3) ((rd_T82 l0 x8_1).f3.f4) ((rd_T82 l0 x8_1).f3.f5) _ _ t284 false _ ?side1 ?side2 A9.out).mono ?_
         (case side1 => repeat (first | exact (Kd.R_reads' HO286.out).2.2 | (with_reducible refine Kd.C_alloc ?_ _) | (with_reducible refine Kd.C_drewN ?_ _) | (with_reducible refine Kd.C_drew ?_)))
         (case side2 => exact (Kd.R_reads' HO286.out).2.1)
         rintro e w29 ⟨rfl, hb⟩
         refine ⟨_, rfl, ?_⟩
         have n0_ := Aside0.mk (Kd.R_below (rr_ HO_3) hb)
         have n1_ := Aside0.mk (Kd.R_below (rr_ HO286) hb)
         have n2_ := Aside0.mk (blk_below (g := gb279) (o := .cells #[.int .i64 ((rd_T82 l0 x8_1).f0), .int .i64 ((rd_T82 l0 x8_1).f1), .int .i64 ((rd_T82 l0 x8_1).f2), .int .i64 ((rd_T82 l0 x8_1).f3.f0), .int .i64 ((rd_T82 l0 x8_1).f3.f1), .string ((rd_T82 l0 x8_1).f3.f2), .string ((rd_T82 l0 x8_1).f3.f3), .int .i64 ((rd_T82 l0 x8_1).f3.f4), .int .i64 ((rd_T82 l0 x8_1).f3.f5)] 82 (0, 0)) (bk_ BK279) hb)
         have n3_ := Aside0.mk (below_step (hs_ HB GE279) hb)
         clear HO_3
         clear HO286
         clear BK279
         clear HB
         have HO_3 := n0_
         have HO286 := n1_
         have BK279 := n2_
         have HB := n3_
         clear n0_ n1_ n2_ n3_
         (try clear hb)
         (try clear hb2)
         (try clear hk)
         (try clear hi)
         refine hK.out _ _ ⟨(blk_cell BK279.out 0).trans rfl, (blk_cell BK279.out 1).trans rfl, (blk_cell BK279.out 2).trans rfl, (blk_cell BK279.out 3).trans rfl, (blk_cell BK279.out 4).trans rfl, (blk_cell BK279.out 5).trans rfl, (blk_cell BK279.out 6).trans rfl, (blk_cell BK279.out 7).trans rfl, (blk_cell BK279.out 8).trans rfl⟩ (fun hHeld => ?_)
         clear hK K
         refine norm_ (a' := ?_) ?_ ?_
         rotate_left
         ·show Act.put _ (some 26) _ = _
          simp only [Act.put, la_, lz_, ls_, i64_w, i32_w]
          rfl
         refine pure_ (i := 14) (N := some 27) (v := ?_) (a' := ?_) #[i',i',i',i',i',i',i',i',i',i',i',i',i',i',i'] rfl rfl (any_of HT_.out (by kernel_rfl)) (fun _ _ _ h => h) (Or.inl ⟨by rfl, ?_⟩) ?_ ?_
         rotate_left;·intro w';go_simp;with_reducible rfl
         rotate_left;·simp only [Act.put, la_, lz_, ls_, i64_w, i32_w];rfl
         refine done_ (done_of HT_.out (by kernel_rfl)) ?_
         try go_wp2
         go_roundg k1
         case measure => have := HK1.out; first | exact this | exact Nat.le_of_succ_le this | exact Nat.le_refl _ | omega
         case rel => exact ⟨(x3_1), (wrap64 (x8_1 + 1)), rs_, H', ⟨by have := HK1.out; first | exact this | exact Nat.le_of_succ_le this | exact Nat.le_refl _ | omega⟩, ⟨rr_ HO_3⟩, ⟨hs_ HB GE279⟩⟩
       ·rw [if_neg c7] at H
        exact absurd H (by simp)
      ·rw [if_neg c5] at H
       have c5b0 : (((rd_T82 l0 x8_1).f3.f0) == 3) = false := beq_eq_false_iff_ne.mpr c5
       have c5b1 : (((rd_T82 l0 x8_1).f3.f0) != 3) = true := bne_iff_ne.mpr c5
       have H' := Aside0.mk H
       clear H
       have p278 : 0 ≤ (x8_1 : Int) := of_decide_eq_true as_
       have q278 : x8_1 < (l0.length : Int) := of_decide_eq_true as_
       obtain ⟨ad278, e278, hx278_0, hx278_1, hx278_2, hx278_3, hx278_4, hx278_5, hx278_6, hx278_7, hx278_8⟩ := at_T82 HR0.out x8_1 p278 q278
       cases e278
       replace hx278_0 := (HB.out.cell (World.block_lt_of_cell? w _ hx278_0)).trans hx278_0
       replace hx278_1 := (HB.out.cell (World.block_lt_of_cell? w _ hx278_1)).trans hx278_1
       replace hx278_2 := (HB.out.cell (World.block_lt_of_cell? w _ hx278_2)).trans hx278_2
       replace hx278_3 := (HB.out.cell (World.block_lt_of_cell? w _ hx278_3)).trans hx278_3
       replace hx278_4 := (HB.out.cell (World.block_lt_of_cell? w _ hx278_4)).trans hx278_4
       replace hx278_5 := (HB.out.cell (World.block_lt_of_cell? w _ hx278_5)).trans hx278_5
       replace hx278_6 := (HB.out.cell (World.block_lt_of_cell? w _ hx278_6)).trans hx278_6
       replace hx278_7 := (HB.out.cell (World.block_lt_of_cell? w _ hx278_7)).trans hx278_7
       replace hx278_8 := (HB.out.cell (World.block_lt_of_cell? w _ hx278_8)).trans hx278_8
       replace p278 := eq_true p278
       replace q278 := eq_true q278
       try go_wp2_with (first | ((with_reducible refine gate_dst (N := 5) rfl ?_); refine box_event ?hg (N := 5) ?hd (cs := #[.int .i64 0, .int .i64 0, .int .i64 0, .int .i64 0, .int .i64 0, .string (⟨#[]⟩ : ByteArray), .string (⟨#[]⟩ : ByteArray), .int .i64 0, .int .i64 0]) (t := 82) ?hr ?_; (case hd => rfl); (case hg => rfl); (case hr => first | (go_simp; done) | (go_simp; rfl)); intro gb279 hg w30 hbox hb; have n0_ := Aside0.mk (Kd.R_below (rr_ HO_3) hb); have n1_ := Aside0.mk (below_step (hb_ HB) hb); have n2_ := Aside0.mk (hbox); have n3_ := Aside0.mk ((by rw [hg]; exact (below_size (hb_ HB)) : w.heap.size ≤ gb279)); have n4_ := Aside0.mk ((by rw [hg]; exact (below_size (hb_ HB)) : w.heap.size ≤ gb279)); clear HO_3; clear HB; have HO_3 := n0_; have HB := n1_; have BK279 := n2_; have GW279 := n3_; have GE279 := n4_; clear n0_ n1_ n2_ n3_ n4_; clear hb hbox hg; have hcz31_0 : w30.cell? ⟨gb279, 0, none⟩ = some (.int .i64 0) := (blk_cell BK279.out 0).trans rfl; have hcz31_1 : w30.cell? ⟨gb279, 1, none⟩ = some (.int .i64 0) := (blk_cell BK279.out 1).trans rfl; have hcz31_2 : w30.cell? ⟨gb279, 2, none⟩ = some (.int .i64 0) := (blk_cell BK279.out 2).trans rfl; have hcz31_3 : w30.cell? ⟨gb279, 3, none⟩ = some (.int .i64 0) := (blk_cell BK279.out 3).trans rfl; have hcz31_4 : w30.cell? ⟨gb279, 4, none⟩ = some (.int .i64 0) := (blk_cell BK279.out 4).trans rfl; have hcz31_5 : w30.cell? ⟨gb279, 5, none⟩ = some (.string (⟨#[]⟩ : ByteArray)) := (blk_cell BK279.out 5).trans rfl; have hcz31_6 : w30.cell? ⟨gb279, 6, none⟩ = some (.string (⟨#[]⟩ : ByteArray)) := (blk_cell BK279.out 6).trans rfl; have hcz31_7 : w30.cell? ⟨gb279, 7, none⟩ = some (.int .i64 0) := (blk_cell BK279.out 7).trans rfl; have hcz31_8 : w30.cell? ⟨gb279, 8, none⟩ = some (.int .i64 0) := (blk_cell BK279.out 8).trans rfl; have hfz31_0 := blk_frozen BK279.out 0; have hfz31_1 := blk_frozen BK279.out 1; have hfz31_2 := blk_frozen BK279.out 2; have hfz31_3 := blk_frozen BK279.out 3; have hfz31_4 := blk_frozen BK279.out 4; have hfz31_5 := blk_frozen BK279.out 5; have hfz31_6 := blk_frozen BK279.out 6; have hfz31_7 := blk_frozen BK279.out 7; have hfz31_8 := blk_frozen BK279.out 8))
       have n0_ : Aside0 (Kd.R (Kd.int .i64) 3 (((((((((w30.setCell ⟨gb279, 0, none⟩ (.int .i64 ((rd_T82 l0 x8_1).f0))).setCell ⟨gb279, 1, none⟩ (.int .i64 ((rd_T82 l0 x8_1).f1))).setCell ⟨gb279, 2, none⟩ (.int .i64 ((rd_T82 l0 x8_1).f2))).setCell ⟨gb279, 3, none⟩ (.int .i64 ((rd_T82 l0 x8_1).f3.f0))).setCell ⟨gb279, 4, none⟩ (.int .i64 ((rd_T82 l0 x8_1).f3.f1))).setCell ⟨gb279, 5, none⟩ (.string ((rd_T82 l0 x8_1).f3.f2))).setCell ⟨gb279, 6, none⟩ (.string ((rd_T82 l0 x8_1).f3.f3))).setCell ⟨gb279, 7, none⟩ (.int .i64 ((rd_T82 l0 x8_1).f3.f4))).setCell ⟨gb279, 8, none⟩ (.int .i64 ((rd_T82 l0 x8_1).f3.f5))) w.heap.size (fun _ => True) u3 x3_1) := ⟨by (with_reducible repeat (first | apply Kd.R_alloc | apply Kd.R_drewN | apply Kd.R_drew)); exact Kd.R_mono (Kd.R_far (p := ⟨gb279, 8, none⟩) (Kd.R_far (p := ⟨gb279, 7, none⟩) (Kd.R_far (p := ⟨gb279, 6, none⟩) (Kd.R_far (p := ⟨gb279, 5, none⟩) (Kd.R_far (p := ⟨gb279, 4, none⟩) (Kd.R_far (p := ⟨gb279, 3, none⟩) (Kd.R_far (p := ⟨gb279, 2, none⟩) (Kd.R_far (p := ⟨gb279, 1, none⟩) (Kd.R_far (p := ⟨gb279, 0, none⟩) (Kd.R_types HO_3.out BK279.out (by decide)) (fun _ hk => hk.2) (.int .i64 ((rd_T82 l0 x8_1).f0))) (fun _ hk => hk.2) (.int .i64 ((rd_T82 l0 x8_1).f1))) (fun _ hk => hk.2) (.int .i64 ((rd_T82 l0 x8_1).f2))) (fun _ hk => hk.2) (.int .i64 ((rd_T82 l0 x8_1).f3.f0))) (fun _ hk => hk.2) (.int .i64 ((rd_T82 l0 x8_1).f3.f1))) (fun _ hk => hk.2) (.string ((rd_T82 l0 x8_1).f3.f2))) (fun _ hk => hk.2) (.string ((rd_T82 l0 x8_1).f3.f3))) (fun _ hk => hk.2) (.int .i64 ((rd_T82 l0 x8_1).f3.f4))) (fun _ hk => hk.2) (.int .i64 ((rd_T82 l0 x8_1).f3.f5))) (fun _ hk => trivial)⟩
       have n1_ : Aside0 ((((((((((w30.setCell ⟨gb279, 0, none⟩ (.int .i64 ((rd_T82 l0 x8_1).f0))).setCell ⟨gb279, 1, none⟩ (.int .i64 ((rd_T82 l0 x8_1).f1))).setCell ⟨gb279, 2, none⟩ (.int .i64 ((rd_T82 l0 x8_1).f2))).setCell ⟨gb279, 3, none⟩ (.int .i64 ((rd_T82 l0 x8_1).f3.f0))).setCell ⟨gb279, 4, none⟩ (.int .i64 ((rd_T82 l0 x8_1).f3.f1))).setCell ⟨gb279, 5, none⟩ (.string ((rd_T82 l0 x8_1).f3.f2))).setCell ⟨gb279, 6, none⟩ (.string ((rd_T82 l0 x8_1).f3.f3))).setCell ⟨gb279, 7, none⟩ (.int .i64 ((rd_T82 l0 x8_1).f3.f4))).setCell ⟨gb279, 8, none⟩ (.int .i64 ((rd_T82 l0 x8_1).f3.f5))).heap[gb279]? = some (.cells #[.int .i64 ((rd_T82 l0 x8_1).f0), .int .i64 ((rd_T82 l0 x8_1).f1), .int .i64 ((rd_T82 l0 x8_1).f2), .int .i64 ((rd_T82 l0 x8_1).f3.f0), .int .i64 ((rd_T82 l0 x8_1).f3.f1), .string ((rd_T82 l0 x8_1).f3.f2), .string ((rd_T82 l0 x8_1).f3.f3), .int .i64 ((rd_T82 l0 x8_1).f3.f4), .int .i64 ((rd_T82 l0 x8_1).f3.f5)] 82 (0, 0))) := ⟨by (with_reducible repeat (first | refine blk_drewN ?_ _ | refine blk_drew ?_ | refine blk_alloc ?_ _)); refine blk_put (cs := #[.int .i64 ((rd_T82 l0 x8_1).f0), .int .i64 ((rd_T82 l0 x8_1).f1), .int .i64 ((rd_T82 l0 x8_1).f2), .int .i64 ((rd_T82 l0 x8_1).f3.f0), .int .i64 ((rd_T82 l0 x8_1).f3.f1), .string ((rd_T82 l0 x8_1).f3.f2), .string ((rd_T82 l0 x8_1).f3.f3), .int .i64 ((rd_T82 l0 x8_1).f3.f4), .int .i64 0]) ?_ 8 _ rfl; (with_reducible repeat (first | refine blk_drewN ?_ _ | refine blk_drew ?_ | refine blk_alloc ?_ _)); refine blk_put (cs := #[.int .i64 ((rd_T82 l0 x8_1).f0), .int .i64 ((rd_T82 l0 x8_1).f1), .int .i64 ((rd_T82 l0 x8_1).f2), .int .i64 ((rd_T82 l0 x8_1).f3.f0), .int .i64 ((rd_T82 l0 x8_1).f3.f1), .string ((rd_T82 l0 x8_1).f3.f2), .string ((rd_T82 l0 x8_1).f3.f3), .int .i64 0, .int .i64 0]) ?_ 7 _ rfl; (with_reducible repeat (first | refine blk_drewN ?_ _ | refine blk_drew ?_ | refine blk_alloc ?_ _)); refine blk_put (cs := #[.int .i64 ((rd_T82 l0 x8_1).f0), .int .i64 ((rd_T82 l0 x8_1).f1), .int .i64 ((rd_T82 l0 x8_1).f2), .int .i64 ((rd_T82 l0 x8_1).f3.f0), .int .i64 ((rd_T82 l0 x8_1).f3.f1), .string ((rd_T82 l0 x8_1).f3.f2), .string (⟨#[]⟩ : ByteArray), .int .i64 0, .int .i64 0]) ?_ 6 _ rfl; (with_reducible repeat (first | refine blk_drewN ?_ _ | refine blk_drew ?_ | refine blk_alloc ?_ _)); refine blk_put (cs := #[.int .i64 ((rd_T82 l0 x8_1).f0), .int .i64 ((rd_T82 l0 x8_1).f1), .int .i64 ((rd_T82 l0 x8_1).f2), .int .i64 ((rd_T82 l0 x8_1).f3.f0), .int .i64 ((rd_T82 l0 x8_1).f3.f1), .string (⟨#[]⟩ : ByteArray), .string (⟨#[]⟩ : ByteArray), .int .i64 0, .int .i64 0]) ?_ 5 _ rfl; (with_reducible repeat (first | refine blk_drewN ?_ _ | refine blk_drew ?_ | refine blk_alloc ?_ _)); refine blk_put (cs := #[.int .i64 ((rd_T82 l0 x8_1).f0), .int .i64 ((rd_T82 l0 x8_1).f1), .int .i64 ((rd_T82 l0 x8_1).f2), .int .i64 ((rd_T82 l0 x8_1).f3.f0), .int .i64 0, .string (⟨#[]⟩ : ByteArray), .string (⟨#[]⟩ : ByteArray), .int .i64 0, .int .i64 0]) ?_ 4 _ rfl; (with_reducible repeat (first | refine blk_drewN ?_ _ | refine blk_drew ?_ | refine blk_alloc ?_ _)); refine blk_put (cs := #[.int .i64 ((rd_T82 l0 x8_1).f0), .int .i64 ((rd_T82 l0 x8_1).f1), .int .i64 ((rd_T82 l0 x8_1).f2), .int .i64 0, .int .i64 0, .string (⟨#[]⟩ : ByteArray), .string (⟨#[]⟩ : ByteArray), .int .i64 0, .int .i64 0]) ?_ 3 _ rfl; (with_reducible repeat (first | refine blk_drewN ?_ _ | refine blk_drew ?_ | refine blk_alloc ?_ _)); refine blk_put (cs := #[.int .i64 ((rd_T82 l0 x8_1).f0), .int .i64 ((rd_T82 l0 x8_1).f1), .int .i64 0, .int .i64 0, .int .i64 0, .string (⟨#[]⟩ : ByteArray), .string (⟨#[]⟩ : ByteArray), .int .i64 0, .int .i64 0]) ?_ 2 _ rfl; (with_reducible repeat (first | refine blk_drewN ?_ _ | refine blk_drew ?_ | refine blk_alloc ?_ _)); refine blk_put (cs := #[.int .i64 ((rd_T82 l0 x8_1).f0), .int .i64 0, .int .i64 0, .int .i64 0, .int .i64 0, .string (⟨#[]⟩ : ByteArray), .string (⟨#[]⟩ : ByteArray), .int .i64 0, .int .i64 0]) ?_ 1 _ rfl; (with_reducible repeat (first | refine blk_drewN ?_ _ | refine blk_drew ?_ | refine blk_alloc ?_ _)); refine blk_put (cs := #[.int .i64 0, .int .i64 0, .int .i64 0, .int .i64 0, .int .i64 0, .string (⟨#[]⟩ : ByteArray), .string (⟨#[]⟩ : ByteArray), .int .i64 0, .int .i64 0]) ?_ 0 _ rfl; (with_reducible repeat (first | refine blk_drewN ?_ _ | refine blk_drew ?_ | refine blk_alloc ?_ _)); exact BK279.out⟩
       have n2_ : Aside0 (Below w.heap.size w (((((((((w30.setCell ⟨gb279, 0, none⟩ (.int .i64 ((rd_T82 l0 x8_1).f0))).setCell ⟨gb279, 1, none⟩ (.int .i64 ((rd_T82 l0 x8_1).f1))).setCell ⟨gb279, 2, none⟩ (.int .i64 ((rd_T82 l0 x8_1).f2))).setCell ⟨gb279, 3, none⟩ (.int .i64 ((rd_T82 l0 x8_1).f3.f0))).setCell ⟨gb279, 4, none⟩ (.int .i64 ((rd_T82 l0 x8_1).f3.f1))).setCell ⟨gb279, 5, none⟩ (.string ((rd_T82 l0 x8_1).f3.f2))).setCell ⟨gb279, 6, none⟩ (.string ((rd_T82 l0 x8_1).f3.f3))).setCell ⟨gb279, 7, none⟩ (.int .i64 ((rd_T82 l0 x8_1).f3.f4))).setCell ⟨gb279, 8, none⟩ (.int .i64 ((rd_T82 l0 x8_1).f3.f5)))) := ⟨hs_ HB GE279⟩
       (try clear HO_3)
       (try clear BK279)
       (try clear HB)
       generalize (((((((((w30.setCell ⟨gb279, 0, none⟩ (.int .i64 ((rd_T82 l0 x8_1).f0))).setCell ⟨gb279, 1, none⟩ (.int .i64 ((rd_T82 l0 x8_1).f1))).setCell ⟨gb279, 2, none⟩ (.int .i64 ((rd_T82 l0 x8_1).f2))).setCell ⟨gb279, 3, none⟩ (.int .i64 ((rd_T82 l0 x8_1).f3.f0))).setCell ⟨gb279, 4, none⟩ (.int .i64 ((rd_T82 l0 x8_1).f3.f1))).setCell ⟨gb279, 5, none⟩ (.string ((rd_T82 l0 x8_1).f3.f2))).setCell ⟨gb279, 6, none⟩ (.string ((rd_T82 l0 x8_1).f3.f3))).setCell ⟨gb279, 7, none⟩ (.int .i64 ((rd_T82 l0 x8_1).f3.f4))).setCell ⟨gb279, 8, none⟩ (.int .i64 ((rd_T82 l0 x8_1).f3.f5))) = w32 at n0_ n1_ n2_ ⊢
       have HO_3 := n0_
       have BK279 := n1_
       have HB := n2_
       clear n0_ n1_ n2_
       have n0_ := Aside0.mk (Kd.R_drew HO_3.out)
       have n1_ := Aside0.mk (blk_drew BK279.out)
       have n2_ := Aside0.mk (below_drew1 HB.out)
       clear HO_3
       clear BK279
       clear HB
       have HO_3 := n0_
       have BK279 := n1_
       have HB := n2_
       clear n0_ n1_ n2_
       refine start_ (n := 15) (S := fun w' => w'.cell? ⟨gb279, 0, none⟩ = some (.int .i64 ((rd_T82 l0 x8_1).f0)) ∧ w'.cell? ⟨gb279, 1, none⟩ = some (.int .i64 ((rd_T82 l0 x8_1).f1)) ∧ w'.cell? ⟨gb279, 2, none⟩ = some (.int .i64 ((rd_T82 l0 x8_1).f2)) ∧ w'.cell? ⟨gb279, 3, none⟩ = some (.int .i64 ((rd_T82 l0 x8_1).f3.f0)) ∧ w'.cell? ⟨gb279, 4, none⟩ = some (.int .i64 ((rd_T82 l0 x8_1).f3.f1)) ∧ w'.cell? ⟨gb279, 5, none⟩ = some (.string ((rd_T82 l0 x8_1).f3.f2)) ∧ w'.cell? ⟨gb279, 6, none⟩ = some (.string ((rd_T82 l0 x8_1).f3.f3)) ∧ w'.cell? ⟨gb279, 7, none⟩ = some (.int .i64 ((rd_T82 l0 x8_1).f3.f4)) ∧ w'.cell? ⟨gb279, 8, none⟩ = some (.int .i64 ((rd_T82 l0 x8_1).f3.f5))) (ds := []) #[o',o',o',o',o',o',o',o',o',o',o',o',o',o',o'] (by kernel_rfl) rfl rfl ⟨(blk_cell BK279.out 0).trans rfl, (blk_cell BK279.out 1).trans rfl, (blk_cell BK279.out 2).trans rfl, (blk_cell BK279.out 3).trans rfl, (blk_cell BK279.out 4).trans rfl, (blk_cell BK279.out 5).trans rfl, (blk_cell BK279.out 6).trans rfl, (blk_cell BK279.out 7).trans rfl, (blk_cell BK279.out 8).trans rfl⟩ (fun hHeld => ?_); refine with_tabW impl_Sealed.tab5 impl_Sealed.bits5 (fun HT_ HW_ => ?_)
       generalize w32.drew = w33 at HO_3 BK279 HB hHeld ⊢
       refine pure_ (i := 0) (N := some 13) (v := ?_) (a' := ?_) #[i',o',o',o',o',o',o',o',o',o',o',o',o',o',o'] rfl rfl (any_of HT_.out (by kernel_rfl)) (fun _ _ _ h => h) (Or.inl ⟨by rfl, ?_⟩) ?_ ?_
       rotate_left;·intro w';go_simp;with_reducible rfl
       rotate_left;·simp only [Act.put, la_, lz_, ls_, i64_w, i32_w];rfl
       refine pure_ (i := 1) (N := some 14) (v := ?_) (a' := ?_) #[i',i',o',o',o',o',o',o',o',o',o',o',o',o',o'] rfl rfl (any_of HT_.out (by kernel_rfl)) (fun _ _ _ h => h) (Or.inl ⟨by rfl, ?_⟩) ?_ ?_
       rotate_left;·intro w';go_simp;with_reducible rfl
       rotate_left;·simp only [Act.put, la_, lz_, ls_, i64_w, i32_w];rfl
       refine take_ (i := 2) (N := some 15) (v := ?_) (a' := ?_) #[i',i',i',o',o',o',o',o',o',o',o',o',o',o',o'] rfl rfl (take_ofW HT_.out HW_.out (by kernel_rfl)) (fun _ _ _ h => h) (Or.inl ⟨by rfl, ?_⟩) hHeld ?_ ?_
       rotate_left
       ·rintro w' ⟨s0, s1, s2, s3, s4, s5, s6, s7, s8⟩
        go_simp
        with_reducible rfl
       rotate_left
       ·simp only [Act.put, la_, lz_, ls_, i64_w, i32_w]
        rfl
       refine pure_ (i := 3) (N := some 16) (v := ?_) (a' := ?_) #[i',i',i',i',o',o',o',o',o',o',o',o',o',o',o'] rfl rfl (any_of HT_.out (by kernel_rfl)) (fun _ _ _ h => h) (Or.inl ⟨by rfl, ?_⟩) ?_ ?_
       rotate_left;·intro w';go_simp;with_reducible rfl
       rotate_left;·simp only [Act.put, la_, lz_, ls_, i64_w, i32_w];rfl
       refine pure_ (i := 4) (N := some 17) (v := ?_) (a' := ?_) #[i',i',i',i',i',o',o',o',o',o',o',o',o',o',o'] rfl rfl (any_of HT_.out (by kernel_rfl)) (fun _ _ _ h => h) (Or.inl ⟨by rfl, ?_⟩) ?_ ?_
       rotate_left;·intro w';go_simp;with_reducible rfl
       rotate_left;·simp only [Act.put, la_, lz_, ls_, i64_w, i32_w];rfl
       refine pure_ (i := 5) (N := some 18) (v := undef) (a' := ?_) #[i',i',i',i',i',i',o',o',o',o',o',o',o',o',o'] rfl rfl (any_of HT_.out (by kernel_rfl)) (fun _ _ _ h => h) (Or.inr ⟨by rfl, rfl⟩) ?_ ?_
       rotate_left
       ·simp only [Act.put, la_, lz_, ls_, i64_w, i32_w]
        rfl
       refine pure_ (i := 6) (N := some 19) (v := undef) (a' := ?_) #[i',i',i',i',i',i',i',o',o',o',o',o',o',o',o'] rfl rfl (any_of HT_.out (by kernel_rfl)) (fun _ _ _ h => h) (Or.inr ⟨by rfl, rfl⟩) ?_ ?_
       rotate_left
       ·simp only [Act.put, la_, lz_, ls_, i64_w, i32_w]
        rfl
       refine pure_ (i := 7) (N := some 20) (v := undef) (a' := ?_) #[i',i',i',i',i',i',i',i',o',o',o',o',o',o',o'] rfl rfl (any_of HT_.out (by kernel_rfl)) (fun _ _ _ h => h) (Or.inr ⟨by rfl, rfl⟩) ?_ ?_
       rotate_left
       ·simp only [Act.put, la_, lz_, ls_, i64_w, i32_w]
        rfl
       refine pure_ (i := 8) (N := some 21) (v := undef) (a' := ?_) #[i',i',i',i',i',i',i',i',i',o',o',o',o',o',o'] rfl rfl (any_of HT_.out (by kernel_rfl)) (fun _ _ _ h => h) (Or.inr ⟨by rfl, rfl⟩) ?_ ?_
       rotate_left
       ·simp only [Act.put, la_, lz_, ls_, i64_w, i32_w]
        rfl
       refine pure_ (i := 9) (N := some 22) (v := undef) (a' := ?_) #[i',i',i',i',i',i',i',i',i',i',o',o',o',o',o'] rfl rfl (any_of HT_.out (by kernel_rfl)) (fun _ _ _ h => h) (Or.inr ⟨by rfl, rfl⟩) ?_ ?_
       rotate_left
       ·simp only [Act.put, la_, lz_, ls_, i64_w, i32_w]
        rfl
       refine pure_ (i := 10) (N := some 23) (v := undef) (a' := ?_) #[i',i',i',i',i',i',i',i',i',i',i',o',o',o',o'] rfl rfl (any_of HT_.out (by kernel_rfl)) (fun _ _ _ h => h) (Or.inr ⟨by rfl, rfl⟩) ?_ ?_
       rotate_left
       ·simp only [Act.put, la_, lz_, ls_, i64_w, i32_w]
        rfl
       refine pure_ (i := 11) (N := some 24) (v := undef) (a' := ?_) #[i',i',i',i',i',i',i',i',i',i',i',i',o',o',o'] rfl rfl (any_of HT_.out (by kernel_rfl)) (fun _ _ _ h => h) (Or.inr ⟨by rfl, rfl⟩) ?_ ?_
       rotate_left
       ·simp only [Act.put, la_, lz_, ls_, i64_w, i32_w]
        rfl
       refine pure_ (i := 12) (N := some 25) (v := undef) (a' := ?_) #[i',i',i',i',i',i',i',i',i',i',i',i',i',o',o'] rfl rfl (any_of HT_.out (by kernel_rfl)) (fun _ _ _ h => h) (Or.inr ⟨by rfl, rfl⟩) ?_ ?_
       rotate_left
       ·simp only [Act.put, la_, lz_, ls_, i64_w, i32_w]
        rfl
       refine pure_ (i := 13) (N := some 26) (v := undef) (a' := ?_) #[i',i',i',i',i',i',i',i',i',i',i',i',i',i',o'] rfl rfl (any_of HT_.out (by kernel_rfl)) (fun _ _ _ h => h) (Or.inr ⟨by rfl, rfl⟩) ?_ ?_
       rotate_left
       ·simp only [Act.put, la_, lz_, ls_, i64_w, i32_w]
        rfl
       refine pure_ (i := 14) (N := some 27) (v := ?_) (a' := ?_) #[i',i',i',i',i',i',i',i',i',i',i',i',i',i',i'] rfl rfl (any_of HT_.out (by kernel_rfl)) (fun _ _ _ h => h) (Or.inl ⟨by rfl, ?_⟩) ?_ ?_
       rotate_left;·intro w';go_simp;with_reducible rfl
       rotate_left;·simp only [Act.put, la_, lz_, ls_, i64_w, i32_w];rfl
       refine done_ (done_of HT_.out (by kernel_rfl)) ?_
       try go_wp2
       go_roundg k1
       case measure => have := HK1.out; first | exact this | exact Nat.le_of_succ_le this | exact Nat.le_refl _ | omega
       case rel => exact ⟨(x3_1), (wrap64 (x8_1 + 1)), rs_, H', ⟨by have := HK1.out; first | exact this | exact Nat.le_of_succ_le this | exact Nat.le_refl _ | omega⟩, ⟨rr_ HO_3⟩, ⟨hs_ HB GE279⟩⟩
     ·rw [if_neg c4] at H
      exact absurd H (by simp)
    ·rw [if_neg c3] at H
     exact absurd H (by simp)
   ·rw [if_neg c2] at H
    have c2b0 : decide (x8_1 < (l0.length : Int)) = false := decide_eq_false c2
    clear c2
    obtain rfl := Option.some.inj H
    go_wp2
    go_ret
    exact ⟨_, by first | rfl | (simp [errW_none, errW_some] <;> rfl) | (simp [*, errW_none, errW_some] <;> rfl), rr_ HO_3, hb_ HB⟩

end Go.Proofs.Ytebeafcdabkkfab.PFnExactSealed
