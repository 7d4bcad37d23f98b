-- Laid by a program of this session, a copy of the kit's printer with additions (wip/patch_print.py): myhead. Lean checks it.
import Derived.Test.YtnjmehiploelnaaPFnExactHintFitsx0
import Derived.Test.YtnjmehiploelnaaPFnExactHintFitsx16
namespace Go.Proofs.Ytnjmehiploelnaa.PFnExactHintFits
open Go.RowKit Go.Proofs.YtnjmehiploelnaaW.PrintWords Go.Proofs.YtnjmehiploelnaaW.PrintLast Go.Proofs.YtnjmehiploelnaaW.PrintMore
attribute [local go_sem] max2_int min2_int max_two min_two max_three min_three max_four min_four   -- for this text's walks alone
set_option linter.unusedVariables false
set_option linter.unusedSimpArgs false

/-! ### impl_fits: function 39 -/
def impl_fits.l0 : Nat → List (S33) → List (S96) → Int → Int → Int → Int → ByteArray → ByteArray → Int → Int → Option (Bool)
 | 0, _, _, _, _, _, _, _, _, _, _ => none
 | k + 1, x5, x8, x9, x10, x359000, x359001, x359002, x359003, x359004, x359005 => if x10 < x9 then (if 0 ≤ x10 then (if x10 < (x8.length : Int) then (if x5.length < 2199023255552 then (impl_fits.l0 k (x5 ++ [(⟨(rd_T96 x8 x10).f3.f0, (rd_T96 x8 x10).f3.f1, (rd_T96 x8 x10).f3.f2, (rd_T96 x8 x10).f3.f3, (rd_T96 x8 x10).f3.f4, (rd_T96 x8 x10).f3.f5⟩ : S33)]) x8 x9 (wrap64 (x10 + 1)) x359000 x359001 x359002 x359003 x359004 x359005) else (none)) else (none)) else (none)) else (if x359004 = (x5.length : Int) then ((impl_SumOf.f k x5).bind fun t364 => (some (x359005 == t364))) else (some false))
def impl_fits.f (k : Nat) (a0_0 : Int) (a0_1 : Int) (a0_2 : ByteArray) (a0_3 : ByteArray) (a0_4 : Int) (a0_5 : Int) (l1 : List (S96)) : Option (Bool) := impl_fits.l0 k ([] : List (S33)) l1 (l1.length : Int) 0 a0_0 a0_1 a0_2 a0_3 a0_4 a0_5
theorem impl_fits.mono_l : ∀ k, (∀ y0 y1 y2 y3 y4 y5 y6 y7 y8 y9, LeO (impl_fits.l0 k y0 y1 y2 y3 y4 y5 y6 y7 y8 y9) (impl_fits.l0 (k + 1) y0 y1 y2 y3 y4 y5 y6 y7 y8 y9))
 | 0 => fun _ _ _ _ _ _ _ _ _ _ r h => by simp [impl_fits.l0] at h
 | k + 1 => by
  have ih0 := impl_fits.mono_l k
  ·intro y0 y1 y2 y3 y4 y5 y6 y7 y8 y9
   unfold impl_fits.l0
   repeat' first | (with_reducible first | exact ih0 .. | exact impl_SumOf.mono .. | exact LeO.refl .. | exact LeO.none .. | refine LeO.ite ?_ ?_ | refine LeO.bind ?_ (fun _ => ?_)) | exact ih0 .. | exact impl_SumOf.mono .. | exact LeO.none .. | refine LeO.ite ?_ ?_ | refine LeO.bind ?_ (fun _ => ?_)
theorem impl_fits.mono : ∀ a0 a1 a2 a3 a4 a5 a6 k, LeO (impl_fits.f k a0 a1 a2 a3 a4 a5 a6) (impl_fits.f (k + 1) a0 a1 a2 a3 a4 a5 a6) := by
 intro a0 a1 a2 a3 a4 a5 a6 k
 have ih0 := impl_fits.mono_l k
 unfold impl_fits.f
 repeat' first | (with_reducible first | exact ih0 .. | exact impl_SumOf.mono .. | exact LeO.refl .. | exact LeO.none .. | refine LeO.ite ?_ ?_ | refine LeO.bind ?_ (fun _ => ?_)) | exact ih0 .. | exact impl_SumOf.mono .. | exact LeO.none .. | refine LeO.ite ?_ ?_ | refine LeO.bind ?_ (fun _ => ?_)
def impl_fits.T7 : Bool × List (List Nat × List Nat) := (true, [([], []), ([0], [0]), ([], []), ([2], [2]), ([1, 3], [1, 3]), ([4], [4]), ([5], [5]), ([6, 5], [5, 6]), ([5], [5]), ([8, 5, 5], [5, 8]), ([7, 9, 5], [5, 7, 9]), ([5, 10], [5, 10]), ([11, 9, 0, 1, 2, 3, 4, 5, 6, 7, 8, 9, 10, 11], [11])])
def impl_fits.B7 : List Nat := [0, 1, 0, 4, 15, 31, 63, 127, 63, 319, 1023, 2047, 4095]
theorem impl_fits.tab7 : rtab .any (opsOf Try.f39 7) = impl_fits.T7 := by kernel_rfl
theorem impl_fits.bits7 : waitsOk impl_fits.T7.2 impl_fits.B7 = true := by kernel_rfl
set_option maxHeartbeats 80000000 in
set_option maxRecDepth 100000 in
theorem impl_fits.calls (k : Nat) (a0_0 : Int) (a0_1 : Int) (a0_2 : ByteArray) (a0_3 : ByteArray) (a0_4 : Int) (a0_5 : Int) (A1 : Option Addr) (c1 : Nat) (l1 : List (S96)) (r : Bool) (w : World) (hr1 : Kd.C k96 w A1 l1.length l1) (hc1 : l1.length ≤ c1) (h : impl_fits.f k a0_0 a0_1 a0_2 a0_3 a0_4 a0_5 l1 = some r) :
  Calls Try.prog 39 #[.agg #[.int .i64 a0_0, .int .i64 a0_1, .string a0_2, .string a0_3, .int .i64 a0_4, .int .i64 a0_5], .slice A1 l1.length c1] w fun e w' => e = .returned (.bool r) ∧ Below w.heap.size w w' := by
 have hu33 := Try.underlying33
 have hu96 := Try.underlying96
 have HR1 := Aside0.mk hr1
 have HC1 := Aside0.mk hc1
 clear hr1 hc1
 have HB := Aside0.mk (Below.refl w.heap.size w)
 have H : (impl_fits.l0 k ([] : List (S33)) l1 (l1.length : Int) 0 a0_0 a0_1 a0_2 a0_3 a0_4 a0_5) = some r := h
 clear h
 have H' := Aside0.mk H
 clear H
 go_enter Try.func39, Try.ntmps39
 go_wp2_with (first | ((with_reducible refine gate_dst (N := 2) rfl ?_); refine box_event ?hg (N := 2) ?hd (cs := #[.int .i64 a0_0, .int .i64 a0_1, .string a0_2, .string a0_3, .int .i64 a0_4, .int .i64 a0_5]) (t := 33) ?hr ?_; (case hd => rfl); (case hg => rfl); (case hr => first | (go_simp; done) | (go_simp; rfl)); intro gb358 hg w3 hbox hb; have BK358 := Aside0.mk (hbox); have GW358 := ge_ hg (hb_ HB); have GE358 := ge_ hg (hb_ HB); replace HB := bs_ HB hb; clear hb hbox hg))
 go_loopg [5, 10] k (fun kq v5 v10 w' => ∃ (x5_1 : List (S33)) (x10_1 : Int), v10 = .int .i64 x10_1 ∧ Aside0 (impl_fits.l0 kq x5_1 l1 (l1.length : Int) x10_1 a0_0 a0_1 a0_2 a0_3 a0_4 a0_5 = some r) ∧ Aside0 (kq ≤ k) ∧ Aside0 (Kd.R k33 33 w' w.heap.size (fun k_ => k_ ≠ gb358) v5 x5_1) ∧ Aside0 (w'.heap[gb358]? = some (.cells #[.int .i64 a0_0, .int .i64 a0_1, .string a0_2, .string a0_3, .int .i64 a0_4, .int .i64 a0_5] 33 (0, 0))) ∧ Aside0 (Below w.heap.size w w'))
 case atStart => exact ⟨(([] : List (S33))), (0), rs_, H', ⟨Nat.le_refl _⟩, ⟨by first | exact Kd.R_nil _ _ _ _ _ | exact Kd.N_nil _ _ _ _ _ | exact Kd.V_nil _ _ _ _ _ | exact Kd.Q_nil _ _ _ _ _ | exact Kd.S_nil _ _ _ _ _⟩, ⟨bk_ BK358⟩, ⟨hs_ HB GE358⟩⟩
 case round =>
  clear H'
  try clear c1
  try clear p2
  try clear c3
  obtain ⟨x5_1, x10_1, rfl, HA, HK1, HO_5, BK358, HB⟩ := hrel
  cases gk with
  | zero => exact absurd HA.out (by simp [impl_fits.l0])
  | succ k1 =>
   have H := HA.out
   clear HA
   simp only [impl_fits.l0] at H
   by_cases c4 : x10_1 < (l1.length : Int)
   ·rw [if_pos c4] at H
    have c4b0 : decide (x10_1 < (l1.length : Int)) = true := decide_eq_true c4
    clear c4
    by_cases c5 : 0 ≤ x10_1
    ·rw [if_pos c5] at H
     have c5b0 : decide (0 ≤ x10_1) = true := decide_eq_true c5
     clear c5
     by_cases c6 : x10_1 < (l1.length : Int)
     ·rw [if_pos c6] at H
      have c6b0 : decide (x10_1 < (l1.length : Int)) = true := decide_eq_true c6
      clear c6
      by_cases c7 : x5_1.length < 2199023255552
      ·rw [if_pos c7] at H
       have LMc7 := Aside0.mk c7
       clear c7
       obtain ⟨y361, hy361⟩ : ∃ y_ : List (S33), y_ = (x5_1 ++ [(⟨(rd_T96 l1 x10_1).f3.f0, (rd_T96 l1 x10_1).f3.f1, (rd_T96 l1 x10_1).f3.f2, (rd_T96 l1 x10_1).f3.f3, (rd_T96 l1 x10_1).f3.f4, (rd_T96 l1 x10_1).f3.f5⟩ : S33)]) := ⟨_, rfl⟩
       replace H : (impl_fits.l0 k1 y361 l1 (l1.length : Int) (wrap64 (x10_1 + 1)) a0_0 a0_1 a0_2 a0_3 a0_4 a0_5) = some r := by first | (rw [hy361]; with_reducible exact H) | (have H2_ := (Option.bind_some _ _).symm.trans H; rw [hy361]; with_reducible exact H2_) | (have H2_ := (Option.bind_some _ _).symm.trans H; with_reducible exact H2_) | with_reducible exact H | (rw [hy361]; exact H) | exact H
       have Ny361 := Aside0.mk hy361
       clear hy361
       have H' := Aside0.mk H
       clear H
       have p359 : 0 ≤ (x10_1 : Int) := of_decide_eq_true as_
       have q359 : x10_1 < (l1.length : Int) := of_decide_eq_true as_
       obtain ⟨ad359, e359, hx359_0, hx359_1, hx359_2, hx359_3, hx359_4, hx359_5, hx359_6, hx359_7, hx359_8⟩ := at_T96 HR1.out x10_1 p359 q359
       cases e359
       (try replace hx359_0 := cb_ HB hx359_0)
       (try replace hx359_1 := cb_ HB hx359_1)
       (try replace hx359_2 := cb_ HB hx359_2)
       (try replace hx359_3 := cb_ HB hx359_3)
       (try replace hx359_4 := cb_ HB hx359_4)
       (try replace hx359_5 := cb_ HB hx359_5)
       (try replace hx359_6 := cb_ HB hx359_6)
       (try replace hx359_7 := cb_ HB hx359_7)
       (try replace hx359_8 := cb_ HB hx359_8)
       replace p359 := eq_true p359
       replace q359 := eq_true q359
       go_wp2_with (first | ((with_reducible refine gate_dst (N := 7) rfl ?_); refine box_event ?hg (N := 7) ?hd (cs := #[.int .i64 0, .int .i64 0, .int .i64 0, .int .i64 0, .int .i64 0, .string (⟨#[]⟩ : ByteArray), .string (⟨#[]⟩ : ByteArray), .int .i64 0, .int .i64 0]) (t := 96) ?hr ?_; (case hd => rfl); (case hg => rfl); (case hr => first | (go_simp; done) | (go_simp; rfl)); intro gb360 hg w8 hbox hb; replace HO_5 := rb_ HO_5 hb; have BK360 := Aside0.mk (hbox); have GW360 := ge_ hg (hs_ HB GE358); have GE360 := ge_ hg (hs_ HB GE358); replace HB := bt_ HB GE358 hb; have NB358_360 := nl_ BK358 hg; have NB360_358 := ng_ BK358 hg; replace BK358 := bb_ BK358 hb; (try replace hx359_0 := (hb.cell (World.block_lt_of_cell? _ _ hx359_0)).trans hx359_0); (try replace hx359_1 := (hb.cell (World.block_lt_of_cell? _ _ hx359_1)).trans hx359_1); (try replace hx359_2 := (hb.cell (World.block_lt_of_cell? _ _ hx359_2)).trans hx359_2); (try replace hx359_3 := (hb.cell (World.block_lt_of_cell? _ _ hx359_3)).trans hx359_3); (try replace hx359_4 := (hb.cell (World.block_lt_of_cell? _ _ hx359_4)).trans hx359_4); (try replace hx359_5 := (hb.cell (World.block_lt_of_cell? _ _ hx359_5)).trans hx359_5); (try replace hx359_6 := (hb.cell (World.block_lt_of_cell? _ _ hx359_6)).trans hx359_6); (try replace hx359_7 := (hb.cell (World.block_lt_of_cell? _ _ hx359_7)).trans hx359_7); (try replace hx359_8 := (hb.cell (World.block_lt_of_cell? _ _ hx359_8)).trans hx359_8); clear hb hbox hg; have hnb9 := NB360_358.out; have hnc9 := NB358_360.out; obtain ⟨hcz10_0, hcz10_1, hcz10_2, hcz10_3, hcz10_4, hcz10_5, hcz10_6, hcz10_7, hcz10_8, hfz10_0, hfz10_1, hfz10_2, hfz10_3, hfz10_4, hfz10_5, hfz10_6, hfz10_7, hfz10_8⟩ := bc9_ BK360) | (at_builtin; (with_reducible refine gate_builtin (b := .append) (xs := #[.tmp 14, .tmp 17]) rfl ?_); refine Kd.R_append k33 (w0 := w) w.heap.size rfl (.tmp 14) (.tmp 17) 66 33 (.agg #[(.int .i64 0), (.int .i64 0), (.string ⟨#[]⟩), (.string ⟨#[]⟩), (.int .i64 0), (.int .i64 0)]) 64 rfl Try.underlying66 info33 rfl (by decide) (by omega) u5 x5_1 (⟨(rd_T96 l1 x10_1).f3.f0, (rd_T96 l1 x10_1).f3.f1, (rd_T96 l1 x10_1).f3.f2, (rd_T96 l1 x10_1).f3.f3, (rd_T96 l1 x10_1).f3.f4, (rd_T96 l1 x10_1).f3.f5⟩ : S33) [.int .i64 ((rd_T96 l1 x10_1).f3.f0), .int .i64 ((rd_T96 l1 x10_1).f3.f1), .string ((rd_T96 l1 x10_1).f3.f2), .string ((rd_T96 l1 x10_1).f3.f3), .int .i64 ((rd_T96 l1 x10_1).f3.f4), .int .i64 ((rd_T96 l1 x10_1).f3.f5)] (fun k_ => k_ ≠ gb358) (fun _ => False) rfl (by first | (go_simp; done) | (go_simp; rfl)) ?aP (fun _ hk => hk.elim) ?aF ?aO ?aB ?aS ?aL ?_; (case aP => exact k33_mkM _ _ _ (⟨(rd_T96 l1 x10_1).f3.f0, (rd_T96 l1 x10_1).f3.f1, (rd_T96 l1 x10_1).f3.f2, (rd_T96 l1 x10_1).f3.f3, (rd_T96 l1 x10_1).f3.f4, (rd_T96 l1 x10_1).f3.f5⟩ : S33)); (case aB => exact (hu_ HB GE358 GE360)); (case aF => exact (fun k_ hk => Kd.freshB (g := gb358) (o := .cells #[.int .i64 a0_0, .int .i64 a0_1, .string a0_2, .string a0_3, .int .i64 a0_4, .int .i64 a0_5] 33 (0, 0)) (by (with_reducible repeat (first | refine blk_drewN ?_ _ | refine blk_drew ?_ | refine blk_alloc ?_ _)); refine blk_far ?_ NB358_360.out _; (with_reducible repeat (first | refine blk_drewN ?_ _ | refine blk_drew ?_ | refine blk_alloc ?_ _)); refine blk_far ?_ NB358_360.out _; (with_reducible repeat (first | refine blk_drewN ?_ _ | refine blk_drew ?_ | refine blk_alloc ?_ _)); refine blk_far ?_ NB358_360.out _; (with_reducible repeat (first | refine blk_drewN ?_ _ | refine blk_drew ?_ | refine blk_alloc ?_ _)); refine blk_far ?_ NB358_360.out _; (with_reducible repeat (first | refine blk_drewN ?_ _ | refine blk_drew ?_ | refine blk_alloc ?_ _)); refine blk_far ?_ NB358_360.out _; (with_reducible repeat (first | refine blk_drewN ?_ _ | refine blk_drew ?_ | refine blk_alloc ?_ _)); refine blk_far ?_ NB358_360.out _; (with_reducible repeat (first | refine blk_drewN ?_ _ | refine blk_drew ?_ | refine blk_alloc ?_ _)); refine blk_far ?_ NB358_360.out _; (with_reducible repeat (first | refine blk_drewN ?_ _ | refine blk_drew ?_ | refine blk_alloc ?_ _)); refine blk_far ?_ NB358_360.out _; (with_reducible repeat (first | refine blk_drewN ?_ _ | refine blk_drew ?_ | refine blk_alloc ?_ _)); refine blk_far ?_ NB358_360.out _; (with_reducible repeat (first | refine blk_drewN ?_ _ | refine blk_drew ?_ | refine blk_alloc ?_ _)); exact BK358.out) k_ hk)); (case aO => exact (by (with_reducible repeat (first | apply Kd.R_alloc | apply Kd.R_drewN | apply Kd.R_drew)); exact Kd.R_mono (Kd.R_far (p := ⟨gb360, 8, none⟩) (Kd.R_far (p := ⟨gb360, 7, none⟩) (Kd.R_far (p := ⟨gb360, 6, none⟩) (Kd.R_far (p := ⟨gb360, 5, none⟩) (Kd.R_far (p := ⟨gb360, 4, none⟩) (Kd.R_far (p := ⟨gb360, 3, none⟩) (Kd.R_far (p := ⟨gb360, 2, none⟩) (Kd.R_far (p := ⟨gb360, 1, none⟩) (Kd.R_far (p := ⟨gb360, 0, none⟩) (Kd.R_types HO_5.out BK360.out (by decide)) (fun _ hk => hk.2) (.int .i64 ((rd_T96 l1 x10_1).f0))) (fun _ hk => hk.2) (.int .i64 ((rd_T96 l1 x10_1).f1))) (fun _ hk => hk.2) (.int .i64 ((rd_T96 l1 x10_1).f2))) (fun _ hk => hk.2) (.int .i64 ((rd_T96 l1 x10_1).f3.f0))) (fun _ hk => hk.2) (.int .i64 ((rd_T96 l1 x10_1).f3.f1))) (fun _ hk => hk.2) (.string ((rd_T96 l1 x10_1).f3.f2))) (fun _ hk => hk.2) (.string ((rd_T96 l1 x10_1).f3.f3))) (fun _ hk => hk.2) (.int .i64 ((rd_T96 l1 x10_1).f3.f4))) (fun _ hk => hk.2) (.int .i64 ((rd_T96 l1 x10_1).f3.f5))) (fun _ hk => hk.1))); (case aS => exact (below_size (hu_ HB GE358 GE360))); (case aL => have := LMc7.out; omega); intro v362 w11 ho hb hg hat; rw [← Ny361.out] at ho; replace BK358 := Aside0.mk (blk_grown (g := gb358) (o := .cells #[.int .i64 a0_0, .int .i64 a0_1, .string a0_2, .string a0_3, .int .i64 a0_4, .int .i64 a0_5] 33 (0, 0)) (by (with_reducible repeat (first | refine blk_drewN ?_ _ | refine blk_drew ?_ | refine blk_alloc ?_ _)); refine blk_far ?_ NB358_360.out _; (with_reducible repeat (first | refine blk_drewN ?_ _ | refine blk_drew ?_ | refine blk_alloc ?_ _)); refine blk_far ?_ NB358_360.out _; (with_reducible repeat (first | refine blk_drewN ?_ _ | refine blk_drew ?_ | refine blk_alloc ?_ _)); refine blk_far ?_ NB358_360.out _; (with_reducible repeat (first | refine blk_drewN ?_ _ | refine blk_drew ?_ | refine blk_alloc ?_ _)); refine blk_far ?_ NB358_360.out _; (with_reducible repeat (first | refine blk_drewN ?_ _ | refine blk_drew ?_ | refine blk_alloc ?_ _)); refine blk_far ?_ NB358_360.out _; (with_reducible repeat (first | refine blk_drewN ?_ _ | refine blk_drew ?_ | refine blk_alloc ?_ _)); refine blk_far ?_ NB358_360.out _; (with_reducible repeat (first | refine blk_drewN ?_ _ | refine blk_drew ?_ | refine blk_alloc ?_ _)); refine blk_far ?_ NB358_360.out _; (with_reducible repeat (first | refine blk_drewN ?_ _ | refine blk_drew ?_ | refine blk_alloc ?_ _)); refine blk_far ?_ NB358_360.out _; (with_reducible repeat (first | refine blk_drewN ?_ _ | refine blk_drew ?_ | refine blk_alloc ?_ _)); refine blk_far ?_ NB358_360.out _; (with_reducible repeat (first | refine blk_drewN ?_ _ | refine blk_drew ?_ | refine blk_alloc ?_ _)); exact BK358.out) hg (Kd.R_away HO_5.out (fun _ hk => hk))); replace BK360 := Aside0.mk (blk_grown (g := gb360) (o := .cells #[.int .i64 ((rd_T96 l1 x10_1).f0), .int .i64 ((rd_T96 l1 x10_1).f1), .int .i64 ((rd_T96 l1 x10_1).f2), .int .i64 ((rd_T96 l1 x10_1).f3.f0), .int .i64 ((rd_T96 l1 x10_1).f3.f1), .string ((rd_T96 l1 x10_1).f3.f2), .string ((rd_T96 l1 x10_1).f3.f3), .int .i64 ((rd_T96 l1 x10_1).f3.f4), .int .i64 ((rd_T96 l1 x10_1).f3.f5)] 96 (0, 0)) (by (with_reducible repeat (first | refine blk_drewN ?_ _ | refine blk_drew ?_ | refine blk_alloc ?_ _)); refine blk_put (cs := #[.int .i64 ((rd_T96 l1 x10_1).f0), .int .i64 ((rd_T96 l1 x10_1).f1), .int .i64 ((rd_T96 l1 x10_1).f2), .int .i64 ((rd_T96 l1 x10_1).f3.f0), .int .i64 ((rd_T96 l1 x10_1).f3.f1), .string ((rd_T96 l1 x10_1).f3.f2), .string ((rd_T96 l1 x10_1).f3.f3), .int .i64 ((rd_T96 l1 x10_1).f3.f4), .int .i64 0]) ?_ 8 _ rfl; (with_reducible repeat (first | refine blk_drewN ?_ _ | refine blk_drew ?_ | refine blk_alloc ?_ _)); refine blk_put (cs := #[.int .i64 ((rd_T96 l1 x10_1).f0), .int .i64 ((rd_T96 l1 x10_1).f1), .int .i64 ((rd_T96 l1 x10_1).f2), .int .i64 ((rd_T96 l1 x10_1).f3.f0), .int .i64 ((rd_T96 l1 x10_1).f3.f1), .string ((rd_T96 l1 x10_1).f3.f2), .string ((rd_T96 l1 x10_1).f3.f3), .int .i64 0, .int .i64 0]) ?_ 7 _ rfl; (with_reducible repeat (first | refine blk_drewN ?_ _ | refine blk_drew ?_ | refine blk_alloc ?_ _)); refine blk_put (cs := #[.int .i64 ((rd_T96 l1 x10_1).f0), .int .i64 ((rd_T96 l1 x10_1).f1), .int .i64 ((rd_T96 l1 x10_1).f2), .int .i64 ((rd_T96 l1 x10_1).f3.f0), .int .i64 ((rd_T96 l1 x10_1).f3.f1), .string ((rd_T96 l1 x10_1).f3.f2), .string (⟨#[]⟩ : ByteArray), .int .i64 0, .int .i64 0]) ?_ 6 _ rfl; (with_reducible repeat (first | refine blk_drewN ?_ _ | refine blk_drew ?_ | refine blk_alloc ?_ _)); refine blk_put (cs := #[.int .i64 ((rd_T96 l1 x10_1).f0), .int .i64 ((rd_T96 l1 x10_1).f1), .int .i64 ((rd_T96 l1 x10_1).f2), .int .i64 ((rd_T96 l1 x10_1).f3.f0), .int .i64 ((rd_T96 l1 x10_1).f3.f1), .string (⟨#[]⟩ : ByteArray), .string (⟨#[]⟩ : ByteArray), .int .i64 0, .int .i64 0]) ?_ 5 _ rfl; (with_reducible repeat (first | refine blk_drewN ?_ _ | refine blk_drew ?_ | refine blk_alloc ?_ _)); refine blk_put (cs := #[.int .i64 ((rd_T96 l1 x10_1).f0), .int .i64 ((rd_T96 l1 x10_1).f1), .int .i64 ((rd_T96 l1 x10_1).f2), .int .i64 ((rd_T96 l1 x10_1).f3.f0), .int .i64 0, .string (⟨#[]⟩ : ByteArray), .string (⟨#[]⟩ : ByteArray), .int .i64 0, .int .i64 0]) ?_ 4 _ rfl; (with_reducible repeat (first | refine blk_drewN ?_ _ | refine blk_drew ?_ | refine blk_alloc ?_ _)); refine blk_put (cs := #[.int .i64 ((rd_T96 l1 x10_1).f0), .int .i64 ((rd_T96 l1 x10_1).f1), .int .i64 ((rd_T96 l1 x10_1).f2), .int .i64 0, .int .i64 0, .string (⟨#[]⟩ : ByteArray), .string (⟨#[]⟩ : ByteArray), .int .i64 0, .int .i64 0]) ?_ 3 _ rfl; (with_reducible repeat (first | refine blk_drewN ?_ _ | refine blk_drew ?_ | refine blk_alloc ?_ _)); refine blk_put (cs := #[.int .i64 ((rd_T96 l1 x10_1).f0), .int .i64 ((rd_T96 l1 x10_1).f1), .int .i64 0, .int .i64 0, .int .i64 0, .string (⟨#[]⟩ : ByteArray), .string (⟨#[]⟩ : ByteArray), .int .i64 0, .int .i64 0]) ?_ 2 _ rfl; (with_reducible repeat (first | refine blk_drewN ?_ _ | refine blk_drew ?_ | refine blk_alloc ?_ _)); refine blk_put (cs := #[.int .i64 ((rd_T96 l1 x10_1).f0), .int .i64 0, .int .i64 0, .int .i64 0, .int .i64 0, .string (⟨#[]⟩ : ByteArray), .string (⟨#[]⟩ : ByteArray), .int .i64 0, .int .i64 0]) ?_ 1 _ rfl; (with_reducible repeat (first | refine blk_drewN ?_ _ | refine blk_drew ?_ | refine blk_alloc ?_ _)); refine blk_put (cs := #[.int .i64 0, .int .i64 0, .int .i64 0, .int .i64 0, .int .i64 0, .string (⟨#[]⟩ : ByteArray), .string (⟨#[]⟩ : ByteArray), .int .i64 0, .int .i64 0]) ?_ 0 _ rfl; (with_reducible repeat (first | refine blk_drewN ?_ _ | refine blk_drew ?_ | refine blk_alloc ?_ _)); exact BK360.out) hg (Kd.R_ne HO_5.out BK360.out (by decide))); replace HB := Aside0.mk (hb); have HO363 := Aside0.mk (ho); clear HO_5; clear ho hb hg hat))
       go_roundg k1
       case measure => have := HK1.out; first | exact this | exact Nat.le_of_succ_le this | exact Nat.le_refl _ | omega
       case rel => exact ⟨(y361), (wrap64 (x10_1 + 1)), rs_, H', ⟨by have := HK1.out; first | exact this | exact Nat.le_of_succ_le this | exact Nat.le_refl _ | omega⟩, ⟨rr_ HO363⟩, ⟨bk_ BK358⟩, ⟨by repeat (first | (with_reducible first | exact HB.out | apply below_alloc | apply pw_below_drewN | apply below_drew1 | refine below_set ?_ GE358.out | refine below_set ?_ GE360.out) | exact HB.out)⟩⟩
      ·rw [if_neg c7] at H
       exact absurd H (by simp)
     ·rw [if_neg c6] at H
      exact absurd H (by simp)
    ·rw [if_neg c5] at H
     exact absurd H (by simp)
   ·rw [if_neg c4] at H
    have c4b0 : decide (x10_1 < (l1.length : Int)) = false := decide_eq_false c4
    clear c4
    by_cases c12 : a0_4 = (x5_1.length : Int)
    ·rw [if_pos c12] at H
     have c12b0 : (a0_4 == (x5_1.length : Int)) = true := beq_iff_eq.mpr c12
     have c12b1 : (a0_4 != (x5_1.length : Int)) = false := bne_eq_false_iff_eq.mpr c12
     clear c12
     replace H := Option.bind_eq_some_iff.mp H
     obtain ⟨t364, A130, H⟩ := H
     replace H : (some (a0_5 == t364)) = some r := H
     have A13 := Aside0.mk A130
     clear A130
     obtain rfl := Option.some.inj H
     try go_wp2
     replace HO_5 := rd_ HO_5
     replace BK358 := bd_ BK358
     replace HB := hd_ HB
     obtain ⟨Ao15, co15, eo15⟩ := Kd.R_slice HO_5.out
     (first | subst eo15 | (injection eo15 with f1_ f2_ f3_; have f4_ := f1_.symm; have f5_ := f3_.symm; clear f1_ f2_ f3_; subst f4_; subst f5_))
     refine start_ (n := 13) (S := k6e_ gb358 (.int .i64 a0_0) (.int .i64 a0_1) (.string a0_2) (.string a0_3) (.int .i64 a0_4) (.int .i64 a0_5)) (ds := []) (on_ 0 13) (by kernel_rfl) rfl rfl (p6e_ BK358) (fun hHeld => ?_); refine with_tabW impl_fits.tab7 impl_fits.bits7 (fun HT_ HW_ => ?_)
     generalize wr.drew = w14 at HO_5 BK358 HB hHeld ⊢
     refine pv_' 0 20 (on_ 1 12) rfl rfl HT_ ?_
     refine pv_' 2 22 #[i',o',i',o',o',o',o',o',o',o',o',o',o'] rfl rfl HT_ ?_
     refine pv_' 3 23 #[i',o',i',i',o',o',o',o',o',o',o',o',o'] rfl rfl HT_ ?_
     refine take_ (i := 1) (N := some 21) (v := ?_) (a' := ?_) (on_ 4 9) rfl rfl (take_ofW HT_.out HW_.out (by kernel_rfl)) (fun _ _ _ h => h) (Or.inl ⟨by rfl, ?_⟩) hHeld ?_ ?_
     rotate_left
     ·rintro w' ⟨s0, s1, s2, s3, s4, s5⟩
      go_simp
      with_reducible rfl
     rotate_left
     ·simp only [Act.put, la_, lz_, ls_, i64_w, i32_w]
      rfl
     refine pv_' 4 24 (on_ 5 8) rfl rfl HT_ ?_
     refine pv_' 5 25 (on_ 6 7) rfl rfl HT_ ?_
     refine pv_' 6 26 (on_ 7 6) rfl rfl HT_ ?_
     refine pv_' 8 28 #[i',i',i',i',i',i',i',o',i',o',o',o',o'] rfl rfl HT_ ?_
     refine take_ (i := 7) (N := some 27) (v := ?_) (a' := ?_) (on_ 9 4) rfl rfl (take_ofW HT_.out HW_.out (by kernel_rfl)) (fun _ _ _ h => h) (Or.inl ⟨by rfl, ?_⟩) hHeld ?_ ?_
     rotate_left
     ·rintro w' ⟨s0, s1, s2, s3, s4, s5⟩
      go_simp
      with_reducible rfl
     rotate_left
     ·simp only [Act.put, la_, lz_, ls_, i64_w, i32_w]
      rfl
     refine one_ (i := 9) (N := some 29) (on_ 10 3) rfl rfl (one_of HT_.out (by kernel_rfl)) (by decide) (fun K hK => ?_)
     refine goes_ Try.func65 (by kernel_rfl) rfl #[.slice Ao15 x5_1.length co15] (by rfl) rfl rfl ar_ ?_
     with_reducible refine (impl_SumOf.calls k1 _ _ x5_1 t364 _ ?side1 ?side2 A13.out).mono ?_
     (case side1 => repeat (first | exact (Kd.R_reads' HO_5.out).2.2 | (with_reducible refine Kd.C_alloc ?_ _) | (with_reducible refine Kd.C_drewN ?_ _) | (with_reducible refine Kd.C_drew ?_)))
     (case side2 => exact (Kd.R_reads' HO_5.out).2.1)
     rintro e w16 ⟨rfl, hb⟩
     refine ⟨_, rfl, ?_⟩
     replace HO_5 := rb_ HO_5 hb
     replace BK358 := bb_ BK358 hb
     replace HB := bt_ HB GE358 hb
     (try clear hb)
     (try clear hb2)
     (try clear hk)
     (try clear hi)
     refine hK.out _ _ (p6e_ BK358) (fun hHeld => ?_)
     clear hK K
     refine norm_ (a' := ?_) ?_ ?_
     rotate_left
     ·show Act.put _ (some 29) _ = _
      simp only [Act.put, la_, lz_, ls_, i64_w, i32_w]
      rfl
     refine pv_' 10 30 (on_ 11 2) rfl rfl HT_ ?_
     refine pv_' 11 31 (on_ 12 1) rfl rfl HT_ ?_
     refine pv_' 12 4 (on_ 13 0) rfl rfl HT_ ?_
     refine done_ (done_of HT_.out (by kernel_rfl)) ?_
     try go_wp2
     go_ret
     exact ⟨re_, hs_ HB GE358⟩
    ·rw [if_neg c12] at H
     have c12b0 : (a0_4 == (x5_1.length : Int)) = false := beq_eq_false_iff_ne.mpr c12
     have c12b1 : (a0_4 != (x5_1.length : Int)) = true := bne_iff_ne.mpr c12
     obtain rfl := Option.some.inj H
     try go_wp2
     replace HO_5 := rd_ HO_5
     replace BK358 := bd_ BK358
     replace HB := hd_ HB
     obtain ⟨Ao18, co18, eo18⟩ := Kd.R_slice HO_5.out
     (first | subst eo18 | (injection eo18 with f1_ f2_ f3_; have f4_ := f1_.symm; have f5_ := f3_.symm; clear f1_ f2_ f3_; subst f4_; subst f5_))
     refine start_ (n := 13) (S := k6e_ gb358 (.int .i64 a0_0) (.int .i64 a0_1) (.string a0_2) (.string a0_3) (.int .i64 a0_4) (.int .i64 a0_5)) (ds := []) (on_ 0 13) (by kernel_rfl) rfl rfl (p6e_ BK358) (fun hHeld => ?_); refine with_tabW impl_fits.tab7 impl_fits.bits7 (fun HT_ HW_ => ?_)
     generalize wr.drew = w17 at HO_5 BK358 HB hHeld ⊢
     refine pv_' 0 20 (on_ 1 12) rfl rfl HT_ ?_
     refine pv_' 2 22 #[i',o',i',o',o',o',o',o',o',o',o',o',o'] rfl rfl HT_ ?_
     refine pv_' 3 23 #[i',o',i',i',o',o',o',o',o',o',o',o',o'] rfl rfl HT_ ?_
     refine take_ (i := 1) (N := some 21) (v := ?_) (a' := ?_) (on_ 4 9) rfl rfl (take_ofW HT_.out HW_.out (by kernel_rfl)) (fun _ _ _ h => h) (Or.inl ⟨by rfl, ?_⟩) hHeld ?_ ?_
     rotate_left
     ·rintro w' ⟨s0, s1, s2, s3, s4, s5⟩
      go_simp
      with_reducible rfl
     rotate_left
     ·simp only [Act.put, la_, lz_, ls_, i64_w, i32_w]
      rfl
     refine pv_' 4 24 (on_ 5 8) rfl rfl HT_ ?_
     refine pv_' 5 25 (on_ 6 7) rfl rfl HT_ ?_
     refine pun_' 6 26 (on_ 7 6) rfl rfl HT_ ?_
     refine pun_' 7 27 (on_ 8 5) rfl rfl HT_ ?_
     refine pun_' 8 28 (on_ 9 4) rfl rfl HT_ ?_
     refine pun_' 9 29 (on_ 10 3) rfl rfl HT_ ?_
     refine pun_' 10 30 (on_ 11 2) rfl rfl HT_ ?_
     refine pv_' 11 31 (on_ 12 1) rfl rfl HT_ ?_
     refine pv_' 12 4 (on_ 13 0) rfl rfl HT_ ?_
     refine done_ (done_of HT_.out (by kernel_rfl)) ?_
     try go_wp2
     go_ret
     exact ⟨re_, hs_ HB GE358⟩

/-! ### impl_placed: function 40 -/
def impl_placed.l0 : Nat → Int → List (S96) → List (S37) → Int → Int → Option ((List (S96)))
 | 0, _, _, _, _, _ => none
 | k + 1, x0, x5, x8, x9, x10 => if x10 < x9 then (if 0 ≤ x10 then (if x10 < (x8.length : Int) then (if x5.length < 1599289640401 then (impl_placed.l0 k x0 (x5 ++ [(⟨x0, (rd_T37 x8 x10).f0, (rd_T37 x8 x10).f1, (⟨(rd_T37 x8 x10).f2.f0, (rd_T37 x8 x10).f2.f1, (rd_T37 x8 x10).f2.f2, (rd_T37 x8 x10).f2.f3, (rd_T37 x8 x10).f2.f4, (rd_T37 x8 x10).f2.f5⟩ : S33)⟩ : S96)]) x8 x9 (wrap64 (x10 + 1))) else (none)) else (none)) else (none)) else (some x5)
def impl_placed.f (k : Nat) (a0 : Int) (l1 : List (S37)) : Option ((List (S96))) := impl_placed.l0 k a0 ([] : List (S96)) l1 (l1.length : Int) 0
theorem impl_placed.mono_l : ∀ k, (∀ y0 y1 y2 y3 y4, LeO (impl_placed.l0 k y0 y1 y2 y3 y4) (impl_placed.l0 (k + 1) y0 y1 y2 y3 y4))
 | 0 => fun _ _ _ _ _ r h => by simp [impl_placed.l0] at h
 | k + 1 => by
  have ih0 := impl_placed.mono_l k
  ·intro y0 y1 y2 y3 y4
   unfold impl_placed.l0
   repeat' first | (with_reducible first | exact ih0 .. | exact LeO.refl .. | exact LeO.none .. | refine LeO.ite ?_ ?_ | refine LeO.bind ?_ (fun _ => ?_)) | exact ih0 .. | exact LeO.none .. | refine LeO.ite ?_ ?_ | refine LeO.bind ?_ (fun _ => ?_)
theorem impl_placed.mono : ∀ a0 a1 k, LeO (impl_placed.f k a0 a1) (impl_placed.f (k + 1) a0 a1) := by
 intro a0 a1 k
 have ih0 := impl_placed.mono_l k
 unfold impl_placed.f
 repeat' first | (with_reducible first | exact ih0 .. | exact LeO.refl .. | exact LeO.none .. | refine LeO.ite ?_ ?_ | refine LeO.bind ?_ (fun _ => ?_)) | exact ih0 .. | exact LeO.none .. | refine LeO.ite ?_ ?_ | refine LeO.bind ?_ (fun _ => ?_)
set_option maxHeartbeats 80000000 in
set_option maxRecDepth 100000 in
theorem impl_placed.calls (k : Nat) (a0 : Int) (A1 : Option Addr) (c1 : Nat) (l1 : List (S37)) (r : List (S96)) (w : World) (hr1 : Kd.C k37 w A1 l1.length l1) (hc1 : l1.length ≤ c1) (h : impl_placed.f k a0 l1 = some r) :
  Calls Try.prog 40 #[.int .i64 a0, .slice A1 l1.length c1] w fun e w' => ∃ v0_ : Value, e = .returned (v0_) ∧ Kd.R k96 96 w' w.heap.size (fun _ => True) v0_ r ∧ Below w.heap.size w w' := by
 have hu37 := Try.underlying37
 have hu33 := Try.underlying33
 have hu96 := Try.underlying96
 have HR1 := Aside0.mk hr1
 have HC1 := Aside0.mk hc1
 clear hr1 hc1
 have HB := Aside0.mk (Below.refl w.heap.size w)
 have H : (impl_placed.l0 k a0 ([] : List (S96)) l1 (l1.length : Int) 0) = some r := h
 clear h
 have H' := Aside0.mk H
 clear H
 go_enter Try.func40, Try.ntmps40
 go_wp2
 go_loopg [5, 10] k (fun kq v5 v10 w' => ∃ (x5_1 : List (S96)) (x10_1 : Int), v10 = .int .i64 x10_1 ∧ Aside0 (impl_placed.l0 kq a0 x5_1 l1 (l1.length : Int) x10_1 = some r) ∧ Aside0 (kq ≤ k) ∧ Aside0 (Kd.R k96 96 w' w.heap.size (fun _ => True) v5 x5_1) ∧ Aside0 (Below w.heap.size w w'))
 case atStart => exact ⟨(([] : List (S96))), (0), rs_, H', ⟨Nat.le_refl _⟩, ⟨by first | exact Kd.R_nil _ _ _ _ _ | exact Kd.N_nil _ _ _ _ _ | exact Kd.V_nil _ _ _ _ _ | exact Kd.Q_nil _ _ _ _ _ | exact Kd.S_nil _ _ _ _ _⟩, ⟨hb_ HB⟩⟩
 case round =>
  clear H'
  try clear c1
  try clear p2
  obtain ⟨x5_1, x10_1, rfl, HA, HK1, HO_5, HB⟩ := hrel
  cases gk with
  | zero => exact absurd HA.out (by simp [impl_placed.l0])
  | succ k1 =>
   have H := HA.out
   clear HA
   simp only [impl_placed.l0] at H
   by_cases c3 : x10_1 < (l1.length : Int)
   ·rw [if_pos c3] at H
    have c3b0 : decide (x10_1 < (l1.length : Int)) = true := decide_eq_true c3
    clear c3
    by_cases c4 : 0 ≤ x10_1
    ·rw [if_pos c4] at H
     have c4b0 : decide (0 ≤ x10_1) = true := decide_eq_true c4
     clear c4
     by_cases c5 : x10_1 < (l1.length : Int)
     ·rw [if_pos c5] at H
      have c5b0 : decide (x10_1 < (l1.length : Int)) = true := decide_eq_true c5
      clear c5
      by_cases c6 : x5_1.length < 1599289640401
      ·rw [if_pos c6] at H
       have LMc6 := Aside0.mk c6
       clear c6
       obtain ⟨y367, hy367⟩ : ∃ y_ : List (S96), y_ = (x5_1 ++ [(⟨a0, (rd_T37 l1 x10_1).f0, (rd_T37 l1 x10_1).f1, (⟨(rd_T37 l1 x10_1).f2.f0, (rd_T37 l1 x10_1).f2.f1, (rd_T37 l1 x10_1).f2.f2, (rd_T37 l1 x10_1).f2.f3, (rd_T37 l1 x10_1).f2.f4, (rd_T37 l1 x10_1).f2.f5⟩ : S33)⟩ : S96)]) := ⟨_, rfl⟩
       replace H : (impl_placed.l0 k1 a0 y367 l1 (l1.length : Int) (wrap64 (x10_1 + 1))) = some r := by first | (rw [hy367]; with_reducible exact H) | (have H2_ := (Option.bind_some _ _).symm.trans H; rw [hy367]; with_reducible exact H2_) | (have H2_ := (Option.bind_some _ _).symm.trans H; with_reducible exact H2_) | with_reducible exact H | (rw [hy367]; exact H) | exact H
       have Ny367 := Aside0.mk hy367
       clear hy367
       have H' := Aside0.mk H
       clear H
       have p365 : 0 ≤ (x10_1 : Int) := of_decide_eq_true as_
       have q365 : x10_1 < (l1.length : Int) := of_decide_eq_true as_
       obtain ⟨ad365, e365, hx365_0, hx365_1, hx365_2, hx365_3, hx365_4, hx365_5, hx365_6, hx365_7⟩ := at_T37 HR1.out x10_1 p365 q365
       cases e365
       (try replace hx365_0 := cb_ HB hx365_0)
       (try replace hx365_1 := cb_ HB hx365_1)
       (try replace hx365_2 := cb_ HB hx365_2)
       (try replace hx365_3 := cb_ HB hx365_3)
       (try replace hx365_4 := cb_ HB hx365_4)
       (try replace hx365_5 := cb_ HB hx365_5)
       (try replace hx365_6 := cb_ HB hx365_6)
       (try replace hx365_7 := cb_ HB hx365_7)
       replace p365 := eq_true p365
       replace q365 := eq_true q365
       go_wp2_with (first | ((with_reducible refine gate_dst (N := 7) rfl ?_); refine box_event ?hg (N := 7) ?hd (cs := #[.int .i64 0, .int .i64 0, .int .i64 0, .int .i64 0, .string (⟨#[]⟩ : ByteArray), .string (⟨#[]⟩ : ByteArray), .int .i64 0, .int .i64 0]) (t := 37) ?hr ?_; (case hd => rfl); (case hg => rfl); (case hr => first | (go_simp; done) | (go_simp; rfl)); intro gb366 hg w7 hbox hb; replace HO_5 := rb_ HO_5 hb; have BK366 := Aside0.mk (hbox); have GW366 := ge_ hg (hb_ HB); have GE366 := ge_ hg (hb_ HB); replace HB := bs_ HB hb; (try replace hx365_0 := (hb.cell (World.block_lt_of_cell? _ _ hx365_0)).trans hx365_0); (try replace hx365_1 := (hb.cell (World.block_lt_of_cell? _ _ hx365_1)).trans hx365_1); (try replace hx365_2 := (hb.cell (World.block_lt_of_cell? _ _ hx365_2)).trans hx365_2); (try replace hx365_3 := (hb.cell (World.block_lt_of_cell? _ _ hx365_3)).trans hx365_3); (try replace hx365_4 := (hb.cell (World.block_lt_of_cell? _ _ hx365_4)).trans hx365_4); (try replace hx365_5 := (hb.cell (World.block_lt_of_cell? _ _ hx365_5)).trans hx365_5); (try replace hx365_6 := (hb.cell (World.block_lt_of_cell? _ _ hx365_6)).trans hx365_6); (try replace hx365_7 := (hb.cell (World.block_lt_of_cell? _ _ hx365_7)).trans hx365_7); clear hb hbox hg; obtain ⟨hcz8_0, hcz8_1, hcz8_2, hcz8_3, hcz8_4, hcz8_5, hcz8_6, hcz8_7, hfz8_0, hfz8_1, hfz8_2, hfz8_3, hfz8_4, hfz8_5, hfz8_6, hfz8_7⟩ := bc8_ BK366) | (at_builtin; (with_reducible refine gate_builtin (b := .append) (xs := #[.tmp 14, .tmp 23]) rfl ?_); refine Kd.R_append k96 (w0 := w) w.heap.size rfl (.tmp 14) (.tmp 23) 71 96 (.agg #[(.int .i64 0), (.int .i64 0), (.int .i64 0), (.int .i64 0), (.int .i64 0), (.string ⟨#[]⟩), (.string ⟨#[]⟩), (.int .i64 0), (.int .i64 0)]) 88 rfl Try.underlying71 info96 rfl (by decide) (by omega) u5 x5_1 (⟨a0, (rd_T37 l1 x10_1).f0, (rd_T37 l1 x10_1).f1, (⟨(rd_T37 l1 x10_1).f2.f0, (rd_T37 l1 x10_1).f2.f1, (rd_T37 l1 x10_1).f2.f2, (rd_T37 l1 x10_1).f2.f3, (rd_T37 l1 x10_1).f2.f4, (rd_T37 l1 x10_1).f2.f5⟩ : S33)⟩ : S96) [.int .i64 a0, .int .i64 ((rd_T37 l1 x10_1).f0), .int .i64 ((rd_T37 l1 x10_1).f1), .int .i64 ((rd_T37 l1 x10_1).f2.f0), .int .i64 ((rd_T37 l1 x10_1).f2.f1), .string ((rd_T37 l1 x10_1).f2.f2), .string ((rd_T37 l1 x10_1).f2.f3), .int .i64 ((rd_T37 l1 x10_1).f2.f4), .int .i64 ((rd_T37 l1 x10_1).f2.f5)] (fun _ => True) (fun _ => False) rfl (by first | (go_simp; done) | (go_simp; rfl)) ?aP (fun _ hk => hk.elim) ?aF ?aO ?aB ?aS ?aL ?_; (case aP => exact k96_mkM _ _ _ (⟨a0, (rd_T37 l1 x10_1).f0, (rd_T37 l1 x10_1).f1, (⟨(rd_T37 l1 x10_1).f2.f0, (rd_T37 l1 x10_1).f2.f1, (rd_T37 l1 x10_1).f2.f2, (rd_T37 l1 x10_1).f2.f3, (rd_T37 l1 x10_1).f2.f4, (rd_T37 l1 x10_1).f2.f5⟩ : S33)⟩ : S96)); (case aB => exact (hs_ HB GE366)); (case aF => exact (fun _ _ => trivial)); (case aO => exact (by (with_reducible repeat (first | apply Kd.R_alloc | apply Kd.R_drewN | apply Kd.R_drew)); exact Kd.R_mono (Kd.R_far (p := ⟨gb366, 7, none⟩) (Kd.R_far (p := ⟨gb366, 6, none⟩) (Kd.R_far (p := ⟨gb366, 5, none⟩) (Kd.R_far (p := ⟨gb366, 4, none⟩) (Kd.R_far (p := ⟨gb366, 3, none⟩) (Kd.R_far (p := ⟨gb366, 2, none⟩) (Kd.R_far (p := ⟨gb366, 1, none⟩) (Kd.R_far (p := ⟨gb366, 0, none⟩) (Kd.R_types HO_5.out BK366.out (by decide)) (fun _ hk => hk.2) (.int .i64 ((rd_T37 l1 x10_1).f0))) (fun _ hk => hk.2) (.int .i64 ((rd_T37 l1 x10_1).f1))) (fun _ hk => hk.2) (.int .i64 ((rd_T37 l1 x10_1).f2.f0))) (fun _ hk => hk.2) (.int .i64 ((rd_T37 l1 x10_1).f2.f1))) (fun _ hk => hk.2) (.string ((rd_T37 l1 x10_1).f2.f2))) (fun _ hk => hk.2) (.string ((rd_T37 l1 x10_1).f2.f3))) (fun _ hk => hk.2) (.int .i64 ((rd_T37 l1 x10_1).f2.f4))) (fun _ hk => hk.2) (.int .i64 ((rd_T37 l1 x10_1).f2.f5))) (fun _ hk => trivial))); (case aS => exact (below_size (hs_ HB GE366))); (case aL => have := LMc6.out; omega); intro v368 w9 ho hb hg hat; rw [← Ny367.out] at ho; replace BK366 := Aside0.mk (blk_grown (g := gb366) (o := .cells #[.int .i64 ((rd_T37 l1 x10_1).f0), .int .i64 ((rd_T37 l1 x10_1).f1), .int .i64 ((rd_T37 l1 x10_1).f2.f0), .int .i64 ((rd_T37 l1 x10_1).f2.f1), .string ((rd_T37 l1 x10_1).f2.f2), .string ((rd_T37 l1 x10_1).f2.f3), .int .i64 ((rd_T37 l1 x10_1).f2.f4), .int .i64 ((rd_T37 l1 x10_1).f2.f5)] 37 (0, 0)) (by (with_reducible repeat (first | refine blk_drewN ?_ _ | refine blk_drew ?_ | refine blk_alloc ?_ _)); refine blk_put (cs := #[.int .i64 ((rd_T37 l1 x10_1).f0), .int .i64 ((rd_T37 l1 x10_1).f1), .int .i64 ((rd_T37 l1 x10_1).f2.f0), .int .i64 ((rd_T37 l1 x10_1).f2.f1), .string ((rd_T37 l1 x10_1).f2.f2), .string ((rd_T37 l1 x10_1).f2.f3), .int .i64 ((rd_T37 l1 x10_1).f2.f4), .int .i64 0]) ?_ 7 _ rfl; (with_reducible repeat (first | refine blk_drewN ?_ _ | refine blk_drew ?_ | refine blk_alloc ?_ _)); refine blk_put (cs := #[.int .i64 ((rd_T37 l1 x10_1).f0), .int .i64 ((rd_T37 l1 x10_1).f1), .int .i64 ((rd_T37 l1 x10_1).f2.f0), .int .i64 ((rd_T37 l1 x10_1).f2.f1), .string ((rd_T37 l1 x10_1).f2.f2), .string ((rd_T37 l1 x10_1).f2.f3), .int .i64 0, .int .i64 0]) ?_ 6 _ rfl; (with_reducible repeat (first | refine blk_drewN ?_ _ | refine blk_drew ?_ | refine blk_alloc ?_ _)); refine blk_put (cs := #[.int .i64 ((rd_T37 l1 x10_1).f0), .int .i64 ((rd_T37 l1 x10_1).f1), .int .i64 ((rd_T37 l1 x10_1).f2.f0), .int .i64 ((rd_T37 l1 x10_1).f2.f1), .string ((rd_T37 l1 x10_1).f2.f2), .string (⟨#[]⟩ : ByteArray), .int .i64 0, .int .i64 0]) ?_ 5 _ rfl; (with_reducible repeat (first | refine blk_drewN ?_ _ | refine blk_drew ?_ | refine blk_alloc ?_ _)); refine blk_put (cs := #[.int .i64 ((rd_T37 l1 x10_1).f0), .int .i64 ((rd_T37 l1 x10_1).f1), .int .i64 ((rd_T37 l1 x10_1).f2.f0), .int .i64 ((rd_T37 l1 x10_1).f2.f1), .string (⟨#[]⟩ : ByteArray), .string (⟨#[]⟩ : ByteArray), .int .i64 0, .int .i64 0]) ?_ 4 _ rfl; (with_reducible repeat (first | refine blk_drewN ?_ _ | refine blk_drew ?_ | refine blk_alloc ?_ _)); refine blk_put (cs := #[.int .i64 ((rd_T37 l1 x10_1).f0), .int .i64 ((rd_T37 l1 x10_1).f1), .int .i64 ((rd_T37 l1 x10_1).f2.f0), .int .i64 0, .string (⟨#[]⟩ : ByteArray), .string (⟨#[]⟩ : ByteArray), .int .i64 0, .int .i64 0]) ?_ 3 _ rfl; (with_reducible repeat (first | refine blk_drewN ?_ _ | refine blk_drew ?_ | refine blk_alloc ?_ _)); refine blk_put (cs := #[.int .i64 ((rd_T37 l1 x10_1).f0), .int .i64 ((rd_T37 l1 x10_1).f1), .int .i64 0, .int .i64 0, .string (⟨#[]⟩ : ByteArray), .string (⟨#[]⟩ : ByteArray), .int .i64 0, .int .i64 0]) ?_ 2 _ rfl; (with_reducible repeat (first | refine blk_drewN ?_ _ | refine blk_drew ?_ | refine blk_alloc ?_ _)); refine blk_put (cs := #[.int .i64 ((rd_T37 l1 x10_1).f0), .int .i64 0, .int .i64 0, .int .i64 0, .string (⟨#[]⟩ : ByteArray), .string (⟨#[]⟩ : ByteArray), .int .i64 0, .int .i64 0]) ?_ 1 _ rfl; (with_reducible repeat (first | refine blk_drewN ?_ _ | refine blk_drew ?_ | refine blk_alloc ?_ _)); refine blk_put (cs := #[.int .i64 0, .int .i64 0, .int .i64 0, .int .i64 0, .string (⟨#[]⟩ : ByteArray), .string (⟨#[]⟩ : ByteArray), .int .i64 0, .int .i64 0]) ?_ 0 _ rfl; (with_reducible repeat (first | refine blk_drewN ?_ _ | refine blk_drew ?_ | refine blk_alloc ?_ _)); exact BK366.out) hg (Kd.R_ne HO_5.out BK366.out (by decide))); replace HB := Aside0.mk (hb); have HO369 := Aside0.mk (ho); clear HO_5; clear ho hb hg hat))
       go_roundg k1
       case measure => have := HK1.out; first | exact this | exact Nat.le_of_succ_le this | exact Nat.le_refl _ | omega
       case rel => exact ⟨(y367), (wrap64 (x10_1 + 1)), rs_, H', ⟨by have := HK1.out; first | exact this | exact Nat.le_of_succ_le this | exact Nat.le_refl _ | omega⟩, ⟨rr_ HO369⟩, ⟨hs_ HB GE366⟩⟩
      ·rw [if_neg c6] at H
       exact absurd H (by simp)
     ·rw [if_neg c5] at H
      exact absurd H (by simp)
    ·rw [if_neg c4] at H
     exact absurd H (by simp)
   ·rw [if_neg c3] at H
    have c3b0 : decide (x10_1 < (l1.length : Int)) = false := decide_eq_false c3
    clear c3
    obtain rfl := Option.some.inj H
    go_wp2
    go_ret
    exact ⟨_, by first | rfl | (simp [errW_none, errW_some] <;> rfl) | (simp [*, errW_none, errW_some] <;> rfl), rr_ HO_5, hb_ HB⟩

end Go.Proofs.Ytnjmehiploelnaa.PFnExactHintFits
