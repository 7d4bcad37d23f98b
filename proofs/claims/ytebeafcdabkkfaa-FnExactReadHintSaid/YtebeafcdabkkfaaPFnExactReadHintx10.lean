-- Laid by a program of this session, a copy of the kit's printer with additions (wip/patch_print.py): myhead. Lean checks it.
import Derived.Test.YtebeafcdabkkfaaPFnExactReadHintx0
import Derived.Test.YtebeafcdabkkfaaPFnExactReadHintx7
import Derived.Test.YtebeafcdabkkfaaPFnExactReadHintx9
namespace Go.Proofs.Ytebeafcdabkkfaa.PFnExactReadHint
open Go.RowKit Go.Proofs.YtebeafcdabkkfaaW.PrintWords Go.Proofs.YtebeafcdabkkfaaW.PrintLast Go.Proofs.YtebeafcdabkkfaaW.PrintMore
attribute [local go_sem] max2_int min2_int max_two min_two max_three min_three max_four min_four   -- for this text's walks alone
set_option linter.unusedVariables false
set_option linter.unusedSimpArgs false

/-! ### impl_ShowHint: function 31 -/
def impl_ShowHint.l0 : Nat → ByteArray → List (S113) → Int → Int → Option (ByteArray)
 | 0, _, _, _, _ => none
 | k + 1, x3, x19, x20, x21 => if x21 < x20 then (if 0 ≤ x21 then (if x21 < (x19.length : Int) then ((impl_textOf.f k ((rd_T113 x19 x21).f0)).bind fun t229 => ((impl_vars.f k (([(rd_T113 x19 x21).f1, (rd_T113 x19 x21).f2, (rd_T113 x19 x21).f3, (rd_T113 x19 x21).f4] : List Int))).bind fun t233 => (if t229.size + t233.size ≤ 9223372036854775807 then (if x3.size + (t229 ++ t233).size ≤ 9223372036854775807 then (impl_ShowHint.l0 k (x3 ++ (t229 ++ t233)) x19 x20 (wrap64 (x21 + 1))) else (none)) else (none)))) else (none)) else (none)) else ((impl_Crc.f k x3).bind fun t234 => ((impl_Fixed.f k t234 4).bind fun t235 => (if t235.size + x3.size ≤ 9223372036854775807 then (some (t235 ++ x3)) else (none))))
def impl_ShowHint.f (k : Nat) (a0_0 : Int) (a0_1 : Int) (l0_2 : List (S113)) : Option (ByteArray) := (impl_hintOk.f k a0_0 a0_1 l0_2).bind fun t222 => (if t222 = true then ((impl_vars.f k (([a0_0, a0_1, (l0_2.length : Int)] : List Int))).bind fun t226 => (impl_ShowHint.l0 k t226 l0_2 (l0_2.length : Int) 0)) else (some (⟨#[]⟩ : ByteArray)))
theorem impl_ShowHint.mono_l : ∀ k, (∀ y0 y1 y2 y3, LeO (impl_ShowHint.l0 k y0 y1 y2 y3) (impl_ShowHint.l0 (k + 1) y0 y1 y2 y3))
 | 0 => fun _ _ _ _ r h => by simp [impl_ShowHint.l0] at h
 | k + 1 => by
  have ih0 := impl_ShowHint.mono_l k
  ·intro y0 y1 y2 y3
   unfold impl_ShowHint.l0
   repeat' first
   | (with_reducible exact ih0 _ _ _ _)
   | (with_reducible exact impl_Crc.mono _ _)
   | (with_reducible exact impl_Fixed.mono _ _ _)
   | (with_reducible exact impl_hintOk.mono _ _ _ _)
   | (with_reducible exact impl_textOf.mono _ _)
   | (with_reducible exact impl_vars.mono _ _)
   | (with_reducible exact LeO.refl _)
   | (with_reducible exact LeO.none _)
   | (with_reducible refine LeO.ite ?_ ?_)
   | (with_reducible refine LeO.bind ?_ (fun _ => ?_))
   | exact ih0 _ _ _ _
   | exact impl_Crc.mono _ _
   | exact impl_Fixed.mono _ _ _
   | exact impl_hintOk.mono _ _ _ _
   | exact impl_textOf.mono _ _
   | exact impl_vars.mono _ _
   | exact LeO.none _
   | refine LeO.ite ?_ ?_
   | refine LeO.bind ?_ (fun _ => ?_)
theorem impl_ShowHint.mono : ∀ a0 a1 a2 k, LeO (impl_ShowHint.f k a0 a1 a2) (impl_ShowHint.f (k + 1) a0 a1 a2) := by
 intro a0 a1 a2 k
 have ih0 := impl_ShowHint.mono_l k
 unfold impl_ShowHint.f
 repeat' first
   | (with_reducible exact ih0 _ _ _ _)
   | (with_reducible exact impl_Crc.mono _ _)
   | (with_reducible exact impl_Fixed.mono _ _ _)
   | (with_reducible exact impl_hintOk.mono _ _ _ _)
   | (with_reducible exact impl_textOf.mono _ _)
   | (with_reducible exact impl_vars.mono _ _)
   | (with_reducible exact LeO.refl _)
   | (with_reducible exact LeO.none _)
   | (with_reducible refine LeO.ite ?_ ?_)
   | (with_reducible refine LeO.bind ?_ (fun _ => ?_))
   | exact ih0 _ _ _ _
   | exact impl_Crc.mono _ _
   | exact impl_Fixed.mono _ _ _
   | exact impl_hintOk.mono _ _ _ _
   | exact impl_textOf.mono _ _
   | exact impl_vars.mono _ _
   | exact LeO.none _
   | refine LeO.ite ?_ ?_
   | refine LeO.bind ?_ (fun _ => ?_)
def impl_ShowHint.T7 : Bool × List (List Nat × List Nat) := (true, [([], []), ([], []), ([1], [1]), ([2], [2]), ([], []), ([4], [4]), ([], []), ([6], [6]), ([], []), ([8], [8]), ([], []), ([10], [10]), ([5, 7, 9, 11], [5, 7, 9, 11]), ([12, 3], [12]), ([3, 13], [3, 13]), ([0, 14], [0, 14]), ([15, 13, 0, 1, 2, 3, 4, 5, 6, 7, 8, 9, 10, 11, 12, 13, 14, 15], [0, 15])])
def impl_ShowHint.B7 : List Nat := [0, 0, 2, 6, 0, 16, 0, 64, 0, 256, 0, 1024, 4080, 8190, 16382, 32767, 65535]
theorem impl_ShowHint.tab7 : rtab .any (opsOf Try.f31 7) = impl_ShowHint.T7 := by kernel_rfl
theorem impl_ShowHint.bits7 : waitsOk impl_ShowHint.T7.2 impl_ShowHint.B7 = true := by kernel_rfl
set_option maxHeartbeats 8000000 in
set_option maxRecDepth 100000 in
theorem impl_ShowHint.calls (k : Nat) (a0_0 : Int) (a0_1 : Int) (A0_2 : Option Addr) (c0_2 : Nat) (l0_2 : List (S113)) (r : ByteArray) (w : World) (hr0_2 : Kd.C k113 w A0_2 l0_2.length l0_2) (hc0_2 : l0_2.length ≤ c0_2) (h : impl_ShowHint.f k a0_0 a0_1 l0_2 = some r) :
  Calls Try.prog 31 #[.agg #[.int .i64 a0_0, .int .i64 a0_1, .slice A0_2 l0_2.length c0_2]] w fun e w' => e = .returned (.string r) ∧ Below w.heap.size w w' := by
 have hu54 := Try.underlying54
 have hu113 := Try.underlying113
 have HR0_2 := Aside0.mk hr0_2
 have HC0_2 := Aside0.mk hc0_2
 clear hr0_2 hc0_2
 have HB := Aside0.mk (Below.refl w.heap.size w)
 have H : ((impl_hintOk.f k a0_0 a0_1 l0_2).bind fun t222 => (if t222 = true then ((impl_vars.f k (([a0_0, a0_1, (l0_2.length : Int)] : List Int))).bind fun t226 => (impl_ShowHint.l0 k t226 l0_2 (l0_2.length : Int) 0)) else (some (⟨#[]⟩ : ByteArray)))) = some r := h
 clear h
 replace H := Option.bind_eq_some_iff.mp H
 obtain ⟨t222, A20, H⟩ := H
 replace H : (if t222 = true then ((impl_vars.f k (([a0_0, a0_1, (l0_2.length : Int)] : List Int))).bind fun t226 => (impl_ShowHint.l0 k t226 l0_2 (l0_2.length : Int) 0)) else (some (⟨#[]⟩ : ByteArray))) = some r := H
 have A2 := Aside0.mk A20
 clear A20
 by_cases c3 : t222 = true
 ·subst c3
  have H1 : ((impl_vars.f k (([a0_0, a0_1, (l0_2.length : Int)] : List Int))).bind fun t226 => (impl_ShowHint.l0 k t226 l0_2 (l0_2.length : Int) 0)) = some r := by rw [if_pos rfl] at H; exact H
  clear H
  have H := H1
  clear H1
  obtain ⟨y223, hy223⟩ : ∃ y_ : List Int, y_ = (([a0_0, a0_1, (l0_2.length : Int)] : List Int)) := ⟨_, rfl⟩
  replace H : ((impl_vars.f k y223).bind fun t226 => (impl_ShowHint.l0 k t226 l0_2 (l0_2.length : Int) 0)) = some r := by first | (rw [hy223]; with_reducible exact H) | (have H2_ := (Option.bind_some _ _).symm.trans H; rw [hy223]; with_reducible exact H2_) | (have H2_ := (Option.bind_some _ _).symm.trans H; with_reducible exact H2_) | with_reducible exact H | (rw [hy223]; exact H) | exact H
  have Ny223 := Aside0.mk hy223
  clear hy223
  replace H := Option.bind_eq_some_iff.mp H
  obtain ⟨t226, A40, H⟩ := H
  replace H : (impl_ShowHint.l0 k t226 l0_2 (l0_2.length : Int) 0) = some r := H
  have A4 := Aside0.mk A40
  clear A40
  have H' := Aside0.mk H
  clear H
  go_enter Try.func31, Try.ntmps31
  go_wp2_with (first | ((with_reducible refine gate_dst (N := 1) rfl ?_); refine box_event ?hg (N := 1) ?hd (cs := #[.int .i64 a0_0, .int .i64 a0_1, .slice A0_2 l0_2.length c0_2]) (t := 54) ?hr ?_; (case hd => rfl); (case hg => rfl); (case hr => first | (go_simp; done) | (go_simp; rfl)); intro gb221 hg w5 hbox hb; have n0_ := Aside0.mk (below_step (hb_ HB) hb); have n1_ := Aside0.mk (hbox); have n2_ := Aside0.mk ((by rw [hg]; exact (below_size (hb_ HB)) : w.heap.size ≤ gb221)); have n3_ := Aside0.mk ((by rw [hg]; exact (below_size (hb_ HB)) : w.heap.size ≤ gb221)); clear HB; have HB := n0_; have BK221 := n1_; have GW221 := n2_; have GE221 := n3_; clear n0_ n1_ n2_ n3_; clear hb hbox hg; have hcz6_0 : w5.cell? ⟨gb221, 0, none⟩ = some (.int .i64 a0_0) := (blk_cell BK221.out 0).trans rfl; have hcz6_1 : w5.cell? ⟨gb221, 1, none⟩ = some (.int .i64 a0_1) := (blk_cell BK221.out 1).trans rfl; have hcz6_2 : w5.cell? ⟨gb221, 2, none⟩ = some (.slice A0_2 l0_2.length c0_2) := (blk_cell BK221.out 2).trans rfl; have hfz6_0 := blk_frozen BK221.out 0; have hfz6_1 := blk_frozen BK221.out 1; have hfz6_2 := blk_frozen BK221.out 2) | ((with_reducible refine gate_callee (f := 89) rfl ?_); refine goesL_ (some 7) rfl rfl Try.func89 (by kernel_rfl) rfl #[.agg #[.int .i64 a0_0, .int .i64 a0_1, .slice A0_2 l0_2.length c0_2]] rfl ar_ ?_; (with_reducible refine (impl_hintOk.calls k a0_0 a0_1 _ _ l0_2 true _ ?side1 ?side2 A2.out).mono ?_); (case side1 => repeat (first | exact (Kd.C_below HR0_2.out HB.out) | (with_reducible refine Kd.C_alloc ?_ _) | (with_reducible refine Kd.C_drewN ?_ _) | (with_reducible refine Kd.C_drew ?_))); (case side2 => exact HC0_2.out); rintro e w7 ⟨rfl, hb⟩; refine ⟨_, rfl, ?_⟩; have n0_ := Aside0.mk (blk_below (g := gb221) (o := .cells #[.int .i64 a0_0, .int .i64 a0_1, .slice A0_2 l0_2.length c0_2] 54 (0, 0)) (bk_ BK221) hb); have n1_ := Aside0.mk (below_step (hs_ HB GE221) hb); clear BK221; clear HB; have BK221 := n0_; have HB := n1_; clear n0_ n1_; (try clear hb); (try clear hb2); (try clear hk); (try clear hi); have hcz8_0 : w7.cell? ⟨gb221, 0, none⟩ = some (.int .i64 a0_0) := (blk_cell BK221.out 0).trans rfl; have hcz8_1 : w7.cell? ⟨gb221, 1, none⟩ = some (.int .i64 a0_1) := (blk_cell BK221.out 1).trans rfl; have hcz8_2 : w7.cell? ⟨gb221, 2, none⟩ = some (.slice A0_2 l0_2.length c0_2) := (blk_cell BK221.out 2).trans rfl; have hfz8_0 := blk_frozen BK221.out 0; have hfz8_1 := blk_frozen BK221.out 1; have hfz8_2 := blk_frozen BK221.out 2) | ((with_reducible refine gate_dst (N := 16) rfl ?_); refine Kd.R_lit (Kd.int .i64) _ 3 ?hg (N := 16) ?hd (xs := ([a0_0, a0_1, (l0_2.length : Int)] : List Int)) (inner := [.int .i64 a0_0, .int .i64 a0_1, .int .i64 (l0_2.length : Int)]) (ok := fun _ => True) (okp := fun _ => True) ?hr ?hp (fun _ hk => hk) trivial (Below.refl _ _) (Nat.le_refl _) (by simp) ?_; (case hd => rfl); (case hg => rfl); (case hr => first | (go_simp; done) | (go_simp; rfl)); (case hp => exact (Reps.one (show Kd.M (Kd.int .i64) _ _ _ a0_0 [.int .i64 a0_0] from rfl) (Reps.one (show Kd.M (Kd.int .i64) _ _ _ a0_1 [.int .i64 a0_1] from rfl) (Reps.one (show Kd.M (Kd.int .i64) _ _ _ (l0_2.length : Int) [.int .i64 (l0_2.length : Int)] from rfl) (Reps.none _ _))))); intro v224 w9 ho10 hb hg_ hnew_; clear hg_ hnew_; (first | rw [← Ny223.out] at ho10 | (simp only [Int.reduceToNat] at ho10; rw [← Ny223.out] at ho10)); have n0_ := Aside0.mk (Kd.R_lower ho10 (below_size (hs_ HB GE221))); have n1_ := Aside0.mk (blk_below (g := gb221) (o := .cells #[.int .i64 a0_0, .int .i64 a0_1, .slice A0_2 l0_2.length c0_2] 54 (0, 0)) (bk_ BK221) hb); have n2_ := Aside0.mk (below_step (hs_ HB GE221) hb); clear BK221; clear HB; have HO225 := n0_; have BK221 := n1_; have HB := n2_; clear n0_ n1_ n2_; clear hb ho10; obtain ⟨Ao11, co11, eo11⟩ := Kd.R_slice HO225.out; subst eo11) | ((with_reducible refine gate_callee (f := 90) rfl ?_); refine goesL_ (some 17) rfl rfl Try.func90 (by kernel_rfl) rfl #[.slice Ao11 y223.length co11] rfl ar_ ?_; (with_reducible refine (impl_vars.calls k _ _ y223 t226 _ ?side1 ?side2 A4.out).mono ?_); (case side1 => repeat (first | exact (Kd.R_reads' HO225.out).2.2 | (with_reducible refine Kd.C_alloc ?_ _) | (with_reducible refine Kd.C_drewN ?_ _) | (with_reducible refine Kd.C_drew ?_))); (case side2 => exact (Kd.R_reads' HO225.out).2.1); rintro e w12 ⟨rfl, hb⟩; refine ⟨_, rfl, ?_⟩; have n0_ := Aside0.mk (Kd.R_below (rr_ HO225) hb); have n1_ := Aside0.mk (blk_below (g := gb221) (o := .cells #[.int .i64 a0_0, .int .i64 a0_1, .slice A0_2 l0_2.length c0_2] 54 (0, 0)) (bk_ BK221) hb); have n2_ := Aside0.mk (below_step (hs_ HB GE221) hb); clear HO225; clear BK221; clear HB; have HO225 := n0_; have BK221 := n1_; have HB := n2_; clear n0_ n1_ n2_; (try clear hb); (try clear hb2); (try clear hk); (try clear hi); have hcz13_0 : w12.cell? ⟨gb221, 0, none⟩ = some (.int .i64 a0_0) := (blk_cell BK221.out 0).trans rfl; have hcz13_1 : w12.cell? ⟨gb221, 1, none⟩ = some (.int .i64 a0_1) := (blk_cell BK221.out 1).trans rfl; have hcz13_2 : w12.cell? ⟨gb221, 2, none⟩ = some (.slice A0_2 l0_2.length c0_2) := (blk_cell BK221.out 2).trans rfl; have hfz13_0 := blk_frozen BK221.out 0; have hfz13_1 := blk_frozen BK221.out 1; have hfz13_2 := blk_frozen BK221.out 2))
  go_loopg [3, 21] k (fun kq v3 v21 w' => ∃ (x3_1 : ByteArray) (x21_1 : Int), v3 = .string x3_1 ∧ v21 = .int .i64 x21_1 ∧ Aside0 (impl_ShowHint.l0 kq x3_1 l0_2 (l0_2.length : Int) x21_1 = some r) ∧ Aside0 (kq ≤ k) ∧ Aside0 (w'.heap[gb221]? = some (.cells #[.int .i64 a0_0, .int .i64 a0_1, (.slice A0_2 l0_2.length c0_2)] 54 (0, 0))) ∧ Aside0 (Below w.heap.size w w'))
  case atStart => exact ⟨(t226), (0), rs_, rs_, H', ⟨Nat.le_refl _⟩, ⟨bk_ BK221⟩, ⟨hs_ HB GE221⟩⟩
  case round =>
   clear H'
   try clear p2
   try clear c3
   try clear c8
   try clear c9
   try clear hcz13_0
   try clear hcz13_1
   try clear hcz13_2
   try clear hcz6_0
   try clear hcz6_1
   try clear hcz6_2
   try clear hcz8_0
   try clear hcz8_1
   try clear hcz8_2
   try clear hfz13_0
   try clear hfz13_1
   try clear hfz13_2
   try clear hfz6_0
   try clear hfz6_1
   try clear hfz6_2
   try clear hfz8_0
   try clear hfz8_1
   try clear hfz8_2
   obtain ⟨x3_1, x21_1, rfl, rfl, HA, HK1, BK221, HB⟩ := hrel
   cases gk with
   | zero => exact absurd HA.out (by simp [impl_ShowHint.l0])
   | succ k1 =>
    have H := HA.out
    clear HA
    simp only [impl_ShowHint.l0] at H
    by_cases c14 : x21_1 < (l0_2.length : Int)
    ·rw [if_pos c14] at H
     have c14b0 : decide (x21_1 < (l0_2.length : Int)) = true := decide_eq_true c14
     clear c14
     by_cases c15 : 0 ≤ x21_1
     ·rw [if_pos c15] at H
      have c15b0 : decide (0 ≤ x21_1) = true := decide_eq_true c15
      clear c15
      by_cases c16 : x21_1 < (l0_2.length : Int)
      ·rw [if_pos c16] at H
       have c16b0 : decide (x21_1 < (l0_2.length : Int)) = true := decide_eq_true c16
       clear c16
       replace H := Option.bind_eq_some_iff.mp H
       obtain ⟨t229, A170, H⟩ := H
       replace H : ((impl_vars.f k1 (([(rd_T113 l0_2 x21_1).f1, (rd_T113 l0_2 x21_1).f2, (rd_T113 l0_2 x21_1).f3, (rd_T113 l0_2 x21_1).f4] : List Int))).bind fun t233 => (if t229.size + t233.size ≤ 9223372036854775807 then (if x3_1.size + (t229 ++ t233).size ≤ 9223372036854775807 then (impl_ShowHint.l0 k1 (x3_1 ++ (t229 ++ t233)) l0_2 (l0_2.length : Int) (wrap64 (x21_1 + 1))) else (none)) else (none))) = some r := H
       have A17 := Aside0.mk A170
       clear A170
       obtain ⟨y230, hy230⟩ : ∃ y_ : List Int, y_ = (([(rd_T113 l0_2 x21_1).f1, (rd_T113 l0_2 x21_1).f2, (rd_T113 l0_2 x21_1).f3, (rd_T113 l0_2 x21_1).f4] : List Int)) := ⟨_, rfl⟩
       replace H : ((impl_vars.f k1 y230).bind fun t233 => (if t229.size + t233.size ≤ 9223372036854775807 then (if x3_1.size + (t229 ++ t233).size ≤ 9223372036854775807 then (impl_ShowHint.l0 k1 (x3_1 ++ (t229 ++ t233)) l0_2 (l0_2.length : Int) (wrap64 (x21_1 + 1))) else (none)) else (none))) = some r := by first | (rw [hy230]; with_reducible exact H) | (have H2_ := (Option.bind_some _ _).symm.trans H; rw [hy230]; with_reducible exact H2_) | (have H2_ := (Option.bind_some _ _).symm.trans H; with_reducible exact H2_) | with_reducible exact H | (rw [hy230]; exact H) | exact H
       have Ny230 := Aside0.mk hy230
       clear hy230
       replace H := Option.bind_eq_some_iff.mp H
       obtain ⟨t233, A180, H⟩ := H
       replace H : (if t229.size + t233.size ≤ 9223372036854775807 then (if x3_1.size + (t229 ++ t233).size ≤ 9223372036854775807 then (impl_ShowHint.l0 k1 (x3_1 ++ (t229 ++ t233)) l0_2 (l0_2.length : Int) (wrap64 (x21_1 + 1))) else (none)) else (none)) = some r := H
       have A18 := Aside0.mk A180
       clear A180
       by_cases c19 : t229.size + t233.size ≤ 9223372036854775807
       ·rw [if_pos c19] at H
        have c19b0 := eq_true c19
        have c19b1 : decide (t229.size + t233.size ≤ 9223372036854775807) = true := decide_eq_true c19
        try have c19b2 : (9223372036854775807 < t229.size + t233.size) = False := eq_false (Nat.not_lt.2 c19)
        (try (have c19b3 := c19b2; simp only [ByteArray.size_append] at c19b3))
        by_cases c20 : x3_1.size + (t229 ++ t233).size ≤ 9223372036854775807
        ·rw [if_pos c20] at H
         have c20b0 := eq_true c20
         have c20b1 : decide (x3_1.size + (t229 ++ t233).size ≤ 9223372036854775807) = true := decide_eq_true c20
         try have c20b2 : (9223372036854775807 < x3_1.size + (t229 ++ t233).size) = False := eq_false (Nat.not_lt.2 c20)
         (try (have c20b3 := c20b2; simp only [ByteArray.size_append] at c20b3))
         have H' := Aside0.mk H
         clear H
         have p227 : 0 ≤ (x21_1 : Int) := of_decide_eq_true as_
         have q227 : x21_1 < (l0_2.length : Int) := of_decide_eq_true as_
         obtain ⟨ad227, e227, hx227_0, hx227_1, hx227_2, hx227_3, hx227_4⟩ := at_T113 HR0_2.out x21_1 p227 q227
         cases e227
         replace hx227_0 := cb_ HB hx227_0
         replace hx227_1 := cb_ HB hx227_1
         replace hx227_2 := cb_ HB hx227_2
         replace hx227_3 := cb_ HB hx227_3
         replace hx227_4 := cb_ HB hx227_4
         replace p227 := eq_true p227
         replace q227 := eq_true q227
         try go_wp2_with (first | ((with_reducible refine gate_dst (N := 5) rfl ?_); refine box_event ?hg (N := 5) ?hd (cs := #[.string (⟨#[]⟩ : ByteArray), .int .i64 0, .int .i64 0, .int .i64 0, .int .i64 0]) (t := 113) ?hr ?_; (case hd => rfl); (case hg => rfl); (case hr => first | (go_simp; done) | (go_simp; rfl)); intro gb228 hg w21 hbox hb; have n0_ := Aside0.mk (blk_below (g := gb221) (o := .cells #[.int .i64 a0_0, .int .i64 a0_1, .slice (some ad227) l0_2.length c0_2] 54 (0, 0)) (bk_ BK221) hb); have n1_ := Aside0.mk (below_step (hs_ HB GE221) hb); have n2_ := Aside0.mk (hbox); have n3_ := Aside0.mk ((by rw [hg]; exact (below_size (hs_ HB GE221)) : w.heap.size ≤ gb228)); have n4_ := Aside0.mk ((by rw [hg]; exact (below_size (hs_ HB GE221)) : w.heap.size ≤ gb228)); have n5_ := Aside0.mk ((by rw [hg]; exact Nat.ne_of_lt (blk_lt (g := gb221) (o := .cells #[.int .i64 a0_0, .int .i64 a0_1, .slice (some ad227) l0_2.length c0_2] 54 (0, 0)) (bk_ BK221)) : gb221 ≠ gb228)); have n6_ := Aside0.mk ((by rw [hg]; exact Nat.ne_of_gt (blk_lt (g := gb221) (o := .cells #[.int .i64 a0_0, .int .i64 a0_1, .slice (some ad227) l0_2.length c0_2] 54 (0, 0)) (bk_ BK221)) : gb228 ≠ gb221)); clear BK221; clear HB; have BK221 := n0_; have HB := n1_; have BK228 := n2_; have GW228 := n3_; have GE228 := n4_; have NB221_228 := n5_; have NB228_221 := n6_; clear n0_ n1_ n2_ n3_ n4_ n5_ n6_; clear hb hbox hg; have hnb22 := NB228_221.out; have hnc22 := NB221_228.out; have hcz23_0 : w21.cell? ⟨gb228, 0, none⟩ = some (.string (⟨#[]⟩ : ByteArray)) := (blk_cell BK228.out 0).trans rfl; have hcz23_1 : w21.cell? ⟨gb228, 1, none⟩ = some (.int .i64 0) := (blk_cell BK228.out 1).trans rfl; have hcz23_2 : w21.cell? ⟨gb228, 2, none⟩ = some (.int .i64 0) := (blk_cell BK228.out 2).trans rfl; have hcz23_3 : w21.cell? ⟨gb228, 3, none⟩ = some (.int .i64 0) := (blk_cell BK228.out 3).trans rfl; have hcz23_4 : w21.cell? ⟨gb228, 4, none⟩ = some (.int .i64 0) := (blk_cell BK228.out 4).trans rfl; have hfz23_0 := blk_frozen BK228.out 0; have hfz23_1 := blk_frozen BK228.out 1; have hfz23_2 := blk_frozen BK228.out 2; have hfz23_3 := blk_frozen BK228.out 3; have hfz23_4 := blk_frozen BK228.out 4))
         have n0_ : Aside0 ((((((w21.setCell ⟨gb228, 0, none⟩ (.string ((rd_T113 l0_2 x21_1).f0))).setCell ⟨gb228, 1, none⟩ (.int .i64 ((rd_T113 l0_2 x21_1).f1))).setCell ⟨gb228, 2, none⟩ (.int .i64 ((rd_T113 l0_2 x21_1).f2))).setCell ⟨gb228, 3, none⟩ (.int .i64 ((rd_T113 l0_2 x21_1).f3))).setCell ⟨gb228, 4, none⟩ (.int .i64 ((rd_T113 l0_2 x21_1).f4))).heap[gb221]? = some (.cells #[.int .i64 a0_0, .int .i64 a0_1, .slice (some ad227) l0_2.length c0_2] 54 (0, 0))) := ⟨by (with_reducible repeat (first | refine blk_drewN ?_ _ | refine blk_drew ?_ | refine blk_alloc ?_ _)); refine blk_far ?_ NB221_228.out _; (with_reducible repeat (first | refine blk_drewN ?_ _ | refine blk_drew ?_ | refine blk_alloc ?_ _)); refine blk_far ?_ NB221_228.out _; (with_reducible repeat (first | refine blk_drewN ?_ _ | refine blk_drew ?_ | refine blk_alloc ?_ _)); refine blk_far ?_ NB221_228.out _; (with_reducible repeat (first | refine blk_drewN ?_ _ | refine blk_drew ?_ | refine blk_alloc ?_ _)); refine blk_far ?_ NB221_228.out _; (with_reducible repeat (first | refine blk_drewN ?_ _ | refine blk_drew ?_ | refine blk_alloc ?_ _)); refine blk_far ?_ NB221_228.out _; (with_reducible repeat (first | refine blk_drewN ?_ _ | refine blk_drew ?_ | refine blk_alloc ?_ _)); exact BK221.out⟩
         have n1_ : Aside0 ((((((w21.setCell ⟨gb228, 0, none⟩ (.string ((rd_T113 l0_2 x21_1).f0))).setCell ⟨gb228, 1, none⟩ (.int .i64 ((rd_T113 l0_2 x21_1).f1))).setCell ⟨gb228, 2, none⟩ (.int .i64 ((rd_T113 l0_2 x21_1).f2))).setCell ⟨gb228, 3, none⟩ (.int .i64 ((rd_T113 l0_2 x21_1).f3))).setCell ⟨gb228, 4, none⟩ (.int .i64 ((rd_T113 l0_2 x21_1).f4))).heap[gb228]? = some (.cells #[.string ((rd_T113 l0_2 x21_1).f0), .int .i64 ((rd_T113 l0_2 x21_1).f1), .int .i64 ((rd_T113 l0_2 x21_1).f2), .int .i64 ((rd_T113 l0_2 x21_1).f3), .int .i64 ((rd_T113 l0_2 x21_1).f4)] 113 (0, 0))) := ⟨by (with_reducible repeat (first | refine blk_drewN ?_ _ | refine blk_drew ?_ | refine blk_alloc ?_ _)); refine blk_put (cs := #[.string ((rd_T113 l0_2 x21_1).f0), .int .i64 ((rd_T113 l0_2 x21_1).f1), .int .i64 ((rd_T113 l0_2 x21_1).f2), .int .i64 ((rd_T113 l0_2 x21_1).f3), .int .i64 0]) ?_ 4 _ rfl; (with_reducible repeat (first | refine blk_drewN ?_ _ | refine blk_drew ?_ | refine blk_alloc ?_ _)); refine blk_put (cs := #[.string ((rd_T113 l0_2 x21_1).f0), .int .i64 ((rd_T113 l0_2 x21_1).f1), .int .i64 ((rd_T113 l0_2 x21_1).f2), .int .i64 0, .int .i64 0]) ?_ 3 _ rfl; (with_reducible repeat (first | refine blk_drewN ?_ _ | refine blk_drew ?_ | refine blk_alloc ?_ _)); refine blk_put (cs := #[.string ((rd_T113 l0_2 x21_1).f0), .int .i64 ((rd_T113 l0_2 x21_1).f1), .int .i64 0, .int .i64 0, .int .i64 0]) ?_ 2 _ rfl; (with_reducible repeat (first | refine blk_drewN ?_ _ | refine blk_drew ?_ | refine blk_alloc ?_ _)); refine blk_put (cs := #[.string ((rd_T113 l0_2 x21_1).f0), .int .i64 0, .int .i64 0, .int .i64 0, .int .i64 0]) ?_ 1 _ rfl; (with_reducible repeat (first | refine blk_drewN ?_ _ | refine blk_drew ?_ | refine blk_alloc ?_ _)); refine blk_put (cs := #[.string (⟨#[]⟩ : ByteArray), .int .i64 0, .int .i64 0, .int .i64 0, .int .i64 0]) ?_ 0 _ rfl; (with_reducible repeat (first | refine blk_drewN ?_ _ | refine blk_drew ?_ | refine blk_alloc ?_ _)); exact BK228.out⟩
         have n2_ : Aside0 (Below w.heap.size w (((((w21.setCell ⟨gb228, 0, none⟩ (.string ((rd_T113 l0_2 x21_1).f0))).setCell ⟨gb228, 1, none⟩ (.int .i64 ((rd_T113 l0_2 x21_1).f1))).setCell ⟨gb228, 2, none⟩ (.int .i64 ((rd_T113 l0_2 x21_1).f2))).setCell ⟨gb228, 3, none⟩ (.int .i64 ((rd_T113 l0_2 x21_1).f3))).setCell ⟨gb228, 4, none⟩ (.int .i64 ((rd_T113 l0_2 x21_1).f4)))) := ⟨by repeat (first | (with_reducible first | exact HB.out | apply below_alloc | apply pw_below_drewN | apply below_drew1 | refine below_set ?_ GE221.out | refine below_set ?_ GE228.out) | exact HB.out)⟩
         (try clear BK221)
         (try clear BK228)
         (try clear HB)
         generalize (((((w21.setCell ⟨gb228, 0, none⟩ (.string ((rd_T113 l0_2 x21_1).f0))).setCell ⟨gb228, 1, none⟩ (.int .i64 ((rd_T113 l0_2 x21_1).f1))).setCell ⟨gb228, 2, none⟩ (.int .i64 ((rd_T113 l0_2 x21_1).f2))).setCell ⟨gb228, 3, none⟩ (.int .i64 ((rd_T113 l0_2 x21_1).f3))).setCell ⟨gb228, 4, none⟩ (.int .i64 ((rd_T113 l0_2 x21_1).f4))) = w24 at n0_ n1_ n2_ ⊢
         have BK221 := n0_
         have BK228 := n1_
         have HB := n2_
         clear n0_ n1_ n2_
         have n0_ := Aside0.mk (blk_drew BK221.out)
         have n1_ := Aside0.mk (blk_drew BK228.out)
         have n2_ := Aside0.mk (below_drew1 HB.out)
         clear BK221
         clear BK228
         clear HB
         have BK221 := n0_
         have BK228 := n1_
         have HB := n2_
         clear n0_ n1_ n2_
         refine start_ (n := 17) (S := fun w' => True) (ds := []) (on_ 0 17) (by kernel_rfl) rfl rfl trivial (fun hHeld => ?_); refine with_tabW impl_ShowHint.tab7 impl_ShowHint.bits7 (fun HT_ HW_ => ?_)
         generalize w24.drew = w25 at BK221 BK228 HB hHeld ⊢
         refine pv_ (i := 0) (N := some 25) (on_ 1 16) rfl rfl HT_ ?_
         refine pv_ (i := 1) (N := some 26) (on_ 2 15) rfl rfl HT_ ?_
         refine pv_ (i := 4) (N := some 29) #[i',i',o',o',i',o',o',o',o',o',o',o',o',o',o',o',o'] rfl rfl HT_ ?_
         refine pv_ (i := 6) (N := some 31) #[i',i',o',o',i',o',i',o',o',o',o',o',o',o',o',o',o'] rfl rfl HT_ ?_
         refine pv_ (i := 8) (N := some 33) #[i',i',o',o',i',o',i',o',i',o',o',o',o',o',o',o',o'] rfl rfl HT_ ?_
         refine pv_ (i := 10) (N := some 35) #[i',i',o',o',i',o',i',o',i',o',i',o',o',o',o',o',o'] rfl rfl HT_ ?_
         refine inv_at [2, 3, 5, 7, 9, 11, 12, 13, 14, 15, 16] (fun a0_ b a w' => ∃ (v231 : Value), a = putSel a0_ b [(2, 27, .string ((rd_T113 l0_2 x21_1).f0)), (3, 28, .string t229), (5, 30, .int .i64 ((rd_T113 l0_2 x21_1).f1)), (7, 32, .int .i64 ((rd_T113 l0_2 x21_1).f2)), (9, 34, .int .i64 ((rd_T113 l0_2 x21_1).f3)), (11, 36, .int .i64 ((rd_T113 l0_2 x21_1).f4)), (12, 37, v231), (13, 38, .string t233), (14, 39, .string (t229 ++ t233)), (15, 40, .string (x3_1 ++ (t229 ++ t233))), (16, 3, .string (x3_1 ++ (t229 ++ t233)))] ∧ (w'.heap[gb221]? = some (.cells #[.int .i64 a0_0, .int .i64 a0_1, .slice (some ad227) l0_2.length c0_2] 54 (0, 0))) ∧ (w'.heap[gb228]? = some (.cells #[.string ((rd_T113 l0_2 x21_1).f0), .int .i64 ((rd_T113 l0_2 x21_1).f1), .int .i64 ((rd_T113 l0_2 x21_1).f2), .int .i64 ((rd_T113 l0_2 x21_1).f3), .int .i64 ((rd_T113 l0_2 x21_1).f4)] 113 (0, 0))) ∧ (Below w.heap.size w w') ∧ (b 12 = true → Kd.R (Kd.int .i64) 3 w' w.heap.size (fun _ => True) v231 y230)) HT_.out HW_.out (by kernel_rfl) (by kernel_rfl) ?_ ?_ ?_
         ·exact ⟨.bool false, by simp only [putSel, Bool.false_eq_true, if_false], BK221.out, BK228.out, HB.out, fun h_ => absurd h_ (by decide)⟩
         ·skip
          clear BK221 BK228 HB
          refine steps_cons ?_ ?_
          ·rintro b a w' ⟨v231, ha, Q_BK221, Q_BK228, Q_HB, Q_HO232⟩ hb_ hon hoff
           refine ⟨_, rfl, fun K hK => ?_⟩
           have e26 : a.tmps[26]? = some (.pointer (some ⟨gb228, 0, none⟩)) := by rw [ha]; exact (putSel_off rfl).trans rfl
           replace ha := Aside0.mk ha
           have BK221 := Aside0.mk Q_BK221
           have BK228 := Aside0.mk Q_BK228
           have HB := Aside0.mk Q_HB
           have hc0_ : w'.cell? ⟨gb228, 0, none⟩ = some (.string ((rd_T113 l0_2 x21_1).f0)) := (blk_cell BK228.out 0).trans rfl
           have hc1_ : w'.cell? ⟨gb228, 1, none⟩ = some (.int .i64 ((rd_T113 l0_2 x21_1).f1)) := (blk_cell BK228.out 1).trans rfl
           have hc2_ : w'.cell? ⟨gb228, 2, none⟩ = some (.int .i64 ((rd_T113 l0_2 x21_1).f2)) := (blk_cell BK228.out 2).trans rfl
           have hc3_ : w'.cell? ⟨gb228, 3, none⟩ = some (.int .i64 ((rd_T113 l0_2 x21_1).f3)) := (blk_cell BK228.out 3).trans rfl
           have hc4_ : w'.cell? ⟨gb228, 4, none⟩ = some (.int .i64 ((rd_T113 l0_2 x21_1).f4)) := (blk_cell BK228.out 4).trans rfl
           refine value_ (w1 := w') (v := .string ((rd_T113 l0_2 x21_1).f0)) (by rfl) rfl ?_ ?_
           ·go_simp
            (try simp only [i64_w])
            try rfl
           refine hK.out _ _ ⟨v231, (by rw [ha.out]; exact putSel_upk 0 hb_ rfl rfl rfl), Q_BK221, Q_BK228, Q_HB, Q_HO232⟩
          refine steps_cons ?_ ?_
          ·rintro b a w' ⟨v231, ha, Q_BK221, Q_BK228, Q_HB, Q_HO232⟩ hb_ hon hoff
           refine ⟨_, rfl, fun K hK => ?_⟩
           have e27 : a.tmps[27]? = some (.string ((rd_T113 l0_2 x21_1).f0)) := by rw [ha]; exact putSel_on (e := (2, 27, .string ((rd_T113 l0_2 x21_1).f0))) 0 rfl rfl (hon 2 (by kernel_rfl)) rfl
           replace ha := Aside0.mk ha
           have BK221 := Aside0.mk Q_BK221
           have BK228 := Aside0.mk Q_BK228
           have HB := Aside0.mk Q_HB
           refine goes_ Try.func91 (by kernel_rfl) rfl #[.string ((rd_T113 l0_2 x21_1).f0)] (by rfl) rfl rfl (by first | (simp only [List.map_toArray, List.map_cons, List.map_nil, Act.eval, Array.getD_eq_getD_getElem?, Option.getD_some, e27]; done) | (simp only [List.map_toArray, List.map_cons, List.map_nil, Act.eval, Array.getD_eq_getD_getElem?, Option.getD_some, e27]; rfl)) ?_
           with_reducible refine (impl_textOf.calls k1 ((rd_T113 l0_2 x21_1).f0) t229 _ A17.out).mono ?_
           rintro e w26 ⟨rfl, hb⟩
           refine ⟨_, rfl, ?_⟩
           have n0_ := Aside0.mk (blk_below (g := gb221) (o := .cells #[.int .i64 a0_0, .int .i64 a0_1, .slice (some ad227) l0_2.length c0_2] 54 (0, 0)) (bk_ BK221) hb)
           have n1_ := Aside0.mk (blk_below (g := gb228) (o := .cells #[.string ((rd_T113 l0_2 x21_1).f0), .int .i64 ((rd_T113 l0_2 x21_1).f1), .int .i64 ((rd_T113 l0_2 x21_1).f2), .int .i64 ((rd_T113 l0_2 x21_1).f3), .int .i64 ((rd_T113 l0_2 x21_1).f4)] 113 (0, 0)) (bk_ BK228) hb)
           have n2_ := Aside0.mk (below_step (by repeat (first | (with_reducible first | exact HB.out | apply below_alloc | apply pw_below_drewN | apply below_drew1 | refine below_set ?_ GE221.out | refine below_set ?_ GE228.out) | exact HB.out)) hb)
           have z_HO232 := fun (h0_ : b 12 = true) => (show Kd.R (Kd.int .i64) 3 w26 w.heap.size (fun _ => True) v231 y230 from by first | exact (Kd.R_below (by (with_reducible repeat (first | apply Kd.R_alloc | apply Kd.R_drewN | apply Kd.R_drew)); exact (Q_HO232 h0_)) hb) | exact Kd.R_mono (Kd.R_below (by (with_reducible repeat (first | apply Kd.R_alloc | apply Kd.R_drewN | apply Kd.R_drew)); exact (Q_HO232 h0_)) hb) (fun _ h_ => by first | trivial | exact h_ | exact h_.1))
           clear BK221
           clear BK228
           clear HB
           have BK221 := n0_
           have BK228 := n1_
           have HB := n2_
           clear n0_ n1_ n2_
           (try clear hb)
           (try clear hb2)
           (try clear hk)
           (try clear hi)
           refine hK.out _ _ ⟨v231, (by rw [ha.out]; exact putSel_upk 1 hb_ rfl rfl rfl), (bk_ BK221), (bk_ BK228), (by repeat (first | (with_reducible first | exact HB.out | apply below_alloc | apply pw_below_drewN | apply below_drew1 | refine below_set ?_ GE221.out | refine below_set ?_ GE228.out) | exact HB.out)), z_HO232⟩
          refine steps_cons ?_ ?_
          ·rintro b a w' ⟨v231, ha, Q_BK221, Q_BK228, Q_HB, Q_HO232⟩ hb_ hon hoff
           refine ⟨_, rfl, fun K hK => ?_⟩
           have e29 : a.tmps[29]? = some (.pointer (some ⟨gb228, 1, none⟩)) := by rw [ha]; exact (putSel_off rfl).trans rfl
           replace ha := Aside0.mk ha
           have BK221 := Aside0.mk Q_BK221
           have BK228 := Aside0.mk Q_BK228
           have HB := Aside0.mk Q_HB
           have hc0_ : w'.cell? ⟨gb228, 0, none⟩ = some (.string ((rd_T113 l0_2 x21_1).f0)) := (blk_cell BK228.out 0).trans rfl
           have hc1_ : w'.cell? ⟨gb228, 1, none⟩ = some (.int .i64 ((rd_T113 l0_2 x21_1).f1)) := (blk_cell BK228.out 1).trans rfl
           have hc2_ : w'.cell? ⟨gb228, 2, none⟩ = some (.int .i64 ((rd_T113 l0_2 x21_1).f2)) := (blk_cell BK228.out 2).trans rfl
           have hc3_ : w'.cell? ⟨gb228, 3, none⟩ = some (.int .i64 ((rd_T113 l0_2 x21_1).f3)) := (blk_cell BK228.out 3).trans rfl
           have hc4_ : w'.cell? ⟨gb228, 4, none⟩ = some (.int .i64 ((rd_T113 l0_2 x21_1).f4)) := (blk_cell BK228.out 4).trans rfl
           refine value_ (w1 := w') (v := .int .i64 ((rd_T113 l0_2 x21_1).f1)) (by rfl) rfl ?_ ?_
           ·go_simp
            (try simp only [i64_w])
            try rfl
           refine hK.out _ _ ⟨v231, (by rw [ha.out]; exact putSel_upk 2 hb_ rfl rfl rfl), Q_BK221, Q_BK228, Q_HB, fun h0_ => absurd ((hoff 12 (by kernel_rfl)).symm.trans h0_) (by decide)⟩
          refine steps_cons ?_ ?_
          ·rintro b a w' ⟨v231, ha, Q_BK221, Q_BK228, Q_HB, Q_HO232⟩ hb_ hon hoff
           refine ⟨_, rfl, fun K hK => ?_⟩
           have e31 : a.tmps[31]? = some (.pointer (some ⟨gb228, 2, none⟩)) := by rw [ha]; exact (putSel_off rfl).trans rfl
           replace ha := Aside0.mk ha
           have BK221 := Aside0.mk Q_BK221
           have BK228 := Aside0.mk Q_BK228
           have HB := Aside0.mk Q_HB
           have hc0_ : w'.cell? ⟨gb228, 0, none⟩ = some (.string ((rd_T113 l0_2 x21_1).f0)) := (blk_cell BK228.out 0).trans rfl
           have hc1_ : w'.cell? ⟨gb228, 1, none⟩ = some (.int .i64 ((rd_T113 l0_2 x21_1).f1)) := (blk_cell BK228.out 1).trans rfl
           have hc2_ : w'.cell? ⟨gb228, 2, none⟩ = some (.int .i64 ((rd_T113 l0_2 x21_1).f2)) := (blk_cell BK228.out 2).trans rfl
           have hc3_ : w'.cell? ⟨gb228, 3, none⟩ = some (.int .i64 ((rd_T113 l0_2 x21_1).f3)) := (blk_cell BK228.out 3).trans rfl
           have hc4_ : w'.cell? ⟨gb228, 4, none⟩ = some (.int .i64 ((rd_T113 l0_2 x21_1).f4)) := (blk_cell BK228.out 4).trans rfl
           refine value_ (w1 := w') (v := .int .i64 ((rd_T113 l0_2 x21_1).f2)) (by rfl) rfl ?_ ?_
           ·go_simp
            (try simp only [i64_w])
            try rfl
           refine hK.out _ _ ⟨v231, (by rw [ha.out]; exact putSel_upk 3 hb_ rfl rfl rfl), Q_BK221, Q_BK228, Q_HB, fun h0_ => absurd ((hoff 12 (by kernel_rfl)).symm.trans h0_) (by decide)⟩
          refine steps_cons ?_ ?_
          ·rintro b a w' ⟨v231, ha, Q_BK221, Q_BK228, Q_HB, Q_HO232⟩ hb_ hon hoff
           refine ⟨_, rfl, fun K hK => ?_⟩
           have e33 : a.tmps[33]? = some (.pointer (some ⟨gb228, 3, none⟩)) := by rw [ha]; exact (putSel_off rfl).trans rfl
           replace ha := Aside0.mk ha
           have BK221 := Aside0.mk Q_BK221
           have BK228 := Aside0.mk Q_BK228
           have HB := Aside0.mk Q_HB
           have hc0_ : w'.cell? ⟨gb228, 0, none⟩ = some (.string ((rd_T113 l0_2 x21_1).f0)) := (blk_cell BK228.out 0).trans rfl
           have hc1_ : w'.cell? ⟨gb228, 1, none⟩ = some (.int .i64 ((rd_T113 l0_2 x21_1).f1)) := (blk_cell BK228.out 1).trans rfl
           have hc2_ : w'.cell? ⟨gb228, 2, none⟩ = some (.int .i64 ((rd_T113 l0_2 x21_1).f2)) := (blk_cell BK228.out 2).trans rfl
           have hc3_ : w'.cell? ⟨gb228, 3, none⟩ = some (.int .i64 ((rd_T113 l0_2 x21_1).f3)) := (blk_cell BK228.out 3).trans rfl
           have hc4_ : w'.cell? ⟨gb228, 4, none⟩ = some (.int .i64 ((rd_T113 l0_2 x21_1).f4)) := (blk_cell BK228.out 4).trans rfl
           refine value_ (w1 := w') (v := .int .i64 ((rd_T113 l0_2 x21_1).f3)) (by rfl) rfl ?_ ?_
           ·go_simp
            (try simp only [i64_w])
            try rfl
           refine hK.out _ _ ⟨v231, (by rw [ha.out]; exact putSel_upk 4 hb_ rfl rfl rfl), Q_BK221, Q_BK228, Q_HB, fun h0_ => absurd ((hoff 12 (by kernel_rfl)).symm.trans h0_) (by decide)⟩
          refine steps_cons ?_ ?_
          ·rintro b a w' ⟨v231, ha, Q_BK221, Q_BK228, Q_HB, Q_HO232⟩ hb_ hon hoff
           refine ⟨_, rfl, fun K hK => ?_⟩
           have e35 : a.tmps[35]? = some (.pointer (some ⟨gb228, 4, none⟩)) := by rw [ha]; exact (putSel_off rfl).trans rfl
           replace ha := Aside0.mk ha
           have BK221 := Aside0.mk Q_BK221
           have BK228 := Aside0.mk Q_BK228
           have HB := Aside0.mk Q_HB
           have hc0_ : w'.cell? ⟨gb228, 0, none⟩ = some (.string ((rd_T113 l0_2 x21_1).f0)) := (blk_cell BK228.out 0).trans rfl
           have hc1_ : w'.cell? ⟨gb228, 1, none⟩ = some (.int .i64 ((rd_T113 l0_2 x21_1).f1)) := (blk_cell BK228.out 1).trans rfl
           have hc2_ : w'.cell? ⟨gb228, 2, none⟩ = some (.int .i64 ((rd_T113 l0_2 x21_1).f2)) := (blk_cell BK228.out 2).trans rfl
           have hc3_ : w'.cell? ⟨gb228, 3, none⟩ = some (.int .i64 ((rd_T113 l0_2 x21_1).f3)) := (blk_cell BK228.out 3).trans rfl
           have hc4_ : w'.cell? ⟨gb228, 4, none⟩ = some (.int .i64 ((rd_T113 l0_2 x21_1).f4)) := (blk_cell BK228.out 4).trans rfl
           refine value_ (w1 := w') (v := .int .i64 ((rd_T113 l0_2 x21_1).f4)) (by rfl) rfl ?_ ?_
           ·go_simp
            (try simp only [i64_w])
            try rfl
           refine hK.out _ _ ⟨v231, (by rw [ha.out]; exact putSel_upk 5 hb_ rfl rfl rfl), Q_BK221, Q_BK228, Q_HB, fun h0_ => absurd ((hoff 12 (by kernel_rfl)).symm.trans h0_) (by decide)⟩
          refine steps_cons ?_ ?_
          ·rintro b a w' ⟨v231, ha, Q_BK221, Q_BK228, Q_HB, Q_HO232⟩ hb_ hon hoff
           refine ⟨_, rfl, fun K hK => ?_⟩
           have e30 : a.tmps[30]? = some (.int .i64 ((rd_T113 l0_2 x21_1).f1)) := by rw [ha]; exact putSel_on (e := (5, 30, .int .i64 ((rd_T113 l0_2 x21_1).f1))) 2 rfl rfl (hon 5 (by kernel_rfl)) rfl
           have e32 : a.tmps[32]? = some (.int .i64 ((rd_T113 l0_2 x21_1).f2)) := by rw [ha]; exact putSel_on (e := (7, 32, .int .i64 ((rd_T113 l0_2 x21_1).f2))) 3 rfl rfl (hon 7 (by kernel_rfl)) rfl
           have e34 : a.tmps[34]? = some (.int .i64 ((rd_T113 l0_2 x21_1).f3)) := by rw [ha]; exact putSel_on (e := (9, 34, .int .i64 ((rd_T113 l0_2 x21_1).f3))) 4 rfl rfl (hon 9 (by kernel_rfl)) rfl
           have e36 : a.tmps[36]? = some (.int .i64 ((rd_T113 l0_2 x21_1).f4)) := by rw [ha]; exact putSel_on (e := (11, 36, .int .i64 ((rd_T113 l0_2 x21_1).f4))) 5 rfl rfl (hon 11 (by kernel_rfl)) rfl
           replace ha := Aside0.mk ha
           have BK221 := Aside0.mk Q_BK221
           have BK228 := Aside0.mk Q_BK228
           have HB := Aside0.mk Q_HB
           refine Kd.R_lit_step (Kd.int .i64) _ 3 ?hg (N := 37) ?hd (xs := ([(rd_T113 l0_2 x21_1).f1, (rd_T113 l0_2 x21_1).f2, (rd_T113 l0_2 x21_1).f3, (rd_T113 l0_2 x21_1).f4] : List Int)) (inner := [.int .i64 ((rd_T113 l0_2 x21_1).f1), .int .i64 ((rd_T113 l0_2 x21_1).f2), .int .i64 ((rd_T113 l0_2 x21_1).f3), .int .i64 ((rd_T113 l0_2 x21_1).f4)]) (ok := fun _ => True) (okp := fun _ => True) ?hr ?hp (fun _ hk => hk) trivial (Below.refl _ _) (Nat.le_refl _) (by simp) ?_; (case hd => rfl); (case hg => rfl); (case hr => first | (go_simp; done) | (go_simp; rfl)); (case hp => exact (Reps.one (show Kd.M (Kd.int .i64) _ _ _ ((rd_T113 l0_2 x21_1).f1) [.int .i64 ((rd_T113 l0_2 x21_1).f1)] from rfl) (Reps.one (show Kd.M (Kd.int .i64) _ _ _ ((rd_T113 l0_2 x21_1).f2) [.int .i64 ((rd_T113 l0_2 x21_1).f2)] from rfl) (Reps.one (show Kd.M (Kd.int .i64) _ _ _ ((rd_T113 l0_2 x21_1).f3) [.int .i64 ((rd_T113 l0_2 x21_1).f3)] from rfl) (Reps.one (show Kd.M (Kd.int .i64) _ _ _ ((rd_T113 l0_2 x21_1).f4) [.int .i64 ((rd_T113 l0_2 x21_1).f4)] from rfl) (Reps.none _ _))))))
           intro v231 w26 ho27 hb hg_ hnew_
           clear hg_ hnew_
           (first | rw [← Ny230.out] at ho27 | (simp only [Int.reduceToNat] at ho27; rw [← Ny230.out] at ho27))
           have n0_ := Aside0.mk (Kd.R_lower ho27 (below_size (by repeat (first | (with_reducible first | exact HB.out | apply below_alloc | apply pw_below_drewN | apply below_drew1 | refine below_set ?_ GE221.out | refine below_set ?_ GE228.out) | exact HB.out))))
           have n1_ := Aside0.mk (blk_below (g := gb221) (o := .cells #[.int .i64 a0_0, .int .i64 a0_1, .slice (some ad227) l0_2.length c0_2] 54 (0, 0)) (bk_ BK221) hb)
           have n2_ := Aside0.mk (blk_below (g := gb228) (o := .cells #[.string ((rd_T113 l0_2 x21_1).f0), .int .i64 ((rd_T113 l0_2 x21_1).f1), .int .i64 ((rd_T113 l0_2 x21_1).f2), .int .i64 ((rd_T113 l0_2 x21_1).f3), .int .i64 ((rd_T113 l0_2 x21_1).f4)] 113 (0, 0)) (bk_ BK228) hb)
           have n3_ := Aside0.mk (below_step (by repeat (first | (with_reducible first | exact HB.out | apply below_alloc | apply pw_below_drewN | apply below_drew1 | refine below_set ?_ GE221.out | refine below_set ?_ GE228.out) | exact HB.out)) hb)
           clear BK221
           clear BK228
           clear HB
           have HO232 := n0_
           have BK221 := n1_
           have BK228 := n2_
           have HB := n3_
           clear n0_ n1_ n2_ n3_
           clear hb ho27
           refine hK.out _ _ ⟨v231, (by rw [ha.out]; exact putSel_upk 6 hb_ rfl rfl rfl), (bk_ BK221), (bk_ BK228), (by repeat (first | (with_reducible first | exact HB.out | apply below_alloc | apply pw_below_drewN | apply below_drew1 | refine below_set ?_ GE221.out | refine below_set ?_ GE228.out) | exact HB.out)), fun _ => (rr_ HO232)⟩
          refine steps_cons ?_ ?_
          ·rintro b a w' ⟨v231, ha, Q_BK221, Q_BK228, Q_HB, Q_HO232⟩ hb_ hon hoff
           refine ⟨_, rfl, fun K hK => ?_⟩
           have e37 : a.tmps[37]? = some (v231) := by rw [ha]; exact putSel_on (e := (12, 37, v231)) 6 rfl rfl (hon 12 (by kernel_rfl)) rfl
           replace ha := Aside0.mk ha
           have BK221 := Aside0.mk Q_BK221
           have BK228 := Aside0.mk Q_BK228
           have HB := Aside0.mk Q_HB
           have HO232 := Aside0.mk (Q_HO232 (hon 12 (by kernel_rfl)))
           obtain ⟨Ao30, co30, eo30⟩ := Kd.R_slice HO232.out
           (first | subst eo30 | (injection eo30 with f1_ f2_ f3_; have f4_ := f1_.symm; have f5_ := f3_.symm; clear f1_ f2_ f3_; subst f4_; subst f5_))
           refine goes_ Try.func90 (by kernel_rfl) rfl #[.slice Ao30 y230.length co30] (by rfl) rfl rfl (by first | (simp only [List.map_toArray, List.map_cons, List.map_nil, Act.eval, Array.getD_eq_getD_getElem?, Option.getD_some, e37]; done) | (simp only [List.map_toArray, List.map_cons, List.map_nil, Act.eval, Array.getD_eq_getD_getElem?, Option.getD_some, e37]; rfl)) ?_
           with_reducible refine (impl_vars.calls k1 _ _ y230 t233 _ ?side1 ?side2 A18.out).mono ?_
           (case side1 => repeat (first | exact (Kd.R_reads' HO232.out).2.2 | (with_reducible refine Kd.C_alloc ?_ _) | (with_reducible refine Kd.C_drewN ?_ _) | (with_reducible refine Kd.C_drew ?_)))
           (case side2 => exact (Kd.R_reads' HO232.out).2.1)
           rintro e w31 ⟨rfl, hb⟩
           refine ⟨_, rfl, ?_⟩
           have n0_ := Aside0.mk (Kd.R_below (rr_ HO232) hb)
           have n1_ := Aside0.mk (blk_below (g := gb221) (o := .cells #[.int .i64 a0_0, .int .i64 a0_1, .slice (some ad227) l0_2.length c0_2] 54 (0, 0)) (bk_ BK221) hb)
           have n2_ := Aside0.mk (blk_below (g := gb228) (o := .cells #[.string ((rd_T113 l0_2 x21_1).f0), .int .i64 ((rd_T113 l0_2 x21_1).f1), .int .i64 ((rd_T113 l0_2 x21_1).f2), .int .i64 ((rd_T113 l0_2 x21_1).f3), .int .i64 ((rd_T113 l0_2 x21_1).f4)] 113 (0, 0)) (bk_ BK228) hb)
           have n3_ := Aside0.mk (below_step (by repeat (first | (with_reducible first | exact HB.out | apply below_alloc | apply pw_below_drewN | apply below_drew1 | refine below_set ?_ GE221.out | refine below_set ?_ GE228.out) | exact HB.out)) hb)
           clear HO232
           clear BK221
           clear BK228
           clear HB
           have HO232 := n0_
           have BK221 := n1_
           have BK228 := n2_
           have HB := n3_
           clear n0_ n1_ n2_ n3_
           (try clear hb)
           (try clear hb2)
           (try clear hk)
           (try clear hi)
           refine hK.out _ _ ⟨.slice Ao30 y230.length co30, (by rw [ha.out]; exact putSel_upk 7 hb_ rfl rfl rfl), (bk_ BK221), (bk_ BK228), (by repeat (first | (with_reducible first | exact HB.out | apply below_alloc | apply pw_below_drewN | apply below_drew1 | refine below_set ?_ GE221.out | refine below_set ?_ GE228.out) | exact HB.out)), fun _ => (rr_ HO232)⟩
          refine steps_cons ?_ ?_
          ·rintro b a w' ⟨v231, ha, Q_BK221, Q_BK228, Q_HB, Q_HO232⟩ hb_ hon hoff
           refine ⟨_, rfl, fun K hK => ?_⟩
           have e28 : a.tmps[28]? = some (.string t229) := by rw [ha]; exact putSel_on (e := (3, 28, .string t229)) 1 rfl rfl (hon 3 (by kernel_rfl)) rfl
           have e38 : a.tmps[38]? = some (.string t233) := by rw [ha]; exact putSel_on (e := (13, 38, .string t233)) 7 rfl rfl (hon 13 (by kernel_rfl)) rfl
           replace ha := Aside0.mk ha
           have BK221 := Aside0.mk Q_BK221
           have BK228 := Aside0.mk Q_BK228
           have HB := Aside0.mk Q_HB
           have HO232 := Aside0.mk (Q_HO232 (hon 12 (by kernel_rfl)))
           refine value_ (w1 := w') (v := .string (t229 ++ t233)) (by rfl) rfl ?_ ?_
           ·go_simp
            (try simp only [i64_w])
            try rfl
           refine hK.out _ _ ⟨v231, (by rw [ha.out]; exact putSel_upk 8 hb_ rfl rfl rfl), Q_BK221, Q_BK228, Q_HB, Q_HO232⟩
          refine steps_cons ?_ ?_
          ·rintro b a w' ⟨v231, ha, Q_BK221, Q_BK228, Q_HB, Q_HO232⟩ hb_ hon hoff
           refine ⟨_, rfl, fun K hK => ?_⟩
           have e25 : a.tmps[25]? = some (.string x3_1) := by rw [ha]; exact (putSel_off rfl).trans rfl
           have e39 : a.tmps[39]? = some (.string (t229 ++ t233)) := by rw [ha]; exact putSel_on (e := (14, 39, .string (t229 ++ t233))) 8 rfl rfl (hon 14 (by kernel_rfl)) rfl
           replace ha := Aside0.mk ha
           have BK221 := Aside0.mk Q_BK221
           have BK228 := Aside0.mk Q_BK228
           have HB := Aside0.mk Q_HB
           have HO232 := Aside0.mk (Q_HO232 (hon 12 (by kernel_rfl)))
           refine value_ (w1 := w') (v := .string (x3_1 ++ (t229 ++ t233))) (by rfl) rfl ?_ ?_
           ·go_simp
            (try simp only [i64_w])
            try rfl
           refine hK.out _ _ ⟨v231, (by rw [ha.out]; exact putSel_upk 9 hb_ rfl rfl rfl), Q_BK221, Q_BK228, Q_HB, Q_HO232⟩
          refine steps_cons ?_ ?_
          ·rintro b a w' ⟨v231, ha, Q_BK221, Q_BK228, Q_HB, Q_HO232⟩ hb_ hon hoff
           refine ⟨_, rfl, fun K hK => ?_⟩
           have e40 : a.tmps[40]? = some (.string (x3_1 ++ (t229 ++ t233))) := by rw [ha]; exact putSel_on (e := (15, 40, .string (x3_1 ++ (t229 ++ t233)))) 9 rfl rfl (hon 15 (by kernel_rfl)) rfl
           replace ha := Aside0.mk ha
           have BK221 := Aside0.mk Q_BK221
           have BK228 := Aside0.mk Q_BK228
           have HB := Aside0.mk Q_HB
           have HO232 := Aside0.mk (Q_HO232 (hon 12 (by kernel_rfl)))
           refine value_ (w1 := w') (v := .string (x3_1 ++ (t229 ++ t233))) (by rfl) rfl ?_ ?_
           ·go_simp
            (try simp only [i64_w])
            try rfl
           refine hK.out _ _ ⟨v231, (by rw [ha.out]; exact putSel_upk 10 hb_ rfl rfl rfl), Q_BK221, Q_BK228, Q_HB, Q_HO232⟩
          exact steps_nil
         rintro b a w31 hall ⟨v231, ha, Q_BK221, Q_BK228, Q_HB, Q_HO232⟩
         clear BK221 BK228 HB
         have hb2_ := hall 2 (by kernel_rfl)
         have hb3_ := hall 3 (by kernel_rfl)
         have hb5_ := hall 5 (by kernel_rfl)
         have hb7_ := hall 7 (by kernel_rfl)
         have hb9_ := hall 9 (by kernel_rfl)
         have hb11_ := hall 11 (by kernel_rfl)
         have hb12_ := hall 12 (by kernel_rfl)
         have hb13_ := hall 13 (by kernel_rfl)
         have hb14_ := hall 14 (by kernel_rfl)
         have hb15_ := hall 15 (by kernel_rfl)
         have hb16_ := hall 16 (by kernel_rfl)
         subst ha
         simp only [putSel, hb2_, hb3_, hb5_, hb7_, hb9_, hb11_, hb12_, hb13_, hb14_, hb15_, hb16_, if_true, Act.put, la_, lz_, ls_]
         have BK221 := Aside0.mk Q_BK221
         clear Q_BK221
         have BK228 := Aside0.mk Q_BK228
         clear Q_BK228
         have HB := Aside0.mk Q_HB
         clear Q_HB
         have HO232 := Aside0.mk (Q_HO232 hb12_)
         clear Q_HO232
         clear hall hb2_ hb3_ hb5_ hb7_ hb9_ hb11_ hb12_ hb13_ hb14_ hb15_ hb16_
         try go_wp2
         go_roundg k1
         case measure => have := HK1.out; first | exact this | exact Nat.le_of_succ_le this | exact Nat.le_refl _ | omega
         case rel => exact ⟨(x3_1 ++ (t229 ++ t233)), (wrap64 (x21_1 + 1)), rs_, rs_, H', ⟨by have := HK1.out; first | exact this | exact Nat.le_of_succ_le this | exact Nat.le_refl _ | omega⟩, ⟨bk_ BK221⟩, ⟨by repeat (first | (with_reducible first | exact HB.out | apply below_alloc | apply pw_below_drewN | apply below_drew1 | refine below_set ?_ GE221.out | refine below_set ?_ GE228.out) | exact HB.out)⟩⟩
        ·rw [if_neg c20] at H
         exact absurd H (by simp)
       ·rw [if_neg c19] at H
        exact absurd H (by simp)
      ·rw [if_neg c16] at H
       exact absurd H (by simp)
     ·rw [if_neg c15] at H
      exact absurd H (by simp)
    ·rw [if_neg c14] at H
     have c14b0 : decide (x21_1 < (l0_2.length : Int)) = false := decide_eq_false c14
     clear c14
     replace H := Option.bind_eq_some_iff.mp H
     obtain ⟨t234, A320, H⟩ := H
     replace H : ((impl_Fixed.f k1 t234 4).bind fun t235 => (if t235.size + x3_1.size ≤ 9223372036854775807 then (some (t235 ++ x3_1)) else (none))) = some r := H
     have A32 := Aside0.mk A320
     clear A320
     replace H := Option.bind_eq_some_iff.mp H
     obtain ⟨t235, A330, H⟩ := H
     replace H : (if t235.size + x3_1.size ≤ 9223372036854775807 then (some (t235 ++ x3_1)) else (none)) = some r := H
     have A33 := Aside0.mk A330
     clear A330
     by_cases c34 : t235.size + x3_1.size ≤ 9223372036854775807
     ·rw [if_pos c34] at H
      have c34b0 := eq_true c34
      have c34b1 : decide (t235.size + x3_1.size ≤ 9223372036854775807) = true := decide_eq_true c34
      try have c34b2 : (9223372036854775807 < t235.size + x3_1.size) = False := eq_false (Nat.not_lt.2 c34)
      (try (have c34b3 := c34b2; simp only [ByteArray.size_append] at c34b3))
      obtain rfl := Option.some.inj H
      go_wp2_with (first | ((with_reducible refine gate_callee (f := 83) rfl ?_); refine goesL_ (some 43) rfl rfl Try.func83 (by kernel_rfl) rfl #[.string x3_1] rfl ar_ ?_; (with_reducible refine (impl_Crc.calls k1 x3_1 t234 _ A32.out).mono ?_); rintro e w' ⟨rfl, ⟨nd, rfl⟩⟩; refine ⟨_, rfl, ?_⟩) | ((with_reducible refine gate_callee (f := 92) rfl ?_); refine goesL_ (some 44) rfl rfl Try.func92 (by kernel_rfl) rfl #[.int .i64 t234, .int .i64 4] rfl ar_ ?_; (with_reducible refine (impl_Fixed.calls k1 t234 4 t235 _ A33.out).mono ?_); rintro e w35 ⟨rfl, hb⟩; refine ⟨_, rfl, ?_⟩; have n0_ := Aside0.mk (blk_below (g := gb221) (o := .cells #[.int .i64 a0_0, .int .i64 a0_1, .slice A0_2 l0_2.length c0_2] 54 (0, 0)) (bk_ BK221) hb); have n1_ := Aside0.mk (below_step (hs_ HB GE221) hb); clear BK221; clear HB; have BK221 := n0_; have HB := n1_; clear n0_ n1_; (try clear hb); (try clear hb2); (try clear hk); (try clear hi)))
      go_ret
      exact ⟨re_, hs_ HB GE221⟩
     ·rw [if_neg c34] at H
      exact absurd H (by simp)
 ·replace c3 := Bool.eq_false_iff.mpr c3
  subst c3
  have H1 : (some (⟨#[]⟩ : ByteArray)) = some r := by rw [if_neg (show ¬ (false = true) by decide)] at H; exact H
  clear H
  have H := H1
  clear H1
  obtain rfl := Option.some.inj H
  go_enter Try.func31, Try.ntmps31
  go_wp2_with (first | ((with_reducible refine gate_dst (N := 1) rfl ?_); refine box_event ?hg (N := 1) ?hd (cs := #[.int .i64 a0_0, .int .i64 a0_1, .slice A0_2 l0_2.length c0_2]) (t := 54) ?hr ?_; (case hd => rfl); (case hg => rfl); (case hr => first | (go_simp; done) | (go_simp; rfl)); intro gb221 hg w36 hbox hb; have n0_ := Aside0.mk (below_step (hb_ HB) hb); have n1_ := Aside0.mk (hbox); have n2_ := Aside0.mk ((by rw [hg]; exact (below_size (hb_ HB)) : w.heap.size ≤ gb221)); have n3_ := Aside0.mk ((by rw [hg]; exact (below_size (hb_ HB)) : w.heap.size ≤ gb221)); clear HB; have HB := n0_; have BK221 := n1_; have GW221 := n2_; have GE221 := n3_; clear n0_ n1_ n2_ n3_; clear hb hbox hg; have hcz37_0 : w36.cell? ⟨gb221, 0, none⟩ = some (.int .i64 a0_0) := (blk_cell BK221.out 0).trans rfl; have hcz37_1 : w36.cell? ⟨gb221, 1, none⟩ = some (.int .i64 a0_1) := (blk_cell BK221.out 1).trans rfl; have hcz37_2 : w36.cell? ⟨gb221, 2, none⟩ = some (.slice A0_2 l0_2.length c0_2) := (blk_cell BK221.out 2).trans rfl; have hfz37_0 := blk_frozen BK221.out 0; have hfz37_1 := blk_frozen BK221.out 1; have hfz37_2 := blk_frozen BK221.out 2) | ((with_reducible refine gate_callee (f := 89) rfl ?_); refine goesL_ (some 7) rfl rfl Try.func89 (by kernel_rfl) rfl #[.agg #[.int .i64 a0_0, .int .i64 a0_1, .slice A0_2 l0_2.length c0_2]] rfl ar_ ?_; (with_reducible refine (impl_hintOk.calls k a0_0 a0_1 _ _ l0_2 false _ ?side1 ?side2 A2.out).mono ?_); (case side1 => repeat (first | exact (Kd.C_below HR0_2.out HB.out) | (with_reducible refine Kd.C_alloc ?_ _) | (with_reducible refine Kd.C_drewN ?_ _) | (with_reducible refine Kd.C_drew ?_))); (case side2 => exact HC0_2.out); rintro e w38 ⟨rfl, hb⟩; refine ⟨_, rfl, ?_⟩; have n0_ := Aside0.mk (blk_below (g := gb221) (o := .cells #[.int .i64 a0_0, .int .i64 a0_1, .slice A0_2 l0_2.length c0_2] 54 (0, 0)) (bk_ BK221) hb); have n1_ := Aside0.mk (below_step (hs_ HB GE221) hb); clear BK221; clear HB; have BK221 := n0_; have HB := n1_; clear n0_ n1_; (try clear hb); (try clear hb2); (try clear hk); (try clear hi)))
  go_ret
  exact ⟨re_, hs_ HB GE221⟩

/-! ### impl_ReadVar: function 121 -/
mutual
def impl_ReadVar.l0 : Nat → ByteArray → Int → Int → Option (Int × Int)
 | 0, _, _, _ => none
 | k + 1, x0, x4, x5 => if x5 < 7 then (impl_ReadVar.j1 k x0 x4 x5 (decide (x5 < (x0.size : Int)))) else (impl_ReadVar.j1 k x0 x4 x5 false)
def impl_ReadVar.j1 : Nat → ByteArray → Int → Int → Bool → Option (Int × Int)
 | 0, _, _, _, _ => none
 | k + 1, x0, x4, x5, x14 => if x14 = true then (if 0 ≤ x5 then (if x5 < (x0.size : Int) then (if 0 ≤ (wrap64 (7 * x5)) then (if (wrap64 (bt x0 x5)) ≥ 128 then (impl_ReadVar.l0 k x0 (wrap64 (x4 + (shl .i64 (Int.tmod (wrap64 (bt x0 x5)) 128) (wrap64 (7 * x5))))) (wrap64 (x5 + 1))) else (if (wrap64 (bt x0 x5)) = 0 then (if x5 > 0 then (some (0, 0)) else (some (wrap64 (x4 + (shl .i64 (Int.tmod (wrap64 (bt x0 x5)) 128) (wrap64 (7 * x5)))), wrap64 (x5 + 1)))) else (some (wrap64 (x4 + (shl .i64 (Int.tmod (wrap64 (bt x0 x5)) 128) (wrap64 (7 * x5)))), wrap64 (x5 + 1))))) else (none)) else (none)) else (none)) else (some (0, 0))
end
def impl_ReadVar.f (k : Nat) (a0 : ByteArray) : Option (Int × Int) := impl_ReadVar.l0 k a0 0 0
theorem impl_ReadVar.mono_l : ∀ k, (∀ y0 y1 y2, LeO (impl_ReadVar.l0 k y0 y1 y2) (impl_ReadVar.l0 (k + 1) y0 y1 y2)) ∧ (∀ y0 y1 y2 y3, LeO (impl_ReadVar.j1 k y0 y1 y2 y3) (impl_ReadVar.j1 (k + 1) y0 y1 y2 y3))
 | 0 => ⟨fun _ _ _ r h => by simp [impl_ReadVar.l0] at h, fun _ _ _ _ r h => by simp [impl_ReadVar.j1] at h⟩
 | k + 1 => by
  obtain ⟨ih0, ih1⟩ := impl_ReadVar.mono_l k
  refine ⟨?_, ?_⟩
  ·intro y0 y1 y2
   unfold impl_ReadVar.l0
   repeat' first
   | (with_reducible exact ih0 _ _ _)
   | (with_reducible exact ih1 _ _ _ _)
   | (with_reducible exact LeO.refl _)
   | (with_reducible exact LeO.none _)
   | (with_reducible refine LeO.ite ?_ ?_)
   | (with_reducible refine LeO.bind ?_ (fun _ => ?_))
   | exact ih0 _ _ _
   | exact ih1 _ _ _ _
   | exact LeO.none _
   | refine LeO.ite ?_ ?_
   | refine LeO.bind ?_ (fun _ => ?_)
  ·intro y0 y1 y2 y3
   unfold impl_ReadVar.j1
   repeat' first
   | (with_reducible exact ih0 _ _ _)
   | (with_reducible exact ih1 _ _ _ _)
   | (with_reducible exact LeO.refl _)
   | (with_reducible exact LeO.none _)
   | (with_reducible refine LeO.ite ?_ ?_)
   | (with_reducible refine LeO.bind ?_ (fun _ => ?_))
   | exact ih0 _ _ _
   | exact ih1 _ _ _ _
   | exact LeO.none _
   | refine LeO.ite ?_ ?_
   | refine LeO.bind ?_ (fun _ => ?_)
theorem impl_ReadVar.mono : ∀ a0 k, LeO (impl_ReadVar.f k a0) (impl_ReadVar.f (k + 1) a0) := by
 intro a0 k
 obtain ⟨ih0, ih1⟩ := impl_ReadVar.mono_l k
 unfold impl_ReadVar.f
 repeat' first
   | (with_reducible exact ih0 _ _ _)
   | (with_reducible exact ih1 _ _ _ _)
   | (with_reducible exact LeO.refl _)
   | (with_reducible exact LeO.none _)
   | (with_reducible refine LeO.ite ?_ ?_)
   | (with_reducible refine LeO.bind ?_ (fun _ => ?_))
   | exact ih0 _ _ _
   | exact ih1 _ _ _ _
   | exact LeO.none _
   | refine LeO.ite ?_ ?_
   | refine LeO.bind ?_ (fun _ => ?_)
set_option maxHeartbeats 8000000 in
set_option maxRecDepth 100000 in
theorem impl_ReadVar.calls (k : Nat) (a0 : ByteArray) (r1 : Int) (r2 : Int) (w : World) (h : impl_ReadVar.f k a0 = some (r1, r2)) :
  Calls Try.prog 121 #[.string a0] w fun e w' => e = .returned (.tuple #[.int .i64 r1, .int .i64 r2]) ∧ Drawn0 w w' := by
 have H : (impl_ReadVar.l0 k a0 0 0) = some (r1, r2) := h
 clear h
 have H' := Aside0.mk H
 clear H
 go_enter Try.func121, Try.ntmps121
 go_wp2
 go_loopg [4, 5] k (fun kq v4 v5 w' => ∃ (x4_1 : Int) (x5_1 : Int), v4 = .int .i64 x4_1 ∧ v5 = .int .i64 x5_1 ∧ Aside0 (impl_ReadVar.l0 kq a0 x4_1 x5_1 = some (r1, r2)) ∧ Aside0 (kq ≤ k) ∧ Drawn0 w w')
 case atStart => exact ⟨(0), (0), rs_, rs_, H', ⟨Nat.le_refl _⟩, by repeat (first | exact Drawn0.refl _ | apply Drawn0.step)⟩
 case round =>
  clear H'
  try clear c1
  obtain ⟨x4_1, x5_1, rfl, rfl, HA, HK1, ⟨m1, rfl⟩⟩ := hrel
  cases gk with
  | zero => exact absurd HA.out (by simp [impl_ReadVar.l0])
  | succ k1 =>
   have H := HA.out
   clear HA
   simp only [impl_ReadVar.l0] at H
   have HC2 := Aside0.mk H
   clear H
   go_upto_region 3 with (fail)
   go_cut [14] (fun v14 wc => ∃ (kq : Nat) (x14_1 : Bool), v14 = .bool x14_1 ∧ Aside0 (impl_ReadVar.j1 kq a0 x4_1 x5_1 x14_1 = some (r1, r2)) ∧ Aside0 (kq ≤ k1) ∧ Drawn0 w wc)
   case first =>
    have H := HC2.out
    clear HC2
    by_cases c3 : x5_1 < 7
    ·rw [if_pos c3] at H
     have c3b0 : decide (x5_1 < 7) = true := decide_eq_true c3
     clear c3
     (first | rw [c3b0] | (simp only [i64_w, i32_w]; rw [c3b0]) | skip)
     have H' := Aside0.mk H
     clear H
     go_wp2
     go_meet
     case rel => exact ⟨_, (decide (x5_1 < (a0.size : Int))), rs_, H', ⟨by have := HK1.out; first | exact Nat.le_refl _ | exact Nat.le_of_succ_le this | omega⟩, by repeat (first | exact Drawn0.refl _ | apply Drawn0.step)⟩
    ·rw [if_neg c3] at H
     have c3b0 : decide (x5_1 < 7) = false := decide_eq_false c3
     clear c3
     (first | rw [c3b0] | (simp only [i64_w, i32_w]; rw [c3b0]) | skip)
     have H' := Aside0.mk H
     clear H
     go_wp2
     go_meet
     case rel => exact ⟨_, (false), rs_, H', ⟨by have := HK1.out; first | exact Nat.le_refl _ | exact Nat.le_of_succ_le this | omega⟩, by repeat (first | exact Drawn0.refl _ | apply Drawn0.step)⟩
   case rest =>
    clear HC2
    try clear c1
    try clear p2
    try clear c3
    try clear c3b0
    obtain ⟨kq, x14_1, rfl, HA, HJ1, ⟨mc1, rfl⟩⟩ := hcut
    cases kq with
    | zero => exact absurd HA.out (by simp [impl_ReadVar.j1])
    | succ kj1 =>
     have H := HA.out
     clear HA
     simp only [impl_ReadVar.j1] at H
     by_cases c4 : x14_1 = true
     ·subst c4
      have H1 : (if 0 ≤ x5_1 then (if x5_1 < (a0.size : Int) then (if 0 ≤ (wrap64 (7 * x5_1)) then (if (wrap64 (bt a0 x5_1)) ≥ 128 then (impl_ReadVar.l0 kj1 a0 (wrap64 (x4_1 + (shl .i64 (Int.tmod (wrap64 (bt a0 x5_1)) 128) (wrap64 (7 * x5_1))))) (wrap64 (x5_1 + 1))) else (if (wrap64 (bt a0 x5_1)) = 0 then (if x5_1 > 0 then (some (0, 0)) else (some (wrap64 (x4_1 + (shl .i64 (Int.tmod (wrap64 (bt a0 x5_1)) 128) (wrap64 (7 * x5_1)))), wrap64 (x5_1 + 1)))) else (some (wrap64 (x4_1 + (shl .i64 (Int.tmod (wrap64 (bt a0 x5_1)) 128) (wrap64 (7 * x5_1)))), wrap64 (x5_1 + 1))))) else (none)) else (none)) else (none)) = some (r1, r2) := by rw [if_pos rfl] at H; exact H
      clear H
      have H := H1
      clear H1
      by_cases c5 : 0 ≤ x5_1
      ·rw [if_pos c5] at H
       have c5b0 : decide (0 ≤ x5_1) = true := decide_eq_true c5
       clear c5
       by_cases c6 : x5_1 < (a0.size : Int)
       ·rw [if_pos c6] at H
        have c6b0 : decide (x5_1 < (a0.size : Int)) = true := decide_eq_true c6
        clear c6
        obtain ⟨ji8, hji8⟩ : ∃ j_ : Int, (wrap64 (7 * x5_1)) = j_ := ⟨_, rfl⟩
        replace H : (if 0 ≤ (ji8) then (if (wrap64 (bt a0 x5_1)) ≥ 128 then (impl_ReadVar.l0 kj1 a0 (wrap64 (x4_1 + (shl .i64 (Int.tmod (wrap64 (bt a0 x5_1)) 128) (ji8)))) (wrap64 (x5_1 + 1))) else (if (wrap64 (bt a0 x5_1)) = 0 then (if x5_1 > 0 then (some (0, 0)) else (some (wrap64 (x4_1 + (shl .i64 (Int.tmod (wrap64 (bt a0 x5_1)) 128) (ji8))), wrap64 (x5_1 + 1)))) else (some (wrap64 (x4_1 + (shl .i64 (Int.tmod (wrap64 (bt a0 x5_1)) 128) (ji8))), wrap64 (x5_1 + 1))))) else (none)) = some (r1, r2) := by first | (rw [hji8] at H; exact H) | (simp only [hji8] at H ⊢; exact H)
        have hji8w : (IntKind.i64.wrap (7 * x5_1)) = ji8 := (i64_w _).trans hji8
        by_cases c9 : 0 ≤ (ji8)
        ·rw [if_pos c9] at H
         have c9b0 := eq_true c9
         have c9b1 : decide (0 ≤ (ji8)) = true := decide_eq_true c9
         clear c9
         obtain ⟨ji10, hji10⟩ : ∃ j_ : Int, (shl .i64 (Int.tmod (wrap64 (bt a0 x5_1)) 128) (ji8)) = j_ := ⟨_, rfl⟩
         replace H : (if (wrap64 (bt a0 x5_1)) ≥ 128 then (impl_ReadVar.l0 kj1 a0 (wrap64 (x4_1 + (ji10))) (wrap64 (x5_1 + 1))) else (if (wrap64 (bt a0 x5_1)) = 0 then (if x5_1 > 0 then (some (0, 0)) else (some (wrap64 (x4_1 + (ji10)), wrap64 (x5_1 + 1)))) else (some (wrap64 (x4_1 + (ji10)), wrap64 (x5_1 + 1))))) = some (r1, r2) := by first | (rw [hji10] at H; exact H) | (simp only [hji10] at H ⊢; exact H)
         have hji10_ : (IntKind.i64.wrap ((Int.tmod (wrap64 (bt a0 x5_1)) 128) * 2 ^ min (ji8).toNat 64)) = ji10 := hji10
         have hji10z : (ji8) ≤ 64 → (IntKind.i64.wrap ((Int.tmod (wrap64 (bt a0 x5_1)) 128) * 2 ^ (ji8).toNat)) = ji10 := shl_small hji10
         have hji10y : (wrap64 ((Int.tmod (wrap64 (bt a0 x5_1)) 128) * 2 ^ min (ji8).toNat 64)) = ji10 := (i64_w _).symm.trans hji10_
         have hji10x : (ji8) ≤ 64 → (wrap64 ((Int.tmod (wrap64 (bt a0 x5_1)) 128) * 2 ^ (ji8).toNat)) = ji10 := fun h_ => (i64_w _).symm.trans (hji10z h_)
         by_cases c11 : (wrap64 (bt a0 x5_1)) ≥ 128
         ·rw [if_pos c11] at H
          have c11b0 : decide (128 ≤ (wrap64 (bt a0 x5_1))) = true := decide_eq_true c11
          clear c11
          have H' := Aside0.mk H
          clear H
          have p7 : 0 ≤ (x5_1 : Int) := of_decide_eq_true as_
          have q7 : x5_1 < (a0.size : Int) := of_decide_eq_true as_
          have hx7 := bt_at a0 x5_1
          replace p7 := eq_true p7
          replace q7 := eq_true q7
          go_wp2
          go_roundg kj1
          case measure => have := HK1.out; have := HJ1.out; omega
          case rel => exact ⟨(wrap64 (x4_1 + (ji10))), (wrap64 (x5_1 + 1)), (by first | rfl | (simp; done) | (simp only [← hji10] <;> (first | rfl | simp)) | (simp [*]; done)), rs_, H', ⟨by have := HK1.out; have := HJ1.out; omega⟩, by repeat (first | exact Drawn0.refl _ | apply Drawn0.step)⟩
         ·rw [if_neg c11] at H
          have c11b0 : decide (128 ≤ (wrap64 (bt a0 x5_1))) = false := decide_eq_false c11
          clear c11
          by_cases c12 : (wrap64 (bt a0 x5_1)) = 0
          ·rw [if_pos c12] at H
           have c12b0 : ((wrap64 (bt a0 x5_1)) == 0) = true := beq_iff_eq.mpr c12
           have c12b1 : ((wrap64 (bt a0 x5_1)) != 0) = false := bne_eq_false_iff_eq.mpr c12
           clear c12
           by_cases c13 : x5_1 > 0
           ·rw [if_pos c13] at H
            have c13b0 : decide (0 < x5_1) = true := decide_eq_true c13
            clear c13
            simp only [Option.some.injEq, Prod.mk.injEq] at H
            obtain ⟨rfl, rfl⟩ := H
            have p7 : 0 ≤ (x5_1 : Int) := of_decide_eq_true as_
            have q7 : x5_1 < (a0.size : Int) := of_decide_eq_true as_
            have hx7 := bt_at a0 x5_1
            replace p7 := eq_true p7
            replace q7 := eq_true q7
            go_wp2
            go_ret2
            exact ⟨by first | rfl | (simp; done) | (simp only [← hji8, ← hji10] <;> (first | rfl | simp)) | (simp [*]; done), by repeat (first | exact Drawn0.refl _ | apply Drawn0.step)⟩
           ·rw [if_neg c13] at H
            have c13b0 : decide (0 < x5_1) = false := decide_eq_false c13
            clear c13
            simp only [Option.some.injEq, Prod.mk.injEq] at H
            obtain ⟨rfl, rfl⟩ := H
            have p7 : 0 ≤ (x5_1 : Int) := of_decide_eq_true as_
            have q7 : x5_1 < (a0.size : Int) := of_decide_eq_true as_
            have hx7 := bt_at a0 x5_1
            replace p7 := eq_true p7
            replace q7 := eq_true q7
            go_wp2
            go_ret2
            exact ⟨by first | rfl | (simp; done) | (simp only [← hji8, ← hji10] <;> (first | rfl | simp)) | (simp [*]; done), by repeat (first | exact Drawn0.refl _ | apply Drawn0.step)⟩
          ·rw [if_neg c12] at H
           have c12b0 : ((wrap64 (bt a0 x5_1)) == 0) = false := beq_eq_false_iff_ne.mpr c12
           have c12b1 : ((wrap64 (bt a0 x5_1)) != 0) = true := bne_iff_ne.mpr c12
           simp only [Option.some.injEq, Prod.mk.injEq] at H
           obtain ⟨rfl, rfl⟩ := H
           have p7 : 0 ≤ (x5_1 : Int) := of_decide_eq_true as_
           have q7 : x5_1 < (a0.size : Int) := of_decide_eq_true as_
           have hx7 := bt_at a0 x5_1
           replace p7 := eq_true p7
           replace q7 := eq_true q7
           go_wp2
           go_ret2
           exact ⟨by first | rfl | (simp; done) | (simp only [← hji8, ← hji10] <;> (first | rfl | simp)) | (simp [*]; done), by repeat (first | exact Drawn0.refl _ | apply Drawn0.step)⟩
        ·rw [if_neg c9] at H
         exact absurd H (by simp)
       ·rw [if_neg c6] at H
        exact absurd H (by simp)
      ·rw [if_neg c5] at H
       exact absurd H (by simp)
     ·replace c4 := Bool.eq_false_iff.mpr c4
      subst c4
      have H1 : (some (0, 0)) = some (r1, r2) := by rw [if_neg (show ¬ (false = true) by decide)] at H; exact H
      clear H
      have H := H1
      clear H1
      simp only [Option.some.injEq, Prod.mk.injEq] at H
      obtain ⟨rfl, rfl⟩ := H
      go_wp2
      go_ret2
      exact ⟨by first | rfl | (simp; done) | (simp [*]; done), by repeat (first | exact Drawn0.refl _ | apply Drawn0.step)⟩

end Go.Proofs.Ytebeafcdabkkfaa.PFnExactReadHint
