-- Laid by a program of this session, a copy of the kit's printer with additions (wip/patch_print.py): myhead. Lean checks it.
import Derived.Test.YtebeafcdabkkfaaPFnExactReadHintx0
import Derived.Test.YtebeafcdabkkfaaPFnExactReadHintx1
import Derived.Test.YtebeafcdabkkfaaPFnExactReadHintx3
namespace Go.Proofs.Ytebeafcdabkkfaa.PFnExactReadHint
open Go.RowKit Go.Proofs.YtebeafcdabkkfaaW.PrintWords Go.Proofs.YtebeafcdabkkfaaW.PrintLast Go.Proofs.YtebeafcdabkkfaaW.PrintMore
attribute [local go_sem] max2_int min2_int max_two min_two max_three min_three max_four min_four   -- for this text's walks alone
set_option linter.unusedVariables false
set_option linter.unusedSimpArgs false

/-! ### spec_ShowHint: function 29 -/
def spec_ShowHint.l0 : Nat → ByteArray → Int → Int → Int → List (S113) → Option (ByteArray)
 | 0, _, _, _, _, _ => none
 | k + 1, x3, x4, x139000, x139001, x139002 => if x4 < (x139002.length : Int) then (if 0 ≤ x4 then ((spec_Var.f k (((rd_T113 x139002 x4).f0).size : Int)).bind fun t145 => (if x3.size + t145.size ≤ 9223372036854775807 then (if (x3 ++ t145).size + ((rd_T113 x139002 x4).f0).size ≤ 9223372036854775807 then ((spec_Var.f k ((rd_T113 x139002 x4).f1)).bind fun t146 => (if ((x3 ++ t145) ++ ((rd_T113 x139002 x4).f0)).size + t146.size ≤ 9223372036854775807 then ((spec_Var.f k ((rd_T113 x139002 x4).f2)).bind fun t147 => (if (((x3 ++ t145) ++ ((rd_T113 x139002 x4).f0)) ++ t146).size + t147.size ≤ 9223372036854775807 then ((spec_Var.f k ((rd_T113 x139002 x4).f3)).bind fun t148 => (if ((((x3 ++ t145) ++ ((rd_T113 x139002 x4).f0)) ++ t146) ++ t147).size + t148.size ≤ 9223372036854775807 then ((spec_Var.f k ((rd_T113 x139002 x4).f4)).bind fun t149 => (if (((((x3 ++ t145) ++ ((rd_T113 x139002 x4).f0)) ++ t146) ++ t147) ++ t148).size + t149.size ≤ 9223372036854775807 then (spec_ShowHint.l0 k ((((((x3 ++ t145) ++ ((rd_T113 x139002 x4).f0)) ++ t146) ++ t147) ++ t148) ++ t149) (wrap64 (x4 + 1)) x139000 x139001 x139002) else (none))) else (none))) else (none))) else (none))) else (none)) else (none))) else (none)) else ((spec_Crc.f k x3).bind fun t150 => ((spec_Fixed.f k t150 4).bind fun t151 => (if t151.size + x3.size ≤ 9223372036854775807 then (some (t151 ++ x3)) else (none))))
def spec_ShowHint.f (k : Nat) (a0_0 : Int) (a0_1 : Int) (l0_2 : List (S113)) : Option (ByteArray) := (spec_l10Ok.f k a0_0 a0_1 l0_2).bind fun t139 => (if t139 = true then ((spec_Var.f k a0_0).bind fun t140 => ((spec_Var.f k a0_1).bind fun t141 => (if t140.size + t141.size ≤ 9223372036854775807 then ((spec_Var.f k (l0_2.length : Int)).bind fun t142 => (if (t140 ++ t141).size + t142.size ≤ 9223372036854775807 then (spec_ShowHint.l0 k ((t140 ++ t141) ++ t142) 0 a0_0 a0_1 l0_2) else (none))) else (none)))) else (some (⟨#[]⟩ : ByteArray)))
theorem spec_ShowHint.mono_l : ∀ k, (∀ y0 y1 y2 y3 y4, LeO (spec_ShowHint.l0 k y0 y1 y2 y3 y4) (spec_ShowHint.l0 (k + 1) y0 y1 y2 y3 y4))
 | 0 => fun _ _ _ _ _ r h => by simp [spec_ShowHint.l0] at h
 | k + 1 => by
  have ih0 := spec_ShowHint.mono_l k
  ·intro y0 y1 y2 y3 y4
   unfold spec_ShowHint.l0
   repeat' first
   | (with_reducible exact ih0 _ _ _ _ _)
   | (with_reducible exact spec_Crc.mono _ _)
   | (with_reducible exact spec_Fixed.mono _ _ _)
   | (with_reducible exact spec_Var.mono _ _)
   | (with_reducible exact spec_l10Ok.mono _ _ _ _)
   | (with_reducible exact LeO.refl _)
   | (with_reducible exact LeO.none _)
   | (with_reducible refine LeO.ite ?_ ?_)
   | (with_reducible refine LeO.bind ?_ (fun _ => ?_))
   | exact ih0 _ _ _ _ _
   | exact spec_Crc.mono _ _
   | exact spec_Fixed.mono _ _ _
   | exact spec_Var.mono _ _
   | exact spec_l10Ok.mono _ _ _ _
   | exact LeO.none _
   | refine LeO.ite ?_ ?_
   | refine LeO.bind ?_ (fun _ => ?_)
theorem spec_ShowHint.mono : ∀ a0 a1 a2 k, LeO (spec_ShowHint.f k a0 a1 a2) (spec_ShowHint.f (k + 1) a0 a1 a2) := by
 intro a0 a1 a2 k
 have ih0 := spec_ShowHint.mono_l k
 unfold spec_ShowHint.f
 repeat' first
   | (with_reducible exact ih0 _ _ _ _ _)
   | (with_reducible exact spec_Crc.mono _ _)
   | (with_reducible exact spec_Fixed.mono _ _ _)
   | (with_reducible exact spec_Var.mono _ _)
   | (with_reducible exact spec_l10Ok.mono _ _ _ _)
   | (with_reducible exact LeO.refl _)
   | (with_reducible exact LeO.none _)
   | (with_reducible refine LeO.ite ?_ ?_)
   | (with_reducible refine LeO.bind ?_ (fun _ => ?_))
   | exact ih0 _ _ _ _ _
   | exact spec_Crc.mono _ _
   | exact spec_Fixed.mono _ _ _
   | exact spec_Var.mono _ _
   | exact spec_l10Ok.mono _ _ _ _
   | exact LeO.none _
   | refine LeO.ite ?_ ?_
   | refine LeO.bind ?_ (fun _ => ?_)
def spec_ShowHint.T3 : Bool × List (List Nat × List Nat) := (true, [([], []), ([0], [0]), ([1], [1]), ([], []), ([3], [3]), ([4, 2], [4]), ([2, 5], [2, 5]), ([], []), ([7], [7]), ([8], [8]), ([9, 5], [9]), ([6, 10], [6, 10]), ([11, 10, 0, 1, 2, 3, 4, 5, 6, 7, 8, 9, 10, 11], [11])])
def spec_ShowHint.B3 : List Nat := [0, 1, 3, 0, 8, 31, 63, 0, 128, 384, 959, 2047, 4095]
theorem spec_ShowHint.tab3 : rtab .any (opsOf Try.f29 3) = spec_ShowHint.T3 := by kernel_rfl
theorem spec_ShowHint.bits3 : waitsOk spec_ShowHint.T3.2 spec_ShowHint.B3 = true := by kernel_rfl
def spec_ShowHint.T8 : Bool × List (List Nat × List Nat) := (true, [([], []), ([], []), ([1], [1]), ([2], [2]), ([3], [3]), ([0, 4], [0, 4]), ([], []), ([6], [6]), ([5, 7], [5, 7]), ([], []), ([9], [9]), ([10, 4], [10]), ([8, 11], [8, 11]), ([], []), ([13], [13]), ([14, 11], [14]), ([12, 15], [12, 15]), ([], []), ([17], [17]), ([18, 15], [18]), ([16, 19], [16, 19]), ([], []), ([21], [21]), ([22, 19], [22]), ([20, 23], [20, 23]), ([24, 23, 0, 1, 2, 3, 4, 5, 6, 7, 8, 9, 10, 11, 12, 13, 14, 15, 16, 17, 18, 19, 20, 21, 22, 23, 24], [0, 24])])
def spec_ShowHint.B8 : List Nat := [0, 0, 2, 6, 14, 31, 0, 64, 255, 0, 512, 1566, 4095, 0, 8192, 28190, 65535, 0, 131072, 454174, 1048575, 0, 2097152, 7269918, 16777215, 33554431]
theorem spec_ShowHint.tab8 : rtab .any (opsOf Try.f29 8) = spec_ShowHint.T8 := by kernel_rfl
theorem spec_ShowHint.bits8 : waitsOk spec_ShowHint.T8.2 spec_ShowHint.B8 = true := by kernel_rfl
set_option maxHeartbeats 8000000 in
set_option maxRecDepth 100000 in
theorem spec_ShowHint.calls (k : Nat) (a0_0 : Int) (a0_1 : Int) (A0_2 : Option Addr) (c0_2 : Nat) (l0_2 : List (S113)) (r : ByteArray) (w : World) (hr0_2 : Kd.C k113 w A0_2 l0_2.length l0_2) (hc0_2 : l0_2.length ≤ c0_2) (h : spec_ShowHint.f k a0_0 a0_1 l0_2 = some r) :
  Calls Try.prog 29 #[.agg #[.int .i64 a0_0, .int .i64 a0_1, .slice A0_2 l0_2.length c0_2]] w fun e w' => e = .returned (.string r) ∧ Below w.heap.size w w' := by
 have hu54 := Try.underlying54
 have hu113 := Try.underlying113
 have HR0_2 := Aside0.mk hr0_2
 have HC0_2 := Aside0.mk hc0_2
 clear hr0_2 hc0_2
 have HB := Aside0.mk (Below.refl w.heap.size w)
 have H : ((spec_l10Ok.f k a0_0 a0_1 l0_2).bind fun t139 => (if t139 = true then ((spec_Var.f k a0_0).bind fun t140 => ((spec_Var.f k a0_1).bind fun t141 => (if t140.size + t141.size ≤ 9223372036854775807 then ((spec_Var.f k (l0_2.length : Int)).bind fun t142 => (if (t140 ++ t141).size + t142.size ≤ 9223372036854775807 then (spec_ShowHint.l0 k ((t140 ++ t141) ++ t142) 0 a0_0 a0_1 l0_2) else (none))) else (none)))) else (some (⟨#[]⟩ : ByteArray)))) = some r := h
 clear h
 replace H := Option.bind_eq_some_iff.mp H
 obtain ⟨t139, A20, H⟩ := H
 replace H : (if t139 = true then ((spec_Var.f k a0_0).bind fun t140 => ((spec_Var.f k a0_1).bind fun t141 => (if t140.size + t141.size ≤ 9223372036854775807 then ((spec_Var.f k (l0_2.length : Int)).bind fun t142 => (if (t140 ++ t141).size + t142.size ≤ 9223372036854775807 then (spec_ShowHint.l0 k ((t140 ++ t141) ++ t142) 0 a0_0 a0_1 l0_2) else (none))) else (none)))) else (some (⟨#[]⟩ : ByteArray))) = some r := H
 have A2 := Aside0.mk A20
 clear A20
 by_cases c3 : t139 = true
 ·subst c3
  have H1 : ((spec_Var.f k a0_0).bind fun t140 => ((spec_Var.f k a0_1).bind fun t141 => (if t140.size + t141.size ≤ 9223372036854775807 then ((spec_Var.f k (l0_2.length : Int)).bind fun t142 => (if (t140 ++ t141).size + t142.size ≤ 9223372036854775807 then (spec_ShowHint.l0 k ((t140 ++ t141) ++ t142) 0 a0_0 a0_1 l0_2) else (none))) else (none)))) = some r := by rw [if_pos rfl] at H; exact H
  clear H
  have H := H1
  clear H1
  replace H := Option.bind_eq_some_iff.mp H
  obtain ⟨t140, A40, H⟩ := H
  replace H : ((spec_Var.f k a0_1).bind fun t141 => (if t140.size + t141.size ≤ 9223372036854775807 then ((spec_Var.f k (l0_2.length : Int)).bind fun t142 => (if (t140 ++ t141).size + t142.size ≤ 9223372036854775807 then (spec_ShowHint.l0 k ((t140 ++ t141) ++ t142) 0 a0_0 a0_1 l0_2) else (none))) else (none))) = some r := H
  have A4 := Aside0.mk A40
  clear A40
  replace H := Option.bind_eq_some_iff.mp H
  obtain ⟨t141, A50, H⟩ := H
  replace H : (if t140.size + t141.size ≤ 9223372036854775807 then ((spec_Var.f k (l0_2.length : Int)).bind fun t142 => (if (t140 ++ t141).size + t142.size ≤ 9223372036854775807 then (spec_ShowHint.l0 k ((t140 ++ t141) ++ t142) 0 a0_0 a0_1 l0_2) else (none))) else (none)) = some r := H
  have A5 := Aside0.mk A50
  clear A50
  by_cases c6 : t140.size + t141.size ≤ 9223372036854775807
  ·rw [if_pos c6] at H
   have c6b0 := eq_true c6
   have c6b1 : decide (t140.size + t141.size ≤ 9223372036854775807) = true := decide_eq_true c6
   try have c6b2 : (9223372036854775807 < t140.size + t141.size) = False := eq_false (Nat.not_lt.2 c6)
   (try (have c6b3 := c6b2; simp only [ByteArray.size_append] at c6b3))
   replace H := Option.bind_eq_some_iff.mp H
   obtain ⟨t142, A70, H⟩ := H
   replace H : (if (t140 ++ t141).size + t142.size ≤ 9223372036854775807 then (spec_ShowHint.l0 k ((t140 ++ t141) ++ t142) 0 a0_0 a0_1 l0_2) else (none)) = some r := H
   have A7 := Aside0.mk A70
   clear A70
   by_cases c8 : (t140 ++ t141).size + t142.size ≤ 9223372036854775807
   ·rw [if_pos c8] at H
    have c8b0 := eq_true c8
    have c8b1 : decide ((t140 ++ t141).size + t142.size ≤ 9223372036854775807) = true := decide_eq_true c8
    try have c8b2 : (9223372036854775807 < (t140 ++ t141).size + t142.size) = False := eq_false (Nat.not_lt.2 c8)
    (try (have c8b3 := c8b2; simp only [ByteArray.size_append] at c8b3))
    have H' := Aside0.mk H
    clear H
    go_enter Try.func29, Try.ntmps29
    try go_wp2_with (first | ((with_reducible refine gate_dst (N := 1) rfl ?_); refine box_event ?hg (N := 1) ?hd (cs := #[.int .i64 a0_0, .int .i64 a0_1, .slice A0_2 l0_2.length c0_2]) (t := 54) ?hr ?_; (case hd => rfl); (case hg => rfl); (case hr => first | (go_simp; done) | (go_simp; rfl)); intro gb138 hg w9 hbox hb; have n0_ := Aside0.mk (below_step (hb_ HB) hb); have n1_ := Aside0.mk (hbox); have n2_ := Aside0.mk ((by rw [hg]; exact (below_size (hb_ HB)) : w.heap.size ≤ gb138)); have n3_ := Aside0.mk ((by rw [hg]; exact (below_size (hb_ HB)) : w.heap.size ≤ gb138)); clear HB; have HB := n0_; have BK138 := n1_; have GW138 := n2_; have GE138 := n3_; clear n0_ n1_ n2_ n3_; clear hb hbox hg; have hcz10_0 : w9.cell? ⟨gb138, 0, none⟩ = some (.int .i64 a0_0) := (blk_cell BK138.out 0).trans rfl; have hcz10_1 : w9.cell? ⟨gb138, 1, none⟩ = some (.int .i64 a0_1) := (blk_cell BK138.out 1).trans rfl; have hcz10_2 : w9.cell? ⟨gb138, 2, none⟩ = some (.slice A0_2 l0_2.length c0_2) := (blk_cell BK138.out 2).trans rfl; have hfz10_0 := blk_frozen BK138.out 0; have hfz10_1 := blk_frozen BK138.out 1; have hfz10_2 := blk_frozen BK138.out 2) | ((with_reducible refine gate_callee (f := 85) rfl ?_); refine goesL_ (some 7) rfl rfl Try.func85 (by kernel_rfl) rfl #[.agg #[.int .i64 a0_0, .int .i64 a0_1, .slice A0_2 l0_2.length c0_2]] rfl ar_ ?_; (with_reducible refine (spec_l10Ok.calls k a0_0 a0_1 _ _ l0_2 true _ ?side1 ?side2 A2.out).mono ?_); (case side1 => repeat (first | exact (Kd.C_below HR0_2.out HB.out) | (with_reducible refine Kd.C_alloc ?_ _) | (with_reducible refine Kd.C_drewN ?_ _) | (with_reducible refine Kd.C_drew ?_))); (case side2 => exact HC0_2.out); rintro e w11 ⟨rfl, hb⟩; refine ⟨_, rfl, ?_⟩; have n0_ := Aside0.mk (blk_below (g := gb138) (o := .cells #[.int .i64 a0_0, .int .i64 a0_1, .slice A0_2 l0_2.length c0_2] 54 (0, 0)) (bk_ BK138) hb); have n1_ := Aside0.mk (below_step (hs_ HB GE138) hb); clear BK138; clear HB; have BK138 := n0_; have HB := n1_; clear n0_ n1_; (try clear hb); (try clear hb2); (try clear hk); (try clear hi)))
    have n0_ := Aside0.mk (blk_drew BK138.out)
    have n1_ := Aside0.mk (below_drew1 HB.out)
    clear BK138
    clear HB
    have BK138 := n0_
    have HB := n1_
    clear n0_ n1_
    refine start_ (n := 13) (S := fun w' => w'.cell? ⟨gb138, 0, none⟩ = some (.int .i64 a0_0) ∧ w'.cell? ⟨gb138, 1, none⟩ = some (.int .i64 a0_1) ∧ w'.cell? ⟨gb138, 2, none⟩ = some (.slice A0_2 l0_2.length c0_2)) (ds := []) (on_ 0 13) (by kernel_rfl) rfl rfl ⟨(blk_cell BK138.out 0).trans rfl, (blk_cell BK138.out 1).trans rfl, (blk_cell BK138.out 2).trans rfl⟩ (fun hHeld => ?_); refine with_tabW spec_ShowHint.tab3 spec_ShowHint.bits3 (fun HT_ HW_ => ?_)
    generalize w11.drew = w12 at BK138 HB hHeld ⊢
    refine pv_ (i := 0) (N := some 9) (on_ 1 12) rfl rfl HT_ ?_
    refine pv_ (i := 3) (N := some 12) #[i',o',o',i',o',o',o',o',o',o',o',o',o'] rfl rfl HT_ ?_
    refine pv_ (i := 7) (N := some 16) #[i',o',o',i',o',o',o',i',o',o',o',o',o'] rfl rfl HT_ ?_
    refine take_ (i := 1) (N := some 10) (v := ?_) (a' := ?_) #[i',i',o',i',o',o',o',i',o',o',o',o',o'] rfl rfl (take_ofW HT_.out HW_.out (by kernel_rfl)) (fun _ _ _ h => h) (Or.inl ⟨by rfl, ?_⟩) hHeld ?_ ?_
    rotate_left
    ·rintro w' ⟨s0, s1, s2⟩
     go_simp
     with_reducible rfl
    rotate_left
    ·simp only [Act.put, la_, lz_, ls_, i64_w, i32_w]
     rfl
    refine take_ (i := 4) (N := some 13) (v := ?_) (a' := ?_) #[i',i',o',i',i',o',o',i',o',o',o',o',o'] rfl rfl (take_ofW HT_.out HW_.out (by kernel_rfl)) (fun _ _ _ h => h) (Or.inl ⟨by rfl, ?_⟩) hHeld ?_ ?_
    rotate_left
    ·rintro w' ⟨s0, s1, s2⟩
     go_simp
     with_reducible rfl
    rotate_left
    ·simp only [Act.put, la_, lz_, ls_, i64_w, i32_w]
     rfl
    refine take_ (i := 8) (N := some 17) (v := ?_) (a' := ?_) #[i',i',o',i',i',o',o',i',i',o',o',o',o'] rfl rfl (take_ofW HT_.out HW_.out (by kernel_rfl)) (fun _ _ _ h => h) (Or.inl ⟨by rfl, ?_⟩) hHeld ?_ ?_
    rotate_left
    ·rintro w' ⟨s0, s1, s2⟩
     go_simp
     with_reducible rfl
    rotate_left
    ·simp only [Act.put, la_, lz_, ls_, i64_w, i32_w]
     rfl
    refine pv_ (i := 9) (N := some 18) #[i',i',o',i',i',o',o',i',i',i',o',o',o'] rfl rfl HT_ ?_
    refine one_ (i := 2) (N := some 11) #[i',i',i',i',i',o',o',i',i',i',o',o',o'] rfl rfl (one_of HT_.out (by kernel_rfl)) (by decide) (fun K hK => ?_)
    refine goes_ Try.func86 (by kernel_rfl) rfl #[.int .i64 a0_0] (by rfl) rfl rfl ar_ ?_
    with_reducible refine (spec_Var.calls k a0_0 t140 _ A4.out).mono ?_
    rintro e w13 ⟨rfl, hb⟩
    refine ⟨_, rfl, ?_⟩
    have n0_ := Aside0.mk (blk_below (g := gb138) (o := .cells #[.int .i64 a0_0, .int .i64 a0_1, .slice A0_2 l0_2.length c0_2] 54 (0, 0)) (bk_ BK138) hb)
    have n1_ := Aside0.mk (below_step (hs_ HB GE138) hb)
    clear BK138
    clear HB
    have BK138 := n0_
    have HB := n1_
    clear n0_ n1_
    (try clear hb)
    (try clear hb2)
    (try clear hk)
    (try clear hi)
    refine hK.out _ _ ⟨(blk_cell BK138.out 0).trans rfl, (blk_cell BK138.out 1).trans rfl, (blk_cell BK138.out 2).trans rfl⟩ (fun hHeld => ?_)
    clear hK K
    refine norm_ (a' := ?_) ?_ ?_
    rotate_left
    ·show Act.put _ (some 11) _ = _
     simp only [Act.put, la_, lz_, ls_, i64_w, i32_w]
     rfl
    refine one_ (i := 5) (N := some 14) #[i',i',i',i',i',i',o',i',i',i',o',o',o'] rfl rfl (one_of HT_.out (by kernel_rfl)) (by decide) (fun K hK => ?_)
    refine goes_ Try.func86 (by kernel_rfl) rfl #[.int .i64 a0_1] (by rfl) rfl rfl ar_ ?_
    with_reducible refine (spec_Var.calls k a0_1 t141 _ A5.out).mono ?_
    rintro e w14 ⟨rfl, hb⟩
    refine ⟨_, rfl, ?_⟩
    have n0_ := Aside0.mk (blk_below (g := gb138) (o := .cells #[.int .i64 a0_0, .int .i64 a0_1, .slice A0_2 l0_2.length c0_2] 54 (0, 0)) (bk_ BK138) hb)
    have n1_ := Aside0.mk (below_step (hs_ HB GE138) hb)
    clear BK138
    clear HB
    have BK138 := n0_
    have HB := n1_
    clear n0_ n1_
    (try clear hb)
    (try clear hb2)
    (try clear hk)
    (try clear hi)
    refine hK.out _ _ ⟨(blk_cell BK138.out 0).trans rfl, (blk_cell BK138.out 1).trans rfl, (blk_cell BK138.out 2).trans rfl⟩ (fun hHeld => ?_)
    clear hK K
    refine norm_ (a' := ?_) ?_ ?_
    rotate_left
    ·show Act.put _ (some 14) _ = _
     simp only [Act.put, la_, lz_, ls_, i64_w, i32_w]
     rfl
    refine pv_ (i := 6) (N := some 15) (on_ 10 3) rfl rfl HT_ ?_
    refine one_ (i := 10) (N := some 19) (on_ 11 2) rfl rfl (one_of HT_.out (by kernel_rfl)) (by decide) (fun K hK => ?_)
    refine goes_ Try.func86 (by kernel_rfl) rfl #[.int .i64 (l0_2.length : Int)] (by rfl) rfl rfl ar_ ?_
    with_reducible refine (spec_Var.calls k (l0_2.length : Int) t142 _ A7.out).mono ?_
    rintro e w15 ⟨rfl, hb⟩
    refine ⟨_, rfl, ?_⟩
    have n0_ := Aside0.mk (blk_below (g := gb138) (o := .cells #[.int .i64 a0_0, .int .i64 a0_1, .slice A0_2 l0_2.length c0_2] 54 (0, 0)) (bk_ BK138) hb)
    have n1_ := Aside0.mk (below_step (hs_ HB GE138) hb)
    clear BK138
    clear HB
    have BK138 := n0_
    have HB := n1_
    clear n0_ n1_
    (try clear hb)
    (try clear hb2)
    (try clear hk)
    (try clear hi)
    refine hK.out _ _ ⟨(blk_cell BK138.out 0).trans rfl, (blk_cell BK138.out 1).trans rfl, (blk_cell BK138.out 2).trans rfl⟩ (fun hHeld => ?_)
    clear hK K
    refine norm_ (a' := ?_) ?_ ?_
    rotate_left
    ·show Act.put _ (some 19) _ = _
     simp only [Act.put, la_, lz_, ls_, i64_w, i32_w]
     rfl
    refine pv_ (i := 11) (N := some 20) (on_ 12 1) rfl rfl HT_ ?_
    refine pv_ (i := 12) (N := some 3) (on_ 13 0) rfl rfl HT_ ?_
    refine done_ (done_of HT_.out (by kernel_rfl)) ?_
    try go_wp2
    go_loopg [3, 4] k (fun kq v3 v4 w' => ∃ (x3_1 : ByteArray) (x4_1 : Int), v3 = .string x3_1 ∧ v4 = .int .i64 x4_1 ∧ Aside0 (spec_ShowHint.l0 kq x3_1 x4_1 a0_0 a0_1 l0_2 = some r) ∧ Aside0 (kq ≤ k) ∧ Aside0 (w'.heap[gb138]? = some (.cells #[.int .i64 a0_0, .int .i64 a0_1, (.slice A0_2 l0_2.length c0_2)] 54 (0, 0))) ∧ Aside0 (Below w.heap.size w w'))
    case atStart => exact ⟨((t140 ++ t141) ++ t142), (0), rs_, rs_, H', ⟨Nat.le_refl _⟩, ⟨bk_ BK138⟩, ⟨hs_ HB GE138⟩⟩
    case round =>
     clear H'
     try clear c2
     try clear p2
     try clear c3
     try clear c6
     try clear c6b0
     try clear c6b1
     try clear c6b2
     try clear c8
     try clear c8b0
     try clear c8b1
     try clear c8b2
     try clear hcz10_0
     try clear hcz10_1
     try clear hcz10_2
     try clear hfz10_0
     try clear hfz10_1
     try clear hfz10_2
     obtain ⟨x3_1, x4_1, rfl, rfl, HA, HK1, BK138, HB⟩ := hrel
     cases gk with
     | zero => exact absurd HA.out (by simp [spec_ShowHint.l0])
     | succ k1 =>
      have H := HA.out
      clear HA
      simp only [spec_ShowHint.l0] at H
      by_cases c16 : x4_1 < (l0_2.length : Int)
      ·rw [if_pos c16] at H
       have c16b0 : decide (x4_1 < (l0_2.length : Int)) = true := decide_eq_true c16
       clear c16
       by_cases c17 : 0 ≤ x4_1
       ·rw [if_pos c17] at H
        have c17b0 : decide (0 ≤ x4_1) = true := decide_eq_true c17
        clear c17
        replace H := Option.bind_eq_some_iff.mp H
        obtain ⟨t145, A180, H⟩ := H
        replace H : (if x3_1.size + t145.size ≤ 9223372036854775807 then (if (x3_1 ++ t145).size + ((rd_T113 l0_2 x4_1).f0).size ≤ 9223372036854775807 then ((spec_Var.f k1 ((rd_T113 l0_2 x4_1).f1)).bind fun t146 => (if ((x3_1 ++ t145) ++ ((rd_T113 l0_2 x4_1).f0)).size + t146.size ≤ 9223372036854775807 then ((spec_Var.f k1 ((rd_T113 l0_2 x4_1).f2)).bind fun t147 => (if (((x3_1 ++ t145) ++ ((rd_T113 l0_2 x4_1).f0)) ++ t146).size + t147.size ≤ 9223372036854775807 then ((spec_Var.f k1 ((rd_T113 l0_2 x4_1).f3)).bind fun t148 => (if ((((x3_1 ++ t145) ++ ((rd_T113 l0_2 x4_1).f0)) ++ t146) ++ t147).size + t148.size ≤ 9223372036854775807 then ((spec_Var.f k1 ((rd_T113 l0_2 x4_1).f4)).bind fun t149 => (if (((((x3_1 ++ t145) ++ ((rd_T113 l0_2 x4_1).f0)) ++ t146) ++ t147) ++ t148).size + t149.size ≤ 9223372036854775807 then (spec_ShowHint.l0 k1 ((((((x3_1 ++ t145) ++ ((rd_T113 l0_2 x4_1).f0)) ++ t146) ++ t147) ++ t148) ++ t149) (wrap64 (x4_1 + 1)) a0_0 a0_1 l0_2) else (none))) else (none))) else (none))) else (none))) else (none)) else (none)) = some r := H
        have A18 := Aside0.mk A180
        clear A180
        by_cases c19 : x3_1.size + t145.size ≤ 9223372036854775807
        ·rw [if_pos c19] at H
         have c19b0 := eq_true c19
         have c19b1 : decide (x3_1.size + t145.size ≤ 9223372036854775807) = true := decide_eq_true c19
         try have c19b2 : (9223372036854775807 < x3_1.size + t145.size) = False := eq_false (Nat.not_lt.2 c19)
         (try (have c19b3 := c19b2; simp only [ByteArray.size_append] at c19b3))
         by_cases c20 : (x3_1 ++ t145).size + ((rd_T113 l0_2 x4_1).f0).size ≤ 9223372036854775807
         ·rw [if_pos c20] at H
          have c20b0 := eq_true c20
          have c20b1 : decide ((x3_1 ++ t145).size + ((rd_T113 l0_2 x4_1).f0).size ≤ 9223372036854775807) = true := decide_eq_true c20
          try have c20b2 : (9223372036854775807 < (x3_1 ++ t145).size + ((rd_T113 l0_2 x4_1).f0).size) = False := eq_false (Nat.not_lt.2 c20)
          (try (have c20b3 := c20b2; simp only [ByteArray.size_append] at c20b3))
          replace H := Option.bind_eq_some_iff.mp H
          obtain ⟨t146, A210, H⟩ := H
          replace H : (if ((x3_1 ++ t145) ++ ((rd_T113 l0_2 x4_1).f0)).size + t146.size ≤ 9223372036854775807 then ((spec_Var.f k1 ((rd_T113 l0_2 x4_1).f2)).bind fun t147 => (if (((x3_1 ++ t145) ++ ((rd_T113 l0_2 x4_1).f0)) ++ t146).size + t147.size ≤ 9223372036854775807 then ((spec_Var.f k1 ((rd_T113 l0_2 x4_1).f3)).bind fun t148 => (if ((((x3_1 ++ t145) ++ ((rd_T113 l0_2 x4_1).f0)) ++ t146) ++ t147).size + t148.size ≤ 9223372036854775807 then ((spec_Var.f k1 ((rd_T113 l0_2 x4_1).f4)).bind fun t149 => (if (((((x3_1 ++ t145) ++ ((rd_T113 l0_2 x4_1).f0)) ++ t146) ++ t147) ++ t148).size + t149.size ≤ 9223372036854775807 then (spec_ShowHint.l0 k1 ((((((x3_1 ++ t145) ++ ((rd_T113 l0_2 x4_1).f0)) ++ t146) ++ t147) ++ t148) ++ t149) (wrap64 (x4_1 + 1)) a0_0 a0_1 l0_2) else (none))) else (none))) else (none))) else (none)) = some r := H
          have A21 := Aside0.mk A210
          clear A210
          by_cases c22 : ((x3_1 ++ t145) ++ ((rd_T113 l0_2 x4_1).f0)).size + t146.size ≤ 9223372036854775807
          ·rw [if_pos c22] at H
           have c22b0 := eq_true c22
           have c22b1 : decide (((x3_1 ++ t145) ++ ((rd_T113 l0_2 x4_1).f0)).size + t146.size ≤ 9223372036854775807) = true := decide_eq_true c22
           try have c22b2 : (9223372036854775807 < ((x3_1 ++ t145) ++ ((rd_T113 l0_2 x4_1).f0)).size + t146.size) = False := eq_false (Nat.not_lt.2 c22)
           (try (have c22b3 := c22b2; simp only [ByteArray.size_append] at c22b3))
           replace H := Option.bind_eq_some_iff.mp H
           obtain ⟨t147, A230, H⟩ := H
           replace H : (if (((x3_1 ++ t145) ++ ((rd_T113 l0_2 x4_1).f0)) ++ t146).size + t147.size ≤ 9223372036854775807 then ((spec_Var.f k1 ((rd_T113 l0_2 x4_1).f3)).bind fun t148 => (if ((((x3_1 ++ t145) ++ ((rd_T113 l0_2 x4_1).f0)) ++ t146) ++ t147).size + t148.size ≤ 9223372036854775807 then ((spec_Var.f k1 ((rd_T113 l0_2 x4_1).f4)).bind fun t149 => (if (((((x3_1 ++ t145) ++ ((rd_T113 l0_2 x4_1).f0)) ++ t146) ++ t147) ++ t148).size + t149.size ≤ 9223372036854775807 then (spec_ShowHint.l0 k1 ((((((x3_1 ++ t145) ++ ((rd_T113 l0_2 x4_1).f0)) ++ t146) ++ t147) ++ t148) ++ t149) (wrap64 (x4_1 + 1)) a0_0 a0_1 l0_2) else (none))) else (none))) else (none)) = some r := H
           have A23 := Aside0.mk A230
           clear A230
           by_cases c24 : (((x3_1 ++ t145) ++ ((rd_T113 l0_2 x4_1).f0)) ++ t146).size + t147.size ≤ 9223372036854775807
           ·rw [if_pos c24] at H
            have c24b0 := eq_true c24
            have c24b1 : decide ((((x3_1 ++ t145) ++ ((rd_T113 l0_2 x4_1).f0)) ++ t146).size + t147.size ≤ 9223372036854775807) = true := decide_eq_true c24
            try have c24b2 : (9223372036854775807 < (((x3_1 ++ t145) ++ ((rd_T113 l0_2 x4_1).f0)) ++ t146).size + t147.size) = False := eq_false (Nat.not_lt.2 c24)
            (try (have c24b3 := c24b2; simp only [ByteArray.size_append] at c24b3))
            replace H := Option.bind_eq_some_iff.mp H
            obtain ⟨t148, A250, H⟩ := H
            replace H : (if ((((x3_1 ++ t145) ++ ((rd_T113 l0_2 x4_1).f0)) ++ t146) ++ t147).size + t148.size ≤ 9223372036854775807 then ((spec_Var.f k1 ((rd_T113 l0_2 x4_1).f4)).bind fun t149 => (if (((((x3_1 ++ t145) ++ ((rd_T113 l0_2 x4_1).f0)) ++ t146) ++ t147) ++ t148).size + t149.size ≤ 9223372036854775807 then (spec_ShowHint.l0 k1 ((((((x3_1 ++ t145) ++ ((rd_T113 l0_2 x4_1).f0)) ++ t146) ++ t147) ++ t148) ++ t149) (wrap64 (x4_1 + 1)) a0_0 a0_1 l0_2) else (none))) else (none)) = some r := H
            have A25 := Aside0.mk A250
            clear A250
            by_cases c26 : ((((x3_1 ++ t145) ++ ((rd_T113 l0_2 x4_1).f0)) ++ t146) ++ t147).size + t148.size ≤ 9223372036854775807
            ·rw [if_pos c26] at H
             have c26b0 := eq_true c26
             have c26b1 : decide (((((x3_1 ++ t145) ++ ((rd_T113 l0_2 x4_1).f0)) ++ t146) ++ t147).size + t148.size ≤ 9223372036854775807) = true := decide_eq_true c26
             try have c26b2 : (9223372036854775807 < ((((x3_1 ++ t145) ++ ((rd_T113 l0_2 x4_1).f0)) ++ t146) ++ t147).size + t148.size) = False := eq_false (Nat.not_lt.2 c26)
             (try (have c26b3 := c26b2; simp only [ByteArray.size_append] at c26b3))
             replace H := Option.bind_eq_some_iff.mp H
             obtain ⟨t149, A270, H⟩ := H
             replace H : (if (((((x3_1 ++ t145) ++ ((rd_T113 l0_2 x4_1).f0)) ++ t146) ++ t147) ++ t148).size + t149.size ≤ 9223372036854775807 then (spec_ShowHint.l0 k1 ((((((x3_1 ++ t145) ++ ((rd_T113 l0_2 x4_1).f0)) ++ t146) ++ t147) ++ t148) ++ t149) (wrap64 (x4_1 + 1)) a0_0 a0_1 l0_2) else (none)) = some r := H
             have A27 := Aside0.mk A270
             clear A270
             by_cases c28 : (((((x3_1 ++ t145) ++ ((rd_T113 l0_2 x4_1).f0)) ++ t146) ++ t147) ++ t148).size + t149.size ≤ 9223372036854775807
             ·rw [if_pos c28] at H
              have c28b0 := eq_true c28
              have c28b1 : decide ((((((x3_1 ++ t145) ++ ((rd_T113 l0_2 x4_1).f0)) ++ t146) ++ t147) ++ t148).size + t149.size ≤ 9223372036854775807) = true := decide_eq_true c28
              try have c28b2 : (9223372036854775807 < (((((x3_1 ++ t145) ++ ((rd_T113 l0_2 x4_1).f0)) ++ t146) ++ t147) ++ t148).size + t149.size) = False := eq_false (Nat.not_lt.2 c28)
              (try (have c28b3 := c28b2; simp only [ByteArray.size_append] at c28b3))
              have H' := Aside0.mk H
              clear H
              have hcz29_0 : wr.cell? ⟨gb138, 0, none⟩ = some (.int .i64 a0_0) := (blk_cell BK138.out 0).trans rfl
              have hcz29_1 : wr.cell? ⟨gb138, 1, none⟩ = some (.int .i64 a0_1) := (blk_cell BK138.out 1).trans rfl
              have hcz29_2 : wr.cell? ⟨gb138, 2, none⟩ = some (.slice A0_2 l0_2.length c0_2) := (blk_cell BK138.out 2).trans rfl
              have hfz29_0 := blk_frozen BK138.out 0
              have hfz29_1 := blk_frozen BK138.out 1
              have hfz29_2 := blk_frozen BK138.out 2
              have p143 : 0 ≤ (x4_1 : Int) := of_decide_eq_true as_
              have q143 : x4_1 < (l0_2.length : Int) := of_decide_eq_true as_
              obtain ⟨ad143, e143, hx143_0, hx143_1, hx143_2, hx143_3, hx143_4⟩ := at_T113 HR0_2.out x4_1 p143 q143
              cases e143
              replace hx143_0 := cb_ HB hx143_0
              replace hx143_1 := cb_ HB hx143_1
              replace hx143_2 := cb_ HB hx143_2
              replace hx143_3 := cb_ HB hx143_3
              replace hx143_4 := cb_ HB hx143_4
              replace p143 := eq_true p143
              replace q143 := eq_true q143
              try go_wp2_with (first | ((with_reducible refine gate_dst (N := 5) rfl ?_); refine box_event ?hg (N := 5) ?hd (cs := #[.string (⟨#[]⟩ : ByteArray), .int .i64 0, .int .i64 0, .int .i64 0, .int .i64 0]) (t := 113) ?hr ?_; (case hd => rfl); (case hg => rfl); (case hr => first | (go_simp; done) | (go_simp; rfl)); intro gb144 hg w30 hbox hb; have n0_ := Aside0.mk (blk_below (g := gb138) (o := .cells #[.int .i64 a0_0, .int .i64 a0_1, .slice (some ad143) l0_2.length c0_2] 54 (0, 0)) (bk_ BK138) hb); have n1_ := Aside0.mk (below_step (hs_ HB GE138) hb); have n2_ := Aside0.mk (hbox); have n3_ := Aside0.mk ((by rw [hg]; exact (below_size (hs_ HB GE138)) : w.heap.size ≤ gb144)); have n4_ := Aside0.mk ((by rw [hg]; exact (below_size (hs_ HB GE138)) : w.heap.size ≤ gb144)); have n5_ := Aside0.mk ((by rw [hg]; exact Nat.ne_of_lt (blk_lt (g := gb138) (o := .cells #[.int .i64 a0_0, .int .i64 a0_1, .slice (some ad143) l0_2.length c0_2] 54 (0, 0)) (bk_ BK138)) : gb138 ≠ gb144)); have n6_ := Aside0.mk ((by rw [hg]; exact Nat.ne_of_gt (blk_lt (g := gb138) (o := .cells #[.int .i64 a0_0, .int .i64 a0_1, .slice (some ad143) l0_2.length c0_2] 54 (0, 0)) (bk_ BK138)) : gb144 ≠ gb138)); clear BK138; clear HB; have BK138 := n0_; have HB := n1_; have BK144 := n2_; have GW144 := n3_; have GE144 := n4_; have NB138_144 := n5_; have NB144_138 := n6_; clear n0_ n1_ n2_ n3_ n4_ n5_ n6_; clear hb hbox hg; have hnb31 := NB144_138.out; have hnc31 := NB138_144.out; have hcz32_0 : w30.cell? ⟨gb144, 0, none⟩ = some (.string (⟨#[]⟩ : ByteArray)) := (blk_cell BK144.out 0).trans rfl; have hcz32_1 : w30.cell? ⟨gb144, 1, none⟩ = some (.int .i64 0) := (blk_cell BK144.out 1).trans rfl; have hcz32_2 : w30.cell? ⟨gb144, 2, none⟩ = some (.int .i64 0) := (blk_cell BK144.out 2).trans rfl; have hcz32_3 : w30.cell? ⟨gb144, 3, none⟩ = some (.int .i64 0) := (blk_cell BK144.out 3).trans rfl; have hcz32_4 : w30.cell? ⟨gb144, 4, none⟩ = some (.int .i64 0) := (blk_cell BK144.out 4).trans rfl; have hfz32_0 := blk_frozen BK144.out 0; have hfz32_1 := blk_frozen BK144.out 1; have hfz32_2 := blk_frozen BK144.out 2; have hfz32_3 := blk_frozen BK144.out 3; have hfz32_4 := blk_frozen BK144.out 4))
              have n0_ : Aside0 ((((((w30.setCell ⟨gb144, 0, none⟩ (.string ((rd_T113 l0_2 x4_1).f0))).setCell ⟨gb144, 1, none⟩ (.int .i64 ((rd_T113 l0_2 x4_1).f1))).setCell ⟨gb144, 2, none⟩ (.int .i64 ((rd_T113 l0_2 x4_1).f2))).setCell ⟨gb144, 3, none⟩ (.int .i64 ((rd_T113 l0_2 x4_1).f3))).setCell ⟨gb144, 4, none⟩ (.int .i64 ((rd_T113 l0_2 x4_1).f4))).heap[gb138]? = some (.cells #[.int .i64 a0_0, .int .i64 a0_1, .slice (some ad143) l0_2.length c0_2] 54 (0, 0))) := ⟨by (with_reducible repeat (first | refine blk_drewN ?_ _ | refine blk_drew ?_ | refine blk_alloc ?_ _)); refine blk_far ?_ NB138_144.out _; (with_reducible repeat (first | refine blk_drewN ?_ _ | refine blk_drew ?_ | refine blk_alloc ?_ _)); refine blk_far ?_ NB138_144.out _; (with_reducible repeat (first | refine blk_drewN ?_ _ | refine blk_drew ?_ | refine blk_alloc ?_ _)); refine blk_far ?_ NB138_144.out _; (with_reducible repeat (first | refine blk_drewN ?_ _ | refine blk_drew ?_ | refine blk_alloc ?_ _)); refine blk_far ?_ NB138_144.out _; (with_reducible repeat (first | refine blk_drewN ?_ _ | refine blk_drew ?_ | refine blk_alloc ?_ _)); refine blk_far ?_ NB138_144.out _; (with_reducible repeat (first | refine blk_drewN ?_ _ | refine blk_drew ?_ | refine blk_alloc ?_ _)); exact BK138.out⟩
              have n1_ : Aside0 ((((((w30.setCell ⟨gb144, 0, none⟩ (.string ((rd_T113 l0_2 x4_1).f0))).setCell ⟨gb144, 1, none⟩ (.int .i64 ((rd_T113 l0_2 x4_1).f1))).setCell ⟨gb144, 2, none⟩ (.int .i64 ((rd_T113 l0_2 x4_1).f2))).setCell ⟨gb144, 3, none⟩ (.int .i64 ((rd_T113 l0_2 x4_1).f3))).setCell ⟨gb144, 4, none⟩ (.int .i64 ((rd_T113 l0_2 x4_1).f4))).heap[gb144]? = some (.cells #[.string ((rd_T113 l0_2 x4_1).f0), .int .i64 ((rd_T113 l0_2 x4_1).f1), .int .i64 ((rd_T113 l0_2 x4_1).f2), .int .i64 ((rd_T113 l0_2 x4_1).f3), .int .i64 ((rd_T113 l0_2 x4_1).f4)] 113 (0, 0))) := ⟨by (with_reducible repeat (first | refine blk_drewN ?_ _ | refine blk_drew ?_ | refine blk_alloc ?_ _)); refine blk_put (cs := #[.string ((rd_T113 l0_2 x4_1).f0), .int .i64 ((rd_T113 l0_2 x4_1).f1), .int .i64 ((rd_T113 l0_2 x4_1).f2), .int .i64 ((rd_T113 l0_2 x4_1).f3), .int .i64 0]) ?_ 4 _ rfl; (with_reducible repeat (first | refine blk_drewN ?_ _ | refine blk_drew ?_ | refine blk_alloc ?_ _)); refine blk_put (cs := #[.string ((rd_T113 l0_2 x4_1).f0), .int .i64 ((rd_T113 l0_2 x4_1).f1), .int .i64 ((rd_T113 l0_2 x4_1).f2), .int .i64 0, .int .i64 0]) ?_ 3 _ rfl; (with_reducible repeat (first | refine blk_drewN ?_ _ | refine blk_drew ?_ | refine blk_alloc ?_ _)); refine blk_put (cs := #[.string ((rd_T113 l0_2 x4_1).f0), .int .i64 ((rd_T113 l0_2 x4_1).f1), .int .i64 0, .int .i64 0, .int .i64 0]) ?_ 2 _ rfl; (with_reducible repeat (first | refine blk_drewN ?_ _ | refine blk_drew ?_ | refine blk_alloc ?_ _)); refine blk_put (cs := #[.string ((rd_T113 l0_2 x4_1).f0), .int .i64 0, .int .i64 0, .int .i64 0, .int .i64 0]) ?_ 1 _ rfl; (with_reducible repeat (first | refine blk_drewN ?_ _ | refine blk_drew ?_ | refine blk_alloc ?_ _)); refine blk_put (cs := #[.string (⟨#[]⟩ : ByteArray), .int .i64 0, .int .i64 0, .int .i64 0, .int .i64 0]) ?_ 0 _ rfl; (with_reducible repeat (first | refine blk_drewN ?_ _ | refine blk_drew ?_ | refine blk_alloc ?_ _)); exact BK144.out⟩
              have n2_ : Aside0 (Below w.heap.size w (((((w30.setCell ⟨gb144, 0, none⟩ (.string ((rd_T113 l0_2 x4_1).f0))).setCell ⟨gb144, 1, none⟩ (.int .i64 ((rd_T113 l0_2 x4_1).f1))).setCell ⟨gb144, 2, none⟩ (.int .i64 ((rd_T113 l0_2 x4_1).f2))).setCell ⟨gb144, 3, none⟩ (.int .i64 ((rd_T113 l0_2 x4_1).f3))).setCell ⟨gb144, 4, none⟩ (.int .i64 ((rd_T113 l0_2 x4_1).f4)))) := ⟨by repeat (first | (with_reducible first | exact HB.out | apply below_alloc | apply pw_below_drewN | apply below_drew1 | refine below_set ?_ GE138.out | refine below_set ?_ GE144.out) | exact HB.out)⟩
              (try clear BK138)
              (try clear BK144)
              (try clear HB)
              generalize (((((w30.setCell ⟨gb144, 0, none⟩ (.string ((rd_T113 l0_2 x4_1).f0))).setCell ⟨gb144, 1, none⟩ (.int .i64 ((rd_T113 l0_2 x4_1).f1))).setCell ⟨gb144, 2, none⟩ (.int .i64 ((rd_T113 l0_2 x4_1).f2))).setCell ⟨gb144, 3, none⟩ (.int .i64 ((rd_T113 l0_2 x4_1).f3))).setCell ⟨gb144, 4, none⟩ (.int .i64 ((rd_T113 l0_2 x4_1).f4))) = w33 at n0_ n1_ n2_ ⊢
              have BK138 := n0_
              have BK144 := n1_
              have HB := n2_
              clear n0_ n1_ n2_
              have n0_ := Aside0.mk (blk_drew BK138.out)
              have n1_ := Aside0.mk (blk_drew BK144.out)
              have n2_ := Aside0.mk (below_drew1 HB.out)
              clear BK138
              clear BK144
              clear HB
              have BK138 := n0_
              have BK144 := n1_
              have HB := n2_
              clear n0_ n1_ n2_
              refine start_ (n := 26) (S := fun w' => w'.cell? ⟨gb144, 0, none⟩ = some (.string ((rd_T113 l0_2 x4_1).f0)) ∧ w'.cell? ⟨gb144, 1, none⟩ = some (.int .i64 ((rd_T113 l0_2 x4_1).f1)) ∧ w'.cell? ⟨gb144, 2, none⟩ = some (.int .i64 ((rd_T113 l0_2 x4_1).f2)) ∧ w'.cell? ⟨gb144, 3, none⟩ = some (.int .i64 ((rd_T113 l0_2 x4_1).f3)) ∧ w'.cell? ⟨gb144, 4, none⟩ = some (.int .i64 ((rd_T113 l0_2 x4_1).f4))) (ds := []) (on_ 0 26) (by kernel_rfl) rfl rfl ⟨(blk_cell BK144.out 0).trans rfl, (blk_cell BK144.out 1).trans rfl, (blk_cell BK144.out 2).trans rfl, (blk_cell BK144.out 3).trans rfl, (blk_cell BK144.out 4).trans rfl⟩ (fun hHeld => ?_); refine with_tabW spec_ShowHint.tab8 spec_ShowHint.bits8 (fun HT_ HW_ => ?_)
              generalize w33.drew = w34 at BK138 BK144 HB hHeld ⊢
              refine pv_ (i := 0) (N := some 33) (on_ 1 25) rfl rfl HT_ ?_
              refine pv_ (i := 1) (N := some 34) (on_ 2 24) rfl rfl HT_ ?_
              refine pv_ (i := 6) (N := some 39) #[i',i',o',o',o',o',i',o',o',o',o',o',o',o',o',o',o',o',o',o',o',o',o',o',o',o'] rfl rfl HT_ ?_
              refine pv_ (i := 9) (N := some 42) #[i',i',o',o',o',o',i',o',o',i',o',o',o',o',o',o',o',o',o',o',o',o',o',o',o',o'] rfl rfl HT_ ?_
              refine pv_ (i := 13) (N := some 46) #[i',i',o',o',o',o',i',o',o',i',o',o',o',i',o',o',o',o',o',o',o',o',o',o',o',o'] rfl rfl HT_ ?_
              refine pv_ (i := 17) (N := some 50) #[i',i',o',o',o',o',i',o',o',i',o',o',o',i',o',o',o',i',o',o',o',o',o',o',o',o'] rfl rfl HT_ ?_
              refine pv_ (i := 21) (N := some 54) #[i',i',o',o',o',o',i',o',o',i',o',o',o',i',o',o',o',i',o',o',o',i',o',o',o',o'] rfl rfl HT_ ?_
              refine take_ (i := 2) (N := some 35) (v := ?_) (a' := ?_) #[i',i',i',o',o',o',i',o',o',i',o',o',o',i',o',o',o',i',o',o',o',i',o',o',o',o'] rfl rfl (take_ofW HT_.out HW_.out (by kernel_rfl)) (fun _ _ _ h => h) (Or.inl ⟨by rfl, ?_⟩) hHeld ?_ ?_
              rotate_left
              ·rintro w' ⟨s0, s1, s2, s3, s4⟩
               go_simp
               with_reducible rfl
              rotate_left
              ·simp only [Act.put, la_, lz_, ls_, i64_w, i32_w]
               rfl
              refine pv_ (i := 3) (N := some 36) #[i',i',i',i',o',o',i',o',o',i',o',o',o',i',o',o',o',i',o',o',o',i',o',o',o',o'] rfl rfl HT_ ?_
              refine take_ (i := 7) (N := some 40) (v := ?_) (a' := ?_) #[i',i',i',i',o',o',i',i',o',i',o',o',o',i',o',o',o',i',o',o',o',i',o',o',o',o'] rfl rfl (take_ofW HT_.out HW_.out (by kernel_rfl)) (fun _ _ _ h => h) (Or.inl ⟨by rfl, ?_⟩) hHeld ?_ ?_
              rotate_left
              ·rintro w' ⟨s0, s1, s2, s3, s4⟩
               go_simp
               with_reducible rfl
              rotate_left
              ·simp only [Act.put, la_, lz_, ls_, i64_w, i32_w]
               rfl
              refine take_ (i := 10) (N := some 43) (v := ?_) (a' := ?_) #[i',i',i',i',o',o',i',i',o',i',i',o',o',i',o',o',o',i',o',o',o',i',o',o',o',o'] rfl rfl (take_ofW HT_.out HW_.out (by kernel_rfl)) (fun _ _ _ h => h) (Or.inl ⟨by rfl, ?_⟩) hHeld ?_ ?_
              rotate_left
              ·rintro w' ⟨s0, s1, s2, s3, s4⟩
               go_simp
               with_reducible rfl
              rotate_left
              ·simp only [Act.put, la_, lz_, ls_, i64_w, i32_w]
               rfl
              refine take_ (i := 14) (N := some 47) (v := ?_) (a' := ?_) #[i',i',i',i',o',o',i',i',o',i',i',o',o',i',i',o',o',i',o',o',o',i',o',o',o',o'] rfl rfl (take_ofW HT_.out HW_.out (by kernel_rfl)) (fun _ _ _ h => h) (Or.inl ⟨by rfl, ?_⟩) hHeld ?_ ?_
              rotate_left
              ·rintro w' ⟨s0, s1, s2, s3, s4⟩
               go_simp
               with_reducible rfl
              rotate_left
              ·simp only [Act.put, la_, lz_, ls_, i64_w, i32_w]
               rfl
              refine take_ (i := 18) (N := some 51) (v := ?_) (a' := ?_) #[i',i',i',i',o',o',i',i',o',i',i',o',o',i',i',o',o',i',i',o',o',i',o',o',o',o'] rfl rfl (take_ofW HT_.out HW_.out (by kernel_rfl)) (fun _ _ _ h => h) (Or.inl ⟨by rfl, ?_⟩) hHeld ?_ ?_
              rotate_left
              ·rintro w' ⟨s0, s1, s2, s3, s4⟩
               go_simp
               with_reducible rfl
              rotate_left
              ·simp only [Act.put, la_, lz_, ls_, i64_w, i32_w]
               rfl
              refine take_ (i := 22) (N := some 55) (v := ?_) (a' := ?_) #[i',i',i',i',o',o',i',i',o',i',i',o',o',i',i',o',o',i',i',o',o',i',i',o',o',o'] rfl rfl (take_ofW HT_.out HW_.out (by kernel_rfl)) (fun _ _ _ h => h) (Or.inl ⟨by rfl, ?_⟩) hHeld ?_ ?_
              rotate_left
              ·rintro w' ⟨s0, s1, s2, s3, s4⟩
               go_simp
               with_reducible rfl
              rotate_left
              ·simp only [Act.put, la_, lz_, ls_, i64_w, i32_w]
               rfl
              refine one_ (i := 4) (N := some 37) #[i',i',i',i',i',o',i',i',o',i',i',o',o',i',i',o',o',i',i',o',o',i',i',o',o',o'] rfl rfl (one_of HT_.out (by kernel_rfl)) (by decide) (fun K hK => ?_)
              refine goes_ Try.func86 (by kernel_rfl) rfl #[.int .i64 (((rd_T113 l0_2 x4_1).f0).size : Int)] (by rfl) rfl rfl ar_ ?_
              with_reducible refine (spec_Var.calls k1 (((rd_T113 l0_2 x4_1).f0).size : Int) t145 _ A18.out).mono ?_
              rintro e w35 ⟨rfl, hb⟩
              refine ⟨_, rfl, ?_⟩
              have n0_ := Aside0.mk (blk_below (g := gb138) (o := .cells #[.int .i64 a0_0, .int .i64 a0_1, .slice (some ad143) l0_2.length c0_2] 54 (0, 0)) (bk_ BK138) hb)
              have n1_ := Aside0.mk (blk_below (g := gb144) (o := .cells #[.string ((rd_T113 l0_2 x4_1).f0), .int .i64 ((rd_T113 l0_2 x4_1).f1), .int .i64 ((rd_T113 l0_2 x4_1).f2), .int .i64 ((rd_T113 l0_2 x4_1).f3), .int .i64 ((rd_T113 l0_2 x4_1).f4)] 113 (0, 0)) (bk_ BK144) hb)
              have n2_ := Aside0.mk (below_step (by repeat (first | (with_reducible first | exact HB.out | apply below_alloc | apply pw_below_drewN | apply below_drew1 | refine below_set ?_ GE138.out | refine below_set ?_ GE144.out) | exact HB.out)) hb)
              clear BK138
              clear BK144
              clear HB
              have BK138 := n0_
              have BK144 := n1_
              have HB := n2_
              clear n0_ n1_ n2_
              (try clear hb)
              (try clear hb2)
              (try clear hk)
              (try clear hi)
              refine hK.out _ _ ⟨(blk_cell BK144.out 0).trans rfl, (blk_cell BK144.out 1).trans rfl, (blk_cell BK144.out 2).trans rfl, (blk_cell BK144.out 3).trans rfl, (blk_cell BK144.out 4).trans rfl⟩ (fun hHeld => ?_)
              clear hK K
              refine norm_ (a' := ?_) ?_ ?_
              rotate_left
              ·show Act.put _ (some 37) _ = _
               simp only [Act.put, la_, lz_, ls_, i64_w, i32_w]
               rfl
              refine pv_ (i := 5) (N := some 38) #[i',i',i',i',i',i',i',i',o',i',i',o',o',i',i',o',o',i',i',o',o',i',i',o',o',o'] rfl rfl HT_ ?_
              refine pv_ (i := 8) (N := some 41) #[i',i',i',i',i',i',i',i',i',i',i',o',o',i',i',o',o',i',i',o',o',i',i',o',o',o'] rfl rfl HT_ ?_
              refine one_ (i := 11) (N := some 44) #[i',i',i',i',i',i',i',i',i',i',i',i',o',i',i',o',o',i',i',o',o',i',i',o',o',o'] rfl rfl (one_of HT_.out (by kernel_rfl)) (by decide) (fun K hK => ?_)
              refine goes_ Try.func86 (by kernel_rfl) rfl #[.int .i64 ((rd_T113 l0_2 x4_1).f1)] (by rfl) rfl rfl ar_ ?_
              with_reducible refine (spec_Var.calls k1 ((rd_T113 l0_2 x4_1).f1) t146 _ A21.out).mono ?_
              rintro e w36 ⟨rfl, hb⟩
              refine ⟨_, rfl, ?_⟩
              have n0_ := Aside0.mk (blk_below (g := gb138) (o := .cells #[.int .i64 a0_0, .int .i64 a0_1, .slice (some ad143) l0_2.length c0_2] 54 (0, 0)) (bk_ BK138) hb)
              have n1_ := Aside0.mk (blk_below (g := gb144) (o := .cells #[.string ((rd_T113 l0_2 x4_1).f0), .int .i64 ((rd_T113 l0_2 x4_1).f1), .int .i64 ((rd_T113 l0_2 x4_1).f2), .int .i64 ((rd_T113 l0_2 x4_1).f3), .int .i64 ((rd_T113 l0_2 x4_1).f4)] 113 (0, 0)) (bk_ BK144) hb)
              have n2_ := Aside0.mk (below_step (by repeat (first | (with_reducible first | exact HB.out | apply below_alloc | apply pw_below_drewN | apply below_drew1 | refine below_set ?_ GE138.out | refine below_set ?_ GE144.out) | exact HB.out)) hb)
              clear BK138
              clear BK144
              clear HB
              have BK138 := n0_
              have BK144 := n1_
              have HB := n2_
              clear n0_ n1_ n2_
              (try clear hb)
              (try clear hb2)
              (try clear hk)
              (try clear hi)
              refine hK.out _ _ ⟨(blk_cell BK144.out 0).trans rfl, (blk_cell BK144.out 1).trans rfl, (blk_cell BK144.out 2).trans rfl, (blk_cell BK144.out 3).trans rfl, (blk_cell BK144.out 4).trans rfl⟩ (fun hHeld => ?_)
              clear hK K
              refine norm_ (a' := ?_) ?_ ?_
              rotate_left
              ·show Act.put _ (some 44) _ = _
               simp only [Act.put, la_, lz_, ls_, i64_w, i32_w]
               rfl
              refine pv_ (i := 12) (N := some 45) #[i',i',i',i',i',i',i',i',i',i',i',i',i',i',i',o',o',i',i',o',o',i',i',o',o',o'] rfl rfl HT_ ?_
              refine one_ (i := 15) (N := some 48) #[i',i',i',i',i',i',i',i',i',i',i',i',i',i',i',i',o',i',i',o',o',i',i',o',o',o'] rfl rfl (one_of HT_.out (by kernel_rfl)) (by decide) (fun K hK => ?_)
              refine goes_ Try.func86 (by kernel_rfl) rfl #[.int .i64 ((rd_T113 l0_2 x4_1).f2)] (by rfl) rfl rfl ar_ ?_
              with_reducible refine (spec_Var.calls k1 ((rd_T113 l0_2 x4_1).f2) t147 _ A23.out).mono ?_
              rintro e w37 ⟨rfl, hb⟩
              refine ⟨_, rfl, ?_⟩
              have n0_ := Aside0.mk (blk_below (g := gb138) (o := .cells #[.int .i64 a0_0, .int .i64 a0_1, .slice (some ad143) l0_2.length c0_2] 54 (0, 0)) (bk_ BK138) hb)
              have n1_ := Aside0.mk (blk_below (g := gb144) (o := .cells #[.string ((rd_T113 l0_2 x4_1).f0), .int .i64 ((rd_T113 l0_2 x4_1).f1), .int .i64 ((rd_T113 l0_2 x4_1).f2), .int .i64 ((rd_T113 l0_2 x4_1).f3), .int .i64 ((rd_T113 l0_2 x4_1).f4)] 113 (0, 0)) (bk_ BK144) hb)
              have n2_ := Aside0.mk (below_step (by repeat (first | (with_reducible first | exact HB.out | apply below_alloc | apply pw_below_drewN | apply below_drew1 | refine below_set ?_ GE138.out | refine below_set ?_ GE144.out) | exact HB.out)) hb)
              clear BK138
              clear BK144
              clear HB
              have BK138 := n0_
              have BK144 := n1_
              have HB := n2_
              clear n0_ n1_ n2_
              (try clear hb)
              (try clear hb2)
              (try clear hk)
              (try clear hi)
              refine hK.out _ _ ⟨(blk_cell BK144.out 0).trans rfl, (blk_cell BK144.out 1).trans rfl, (blk_cell BK144.out 2).trans rfl, (blk_cell BK144.out 3).trans rfl, (blk_cell BK144.out 4).trans rfl⟩ (fun hHeld => ?_)
              clear hK K
              refine norm_ (a' := ?_) ?_ ?_
              rotate_left
              ·show Act.put _ (some 48) _ = _
               simp only [Act.put, la_, lz_, ls_, i64_w, i32_w]
               rfl
              refine pv_ (i := 16) (N := some 49) #[i',i',i',i',i',i',i',i',i',i',i',i',i',i',i',i',i',i',i',o',o',i',i',o',o',o'] rfl rfl HT_ ?_
              refine one_ (i := 19) (N := some 52) #[i',i',i',i',i',i',i',i',i',i',i',i',i',i',i',i',i',i',i',i',o',i',i',o',o',o'] rfl rfl (one_of HT_.out (by kernel_rfl)) (by decide) (fun K hK => ?_)
              refine goes_ Try.func86 (by kernel_rfl) rfl #[.int .i64 ((rd_T113 l0_2 x4_1).f3)] (by rfl) rfl rfl ar_ ?_
              with_reducible refine (spec_Var.calls k1 ((rd_T113 l0_2 x4_1).f3) t148 _ A25.out).mono ?_
              rintro e w38 ⟨rfl, hb⟩
              refine ⟨_, rfl, ?_⟩
              have n0_ := Aside0.mk (blk_below (g := gb138) (o := .cells #[.int .i64 a0_0, .int .i64 a0_1, .slice (some ad143) l0_2.length c0_2] 54 (0, 0)) (bk_ BK138) hb)
              have n1_ := Aside0.mk (blk_below (g := gb144) (o := .cells #[.string ((rd_T113 l0_2 x4_1).f0), .int .i64 ((rd_T113 l0_2 x4_1).f1), .int .i64 ((rd_T113 l0_2 x4_1).f2), .int .i64 ((rd_T113 l0_2 x4_1).f3), .int .i64 ((rd_T113 l0_2 x4_1).f4)] 113 (0, 0)) (bk_ BK144) hb)
              have n2_ := Aside0.mk (below_step (by repeat (first | (with_reducible first | exact HB.out | apply below_alloc | apply pw_below_drewN | apply below_drew1 | refine below_set ?_ GE138.out | refine below_set ?_ GE144.out) | exact HB.out)) hb)
              clear BK138
              clear BK144
              clear HB
              have BK138 := n0_
              have BK144 := n1_
              have HB := n2_
              clear n0_ n1_ n2_
              (try clear hb)
              (try clear hb2)
              (try clear hk)
              (try clear hi)
              refine hK.out _ _ ⟨(blk_cell BK144.out 0).trans rfl, (blk_cell BK144.out 1).trans rfl, (blk_cell BK144.out 2).trans rfl, (blk_cell BK144.out 3).trans rfl, (blk_cell BK144.out 4).trans rfl⟩ (fun hHeld => ?_)
              clear hK K
              refine norm_ (a' := ?_) ?_ ?_
              rotate_left
              ·show Act.put _ (some 52) _ = _
               simp only [Act.put, la_, lz_, ls_, i64_w, i32_w]
               rfl
              refine pv_ (i := 20) (N := some 53) (on_ 23 3) rfl rfl HT_ ?_
              refine one_ (i := 23) (N := some 56) (on_ 24 2) rfl rfl (one_of HT_.out (by kernel_rfl)) (by decide) (fun K hK => ?_)
              refine goes_ Try.func86 (by kernel_rfl) rfl #[.int .i64 ((rd_T113 l0_2 x4_1).f4)] (by rfl) rfl rfl ar_ ?_
              with_reducible refine (spec_Var.calls k1 ((rd_T113 l0_2 x4_1).f4) t149 _ A27.out).mono ?_
              rintro e w39 ⟨rfl, hb⟩
              refine ⟨_, rfl, ?_⟩
              have n0_ := Aside0.mk (blk_below (g := gb138) (o := .cells #[.int .i64 a0_0, .int .i64 a0_1, .slice (some ad143) l0_2.length c0_2] 54 (0, 0)) (bk_ BK138) hb)
              have n1_ := Aside0.mk (blk_below (g := gb144) (o := .cells #[.string ((rd_T113 l0_2 x4_1).f0), .int .i64 ((rd_T113 l0_2 x4_1).f1), .int .i64 ((rd_T113 l0_2 x4_1).f2), .int .i64 ((rd_T113 l0_2 x4_1).f3), .int .i64 ((rd_T113 l0_2 x4_1).f4)] 113 (0, 0)) (bk_ BK144) hb)
              have n2_ := Aside0.mk (below_step (by repeat (first | (with_reducible first | exact HB.out | apply below_alloc | apply pw_below_drewN | apply below_drew1 | refine below_set ?_ GE138.out | refine below_set ?_ GE144.out) | exact HB.out)) hb)
              clear BK138
              clear BK144
              clear HB
              have BK138 := n0_
              have BK144 := n1_
              have HB := n2_
              clear n0_ n1_ n2_
              (try clear hb)
              (try clear hb2)
              (try clear hk)
              (try clear hi)
              refine hK.out _ _ ⟨(blk_cell BK144.out 0).trans rfl, (blk_cell BK144.out 1).trans rfl, (blk_cell BK144.out 2).trans rfl, (blk_cell BK144.out 3).trans rfl, (blk_cell BK144.out 4).trans rfl⟩ (fun hHeld => ?_)
              clear hK K
              refine norm_ (a' := ?_) ?_ ?_
              rotate_left
              ·show Act.put _ (some 56) _ = _
               simp only [Act.put, la_, lz_, ls_, i64_w, i32_w]
               rfl
              refine pv_ (i := 24) (N := some 57) (on_ 25 1) rfl rfl HT_ ?_
              refine pv_ (i := 25) (N := some 3) (on_ 26 0) rfl rfl HT_ ?_
              refine done_ (done_of HT_.out (by kernel_rfl)) ?_
              try go_wp2
              go_roundg k1
              case measure => have := HK1.out; first | exact this | exact Nat.le_of_succ_le this | exact Nat.le_refl _ | omega
              case rel => exact ⟨((((((x3_1 ++ t145) ++ ((rd_T113 l0_2 x4_1).f0)) ++ t146) ++ t147) ++ t148) ++ t149), (wrap64 (x4_1 + 1)), rs_, rs_, H', ⟨by have := HK1.out; first | exact this | exact Nat.le_of_succ_le this | exact Nat.le_refl _ | omega⟩, ⟨bk_ BK138⟩, ⟨by repeat (first | (with_reducible first | exact HB.out | apply below_alloc | apply pw_below_drewN | apply below_drew1 | refine below_set ?_ GE138.out | refine below_set ?_ GE144.out) | exact HB.out)⟩⟩
             ·rw [if_neg c28] at H
              exact absurd H (by simp)
            ·rw [if_neg c26] at H
             exact absurd H (by simp)
           ·rw [if_neg c24] at H
            exact absurd H (by simp)
          ·rw [if_neg c22] at H
           exact absurd H (by simp)
         ·rw [if_neg c20] at H
          exact absurd H (by simp)
        ·rw [if_neg c19] at H
         exact absurd H (by simp)
       ·rw [if_neg c17] at H
        exact absurd H (by simp)
      ·rw [if_neg c16] at H
       have c16b0 : decide (x4_1 < (l0_2.length : Int)) = false := decide_eq_false c16
       clear c16
       replace H := Option.bind_eq_some_iff.mp H
       obtain ⟨t150, A400, H⟩ := H
       replace H : ((spec_Fixed.f k1 t150 4).bind fun t151 => (if t151.size + x3_1.size ≤ 9223372036854775807 then (some (t151 ++ x3_1)) else (none))) = some r := H
       have A40 := Aside0.mk A400
       clear A400
       replace H := Option.bind_eq_some_iff.mp H
       obtain ⟨t151, A410, H⟩ := H
       replace H : (if t151.size + x3_1.size ≤ 9223372036854775807 then (some (t151 ++ x3_1)) else (none)) = some r := H
       have A41 := Aside0.mk A410
       clear A410
       by_cases c42 : t151.size + x3_1.size ≤ 9223372036854775807
       ·rw [if_pos c42] at H
        have c42b0 := eq_true c42
        have c42b1 : decide (t151.size + x3_1.size ≤ 9223372036854775807) = true := decide_eq_true c42
        try have c42b2 : (9223372036854775807 < t151.size + x3_1.size) = False := eq_false (Nat.not_lt.2 c42)
        (try (have c42b3 := c42b2; simp only [ByteArray.size_append] at c42b3))
        obtain rfl := Option.some.inj H
        have hcz43_0 : wr.cell? ⟨gb138, 0, none⟩ = some (.int .i64 a0_0) := (blk_cell BK138.out 0).trans rfl
        have hcz43_1 : wr.cell? ⟨gb138, 1, none⟩ = some (.int .i64 a0_1) := (blk_cell BK138.out 1).trans rfl
        have hcz43_2 : wr.cell? ⟨gb138, 2, none⟩ = some (.slice A0_2 l0_2.length c0_2) := (blk_cell BK138.out 2).trans rfl
        have hfz43_0 := blk_frozen BK138.out 0
        have hfz43_1 := blk_frozen BK138.out 1
        have hfz43_2 := blk_frozen BK138.out 2
        go_wp2_with (first | ((with_reducible refine gate_callee (f := 81) rfl ?_); refine goesL_ (some 59) rfl rfl Try.func81 (by kernel_rfl) rfl #[.string x3_1] rfl ar_ ?_; (with_reducible refine (spec_Crc.calls k1 x3_1 t150 _ A40.out).mono ?_); rintro e w' ⟨rfl, ⟨nd, rfl⟩⟩; refine ⟨_, rfl, ?_⟩) | ((with_reducible refine gate_callee (f := 87) rfl ?_); refine goesL_ (some 60) rfl rfl Try.func87 (by kernel_rfl) rfl #[.int .i64 t150, .int .i64 4] rfl ar_ ?_; (with_reducible refine (spec_Fixed.calls k1 t150 4 t151 _ A41.out).mono ?_); rintro e w44 ⟨rfl, hb⟩; refine ⟨_, rfl, ?_⟩; have n0_ := Aside0.mk (blk_below (g := gb138) (o := .cells #[.int .i64 a0_0, .int .i64 a0_1, .slice A0_2 l0_2.length c0_2] 54 (0, 0)) (bk_ BK138) hb); have n1_ := Aside0.mk (below_step (hs_ HB GE138) hb); clear BK138; clear HB; have BK138 := n0_; have HB := n1_; clear n0_ n1_; (try clear hb); (try clear hb2); (try clear hk); (try clear hi)))
        go_ret
        exact ⟨re_, hs_ HB GE138⟩
       ·rw [if_neg c42] at H
        exact absurd H (by simp)
   ·rw [if_neg c8] at H
    exact absurd H (by simp)
  ·rw [if_neg c6] at H
   exact absurd H (by simp)
 ·replace c3 := Bool.eq_false_iff.mpr c3
  subst c3
  have H1 : (some (⟨#[]⟩ : ByteArray)) = some r := by rw [if_neg (show ¬ (false = true) by decide)] at H; exact H
  clear H
  have H := H1
  clear H1
  obtain rfl := Option.some.inj H
  go_enter Try.func29, Try.ntmps29
  go_wp2_with (first | ((with_reducible refine gate_dst (N := 1) rfl ?_); refine box_event ?hg (N := 1) ?hd (cs := #[.int .i64 a0_0, .int .i64 a0_1, .slice A0_2 l0_2.length c0_2]) (t := 54) ?hr ?_; (case hd => rfl); (case hg => rfl); (case hr => first | (go_simp; done) | (go_simp; rfl)); intro gb138 hg w45 hbox hb; have n0_ := Aside0.mk (below_step (hb_ HB) hb); have n1_ := Aside0.mk (hbox); have n2_ := Aside0.mk ((by rw [hg]; exact (below_size (hb_ HB)) : w.heap.size ≤ gb138)); have n3_ := Aside0.mk ((by rw [hg]; exact (below_size (hb_ HB)) : w.heap.size ≤ gb138)); clear HB; have HB := n0_; have BK138 := n1_; have GW138 := n2_; have GE138 := n3_; clear n0_ n1_ n2_ n3_; clear hb hbox hg; have hcz46_0 : w45.cell? ⟨gb138, 0, none⟩ = some (.int .i64 a0_0) := (blk_cell BK138.out 0).trans rfl; have hcz46_1 : w45.cell? ⟨gb138, 1, none⟩ = some (.int .i64 a0_1) := (blk_cell BK138.out 1).trans rfl; have hcz46_2 : w45.cell? ⟨gb138, 2, none⟩ = some (.slice A0_2 l0_2.length c0_2) := (blk_cell BK138.out 2).trans rfl; have hfz46_0 := blk_frozen BK138.out 0; have hfz46_1 := blk_frozen BK138.out 1; have hfz46_2 := blk_frozen BK138.out 2) | ((with_reducible refine gate_callee (f := 85) rfl ?_); refine goesL_ (some 7) rfl rfl Try.func85 (by kernel_rfl) rfl #[.agg #[.int .i64 a0_0, .int .i64 a0_1, .slice A0_2 l0_2.length c0_2]] rfl ar_ ?_; (with_reducible refine (spec_l10Ok.calls k a0_0 a0_1 _ _ l0_2 false _ ?side1 ?side2 A2.out).mono ?_); (case side1 => repeat (first | exact (Kd.C_below HR0_2.out HB.out) | (with_reducible refine Kd.C_alloc ?_ _) | (with_reducible refine Kd.C_drewN ?_ _) | (with_reducible refine Kd.C_drew ?_))); (case side2 => exact HC0_2.out); rintro e w47 ⟨rfl, hb⟩; refine ⟨_, rfl, ?_⟩; have n0_ := Aside0.mk (blk_below (g := gb138) (o := .cells #[.int .i64 a0_0, .int .i64 a0_1, .slice A0_2 l0_2.length c0_2] 54 (0, 0)) (bk_ BK138) hb); have n1_ := Aside0.mk (below_step (hs_ HB GE138) hb); clear BK138; clear HB; have BK138 := n0_; have HB := n1_; clear n0_ n1_; (try clear hb); (try clear hb2); (try clear hk); (try clear hi)))
  go_ret
  exact ⟨re_, hs_ HB GE138⟩

end Go.Proofs.Ytebeafcdabkkfaa.PFnExactReadHint
