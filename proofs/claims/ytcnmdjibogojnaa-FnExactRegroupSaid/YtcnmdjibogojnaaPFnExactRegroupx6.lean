-- Laid by a program of this session, a copy of the kit's printer with additions (wip/patch_print.py): myhead. Lean checks it.
import Derived.Test.YtcnmdjibogojnaaPFnExactRegroupx0
import Derived.Test.YtcnmdjibogojnaaPFnExactRegroupx4
import Derived.Test.YtcnmdjibogojnaaPFnExactRegroupx5
namespace Go.Proofs.Ytcnmdjibogojnaa.PFnExactRegroup
open Go.RowKit Go.Proofs.YtcnmdjibogojnaaW.PrintWords Go.Proofs.YtcnmdjibogojnaaW.PrintLast Go.Proofs.YtcnmdjibogojnaaW.PrintMore
attribute [local go_sem] max2_int min2_int max_two min_two max_three min_three max_four min_four   -- for this text's walks alone
set_option linter.unusedVariables false
set_option linter.unusedSimpArgs false

/-! ### spec_ShowRec: function 45 -/
def spec_ShowRec.j0 : Nat → ByteArray → Int → Bool → Int → Int → ByteArray → ByteArray → Int → Int → Option (ByteArray)
 | 0, _, _, _, _, _, _, _, _, _ => none
 | k + 1, x3, x15, x16, x147000, x147001, x147002, x147003, x147004, x147005 => if x16 = true then ((spec_Var.f k (x147002.size : Int)).bind fun t150 => (if x3.size + t150.size ≤ 9223372036854775807 then (if (x3 ++ t150).size + x147002.size ≤ 9223372036854775807 then ((spec_Var.f k (x147003.size : Int)).bind fun t151 => (if ((x3 ++ t150) ++ x147002).size + t151.size ≤ 9223372036854775807 then (if (((x3 ++ t150) ++ x147002) ++ t151).size + x147003.size ≤ 9223372036854775807 then (some ((((x3 ++ t150) ++ x147002) ++ t151) ++ x147003)) else (none)) else (none))) else (none)) else (none))) else (if x15 = 2 then ((spec_Var.f k (x147002.size : Int)).bind fun t152 => (if x3.size + t152.size ≤ 9223372036854775807 then (if (x3 ++ t152).size + x147002.size ≤ 9223372036854775807 then (some ((x3 ++ t152) ++ x147002)) else (none)) else (none))) else ((spec_Var.f k x147004).bind fun t153 => (if x3.size + t153.size ≤ 9223372036854775807 then ((spec_Fixed.f k x147005 4).bind fun t154 => (if (x3 ++ t153).size + t154.size ≤ 9223372036854775807 then (some ((x3 ++ t153) ++ t154)) else (none))) else (none))))
def spec_ShowRec.f (k : Nat) (a0_0 : Int) (a0_1 : Int) (a0_2 : ByteArray) (a0_3 : ByteArray) (a0_4 : Int) (a0_5 : Int) : Option (ByteArray) := (spec_RecOk.f k a0_0 a0_1 a0_2 a0_3 a0_4 a0_5).bind fun t147 => (if t147 = true then ((spec_Var.f k a0_0).bind fun t148 => ((spec_Var.f k a0_1).bind fun t149 => (if t148.size + t149.size ≤ 9223372036854775807 then (if a0_0 = 1 then (spec_ShowRec.j0 k (t148 ++ t149) a0_0 (a0_0 == 1) a0_0 a0_1 a0_2 a0_3 a0_4 a0_5) else (spec_ShowRec.j0 k (t148 ++ t149) a0_0 (a0_0 == 4) a0_0 a0_1 a0_2 a0_3 a0_4 a0_5)) else (none)))) else (some (⟨#[]⟩ : ByteArray)))
def spec_ShowRec.T3 : Bool × List (List Nat × List Nat) := (true, [([], []), ([0], [0]), ([1], [1]), ([], []), ([3], [3]), ([4, 2], [4]), ([2, 5], [2, 5]), ([6, 5, 0, 1, 2, 3, 4, 5, 6], [6])])
def spec_ShowRec.B3 : List Nat := [0, 1, 3, 0, 8, 31, 63, 127]
theorem spec_ShowRec.tab3 : rtab .any (opsOf Try.f45 3) = spec_ShowRec.T3 := by kernel_rfl
theorem spec_ShowRec.bits3 : waitsOk spec_ShowRec.T3.2 spec_ShowRec.B3 = true := by kernel_rfl
def spec_ShowRec.T7 : Bool × List (List Nat × List Nat) := (true, [([], []), ([], []), ([1], [1]), ([2], [2]), ([3], [3]), ([0, 4], [0, 4]), ([], []), ([6], [6]), ([5, 7], [5, 7]), ([], []), ([9], [9]), ([10], [10]), ([11, 4], [11]), ([8, 12], [8, 12]), ([], []), ([14], [14]), ([13, 15], [13, 15]), ([16, 12, 0, 1, 2, 3, 4, 5, 6, 7, 8, 9, 10, 11, 12, 13, 14, 15, 16], [16])])
def spec_ShowRec.B7 : List Nat := [0, 0, 2, 6, 14, 31, 0, 64, 255, 0, 512, 1536, 3614, 8191, 0, 16384, 65535, 131071]
theorem spec_ShowRec.tab7 : rtab .any (opsOf Try.f45 7) = spec_ShowRec.T7 := by kernel_rfl
theorem spec_ShowRec.bits7 : waitsOk spec_ShowRec.T7.2 spec_ShowRec.B7 = true := by kernel_rfl
def spec_ShowRec.T9 : Bool × List (List Nat × List Nat) := (true, [([], []), ([], []), ([1], [1]), ([2], [2]), ([3], [3]), ([0, 4], [0, 4]), ([], []), ([6], [6]), ([5, 7], [5, 7]), ([8, 4, 0, 1, 2, 3, 4, 5, 6, 7, 8], [8])])
def spec_ShowRec.B9 : List Nat := [0, 0, 2, 6, 14, 31, 0, 64, 255, 511]
theorem spec_ShowRec.tab9 : rtab .any (opsOf Try.f45 9) = spec_ShowRec.T9 := by kernel_rfl
theorem spec_ShowRec.bits9 : waitsOk spec_ShowRec.T9.2 spec_ShowRec.B9 = true := by kernel_rfl
def spec_ShowRec.T10 : Bool × List (List Nat × List Nat) := (true, [([], []), ([], []), ([1], [1]), ([2], [2]), ([0, 3], [0, 3]), ([], []), ([5], [5]), ([6, 3], [6]), ([4, 7], [4, 7]), ([8, 7, 0, 1, 2, 3, 4, 5, 6, 7, 8], [8])])
def spec_ShowRec.B10 : List Nat := [0, 0, 2, 6, 15, 0, 32, 110, 255, 511]
theorem spec_ShowRec.tab10 : rtab .any (opsOf Try.f45 10) = spec_ShowRec.T10 := by kernel_rfl
theorem spec_ShowRec.bits10 : waitsOk spec_ShowRec.T10.2 spec_ShowRec.B10 = true := by kernel_rfl
set_option maxHeartbeats 80000000 in
set_option maxRecDepth 100000 in
theorem spec_ShowRec.calls (k : Nat) (a0_0 : Int) (a0_1 : Int) (a0_2 : ByteArray) (a0_3 : ByteArray) (a0_4 : Int) (a0_5 : Int) (r : ByteArray) (w : World) (h : spec_ShowRec.f k a0_0 a0_1 a0_2 a0_3 a0_4 a0_5 = some r) :
  Calls Try.prog 45 #[.agg #[.int .i64 a0_0, .int .i64 a0_1, .string a0_2, .string a0_3, .int .i64 a0_4, .int .i64 a0_5]] w fun e w' => e = .returned (.string r) ∧ Below w.heap.size w w' := by
 have hu46 := Try.underlying46
 have HB := Aside0.mk (Below.refl w.heap.size w)
 unfold spec_ShowRec.f at h; have H := h
 clear h
 replace H := Option.bind_eq_some_iff.mp H
 obtain ⟨t147, A20, H⟩ := H
 have A2 := Aside0.mk A20
 clear A20
 by_cases c3 : t147 = true
 ·subst c3
  rw [if_pos rfl] at H
  replace H := Option.bind_eq_some_iff.mp H
  obtain ⟨t148, A40, H⟩ := H
  have A4 := Aside0.mk A40
  clear A40
  replace H := Option.bind_eq_some_iff.mp H
  obtain ⟨t149, A50, H⟩ := H
  have A5 := Aside0.mk A50
  clear A50
  by_cases c6 : t148.size + t149.size ≤ 9223372036854775807
  ·rw [if_pos c6] at H
   have c6b0 := eq_true c6
   have c6b1 : decide (t148.size + t149.size ≤ 9223372036854775807) = true := decide_eq_true c6
   try have c6b2 : (9223372036854775807 < t148.size + t149.size) = False := eq_false (Nat.not_lt.2 c6)
   (try (have c6b3 := c6b2; simp only [ByteArray.size_append] at c6b3))
   have HC7 := Aside0.mk H
   clear H
   go_enter Try.func45, Try.ntmps45
   try go_wp2_with (first | ((with_reducible refine gate_dst (N := 1) rfl ?_); refine box_event ?hg (N := 1) ?hd (cs := #[.int .i64 a0_0, .int .i64 a0_1, .string a0_2, .string a0_3, .int .i64 a0_4, .int .i64 a0_5]) (t := 46) ?hr ?_; (case hd => rfl); (case hg => rfl); (case hr => first | (go_simp; done) | (go_simp; rfl)); intro gb146 hg w8 hbox hb; have BK146 := Aside0.mk (hbox); have GE146 := ge_ hg (hb_ HB); replace HB := bs_ HB hb; clear hb hbox hg; obtain ⟨hcz9_0, hcz9_1, hcz9_2, hcz9_3, hcz9_4, hcz9_5, hfz9_0, hfz9_1, hfz9_2, hfz9_3, hfz9_4, hfz9_5⟩ := bc6_ BK146) | ((with_reducible refine gate_callee (f := 49) rfl ?_); refine goesL_ (some 5) rfl rfl Try.func49 (by kernel_rfl) rfl #[.agg #[.int .i64 a0_0, .int .i64 a0_1, .string a0_2, .string a0_3, .int .i64 a0_4, .int .i64 a0_5]] rfl ar_ ?_; (with_reducible refine (spec_RecOk.calls k a0_0 a0_1 a0_2 a0_3 a0_4 a0_5 true _ A2.out).mono ?_); rintro e w10 ⟨rfl, hb⟩; refine ⟨_, rfl, ?_⟩; replace BK146 := bb_ BK146 hb; replace HB := bt_ HB GE146 hb; (try clear hb); (try clear hb2); (try clear hk); (try clear hi)))
   replace BK146 := bd_ BK146
   replace HB := hd_ HB
   refine start_ (n := 8) (S := k6e_ gb146 (.int .i64 a0_0) (.int .i64 a0_1) (.string a0_2) (.string a0_3) (.int .i64 a0_4) (.int .i64 a0_5)) (ds := []) (on_ 0 8) (by kernel_rfl) rfl rfl (p6e_ BK146) (fun hHeld => ?_); refine with_tabW spec_ShowRec.tab3 spec_ShowRec.bits3 (fun HT_ HW_ => ?_)
   generalize w10.drew = w11 at BK146 HB hHeld ⊢
   refine pv_' 0 7 (on_ 1 7) rfl rfl HT_ ?_
   refine pv_' 3 10 #[i',o',o',i',o',o',o',o'] rfl rfl HT_ ?_
   refine take_ (i := 1) (N := some 8) (v := ?_) (a' := ?_) #[i',i',o',i',o',o',o',o'] rfl rfl (take_ofW HT_.out HW_.out (by kernel_rfl)) (fun _ _ _ h => h) (Or.inl ⟨by rfl, ?_⟩) hHeld ?_ ?_
   rotate_left
   ·rintro w' ⟨s0, s1, s2, s3, s4, s5⟩
    go_simp
    with_reducible rfl
   rotate_left
   ·simp only [Act.put, la_, lz_, ls_, i64_w, i32_w]
    rfl
   refine take_ (i := 4) (N := some 11) (v := ?_) (a' := ?_) #[i',i',o',i',i',o',o',o'] rfl rfl (take_ofW HT_.out HW_.out (by kernel_rfl)) (fun _ _ _ h => h) (Or.inl ⟨by rfl, ?_⟩) hHeld ?_ ?_
   rotate_left
   ·rintro w' ⟨s0, s1, s2, s3, s4, s5⟩
    go_simp
    with_reducible rfl
   rotate_left
   ·simp only [Act.put, la_, lz_, ls_, i64_w, i32_w]
    rfl
   refine one_ (i := 2) (N := some 9) (on_ 5 3) rfl rfl (one_of HT_.out (by kernel_rfl)) (by decide) (fun K hK => ?_)
   refine goes_ Try.func50 (by kernel_rfl) rfl #[.int .i64 a0_0] (by rfl) rfl rfl ar_ ?_
   with_reducible refine (spec_Var.calls k a0_0 t148 _ A4.out).mono ?_
   rintro e w12 ⟨rfl, hb⟩
   refine ⟨_, rfl, ?_⟩
   replace BK146 := bb_ BK146 hb
   replace HB := bt_ HB GE146 hb
   (try clear hb)
   (try clear hb2)
   (try clear hk)
   (try clear hi)
   refine hK.out _ _ (p6e_ BK146) (fun hHeld => ?_)
   clear hK K
   refine norm_ (a' := ?_) ?_ ?_
   rotate_left
   ·show Act.put _ (some 9) _ = _
    simp only [Act.put, la_, lz_, ls_, i64_w, i32_w]
    rfl
   refine one_ (i := 5) (N := some 12) (on_ 6 2) rfl rfl (one_of HT_.out (by kernel_rfl)) (by decide) (fun K hK => ?_)
   refine goes_ Try.func50 (by kernel_rfl) rfl #[.int .i64 a0_1] (by rfl) rfl rfl ar_ ?_
   with_reducible refine (spec_Var.calls k a0_1 t149 _ A5.out).mono ?_
   rintro e w13 ⟨rfl, hb⟩
   refine ⟨_, rfl, ?_⟩
   replace BK146 := bb_ BK146 hb
   replace HB := bt_ HB GE146 hb
   (try clear hb)
   (try clear hb2)
   (try clear hk)
   (try clear hi)
   refine hK.out _ _ (p6e_ BK146) (fun hHeld => ?_)
   clear hK K
   refine norm_ (a' := ?_) ?_ ?_
   rotate_left
   ·show Act.put _ (some 12) _ = _
    simp only [Act.put, la_, lz_, ls_, i64_w, i32_w]
    rfl
   refine pv_' 6 13 (on_ 7 1) rfl rfl HT_ ?_
   refine pv_' 7 3 (on_ 8 0) rfl rfl HT_ ?_
   refine done_ (done_of HT_.out (by kernel_rfl)) ?_
   obtain ⟨hcz14_0, hcz14_1, hcz14_2, hcz14_3, hcz14_4, hcz14_5, hfz14_0, hfz14_1, hfz14_2, hfz14_3, hfz14_4, hfz14_5⟩ := bc6_ BK146
   go_upto_if 16 with (fail)
   go_cut [16] (fun v16 wc => ∃ (kq : Nat) (x16_6 : Bool), v16 = .bool x16_6 ∧ Aside0 (spec_ShowRec.j0 kq (t148 ++ t149) a0_0 x16_6 a0_0 a0_1 a0_2 a0_3 a0_4 a0_5 = some r) ∧ Aside0 (kq ≤ k) ∧ Aside0 (wc.heap[gb146]? = some (.cells #[.int .i64 a0_0, .int .i64 a0_1, .string a0_2, .string a0_3, .int .i64 a0_4, .int .i64 a0_5] 46 (0, 0))) ∧ Aside0 (Below w.heap.size w wc))
   case first =>
    have H := HC7.out
    clear HC7
    by_cases c15 : a0_0 = 1
    ·rw [if_pos c15] at H
     have c15b0 : (a0_0 == 1) = true := beq_iff_eq.mpr c15
     have c15b1 : (a0_0 != 1) = false := bne_eq_false_iff_eq.mpr c15
     clear c15
     (first | rw [c15b0] | (simp only [i64_w, i32_w]; rw [c15b0]) | skip)
     have H' := Aside0.mk H
     clear H
     go_wp2
     go_meet
     case rel => exact ⟨_, ((a0_0 == 1)), rs_, H', ⟨by first | exact Nat.le_refl _ | exact Nat.le_of_succ_le this | omega⟩, ⟨bk_ BK146⟩, ⟨hs_ HB GE146⟩⟩
    ·rw [if_neg c15] at H
     have c15b0 : (a0_0 == 1) = false := beq_eq_false_iff_ne.mpr c15
     have c15b1 : (a0_0 != 1) = true := bne_iff_ne.mpr c15
     (first | rw [c15b0] | (simp only [i64_w, i32_w]; rw [c15b0]) | skip)
     have H' := Aside0.mk H
     clear H
     go_wp2
     go_meet
     case rel => exact ⟨_, ((a0_0 == 4)), rs_, H', ⟨by first | exact Nat.le_refl _ | exact Nat.le_of_succ_le this | omega⟩, ⟨bk_ BK146⟩, ⟨hs_ HB GE146⟩⟩
   case rest =>
    clear HC7
    (try clear c3);(try clear c6);(try clear c6b0);(try clear c6b1);(try clear c6b2);(try clear c15);(try clear c15b0);(try clear c15b1);(try clear hcz14_0 hcz14_1 hcz14_2 hcz14_3 hcz14_4 hcz14_5 hfz14_0 hfz14_1 hfz14_2 hfz14_3 hfz14_4 hfz14_5);(try clear hcz9_0 hcz9_1 hcz9_2 hcz9_3 hcz9_4 hcz9_5 hfz9_0 hfz9_1 hfz9_2 hfz9_3 hfz9_4 hfz9_5)
    obtain ⟨kq, x16_6, rfl, HA, HJ6, BK146, HB⟩ := hcut
    cases kq with
    | zero => exact absurd HA.out (by simp [spec_ShowRec.j0])
    | succ kj6 =>
     have H := HA.out
     clear HA
     simp only [spec_ShowRec.j0] at H
     by_cases c16 : x16_6 = true
     ·subst c16
      rw [if_pos rfl] at H
      replace H := Option.bind_eq_some_iff.mp H
      obtain ⟨t150, A170, H⟩ := H
      have A17 := Aside0.mk A170
      clear A170
      by_cases c18 : (t148 ++ t149).size + t150.size ≤ 9223372036854775807
      ·rw [if_pos c18] at H
       have c18b0 := eq_true c18
       have c18b1 : decide ((t148 ++ t149).size + t150.size ≤ 9223372036854775807) = true := decide_eq_true c18
       try have c18b2 : (9223372036854775807 < (t148 ++ t149).size + t150.size) = False := eq_false (Nat.not_lt.2 c18)
       (try (have c18b3 := c18b2; simp only [ByteArray.size_append] at c18b3))
       by_cases c19 : ((t148 ++ t149) ++ t150).size + a0_2.size ≤ 9223372036854775807
       ·rw [if_pos c19] at H
        have c19b0 := eq_true c19
        have c19b1 : decide (((t148 ++ t149) ++ t150).size + a0_2.size ≤ 9223372036854775807) = true := decide_eq_true c19
        try have c19b2 : (9223372036854775807 < ((t148 ++ t149) ++ t150).size + a0_2.size) = False := eq_false (Nat.not_lt.2 c19)
        (try (have c19b3 := c19b2; simp only [ByteArray.size_append] at c19b3))
        replace H := Option.bind_eq_some_iff.mp H
        obtain ⟨t151, A200, H⟩ := H
        have A20 := Aside0.mk A200
        clear A200
        by_cases c21 : (((t148 ++ t149) ++ t150) ++ a0_2).size + t151.size ≤ 9223372036854775807
        ·rw [if_pos c21] at H
         have c21b0 := eq_true c21
         have c21b1 : decide ((((t148 ++ t149) ++ t150) ++ a0_2).size + t151.size ≤ 9223372036854775807) = true := decide_eq_true c21
         try have c21b2 : (9223372036854775807 < (((t148 ++ t149) ++ t150) ++ a0_2).size + t151.size) = False := eq_false (Nat.not_lt.2 c21)
         (try (have c21b3 := c21b2; simp only [ByteArray.size_append] at c21b3))
         by_cases c22 : ((((t148 ++ t149) ++ t150) ++ a0_2) ++ t151).size + a0_3.size ≤ 9223372036854775807
         ·rw [if_pos c22] at H
          have c22b0 := eq_true c22
          have c22b1 : decide (((((t148 ++ t149) ++ t150) ++ a0_2) ++ t151).size + a0_3.size ≤ 9223372036854775807) = true := decide_eq_true c22
          try have c22b2 : (9223372036854775807 < ((((t148 ++ t149) ++ t150) ++ a0_2) ++ t151).size + a0_3.size) = False := eq_false (Nat.not_lt.2 c22)
          (try (have c22b3 := c22b2; simp only [ByteArray.size_append] at c22b3))
          obtain rfl := Option.some.inj H
          try go_wp2
          replace BK146 := bd_ BK146
          replace HB := hd_ HB
          refine start_ (n := 18) (S := k6e_ gb146 (.int .i64 a0_0) (.int .i64 a0_1) (.string a0_2) (.string a0_3) (.int .i64 a0_4) (.int .i64 a0_5)) (ds := []) (on_ 0 18) (by kernel_rfl) rfl rfl (p6e_ BK146) (fun hHeld => ?_); refine with_tabW spec_ShowRec.tab7 spec_ShowRec.bits7 (fun HT_ HW_ => ?_)
          generalize wc.drew = w23 at BK146 HB hHeld ⊢
          refine pv_' 0 19 (on_ 1 17) rfl rfl HT_ ?_
          refine pv_' 1 20 (on_ 2 16) rfl rfl HT_ ?_
          refine pv_' 6 25 #[i',i',o',o',o',o',i',o',o',o',o',o',o',o',o',o',o',o'] rfl rfl HT_ ?_
          refine pv_' 9 28 #[i',i',o',o',o',o',i',o',o',i',o',o',o',o',o',o',o',o'] rfl rfl HT_ ?_
          refine pv_' 14 33 #[i',i',o',o',o',o',i',o',o',i',o',o',o',o',i',o',o',o'] rfl rfl HT_ ?_
          refine take_ (i := 2) (N := some 21) (v := ?_) (a' := ?_) #[i',i',i',o',o',o',i',o',o',i',o',o',o',o',i',o',o',o'] rfl rfl (take_ofW HT_.out HW_.out (by kernel_rfl)) (fun _ _ _ h => h) (Or.inl ⟨by rfl, ?_⟩) hHeld ?_ ?_
          rotate_left
          ·rintro w' ⟨s0, s1, s2, s3, s4, s5⟩
           go_simp
           with_reducible rfl
          rotate_left
          ·simp only [Act.put, la_, lz_, ls_, i64_w, i32_w]
           rfl
          refine pv_' 3 22 #[i',i',i',i',o',o',i',o',o',i',o',o',o',o',i',o',o',o'] rfl rfl HT_ ?_
          refine take_ (i := 7) (N := some 26) (v := ?_) (a' := ?_) #[i',i',i',i',o',o',i',i',o',i',o',o',o',o',i',o',o',o'] rfl rfl (take_ofW HT_.out HW_.out (by kernel_rfl)) (fun _ _ _ h => h) (Or.inl ⟨by rfl, ?_⟩) hHeld ?_ ?_
          rotate_left
          ·rintro w' ⟨s0, s1, s2, s3, s4, s5⟩
           go_simp
           with_reducible rfl
          rotate_left
          ·simp only [Act.put, la_, lz_, ls_, i64_w, i32_w]
           rfl
          refine take_ (i := 10) (N := some 29) (v := ?_) (a' := ?_) #[i',i',i',i',o',o',i',i',o',i',i',o',o',o',i',o',o',o'] rfl rfl (take_ofW HT_.out HW_.out (by kernel_rfl)) (fun _ _ _ h => h) (Or.inl ⟨by rfl, ?_⟩) hHeld ?_ ?_
          rotate_left
          ·rintro w' ⟨s0, s1, s2, s3, s4, s5⟩
           go_simp
           with_reducible rfl
          rotate_left
          ·simp only [Act.put, la_, lz_, ls_, i64_w, i32_w]
           rfl
          refine pv_' 11 30 #[i',i',i',i',o',o',i',i',o',i',i',i',o',o',i',o',o',o'] rfl rfl HT_ ?_
          refine take_ (i := 15) (N := some 34) (v := ?_) (a' := ?_) #[i',i',i',i',o',o',i',i',o',i',i',i',o',o',i',i',o',o'] rfl rfl (take_ofW HT_.out HW_.out (by kernel_rfl)) (fun _ _ _ h => h) (Or.inl ⟨by rfl, ?_⟩) hHeld ?_ ?_
          rotate_left
          ·rintro w' ⟨s0, s1, s2, s3, s4, s5⟩
           go_simp
           with_reducible rfl
          rotate_left
          ·simp only [Act.put, la_, lz_, ls_, i64_w, i32_w]
           rfl
          refine one_ (i := 4) (N := some 23) #[i',i',i',i',i',o',i',i',o',i',i',i',o',o',i',i',o',o'] rfl rfl (one_of HT_.out (by kernel_rfl)) (by decide) (fun K hK => ?_)
          refine goes_ Try.func50 (by kernel_rfl) rfl #[.int .i64 (a0_2.size : Int)] (by rfl) rfl rfl ar_ ?_
          with_reducible refine (spec_Var.calls kj6 (a0_2.size : Int) t150 _ A17.out).mono ?_
          rintro e w24 ⟨rfl, hb⟩
          refine ⟨_, rfl, ?_⟩
          replace BK146 := bb_ BK146 hb
          replace HB := bt_ HB GE146 hb
          (try clear hb)
          (try clear hb2)
          (try clear hk)
          (try clear hi)
          refine hK.out _ _ (p6e_ BK146) (fun hHeld => ?_)
          clear hK K
          refine norm_ (a' := ?_) ?_ ?_
          rotate_left
          ·show Act.put _ (some 23) _ = _
           simp only [Act.put, la_, lz_, ls_, i64_w, i32_w]
           rfl
          refine pv_' 5 24 #[i',i',i',i',i',i',i',i',o',i',i',i',o',o',i',i',o',o'] rfl rfl HT_ ?_
          refine pv_' 8 27 #[i',i',i',i',i',i',i',i',i',i',i',i',o',o',i',i',o',o'] rfl rfl HT_ ?_
          refine one_ (i := 12) (N := some 31) #[i',i',i',i',i',i',i',i',i',i',i',i',i',o',i',i',o',o'] rfl rfl (one_of HT_.out (by kernel_rfl)) (by decide) (fun K hK => ?_)
          refine goes_ Try.func50 (by kernel_rfl) rfl #[.int .i64 (a0_3.size : Int)] (by rfl) rfl rfl ar_ ?_
          with_reducible refine (spec_Var.calls kj6 (a0_3.size : Int) t151 _ A20.out).mono ?_
          rintro e w25 ⟨rfl, hb⟩
          refine ⟨_, rfl, ?_⟩
          replace BK146 := bb_ BK146 hb
          replace HB := bt_ HB GE146 hb
          (try clear hb)
          (try clear hb2)
          (try clear hk)
          (try clear hi)
          refine hK.out _ _ (p6e_ BK146) (fun hHeld => ?_)
          clear hK K
          refine norm_ (a' := ?_) ?_ ?_
          rotate_left
          ·show Act.put _ (some 31) _ = _
           simp only [Act.put, la_, lz_, ls_, i64_w, i32_w]
           rfl
          refine pv_' 13 32 (on_ 16 2) rfl rfl HT_ ?_
          refine pv_' 16 35 (on_ 17 1) rfl rfl HT_ ?_
          refine pv_' 17 2 (on_ 18 0) rfl rfl HT_ ?_
          refine done_ (done_of HT_.out (by kernel_rfl)) ?_
          try go_wp2
          go_ret
          exact ⟨re_, hs_ HB GE146⟩
         ·rw [if_neg c22] at H
          exact absurd H (by simp)
        ·rw [if_neg c21] at H
         exact absurd H (by simp)
       ·rw [if_neg c19] at H
        exact absurd H (by simp)
      ·rw [if_neg c18] at H
       exact absurd H (by simp)
     ·replace c16 := Bool.eq_false_iff.mpr c16
      subst c16
      rw [if_neg ff_] at H
      by_cases c26 : a0_0 = 2
      ·rw [if_pos c26] at H
       have c26b0 : (a0_0 == 2) = true := beq_iff_eq.mpr c26
       have c26b1 : (a0_0 != 2) = false := bne_eq_false_iff_eq.mpr c26
       clear c26
       replace H := Option.bind_eq_some_iff.mp H
       obtain ⟨t152, A270, H⟩ := H
       have A27 := Aside0.mk A270
       clear A270
       by_cases c28 : (t148 ++ t149).size + t152.size ≤ 9223372036854775807
       ·rw [if_pos c28] at H
        have c28b0 := eq_true c28
        have c28b1 : decide ((t148 ++ t149).size + t152.size ≤ 9223372036854775807) = true := decide_eq_true c28
        try have c28b2 : (9223372036854775807 < (t148 ++ t149).size + t152.size) = False := eq_false (Nat.not_lt.2 c28)
        (try (have c28b3 := c28b2; simp only [ByteArray.size_append] at c28b3))
        by_cases c29 : ((t148 ++ t149) ++ t152).size + a0_2.size ≤ 9223372036854775807
        ·rw [if_pos c29] at H
         have c29b0 := eq_true c29
         have c29b1 : decide (((t148 ++ t149) ++ t152).size + a0_2.size ≤ 9223372036854775807) = true := decide_eq_true c29
         try have c29b2 : (9223372036854775807 < ((t148 ++ t149) ++ t152).size + a0_2.size) = False := eq_false (Nat.not_lt.2 c29)
         (try (have c29b3 := c29b2; simp only [ByteArray.size_append] at c29b3))
         obtain rfl := Option.some.inj H
         try go_wp2
         replace BK146 := bd_ BK146
         replace HB := hd_ HB
         refine start_ (n := 10) (S := k6e_ gb146 (.int .i64 a0_0) (.int .i64 a0_1) (.string a0_2) (.string a0_3) (.int .i64 a0_4) (.int .i64 a0_5)) (ds := []) (on_ 0 10) (by kernel_rfl) rfl rfl (p6e_ BK146) (fun hHeld => ?_); refine with_tabW spec_ShowRec.tab9 spec_ShowRec.bits9 (fun HT_ HW_ => ?_)
         generalize wc.drew = w30 at BK146 HB hHeld ⊢
         refine pv_' 0 38 (on_ 1 9) rfl rfl HT_ ?_
         refine pv_' 1 39 (on_ 2 8) rfl rfl HT_ ?_
         refine pv_' 6 44 #[i',i',o',o',o',o',i',o',o',o'] rfl rfl HT_ ?_
         refine take_ (i := 2) (N := some 40) (v := ?_) (a' := ?_) #[i',i',i',o',o',o',i',o',o',o'] rfl rfl (take_ofW HT_.out HW_.out (by kernel_rfl)) (fun _ _ _ h => h) (Or.inl ⟨by rfl, ?_⟩) hHeld ?_ ?_
         rotate_left
         ·rintro w' ⟨s0, s1, s2, s3, s4, s5⟩
          go_simp
          with_reducible rfl
         rotate_left
         ·simp only [Act.put, la_, lz_, ls_, i64_w, i32_w]
          rfl
         refine pv_' 3 41 #[i',i',i',i',o',o',i',o',o',o'] rfl rfl HT_ ?_
         refine take_ (i := 7) (N := some 45) (v := ?_) (a' := ?_) #[i',i',i',i',o',o',i',i',o',o'] rfl rfl (take_ofW HT_.out HW_.out (by kernel_rfl)) (fun _ _ _ h => h) (Or.inl ⟨by rfl, ?_⟩) hHeld ?_ ?_
         rotate_left
         ·rintro w' ⟨s0, s1, s2, s3, s4, s5⟩
          go_simp
          with_reducible rfl
         rotate_left
         ·simp only [Act.put, la_, lz_, ls_, i64_w, i32_w]
          rfl
         refine one_ (i := 4) (N := some 42) #[i',i',i',i',i',o',i',i',o',o'] rfl rfl (one_of HT_.out (by kernel_rfl)) (by decide) (fun K hK => ?_)
         refine goes_ Try.func50 (by kernel_rfl) rfl #[.int .i64 (a0_2.size : Int)] (by rfl) rfl rfl ar_ ?_
         with_reducible refine (spec_Var.calls kj6 (a0_2.size : Int) t152 _ A27.out).mono ?_
         rintro e w31 ⟨rfl, hb⟩
         refine ⟨_, rfl, ?_⟩
         replace BK146 := bb_ BK146 hb
         replace HB := bt_ HB GE146 hb
         (try clear hb)
         (try clear hb2)
         (try clear hk)
         (try clear hi)
         refine hK.out _ _ (p6e_ BK146) (fun hHeld => ?_)
         clear hK K
         refine norm_ (a' := ?_) ?_ ?_
         rotate_left
         ·show Act.put _ (some 42) _ = _
          simp only [Act.put, la_, lz_, ls_, i64_w, i32_w]
          rfl
         refine pv_' 5 43 (on_ 8 2) rfl rfl HT_ ?_
         refine pv_' 8 46 (on_ 9 1) rfl rfl HT_ ?_
         refine pv_' 9 2 (on_ 10 0) rfl rfl HT_ ?_
         refine done_ (done_of HT_.out (by kernel_rfl)) ?_
         try go_wp2
         go_ret
         exact ⟨re_, hs_ HB GE146⟩
        ·rw [if_neg c29] at H
         exact absurd H (by simp)
       ·rw [if_neg c28] at H
        exact absurd H (by simp)
      ·rw [if_neg c26] at H
       have c26b0 : (a0_0 == 2) = false := beq_eq_false_iff_ne.mpr c26
       have c26b1 : (a0_0 != 2) = true := bne_iff_ne.mpr c26
       replace H := Option.bind_eq_some_iff.mp H
       obtain ⟨t153, A320, H⟩ := H
       have A32 := Aside0.mk A320
       clear A320
       by_cases c33 : (t148 ++ t149).size + t153.size ≤ 9223372036854775807
       ·rw [if_pos c33] at H
        have c33b0 := eq_true c33
        have c33b1 : decide ((t148 ++ t149).size + t153.size ≤ 9223372036854775807) = true := decide_eq_true c33
        try have c33b2 : (9223372036854775807 < (t148 ++ t149).size + t153.size) = False := eq_false (Nat.not_lt.2 c33)
        (try (have c33b3 := c33b2; simp only [ByteArray.size_append] at c33b3))
        replace H := Option.bind_eq_some_iff.mp H
        obtain ⟨t154, A340, H⟩ := H
        have A34 := Aside0.mk A340
        clear A340
        by_cases c35 : ((t148 ++ t149) ++ t153).size + t154.size ≤ 9223372036854775807
        ·rw [if_pos c35] at H
         have c35b0 := eq_true c35
         have c35b1 : decide (((t148 ++ t149) ++ t153).size + t154.size ≤ 9223372036854775807) = true := decide_eq_true c35
         try have c35b2 : (9223372036854775807 < ((t148 ++ t149) ++ t153).size + t154.size) = False := eq_false (Nat.not_lt.2 c35)
         (try (have c35b3 := c35b2; simp only [ByteArray.size_append] at c35b3))
         obtain rfl := Option.some.inj H
         try go_wp2
         replace BK146 := bd_ BK146
         replace HB := hd_ HB
         refine start_ (n := 10) (S := k6e_ gb146 (.int .i64 a0_0) (.int .i64 a0_1) (.string a0_2) (.string a0_3) (.int .i64 a0_4) (.int .i64 a0_5)) (ds := []) (on_ 0 10) (by kernel_rfl) rfl rfl (p6e_ BK146) (fun hHeld => ?_); refine with_tabW spec_ShowRec.tab10 spec_ShowRec.bits10 (fun HT_ HW_ => ?_)
         generalize wc.drew = w36 at BK146 HB hHeld ⊢
         refine pv_' 0 47 (on_ 1 9) rfl rfl HT_ ?_
         refine pv_' 1 48 (on_ 2 8) rfl rfl HT_ ?_
         refine pv_' 5 52 #[i',i',o',o',o',i',o',o',o',o'] rfl rfl HT_ ?_
         refine take_ (i := 2) (N := some 49) (v := ?_) (a' := ?_) #[i',i',i',o',o',i',o',o',o',o'] rfl rfl (take_ofW HT_.out HW_.out (by kernel_rfl)) (fun _ _ _ h => h) (Or.inl ⟨by rfl, ?_⟩) hHeld ?_ ?_
         rotate_left
         ·rintro w' ⟨s0, s1, s2, s3, s4, s5⟩
          go_simp
          with_reducible rfl
         rotate_left
         ·simp only [Act.put, la_, lz_, ls_, i64_w, i32_w]
          rfl
         refine take_ (i := 6) (N := some 53) (v := ?_) (a' := ?_) #[i',i',i',o',o',i',i',o',o',o'] rfl rfl (take_ofW HT_.out HW_.out (by kernel_rfl)) (fun _ _ _ h => h) (Or.inl ⟨by rfl, ?_⟩) hHeld ?_ ?_
         rotate_left
         ·rintro w' ⟨s0, s1, s2, s3, s4, s5⟩
          go_simp
          with_reducible rfl
         rotate_left
         ·simp only [Act.put, la_, lz_, ls_, i64_w, i32_w]
          rfl
         refine one_ (i := 3) (N := some 50) #[i',i',i',i',o',i',i',o',o',o'] rfl rfl (one_of HT_.out (by kernel_rfl)) (by decide) (fun K hK => ?_)
         refine goes_ Try.func50 (by kernel_rfl) rfl #[.int .i64 a0_4] (by rfl) rfl rfl ar_ ?_
         with_reducible refine (spec_Var.calls kj6 a0_4 t153 _ A32.out).mono ?_
         rintro e w37 ⟨rfl, hb⟩
         refine ⟨_, rfl, ?_⟩
         replace BK146 := bb_ BK146 hb
         replace HB := bt_ HB GE146 hb
         (try clear hb)
         (try clear hb2)
         (try clear hk)
         (try clear hi)
         refine hK.out _ _ (p6e_ BK146) (fun hHeld => ?_)
         clear hK K
         refine norm_ (a' := ?_) ?_ ?_
         rotate_left
         ·show Act.put _ (some 50) _ = _
          simp only [Act.put, la_, lz_, ls_, i64_w, i32_w]
          rfl
         refine pv_' 4 51 (on_ 7 3) rfl rfl HT_ ?_
         refine one_ (i := 7) (N := some 54) (on_ 8 2) rfl rfl (one_of HT_.out (by kernel_rfl)) (by decide) (fun K hK => ?_)
         refine goes_ Try.func51 (by kernel_rfl) rfl #[.int .i64 a0_5, .int .i64 4] (by rfl) rfl rfl ar_ ?_
         with_reducible refine (spec_Fixed.calls kj6 a0_5 4 t154 _ A34.out).mono ?_
         rintro e w38 ⟨rfl, hb⟩
         refine ⟨_, rfl, ?_⟩
         replace BK146 := bb_ BK146 hb
         replace HB := bt_ HB GE146 hb
         (try clear hb)
         (try clear hb2)
         (try clear hk)
         (try clear hi)
         refine hK.out _ _ (p6e_ BK146) (fun hHeld => ?_)
         clear hK K
         refine norm_ (a' := ?_) ?_ ?_
         rotate_left
         ·show Act.put _ (some 54) _ = _
          simp only [Act.put, la_, lz_, ls_, i64_w, i32_w]
          rfl
         refine pv_' 8 55 (on_ 9 1) rfl rfl HT_ ?_
         refine pv_' 9 2 (on_ 10 0) rfl rfl HT_ ?_
         refine done_ (done_of HT_.out (by kernel_rfl)) ?_
         try go_wp2
         go_ret
         exact ⟨re_, hs_ HB GE146⟩
        ·rw [if_neg c35] at H
         exact absurd H (by simp)
       ·rw [if_neg c33] at H
        exact absurd H (by simp)
  ·rw [if_neg c6] at H
   exact absurd H (by simp)
 ·replace c3 := Bool.eq_false_iff.mpr c3
  subst c3
  rw [if_neg ff_] at H
  obtain rfl := Option.some.inj H
  go_enter Try.func45, Try.ntmps45
  go_wp2_with (first | ((with_reducible refine gate_dst (N := 1) rfl ?_); refine box_event ?hg (N := 1) ?hd (cs := #[.int .i64 a0_0, .int .i64 a0_1, .string a0_2, .string a0_3, .int .i64 a0_4, .int .i64 a0_5]) (t := 46) ?hr ?_; (case hd => rfl); (case hg => rfl); (case hr => first | (go_simp; done) | (go_simp; rfl)); intro gb146 hg w39 hbox hb; have BK146 := Aside0.mk (hbox); have GE146 := ge_ hg (hb_ HB); replace HB := bs_ HB hb; clear hb hbox hg; obtain ⟨hcz40_0, hcz40_1, hcz40_2, hcz40_3, hcz40_4, hcz40_5, hfz40_0, hfz40_1, hfz40_2, hfz40_3, hfz40_4, hfz40_5⟩ := bc6_ BK146) | ((with_reducible refine gate_callee (f := 49) rfl ?_); refine goesL_ (some 5) rfl rfl Try.func49 (by kernel_rfl) rfl #[.agg #[.int .i64 a0_0, .int .i64 a0_1, .string a0_2, .string a0_3, .int .i64 a0_4, .int .i64 a0_5]] rfl ar_ ?_; (with_reducible refine (spec_RecOk.calls k a0_0 a0_1 a0_2 a0_3 a0_4 a0_5 false _ A2.out).mono ?_); rintro e w41 ⟨rfl, hb⟩; refine ⟨_, rfl, ?_⟩; replace BK146 := bb_ BK146 hb; replace HB := bt_ HB GE146 hb; (try clear hb); (try clear hb2); (try clear hk); (try clear hi)))
  go_ret
  exact ⟨re_, hs_ HB GE146⟩

end Go.Proofs.Ytcnmdjibogojnaa.PFnExactRegroup
