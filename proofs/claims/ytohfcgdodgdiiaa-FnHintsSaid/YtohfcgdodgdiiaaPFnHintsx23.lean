import Derived.Test.YtohfcgdodgdiiaaPFnHintsx4
namespace Go.Proofs.Ytohfcgdodgdiiaa.PFnHints
open Go.RowKit Go.Proofs.YtohfcgdodgdiiaaW.PrintWords Go.Proofs.YtohfcgdodgdiiaaW.PrintLast Go.Proofs.YtohfcgdodgdiiaaW.PrintMore
attribute [local go_sem] max2_int min2_int max_two min_two max_three min_three max_four min_four
set_option linter.unusedVariables false
set_option linter.unusedSimpArgs false
set_option maxHeartbeats 80000000
set_option maxRecDepth 100000
section
attribute [local go_sem] bl_leqq13463 bl_gtrq13463 bl_geqq13463
mutual
def spec_DirOk.l0 : Nat → List (S55) → Int → Option (Bool)
 | 0, _, _ => none
 | k + 1, x0, x3 => if x3 < (x0.length : Int) then (if 0 ≤ x3 then ((spec_KeyOk.f ((rd_T55 x0 x3).f0)).bind fun t560 => (if t560 = true then ((spec_l1In.f ((rd_T55 x0 x3).f1) 1 100000).bind fun t561 => (if t561 = true then (if ((rd_T55 x0 x3).f2) < 0 then (spec_DirOk.j1 k x0 x3 true) else ((spec_l1In.f ((rd_T55 x0 x3).f3) 1 210).bind fun t562 => (if t562 = true then ((spec_l1In.f ((rd_T55 x0 x3).f4) 1 1000000).bind fun t563 => (if t563 = true then (if x3 > 0 then (if 0 ≤ (wrap64 (x3 - 1)) then (if (wrap64 (x3 - 1)) < (x0.length : Int) then (spec_DirOk.j1 k x0 x3 (!(Op.bytesLess (((rd_T55 x0 (wrap64 (x3 - 1))).f0).toList) (((rd_T55 x0 x3).f0).toList)))) else (none)) else (none)) else (spec_DirOk.j1 k x0 x3 false)) else (spec_DirOk.j1 k x0 x3 true))) else (spec_DirOk.j1 k x0 x3 true)))) else (spec_DirOk.j1 k x0 x3 true))) else (spec_DirOk.j1 k x0 x3 true))) else (none)) else (some true)
def spec_DirOk.j1 : Nat → List (S55) → Int → Bool → Option (Bool)
 | 0, _, _, _ => none
 | k + 1, x0, x3, x59 => if x59 = true then (some false) else (spec_DirOk.l0 k x0 (wrap64 (x3 + 1)))
end
def spec_DirOk.f (k : Nat) (l0 : List (S55)) : Option (Bool) := if (l0.length : Int) > 20 then (some false) else (spec_DirOk.l0 k l0 0)
def spec_DirOk.T7 : Bool × List (List Nat × List Nat) := (true, [([], []), ([0], [0]), ([1], [1]), ([2], [2]), ([3, 2], [3]), ([4], [4]), ([5, 4], [4, 5]), ([6, 4, 4], [4, 6]), ([7, 4], [4, 7]), ([4, 8], [4, 8]), ([9, 7], [9]), ([10], [10]), ([11, 10], [10, 11]), ([12, 10], [10, 12]), ([10, 13], [10, 13]), ([14, 10], [14]), ([15], [15]), ([16, 15], [15, 16]), ([17, 15, 15], [15, 17]), ([18, 15], [15, 18]), ([15, 19], [15, 19]), ([20, 18], [20]), ([21], [21]), ([22, 21], [21, 22]), ([23, 21, 21], [21, 23]), ([24, 21], [21, 24]), ([21, 25], [21, 25]), ([26, 24], [26]), ([27], [27]), ([28, 27], [27, 28]), ([29, 27, 27], [27, 29]), ([30], [30]), ([31, 30], [30, 31]), ([30], [30]), ([30], [30]), ([34, 30], [30, 34]), ([33, 35, 30], [30, 33, 35]), ([36, 30], [30, 36]), ([37, 30], [30, 37]), ([32, 38, 30], [30, 32, 38]), ([30, 39, 27], [27, 30, 39]), ([27, 40], [27, 40])])
def spec_DirOk.B7 : List Nat := [0, 1, 3, 7, 15, 31, 63, 127, 255, 511, 1023, 2047, 4095, 8191, 16383, 32767, 65535, 131071, 262143, 524287, 1048575, 2097151, 4194303, 8388607, 16777215, 33554431, 67108863, 134217727, 268435455, 536870911, 1073741823, 2147483647, 4294967295, 2147483647, 2147483647, 19327352831, 62277025791, 130996502527, 268435455999, 549755813887, 1099511627775, 2199023255551]
theorem spec_DirOk.tab7 : rtab .any (opsOf Try.f51 7) = spec_DirOk.T7 := by kernel_rfl
theorem spec_DirOk.bits7 : waitsOk spec_DirOk.T7.2 spec_DirOk.B7 = true := by kernel_rfl
theorem spec_DirOk.calls {k : Nat} {l0 : List (S55)} {r : Bool} {w : World} (A0 : Option Addr) (c0 : Nat) (h : spec_DirOk.f k l0 = some r) (hr0 : Kd.C k55 w A0 l0.length l0 := by exact sr_) (hc0 : l0.length ≤ c0 := by exact sc_) :
  Calls Try.prog 51 #[.slice A0 l0.length c0] w fun e w' => e = .returned (.bool r) ∧ Below w.heap.size w w' := by
 have hu55 := Try.underlying55; have HR0 := am_ hr0; have HC0 := am_ hc0; clear hr0 hc0; have HB := am_ (Below.refl w.heap.size w); unfold spec_DirOk.f at h; have H := h; clear h; by_cases c2 : (l0.length : Int) > 20
 ·rw [if_pos c2] at H; have c2b0 := dq_ c2; have c2b1 : decide (20 < l0.length) = true := decide_eq_true (by omega); clear c2; obtain rfl := in_ H
  go_enter Try.func51, Try.ntmps51
  go_wp2
  go_ret
  exact ⟨re_, hb_ HB⟩
 ·rw [if_neg c2] at H; have c2b0 := df_ c2; have c2b1 : decide (20 < l0.length) = false := decide_eq_false (by omega); clear c2; have H' := am_ H; clear H
  go_enter Try.func51, Try.ntmps51
  go_wp2
  go_loopg [3] k (fun kq v3 w' => ∃ (x3_1 : Int), v3 = .int .i64 x3_1 ∧ Aside0 (spec_DirOk.l0 kq l0 x3_1 = some r) ∧ Aside0 (kq ≤ k) ∧ Aside0 (Below w.heap.size w w'))
  case atStart => exact ⟨_, rs_, H', ⟨Nat.le_refl _⟩, ⟨hb_ HB⟩⟩
  case round =>
   clear H'
   (try clear c2); (try clear c2b0); (try clear c2b1)
   obtain ⟨x3_1, rfl, HA, HK1, HB⟩ := hrel
   cases gk with
   | zero => exact zz_ HA
   | succ k1 =>
    have H := HA.1; clear HA; simp only [spec_DirOk.l0] at H; by_cases c3 : x3_1 < (l0.length : Int)
    ·rw [if_pos c3] at H; have c3b0 := dq_ c3; clear c3; replace H := ih_ H; obtain ⟨c4, H⟩ := H; have c4b0 := dq_ c4; clear c4; have HC5 := am_ H; clear H; have p558 : 0 ≤ (x3_1 : Int) := od_; have q558 : x3_1 < (l0.length : Int) := od_; obtain ⟨ad558, e558, hx558_0, hx558_1, hx558_2, hx558_3, hx558_4⟩ := at_T55 HR0.1 x3_1 p558 q558
     cases e558
     (try replace hx558_0 := cb_ HB hx558_0)
     (try replace hx558_1 := cb_ HB hx558_1)
     (try replace hx558_2 := cb_ HB hx558_2)
     (try replace hx558_3 := cb_ HB hx558_3)
     (try replace hx558_4 := cb_ HB hx558_4)
     replace p558 := eq_true p558; replace q558 := eq_true q558
     go_upto_region 7 with ((with_reducible refine gd_ 4 ?_); refine bx1_ 4 #[.string (⟨#[]⟩ : ByteArray), .int .i64 0, .int .i64 0, .int .i64 0, .int .i64 0] 55 ?_; intro gb559 hg w6 hbox hb; have BK559 := am_ hbox; have GE559 := gx_ hg HB; replace HB := bx_ HB hb; (try replace hx558_0 := cx_ hb hx558_0); (try replace hx558_1 := cx_ hb hx558_1); (try replace hx558_2 := cx_ hb hx558_2); (try replace hx558_3 := cx_ hb hx558_3); (try replace hx558_4 := cx_ hb hx558_4); clear hb hbox hg; obtain ⟨_, _, _, _, _, _, _, _, _, _⟩ := bc5_ BK559)
     (try simp only [Act.put, la_, lz_, ls_])
     go_cut [59] (fun v59 wc => ∃ (kq : Nat) (x59_4 : Bool), v59 = .bool x59_4 ∧ Aside0 (spec_DirOk.j1 kq l0 x3_1 x59_4 = some r) ∧ Aside0 (kq ≤ k1) ∧ Aside0 (wc.heap[gb559]? = some (.cells #[.string ((rd_T55 l0 x3_1).f0), .int .i64 ((rd_T55 l0 x3_1).f1), .int .i64 ((rd_T55 l0 x3_1).f2), .int .i64 ((rd_T55 l0 x3_1).f3), .int .i64 ((rd_T55 l0 x3_1).f4)] 55 (0, 0))) ∧ Aside0 (Below w.heap.size w wc))
     case first =>
      have H := HC5.1; clear HC5; replace H := bnd_ H; obtain ⟨t560, A8, H⟩ := H; by_cases c9 : t560 = true
      ·subst c9; rw [if_pos rfl] at H; replace H := bnd_ H; obtain ⟨t561, A10, H⟩ := H; by_cases c11 : t561 = true
       ·subst c11; rw [if_pos rfl] at H; by_cases c12 : ((rd_T55 l0 x3_1).f2) < 0
        ·rw [if_pos c12] at H; have c12b0 := dq_ c12; clear c12
         (first | rw [c12b0] | (simp only [i64_w, i32_w]; rw [c12b0]) | skip)
         have H' := am_ H; clear H
         try go_wp2
         generalize hW_ : (((((w6.setCell ⟨gb559, 0, none⟩ (.string ((rd_T55 l0 x3_1).f0))).setCell ⟨gb559, 1, none⟩ (.int .i64 ((rd_T55 l0 x3_1).f1))).setCell ⟨gb559, 2, none⟩ (.int .i64 ((rd_T55 l0 x3_1).f2))).setCell ⟨gb559, 3, none⟩ (.int .i64 ((rd_T55 l0 x3_1).f3))).setCell ⟨gb559, 4, none⟩ (.int .i64 ((rd_T55 l0 x3_1).f4))) = w13
         replace BK559 := up_ #[.string ((rd_T55 l0 x3_1).f0), .int .i64 ((rd_T55 l0 x3_1).f1), .int .i64 ((rd_T55 l0 x3_1).f2), .int .i64 ((rd_T55 l0 x3_1).f3), .int .i64 ((rd_T55 l0 x3_1).f4)] BK559 hW_; replace HB := us_ hW_ (hs_ HB GE559); clear hW_; replace BK559 := bd_ BK559; replace HB := hd_ HB; refine st1_ 42 spec_DirOk.tab7 spec_DirOk.bits7 (p5e_ BK559) (fun hHeld HT_ HW_ => ?_)
         generalize w13.drew = w14 at BK559 HB hHeld ⊢
         refine pr_ ?_; refine tk5_ 1 19 (on_ 2 40) hHeld ?_
         refine o1_ 2 (some 20) (on_ 3 39) fun K hK => ?_; refine go2_ Try.func73 (spec_KeyOk.calls A8.1) ?_; rintro w' ⟨nd, rfl⟩; refine hK.out _ _ (p5e_ BK559) (fun hHeld => ?_); clear hK K; refine nm_ ?_; (iterate 3 refine pr_ ?_); refine tk5_ 6 24 (on_ 7 35) hHeld ?_
         refine o1_ 7 (some 25) (on_ 8 34) fun K hK => ?_; refine go2_ Try.func50 (spec_l1In.calls A10.1) ?_; rintro w' ⟨nd, rfl⟩; refine hK.out _ _ (p5e_ BK559) (fun hHeld => ?_); clear hK K; refine nm_ ?_; (iterate 4 refine pr_ ?_); refine tk5_ 12 30 (on_ 13 29) hHeld ?_
         (iterate 3 refine pr_ ?_); (iterate 4 refine pt_ ?_); (iterate 2 refine pr_ ?_); (iterate 4 refine pt_ ?_); (iterate 2 refine pr_ ?_); (iterate 13 refine pt_ ?_); refine pr_ ?_; refine dn_ ?_
         try go_wp2
         go_meet
         case rel => exact ⟨_, _, rs_, H', ⟨m1_ HK1⟩, ⟨bk_ BK559⟩, ⟨hs_ HB GE559⟩⟩
        ·rw [if_neg c12] at H; have c12b0 := df_ c12; clear c12
         (first | rw [c12b0] | (simp only [i64_w, i32_w]; rw [c12b0]) | skip)
         replace H := bnd_ H; obtain ⟨t562, A15, H⟩ := H; by_cases c16 : t562 = true
         ·subst c16; rw [if_pos rfl] at H; replace H := bnd_ H; obtain ⟨t563, A17, H⟩ := H; by_cases c18 : t563 = true
          ·subst c18; rw [if_pos rfl] at H; by_cases c19 : x3_1 > 0
           ·rw [if_pos c19] at H; have c19b0 := dq_ c19; clear c19; obtain ⟨ji20, hji20⟩ : ∃ j_ : Int, (wrap64 (x3_1 - 1)) = j_ := ⟨_, rfl⟩
            (first | rw [hji20] at H | simp only [hji20] at H)
            (try rw [hji20] at A8)
            (try rw [hji20] at A10)
            (try rw [hji20] at A15)
            (try rw [hji20] at A17)
            have hji20w : (IntKind.i64.wrap (x3_1 - 1)) = ji20 := (i64_w _).trans hji20; replace H := ih_ H; obtain ⟨c21, H⟩ := H; have c21b0 := dq_ c21; clear c21; replace H := ih_ H; obtain ⟨c22, H⟩ := H; have c22b0 := dq_ c22; clear c22; have H' := am_ H; clear H
            try go_wp2
            generalize hW_ : (((((w6.setCell ⟨gb559, 0, none⟩ (.string ((rd_T55 l0 x3_1).f0))).setCell ⟨gb559, 1, none⟩ (.int .i64 ((rd_T55 l0 x3_1).f1))).setCell ⟨gb559, 2, none⟩ (.int .i64 ((rd_T55 l0 x3_1).f2))).setCell ⟨gb559, 3, none⟩ (.int .i64 ((rd_T55 l0 x3_1).f3))).setCell ⟨gb559, 4, none⟩ (.int .i64 ((rd_T55 l0 x3_1).f4))) = w23
            replace BK559 := up_ #[.string ((rd_T55 l0 x3_1).f0), .int .i64 ((rd_T55 l0 x3_1).f1), .int .i64 ((rd_T55 l0 x3_1).f2), .int .i64 ((rd_T55 l0 x3_1).f3), .int .i64 ((rd_T55 l0 x3_1).f4)] BK559 hW_; replace HB := us_ hW_ (hs_ HB GE559); clear hW_; replace BK559 := bd_ BK559; replace HB := hd_ HB; have p564 : 0 ≤ ((ji20) : Int) := od_; have q564 : (ji20) < (l0.length : Int) := od_; obtain ⟨ad564, e564, hx564_0, hx564_1, hx564_2, hx564_3, hx564_4⟩ := at_T55 HR0.1 (ji20) p564 q564; have hw564_4 := hx564_4; have hw564_3 := hx564_3; have hw564_2 := hx564_2; have hw564_1 := hx564_1; have hw564_0 := hx564_0; obtain rfl : ad558 = ad564 := (by injection e564)
            (try replace hx564_0 := cb_ HB hx564_0)
            (try replace hx564_1 := cb_ HB hx564_1)
            (try replace hx564_2 := cb_ HB hx564_2)
            (try replace hx564_3 := cb_ HB hx564_3)
            (try replace hx564_4 := cb_ HB hx564_4)
            replace p564 := eq_true p564; replace q564 := eq_true q564; refine st1_ 42 spec_DirOk.tab7 spec_DirOk.bits7 (p5_ BK559 (q5e_ (cb_ HB hw564_0 :) (cb_ HB hw564_1 :) (cb_ HB hw564_2 :) (cb_ HB hw564_3 :) (cb_ HB hw564_4 :))) (fun hHeld HT_ HW_ => ?_)
            generalize w23.drew = w24 at BK559 HB hx564_0 hx564_1 hx564_2 hx564_3 hx564_4 hHeld ⊢
            refine pr_ ?_; refine tk10_ 1 19 (on_ 2 40) hHeld ?_
            refine o1_ 2 (some 20) (on_ 3 39) fun K hK => ?_; refine go2_ Try.func73 (spec_KeyOk.calls A8.1) ?_; rintro w' ⟨nd, rfl⟩; refine hK.out _ _ (p5_ BK559 (q5e_ (cb_ HB hw564_0 :) (cb_ HB hw564_1 :) (cb_ HB hw564_2 :) (cb_ HB hw564_3 :) (cb_ HB hw564_4 :))) (fun hHeld => ?_); clear hK K; refine nm_ ?_; (iterate 3 refine pr_ ?_); refine tk10_ 6 24 (on_ 7 35) hHeld ?_
            refine o1_ 7 (some 25) (on_ 8 34) fun K hK => ?_; refine go2_ Try.func50 (spec_l1In.calls A10.1) ?_; rintro w' ⟨nd, rfl⟩; refine hK.out _ _ (p5_ BK559 (q5e_ (cb_ HB hw564_0 :) (cb_ HB hw564_1 :) (cb_ HB hw564_2 :) (cb_ HB hw564_3 :) (cb_ HB hw564_4 :))) (fun hHeld => ?_); clear hK K; refine nm_ ?_; (iterate 4 refine pr_ ?_); refine tk10_ 12 30 (on_ 13 29) hHeld ?_
            (iterate 4 refine pr_ ?_); refine tk10_ 17 35 (on_ 18 24) hHeld ?_
            refine o1_ 18 (some 36) (on_ 19 23) fun K hK => ?_; refine go2_ Try.func50 (spec_l1In.calls A15.1) ?_; rintro w' ⟨nd, rfl⟩; refine hK.out _ _ (p5_ BK559 (q5e_ (cb_ HB hw564_0 :) (cb_ HB hw564_1 :) (cb_ HB hw564_2 :) (cb_ HB hw564_3 :) (cb_ HB hw564_4 :))) (fun hHeld => ?_); clear hK K; refine nm_ ?_; (iterate 4 refine pr_ ?_); refine tk10_ 23 41 (on_ 24 18) hHeld ?_
            refine o1_ 24 (some 42) (on_ 25 17) fun K hK => ?_; refine go2_ Try.func50 (spec_l1In.calls A17.1) ?_; rintro w' ⟨nd, rfl⟩; refine hK.out _ _ (p5_ BK559 (q5e_ (cb_ HB hw564_0 :) (cb_ HB hw564_1 :) (cb_ HB hw564_2 :) (cb_ HB hw564_3 :) (cb_ HB hw564_4 :))) (fun hHeld => ?_); clear hK K; refine nm_ ?_; (iterate 7 refine pr_ ?_); refine pv_' 33 51 (of_ 42 12884901887) rfl rfl HT_ ?_; refine pv_' 34 52 (of_ 42 30064771071) rfl rfl HT_ ?_; refine pv_' 35 53 (of_ 42 64424509439) rfl rfl HT_ ?_; refine pv_' 36 54 (of_ 42 133143986175) rfl rfl HT_ ?_; refine pv_' 37 55 (of_ 42 270582939647) rfl rfl HT_ ?_; refine tk10_ 32 50 (on_ 38 4) hHeld ?_
            refine tk10_ 38 56 (on_ 39 3) hHeld ?_
            (iterate 3 refine pr_ ?_); refine dn_ ?_; have Nji20_ := am_ hji20; clear hji20
            (try clear hji20w)
            try go_wp2
            have hji20 := Nji20_.1; clear Nji20_
            (try have hji20w := (i64_w _).trans hji20)
            go_meet
            case rel => exact ⟨_, (!(Op.bytesLess (((rd_T55 l0 (ji20)).f0).toList) (((rd_T55 l0 x3_1).f0).toList))), (by first | rfl | (simp; done) | (simp only [← hji20] <;> (first | rfl | simp)) | (simp [*]; done)), (by first | exact H' | (simp only [hji20]; exact H')), ⟨m1_ HK1⟩, ⟨bk_ BK559⟩, ⟨hs_ HB GE559⟩⟩
           ·rw [if_neg c19] at H; have c19b0 := df_ c19; clear c19; have H' := am_ H; clear H
            try go_wp2
            generalize hW_ : (((((w6.setCell ⟨gb559, 0, none⟩ (.string ((rd_T55 l0 x3_1).f0))).setCell ⟨gb559, 1, none⟩ (.int .i64 ((rd_T55 l0 x3_1).f1))).setCell ⟨gb559, 2, none⟩ (.int .i64 ((rd_T55 l0 x3_1).f2))).setCell ⟨gb559, 3, none⟩ (.int .i64 ((rd_T55 l0 x3_1).f3))).setCell ⟨gb559, 4, none⟩ (.int .i64 ((rd_T55 l0 x3_1).f4))) = w25
            replace BK559 := up_ #[.string ((rd_T55 l0 x3_1).f0), .int .i64 ((rd_T55 l0 x3_1).f1), .int .i64 ((rd_T55 l0 x3_1).f2), .int .i64 ((rd_T55 l0 x3_1).f3), .int .i64 ((rd_T55 l0 x3_1).f4)] BK559 hW_; replace HB := us_ hW_ (hs_ HB GE559); clear hW_; replace BK559 := bd_ BK559; replace HB := hd_ HB; refine st1_ 42 spec_DirOk.tab7 spec_DirOk.bits7 (p5e_ BK559) (fun hHeld HT_ HW_ => ?_)
            generalize w25.drew = w26 at BK559 HB hHeld ⊢
            refine pr_ ?_; refine tk5_ 1 19 (on_ 2 40) hHeld ?_
            refine o1_ 2 (some 20) (on_ 3 39) fun K hK => ?_; refine go2_ Try.func73 (spec_KeyOk.calls A8.1) ?_; rintro w' ⟨nd, rfl⟩; refine hK.out _ _ (p5e_ BK559) (fun hHeld => ?_); clear hK K; refine nm_ ?_; (iterate 3 refine pr_ ?_); refine tk5_ 6 24 (on_ 7 35) hHeld ?_
            refine o1_ 7 (some 25) (on_ 8 34) fun K hK => ?_; refine go2_ Try.func50 (spec_l1In.calls A10.1) ?_; rintro w' ⟨nd, rfl⟩; refine hK.out _ _ (p5e_ BK559) (fun hHeld => ?_); clear hK K; refine nm_ ?_; (iterate 4 refine pr_ ?_); refine tk5_ 12 30 (on_ 13 29) hHeld ?_
            (iterate 4 refine pr_ ?_); refine tk5_ 17 35 (on_ 18 24) hHeld ?_
            refine o1_ 18 (some 36) (on_ 19 23) fun K hK => ?_; refine go2_ Try.func50 (spec_l1In.calls A15.1) ?_; rintro w' ⟨nd, rfl⟩; refine hK.out _ _ (p5e_ BK559) (fun hHeld => ?_); clear hK K; refine nm_ ?_; (iterate 4 refine pr_ ?_); refine tk5_ 23 41 (on_ 24 18) hHeld ?_
            refine o1_ 24 (some 42) (on_ 25 17) fun K hK => ?_; refine go2_ Try.func50 (spec_l1In.calls A17.1) ?_; rintro w' ⟨nd, rfl⟩; refine hK.out _ _ (p5e_ BK559) (fun hHeld => ?_); clear hK K; refine nm_ ?_; (iterate 6 refine pr_ ?_); (iterate 9 refine pt_ ?_); (iterate 2 refine pr_ ?_); refine dn_ ?_
            try go_wp2
            go_meet
            case rel => exact ⟨_, (false), rs_, (by first | exact H' | (simp only [hji20]; exact H')), ⟨m1_ HK1⟩, ⟨bk_ BK559⟩, ⟨hs_ HB GE559⟩⟩
          ·replace c18 := bF_ c18; subst c18; rw [if_neg ff_] at H; have H' := am_ H; clear H
           try go_wp2
           generalize hW_ : (((((w6.setCell ⟨gb559, 0, none⟩ (.string ((rd_T55 l0 x3_1).f0))).setCell ⟨gb559, 1, none⟩ (.int .i64 ((rd_T55 l0 x3_1).f1))).setCell ⟨gb559, 2, none⟩ (.int .i64 ((rd_T55 l0 x3_1).f2))).setCell ⟨gb559, 3, none⟩ (.int .i64 ((rd_T55 l0 x3_1).f3))).setCell ⟨gb559, 4, none⟩ (.int .i64 ((rd_T55 l0 x3_1).f4))) = w27
           replace BK559 := up_ #[.string ((rd_T55 l0 x3_1).f0), .int .i64 ((rd_T55 l0 x3_1).f1), .int .i64 ((rd_T55 l0 x3_1).f2), .int .i64 ((rd_T55 l0 x3_1).f3), .int .i64 ((rd_T55 l0 x3_1).f4)] BK559 hW_; replace HB := us_ hW_ (hs_ HB GE559); clear hW_; replace BK559 := bd_ BK559; replace HB := hd_ HB; refine st1_ 42 spec_DirOk.tab7 spec_DirOk.bits7 (p5e_ BK559) (fun hHeld HT_ HW_ => ?_)
           generalize w27.drew = w28 at BK559 HB hHeld ⊢
           refine pr_ ?_; refine tk5_ 1 19 (on_ 2 40) hHeld ?_
           refine o1_ 2 (some 20) (on_ 3 39) fun K hK => ?_; refine go2_ Try.func73 (spec_KeyOk.calls A8.1) ?_; rintro w' ⟨nd, rfl⟩; refine hK.out _ _ (p5e_ BK559) (fun hHeld => ?_); clear hK K; refine nm_ ?_; (iterate 3 refine pr_ ?_); refine tk5_ 6 24 (on_ 7 35) hHeld ?_
           refine o1_ 7 (some 25) (on_ 8 34) fun K hK => ?_; refine go2_ Try.func50 (spec_l1In.calls A10.1) ?_; rintro w' ⟨nd, rfl⟩; refine hK.out _ _ (p5e_ BK559) (fun hHeld => ?_); clear hK K; refine nm_ ?_; (iterate 4 refine pr_ ?_); refine tk5_ 12 30 (on_ 13 29) hHeld ?_
           (iterate 4 refine pr_ ?_); refine tk5_ 17 35 (on_ 18 24) hHeld ?_
           refine o1_ 18 (some 36) (on_ 19 23) fun K hK => ?_; refine go2_ Try.func50 (spec_l1In.calls A15.1) ?_; rintro w' ⟨nd, rfl⟩; refine hK.out _ _ (p5e_ BK559) (fun hHeld => ?_); clear hK K; refine nm_ ?_; (iterate 4 refine pr_ ?_); refine tk5_ 23 41 (on_ 24 18) hHeld ?_
           refine o1_ 24 (some 42) (on_ 25 17) fun K hK => ?_; refine go2_ Try.func50 (spec_l1In.calls A17.1) ?_; rintro w' ⟨nd, rfl⟩; refine hK.out _ _ (p5e_ BK559) (fun hHeld => ?_); clear hK K; refine nm_ ?_; (iterate 3 refine pr_ ?_); (iterate 13 refine pt_ ?_); refine pr_ ?_; refine dn_ ?_
           try go_wp2
           go_meet
           case rel => exact ⟨_, _, rs_, H', ⟨m1_ HK1⟩, ⟨bk_ BK559⟩, ⟨hs_ HB GE559⟩⟩
         ·replace c16 := bF_ c16; subst c16; rw [if_neg ff_] at H; have H' := am_ H; clear H
          try go_wp2
          generalize hW_ : (((((w6.setCell ⟨gb559, 0, none⟩ (.string ((rd_T55 l0 x3_1).f0))).setCell ⟨gb559, 1, none⟩ (.int .i64 ((rd_T55 l0 x3_1).f1))).setCell ⟨gb559, 2, none⟩ (.int .i64 ((rd_T55 l0 x3_1).f2))).setCell ⟨gb559, 3, none⟩ (.int .i64 ((rd_T55 l0 x3_1).f3))).setCell ⟨gb559, 4, none⟩ (.int .i64 ((rd_T55 l0 x3_1).f4))) = w29
          replace BK559 := up_ #[.string ((rd_T55 l0 x3_1).f0), .int .i64 ((rd_T55 l0 x3_1).f1), .int .i64 ((rd_T55 l0 x3_1).f2), .int .i64 ((rd_T55 l0 x3_1).f3), .int .i64 ((rd_T55 l0 x3_1).f4)] BK559 hW_; replace HB := us_ hW_ (hs_ HB GE559); clear hW_; replace BK559 := bd_ BK559; replace HB := hd_ HB; refine st1_ 42 spec_DirOk.tab7 spec_DirOk.bits7 (p5e_ BK559) (fun hHeld HT_ HW_ => ?_)
          generalize w29.drew = w30 at BK559 HB hHeld ⊢
          refine pr_ ?_; refine tk5_ 1 19 (on_ 2 40) hHeld ?_
          refine o1_ 2 (some 20) (on_ 3 39) fun K hK => ?_; refine go2_ Try.func73 (spec_KeyOk.calls A8.1) ?_; rintro w' ⟨nd, rfl⟩; refine hK.out _ _ (p5e_ BK559) (fun hHeld => ?_); clear hK K; refine nm_ ?_; (iterate 3 refine pr_ ?_); refine tk5_ 6 24 (on_ 7 35) hHeld ?_
          refine o1_ 7 (some 25) (on_ 8 34) fun K hK => ?_; refine go2_ Try.func50 (spec_l1In.calls A10.1) ?_; rintro w' ⟨nd, rfl⟩; refine hK.out _ _ (p5e_ BK559) (fun hHeld => ?_); clear hK K; refine nm_ ?_; (iterate 4 refine pr_ ?_); refine tk5_ 12 30 (on_ 13 29) hHeld ?_
          (iterate 4 refine pr_ ?_); refine tk5_ 17 35 (on_ 18 24) hHeld ?_
          refine o1_ 18 (some 36) (on_ 19 23) fun K hK => ?_; refine go2_ Try.func50 (spec_l1In.calls A15.1) ?_; rintro w' ⟨nd, rfl⟩; refine hK.out _ _ (p5e_ BK559) (fun hHeld => ?_); clear hK K; refine nm_ ?_; (iterate 3 refine pr_ ?_); (iterate 4 refine pt_ ?_); (iterate 2 refine pr_ ?_); (iterate 13 refine pt_ ?_); refine pr_ ?_; refine dn_ ?_
          try go_wp2
          go_meet
          case rel => exact ⟨_, _, rs_, H', ⟨m1_ HK1⟩, ⟨bk_ BK559⟩, ⟨hs_ HB GE559⟩⟩
       ·replace c11 := bF_ c11; subst c11; rw [if_neg ff_] at H; have H' := am_ H; clear H
        try go_wp2
        generalize hW_ : (((((w6.setCell ⟨gb559, 0, none⟩ (.string ((rd_T55 l0 x3_1).f0))).setCell ⟨gb559, 1, none⟩ (.int .i64 ((rd_T55 l0 x3_1).f1))).setCell ⟨gb559, 2, none⟩ (.int .i64 ((rd_T55 l0 x3_1).f2))).setCell ⟨gb559, 3, none⟩ (.int .i64 ((rd_T55 l0 x3_1).f3))).setCell ⟨gb559, 4, none⟩ (.int .i64 ((rd_T55 l0 x3_1).f4))) = w31
        replace BK559 := up_ #[.string ((rd_T55 l0 x3_1).f0), .int .i64 ((rd_T55 l0 x3_1).f1), .int .i64 ((rd_T55 l0 x3_1).f2), .int .i64 ((rd_T55 l0 x3_1).f3), .int .i64 ((rd_T55 l0 x3_1).f4)] BK559 hW_; replace HB := us_ hW_ (hs_ HB GE559); clear hW_; replace BK559 := bd_ BK559; replace HB := hd_ HB; refine st1_ 42 spec_DirOk.tab7 spec_DirOk.bits7 (p5e_ BK559) (fun hHeld HT_ HW_ => ?_)
        generalize w31.drew = w32 at BK559 HB hHeld ⊢
        refine pr_ ?_; refine tk5_ 1 19 (on_ 2 40) hHeld ?_
        refine o1_ 2 (some 20) (on_ 3 39) fun K hK => ?_; refine go2_ Try.func73 (spec_KeyOk.calls A8.1) ?_; rintro w' ⟨nd, rfl⟩; refine hK.out _ _ (p5e_ BK559) (fun hHeld => ?_); clear hK K; refine nm_ ?_; (iterate 3 refine pr_ ?_); refine tk5_ 6 24 (on_ 7 35) hHeld ?_
        refine o1_ 7 (some 25) (on_ 8 34) fun K hK => ?_; refine go2_ Try.func50 (spec_l1In.calls A10.1) ?_; rintro w' ⟨nd, rfl⟩; refine hK.out _ _ (p5e_ BK559) (fun hHeld => ?_); clear hK K; refine nm_ ?_; (iterate 3 refine pr_ ?_); (iterate 3 refine pt_ ?_); (iterate 2 refine pr_ ?_); (iterate 4 refine pt_ ?_); (iterate 2 refine pr_ ?_); (iterate 4 refine pt_ ?_); (iterate 2 refine pr_ ?_); (iterate 13 refine pt_ ?_); refine pr_ ?_; refine dn_ ?_
        try go_wp2
        go_meet
        case rel => exact ⟨_, _, rs_, H', ⟨m1_ HK1⟩, ⟨bk_ BK559⟩, ⟨hs_ HB GE559⟩⟩
      ·replace c9 := bF_ c9; subst c9; rw [if_neg ff_] at H; have H' := am_ H; clear H
       try go_wp2
       generalize hW_ : (((((w6.setCell ⟨gb559, 0, none⟩ (.string ((rd_T55 l0 x3_1).f0))).setCell ⟨gb559, 1, none⟩ (.int .i64 ((rd_T55 l0 x3_1).f1))).setCell ⟨gb559, 2, none⟩ (.int .i64 ((rd_T55 l0 x3_1).f2))).setCell ⟨gb559, 3, none⟩ (.int .i64 ((rd_T55 l0 x3_1).f3))).setCell ⟨gb559, 4, none⟩ (.int .i64 ((rd_T55 l0 x3_1).f4))) = w33
       replace BK559 := up_ #[.string ((rd_T55 l0 x3_1).f0), .int .i64 ((rd_T55 l0 x3_1).f1), .int .i64 ((rd_T55 l0 x3_1).f2), .int .i64 ((rd_T55 l0 x3_1).f3), .int .i64 ((rd_T55 l0 x3_1).f4)] BK559 hW_; replace HB := us_ hW_ (hs_ HB GE559); clear hW_; replace BK559 := bd_ BK559; replace HB := hd_ HB; refine st1_ 42 spec_DirOk.tab7 spec_DirOk.bits7 (p5e_ BK559) (fun hHeld HT_ HW_ => ?_)
       generalize w33.drew = w34 at BK559 HB hHeld ⊢
       refine pr_ ?_; refine tk5_ 1 19 (on_ 2 40) hHeld ?_
       refine o1_ 2 (some 20) (on_ 3 39) fun K hK => ?_; refine go2_ Try.func73 (spec_KeyOk.calls A8.1) ?_; rintro w' ⟨nd, rfl⟩; refine hK.out _ _ (p5e_ BK559) (fun hHeld => ?_); clear hK K; refine nm_ ?_; (iterate 2 refine pr_ ?_); (iterate 4 refine pt_ ?_); (iterate 2 refine pr_ ?_); (iterate 3 refine pt_ ?_); (iterate 2 refine pr_ ?_); (iterate 4 refine pt_ ?_); (iterate 2 refine pr_ ?_); (iterate 4 refine pt_ ?_); (iterate 2 refine pr_ ?_); (iterate 13 refine pt_ ?_); refine pr_ ?_; refine dn_ ?_
       try go_wp2
       go_meet
       case rel => exact ⟨_, _, rs_, H', ⟨m1_ HK1⟩, ⟨bk_ BK559⟩, ⟨hs_ HB GE559⟩⟩
     case rest =>
      clear HC5
      (try clear c9); (try clear c11)
      obtain ⟨kq, x59_4, rfl, HA, HJ4, BK559, HB⟩ := hcut
      cases kq with
      | zero => exact zz_ HA
      | succ kj4 =>
       have H := HA.1; clear HA; simp only [spec_DirOk.j1] at H; by_cases c35 : x59_4 = true
       ·subst c35; rw [if_pos rfl] at H; obtain rfl := in_ H
        go_wp2
        go_ret
        exact ⟨re_, hs_ HB GE559⟩
       ·replace c35 := bF_ c35; subst c35; rw [if_neg ff_] at H; have H' := am_ H; clear H
        go_wp2
        go_roundg kj4
        case measure => exact m2_ HK1 HJ4
        case rel => exact ⟨_, rs_, H', ⟨m2_ HK1 HJ4⟩, ⟨hs_ HB GE559⟩⟩
    ·rw [if_neg c3] at H; have c3b0 := df_ c3; clear c3; obtain rfl := in_ H
     go_wp2
     go_ret
     exact ⟨re_, hb_ HB⟩
end
mutual
def spec_l10Ok.j0 : Nat → Bool → Int → Int → List (S55) → Option (Bool)
 | 0, _, _, _, _ => none
 | k + 1, x19, x566000, x566001, x566002 => if x19 = true then (some false) else (spec_l10Ok.l0 k 0 x566000 x566001 x566002)
def spec_l10Ok.l0 : Nat → Int → Int → Int → List (S55) → Option (Bool)
 | 0, _, _, _, _ => none
 | k + 1, x3, x566000, x566001, x566002 => if x3 < (x566002.length : Int) then (if 0 ≤ x3 then (if 0 < (x566002.length : Int) then (if ((rd_T55 x566002 x3).f1) = ((rd_T55 x566002 0).f1) then (if ((rd_T55 x566002 x3).f2) > 100000 then (some false) else (spec_l10Ok.l0 k (wrap64 (x3 + 1)) x566000 x566001 x566002)) else (some false)) else (none)) else (none)) else (some true)
end
def spec_l10Ok.f (k : Nat) (a0_0 : Int) (a0_1 : Int) (l0_2 : List (S55)) : Option (Bool) := (spec_l1In.f a0_0 0 100000).bind fun t566 => (if t566 = true then ((spec_l1In.f a0_1 0 1000000).bind fun t567 => (if t567 = true then ((spec_DirOk.f k l0_2).bind fun t568 => (spec_l10Ok.j0 k (!t568) a0_0 a0_1 l0_2)) else (spec_l10Ok.j0 k true a0_0 a0_1 l0_2))) else (spec_l10Ok.j0 k true a0_0 a0_1 l0_2))
theorem spec_l10Ok.calls {k : Nat} {a0_0 a0_1 : Int} {l0_2 : List (S55)} {r : Bool} {w : World} (A0_2 : Option Addr) (c0_2 : Nat) (h : spec_l10Ok.f k a0_0 a0_1 l0_2 = some r) (hr0_2 : Kd.C k55 w A0_2 l0_2.length l0_2 := by exact sr_) (hc0_2 : l0_2.length ≤ c0_2 := by exact sc_) :
  Calls Try.prog 25 #[.agg #[.int .i64 a0_0, .int .i64 a0_1, .slice A0_2 l0_2.length c0_2]] w fun e w' => e = .returned (.bool r) ∧ Below w.heap.size w w' := by
 have hu26 := Try.underlying26; have HR0_2 := am_ hr0_2; have HC0_2 := am_ hc0_2; clear hr0_2 hc0_2; have HB := am_ (Below.refl w.heap.size w); unfold spec_l10Ok.f at h; have H := h; clear h; have HC2 := am_ H; clear H
 go_enter Try.func25, Try.ntmps25
 go_upto_region 1 with ((with_reducible refine gd_ 1 ?_); refine bx1_ 1 #[.int .i64 a0_0, .int .i64 a0_1, .slice A0_2 l0_2.length c0_2] 26 ?_; intro gb565 hg w3 hbox hb; have BK565 := am_ hbox; have GE565 := gx_ hg HB; replace HB := bx_ HB hb; clear hb hbox hg)
 repeat (go_quiet ((refine gd_ 1 ?_; refine bx1_ 1 #[.int .i64 a0_0, .int .i64 a0_1, .slice A0_2 l0_2.length c0_2] 26 ?_; intro gb565 hg w3 hbox hb; have BK565 := am_ hbox; have GE565 := gx_ hg HB; replace HB := bx_ HB hb; clear hb hbox hg)); go_upto_region 1 with ((with_reducible refine gd_ 1 ?_); refine bx1_ 1 #[.int .i64 a0_0, .int .i64 a0_1, .slice A0_2 l0_2.length c0_2] 26 ?_; intro gb565 hg w3 hbox hb; have BK565 := am_ hbox; have GE565 := gx_ hg HB; replace HB := bx_ HB hb; clear hb hbox hg))
 (try simp only [Act.put, la_, lz_, ls_])
 go_cut [19] (fun v19 wc => ∃ (kq : Nat) (x19_1 : Bool), v19 = .bool x19_1 ∧ Aside0 (spec_l10Ok.j0 kq x19_1 a0_0 a0_1 l0_2 = some r) ∧ Aside0 (kq ≤ k) ∧ Aside0 (wc.heap[gb565]? = some (.cells #[.int .i64 a0_0, .int .i64 a0_1, (.slice A0_2 l0_2.length c0_2)] 26 (0, 0))) ∧ Aside0 (Below w.heap.size w wc))
 case first =>
  have H := HC2.1; clear HC2; replace H := bnd_ H; obtain ⟨t566, A4, H⟩ := H; by_cases c5 : t566 = true
  ·subst c5; rw [if_pos rfl] at H; replace H := bnd_ H; obtain ⟨t567, A6, H⟩ := H; by_cases c7 : t567 = true
   ·subst c7; rw [if_pos rfl] at H; replace H := bnd_ H; obtain ⟨t568, A8, H⟩ := H; have H' := am_ H; clear H; obtain ⟨Z9_0, Z9_1, Z9_2, F9_0, F9_1, F9_2⟩ := bc3_ BK565
    go_wp2_with (first | (go_at_call 50; refine cm_ (spec_l1In.calls A4.1) ?_; rintro e w' ⟨rfl, ⟨nd, rfl⟩⟩; (try first | exact dd_ | exact de_)) | (go_at_call 50; refine cm_ (spec_l1In.calls A6.1) ?_; rintro e w' ⟨rfl, ⟨nd, rfl⟩⟩; (try first | exact dd_ | exact de_)) | (go_at_call 51; refine cm_ (spec_DirOk.calls _ _ A8.1) ?_; rintro e w10 ⟨rfl, hb⟩; replace BK565 := bb_ BK565 hb; replace HB := bx_ HB hb; clear hb))
    repeat (go_quiet (first | (go_at_call 50; refine cm_ (spec_l1In.calls A4.1) ?_; rintro e w' ⟨rfl, ⟨nd, rfl⟩⟩; (try first | exact dd_ | exact de_)) | (go_at_call 50; refine cm_ (spec_l1In.calls A6.1) ?_; rintro e w' ⟨rfl, ⟨nd, rfl⟩⟩; (try first | exact dd_ | exact de_)) | (go_at_call 51; refine cm_ (spec_DirOk.calls _ _ A8.1) ?_; rintro e w10 ⟨rfl, hb⟩; replace BK565 := bb_ BK565 hb; replace HB := bx_ HB hb; clear hb)); try go_wp2_with (first | (go_at_call 50; refine cm_ (spec_l1In.calls A4.1) ?_; rintro e w' ⟨rfl, ⟨nd, rfl⟩⟩; (try first | exact dd_ | exact de_)) | (go_at_call 50; refine cm_ (spec_l1In.calls A6.1) ?_; rintro e w' ⟨rfl, ⟨nd, rfl⟩⟩; (try first | exact dd_ | exact de_)) | (go_at_call 51; refine cm_ (spec_DirOk.calls _ _ A8.1) ?_; rintro e w10 ⟨rfl, hb⟩; replace BK565 := bb_ BK565 hb; replace HB := bx_ HB hb; clear hb)))
    go_meet
    case rel => exact ⟨_, _, rs_, H', ⟨m0_⟩, ⟨bk_ BK565⟩, ⟨hs_ HB GE565⟩⟩
   ·replace c7 := bF_ c7; subst c7; rw [if_neg ff_] at H; have H' := am_ H; clear H; obtain ⟨Z11_0, Z11_1, Z11_2, F11_0, F11_1, F11_2⟩ := bc3_ BK565
    go_wp2_with (first | (go_at_call 50; refine cm_ (spec_l1In.calls A4.1) ?_; rintro e w' ⟨rfl, ⟨nd, rfl⟩⟩; (try first | exact dd_ | exact de_)) | (go_at_call 50; refine cm_ (spec_l1In.calls A6.1) ?_; rintro e w' ⟨rfl, ⟨nd, rfl⟩⟩; (try first | exact dd_ | exact de_)))
    repeat (go_quiet (first | (go_at_call 50; refine cm_ (spec_l1In.calls A4.1) ?_; rintro e w' ⟨rfl, ⟨nd, rfl⟩⟩; (try first | exact dd_ | exact de_)) | (go_at_call 50; refine cm_ (spec_l1In.calls A6.1) ?_; rintro e w' ⟨rfl, ⟨nd, rfl⟩⟩; (try first | exact dd_ | exact de_))); try go_wp2_with (first | (go_at_call 50; refine cm_ (spec_l1In.calls A4.1) ?_; rintro e w' ⟨rfl, ⟨nd, rfl⟩⟩; (try first | exact dd_ | exact de_)) | (go_at_call 50; refine cm_ (spec_l1In.calls A6.1) ?_; rintro e w' ⟨rfl, ⟨nd, rfl⟩⟩; (try first | exact dd_ | exact de_))))
    go_meet
    case rel => exact ⟨_, _, rs_, H', ⟨m0_⟩, ⟨bk_ BK565⟩, ⟨hs_ HB GE565⟩⟩
  ·replace c5 := bF_ c5; subst c5; rw [if_neg ff_] at H; have H' := am_ H; clear H; obtain ⟨_, _, _, _, _, _⟩ := bc3_ BK565
   go_wp2_with (go_at_call 50; refine cm_ (spec_l1In.calls A4.1) ?_; rintro e w' ⟨rfl, ⟨nd, rfl⟩⟩; (try first | exact dd_ | exact de_))
   repeat (go_quiet ((go_at_call 50; refine cm_ (spec_l1In.calls A4.1) ?_; rintro e w' ⟨rfl, ⟨nd, rfl⟩⟩; (try first | exact dd_ | exact de_))); try go_wp2_with (go_at_call 50; refine cm_ (spec_l1In.calls A4.1) ?_; rintro e w' ⟨rfl, ⟨nd, rfl⟩⟩; (try first | exact dd_ | exact de_)))
   go_meet
   case rel => exact ⟨_, _, rs_, H', ⟨m0_⟩, ⟨bk_ BK565⟩, ⟨hs_ HB GE565⟩⟩
 case rest =>
  clear HC2
  (try clear c5); (try clear c7)
  obtain ⟨kq, x19_1, rfl, HA, HJ1, BK565, HB⟩ := hcut
  cases kq with
  | zero => exact zz_ HA
  | succ kj1 =>
   have H := HA.1; clear HA; simp only [spec_l10Ok.j0] at H; by_cases c13 : x19_1 = true
   ·subst c13; rw [if_pos rfl] at H; obtain rfl := in_ H
    go_wp2
    repeat (go_quiet (fail); try go_wp2)
    go_ret
    exact ⟨re_, hs_ HB GE565⟩
   ·replace c13 := bF_ c13; subst c13; rw [if_neg ff_] at H; have H' := am_ H; clear H
    go_wp2
    repeat (go_quiet (fail); try go_wp2)
    go_loopg [3] kj1 (fun kq v3 w' => ∃ (x3_2 : Int), v3 = .int .i64 x3_2 ∧ Aside0 (spec_l10Ok.l0 kq x3_2 a0_0 a0_1 l0_2 = some r) ∧ Aside0 (kq ≤ kj1) ∧ Aside0 (w'.heap[gb565]? = some (.cells #[.int .i64 a0_0, .int .i64 a0_1, (.slice A0_2 l0_2.length c0_2)] 26 (0, 0))) ∧ Aside0 (Below w.heap.size w w'))
    case atStart => exact ⟨_, rs_, H', ⟨Nat.le_refl _⟩, ⟨bk_ BK565⟩, ⟨hs_ HB GE565⟩⟩
    case round =>
     clear H'
     (try clear c5); (try clear c7); (try clear c13)
     obtain ⟨x3_2, rfl, HA, HK2, BK565, HB⟩ := hrel
     cases gk with
     | zero => exact zz_ HA
     | succ k2 =>
      have H := HA.1; clear HA; simp only [spec_l10Ok.l0] at H; by_cases c14 : x3_2 < (l0_2.length : Int)
      ·rw [if_pos c14] at H; have c14b0 := dq_ c14; clear c14; replace H := ih_ H; obtain ⟨c15, H⟩ := H; have c15b0 := dq_ c15; clear c15; replace H := ih_ H; obtain ⟨c16, H⟩ := H; have c16b0 := dq_ c16; have c16b1 : decide (0 < l0_2.length) = true := decide_eq_true (by omega); clear c16; by_cases c17 : ((rd_T55 l0_2 x3_2).f1) = ((rd_T55 l0_2 0).f1)
       ·rw [if_pos c17] at H; have ⟨c17b0, c17b1⟩ := bq5_ c17; clear c17; by_cases c18 : ((rd_T55 l0_2 x3_2).f2) > 100000
        ·rw [if_pos c18] at H; have c18b0 := dq_ c18; clear c18; obtain rfl := in_ H; obtain ⟨Z19_0, Z19_1, Z19_2, F19_0, F19_1, F19_2⟩ := bc3_ BK565; have p569 : 0 ≤ (x3_2 : Int) := od_; have q569 : x3_2 < (l0_2.length : Int) := od_; obtain ⟨ad569, e569, hx569_0, hx569_1, hx569_2, hx569_3, hx569_4⟩ := at_T55 HR0_2.1 x3_2 p569 q569
         cases e569
         (try replace hx569_0 := cb_ HB hx569_0)
         (try replace hx569_1 := cb_ HB hx569_1)
         (try replace hx569_2 := cb_ HB hx569_2)
         (try replace hx569_3 := cb_ HB hx569_3)
         (try replace hx569_4 := cb_ HB hx569_4)
         replace p569 := eq_true p569; replace q569 := eq_true q569; have p570 : 0 ≤ (0 : Int) := (by omega); have q570 : 0 < (l0_2.length : Int) := od_; obtain ⟨ad570, e570, hx570_0, hx570_1, hx570_2, hx570_3, hx570_4⟩ := at_T55 HR0_2.1 0 p570 q570; obtain rfl : ad569 = ad570 := (by injection e570); have qi570 : (0 < l0_2.length) = True := eq_true (by omega)
         (try rw [show ((0 : Int)).toNat = 0 from rfl] at hx570_0)
         (try rw [show 0 * 5 = 0 from rfl] at hx570_0)
         (try rw [Addr.add_zero'] at hx570_0)
         (try rw [show ((0 : Int)).toNat = 0 from rfl] at hx570_1)
         (try rw [show 0 * 5 = 0 from rfl] at hx570_1)
         (try rw [Addr.add_zero'] at hx570_1)
         (try rw [show ((0 : Int)).toNat = 0 from rfl] at hx570_2)
         (try rw [show 0 * 5 = 0 from rfl] at hx570_2)
         (try rw [Addr.add_zero'] at hx570_2)
         (try rw [show ((0 : Int)).toNat = 0 from rfl] at hx570_3)
         (try rw [show 0 * 5 = 0 from rfl] at hx570_3)
         (try rw [Addr.add_zero'] at hx570_3)
         (try rw [show ((0 : Int)).toNat = 0 from rfl] at hx570_4)
         (try rw [show 0 * 5 = 0 from rfl] at hx570_4)
         (try rw [Addr.add_zero'] at hx570_4)
         (try replace hx570_0 := cb_ HB hx570_0)
         (try replace hx570_1 := cb_ HB hx570_1)
         (try replace hx570_2 := cb_ HB hx570_2)
         (try replace hx570_3 := cb_ HB hx570_3)
         (try replace hx570_4 := cb_ HB hx570_4)
         replace p570 := eq_true p570; replace q570 := eq_true q570; have p571 : 0 ≤ (x3_2 : Int) := od_; have q571 : x3_2 < (l0_2.length : Int) := od_; obtain ⟨ad571, e571, hx571_0, hx571_1, hx571_2, hx571_3, hx571_4⟩ := at_T55 HR0_2.1 x3_2 p571 q571; obtain rfl : ad569 = ad571 := (by injection e571)
         (try replace hx571_0 := cb_ HB hx571_0)
         (try replace hx571_1 := cb_ HB hx571_1)
         (try replace hx571_2 := cb_ HB hx571_2)
         (try replace hx571_3 := cb_ HB hx571_3)
         (try replace hx571_4 := cb_ HB hx571_4)
         replace p571 := eq_true p571; replace q571 := eq_true q571
         go_wp2
         repeat (go_quiet (fail); try go_wp2)
         go_ret
         exact ⟨re_, hs_ HB GE565⟩
        ·rw [if_neg c18] at H; have c18b0 := df_ c18; clear c18; have H' := am_ H; clear H; obtain ⟨_, _, _, _, _, _⟩ := bc3_ BK565; have p569 : 0 ≤ (x3_2 : Int) := od_; have q569 : x3_2 < (l0_2.length : Int) := od_; obtain ⟨ad569, e569, hx569_0, hx569_1, hx569_2, hx569_3, hx569_4⟩ := at_T55 HR0_2.1 x3_2 p569 q569
         cases e569
         (try replace hx569_0 := cb_ HB hx569_0)
         (try replace hx569_1 := cb_ HB hx569_1)
         (try replace hx569_2 := cb_ HB hx569_2)
         (try replace hx569_3 := cb_ HB hx569_3)
         (try replace hx569_4 := cb_ HB hx569_4)
         replace p569 := eq_true p569; replace q569 := eq_true q569; have p570 : 0 ≤ (0 : Int) := (by omega); have q570 : 0 < (l0_2.length : Int) := od_; obtain ⟨ad570, e570, hx570_0, hx570_1, hx570_2, hx570_3, hx570_4⟩ := at_T55 HR0_2.1 0 p570 q570; obtain rfl : ad569 = ad570 := (by injection e570); have qi570 : (0 < l0_2.length) = True := eq_true (by omega)
         (try rw [show ((0 : Int)).toNat = 0 from rfl] at hx570_0)
         (try rw [show 0 * 5 = 0 from rfl] at hx570_0)
         (try rw [Addr.add_zero'] at hx570_0)
         (try rw [show ((0 : Int)).toNat = 0 from rfl] at hx570_1)
         (try rw [show 0 * 5 = 0 from rfl] at hx570_1)
         (try rw [Addr.add_zero'] at hx570_1)
         (try rw [show ((0 : Int)).toNat = 0 from rfl] at hx570_2)
         (try rw [show 0 * 5 = 0 from rfl] at hx570_2)
         (try rw [Addr.add_zero'] at hx570_2)
         (try rw [show ((0 : Int)).toNat = 0 from rfl] at hx570_3)
         (try rw [show 0 * 5 = 0 from rfl] at hx570_3)
         (try rw [Addr.add_zero'] at hx570_3)
         (try rw [show ((0 : Int)).toNat = 0 from rfl] at hx570_4)
         (try rw [show 0 * 5 = 0 from rfl] at hx570_4)
         (try rw [Addr.add_zero'] at hx570_4)
         (try replace hx570_0 := cb_ HB hx570_0)
         (try replace hx570_1 := cb_ HB hx570_1)
         (try replace hx570_2 := cb_ HB hx570_2)
         (try replace hx570_3 := cb_ HB hx570_3)
         (try replace hx570_4 := cb_ HB hx570_4)
         replace p570 := eq_true p570; replace q570 := eq_true q570; have p571 : 0 ≤ (x3_2 : Int) := od_; have q571 : x3_2 < (l0_2.length : Int) := od_; obtain ⟨ad571, e571, hx571_0, hx571_1, hx571_2, hx571_3, hx571_4⟩ := at_T55 HR0_2.1 x3_2 p571 q571; obtain rfl : ad569 = ad571 := (by injection e571)
         (try replace hx571_0 := cb_ HB hx571_0)
         (try replace hx571_1 := cb_ HB hx571_1)
         (try replace hx571_2 := cb_ HB hx571_2)
         (try replace hx571_3 := cb_ HB hx571_3)
         (try replace hx571_4 := cb_ HB hx571_4)
         replace p571 := eq_true p571; replace q571 := eq_true q571
         go_wp2
         repeat (go_quiet (fail); try go_wp2)
         go_roundg k2
         case measure => exact m2_ HJ1 HK2
         case rel => exact ⟨_, rs_, H', ⟨m2_ HJ1 HK2⟩, ⟨bk_ BK565⟩, ⟨hs_ HB GE565⟩⟩
       ·rw [if_neg c17] at H; have ⟨c17b0, c17b1⟩ := bq6_ c17; obtain rfl := in_ H; obtain ⟨_, _, _, _, _, _⟩ := bc3_ BK565; have p569 : 0 ≤ (x3_2 : Int) := od_; have q569 : x3_2 < (l0_2.length : Int) := od_; obtain ⟨ad569, e569, hx569_0, hx569_1, hx569_2, hx569_3, hx569_4⟩ := at_T55 HR0_2.1 x3_2 p569 q569
        cases e569
        (try replace hx569_0 := cb_ HB hx569_0)
        (try replace hx569_1 := cb_ HB hx569_1)
        (try replace hx569_2 := cb_ HB hx569_2)
        (try replace hx569_3 := cb_ HB hx569_3)
        (try replace hx569_4 := cb_ HB hx569_4)
        replace p569 := eq_true p569; replace q569 := eq_true q569; have p570 : 0 ≤ (0 : Int) := (by omega); have q570 : 0 < (l0_2.length : Int) := od_; obtain ⟨ad570, e570, hx570_0, hx570_1, hx570_2, hx570_3, hx570_4⟩ := at_T55 HR0_2.1 0 p570 q570; obtain rfl : ad569 = ad570 := (by injection e570); have qi570 : (0 < l0_2.length) = True := eq_true (by omega)
        (try rw [show ((0 : Int)).toNat = 0 from rfl] at hx570_0)
        (try rw [show 0 * 5 = 0 from rfl] at hx570_0)
        (try rw [Addr.add_zero'] at hx570_0)
        (try rw [show ((0 : Int)).toNat = 0 from rfl] at hx570_1)
        (try rw [show 0 * 5 = 0 from rfl] at hx570_1)
        (try rw [Addr.add_zero'] at hx570_1)
        (try rw [show ((0 : Int)).toNat = 0 from rfl] at hx570_2)
        (try rw [show 0 * 5 = 0 from rfl] at hx570_2)
        (try rw [Addr.add_zero'] at hx570_2)
        (try rw [show ((0 : Int)).toNat = 0 from rfl] at hx570_3)
        (try rw [show 0 * 5 = 0 from rfl] at hx570_3)
        (try rw [Addr.add_zero'] at hx570_3)
        (try rw [show ((0 : Int)).toNat = 0 from rfl] at hx570_4)
        (try rw [show 0 * 5 = 0 from rfl] at hx570_4)
        (try rw [Addr.add_zero'] at hx570_4)
        (try replace hx570_0 := cb_ HB hx570_0)
        (try replace hx570_1 := cb_ HB hx570_1)
        (try replace hx570_2 := cb_ HB hx570_2)
        (try replace hx570_3 := cb_ HB hx570_3)
        (try replace hx570_4 := cb_ HB hx570_4)
        replace p570 := eq_true p570; replace q570 := eq_true q570
        go_wp2
        repeat (go_quiet (fail); try go_wp2)
        go_ret
        exact ⟨re_, hs_ HB GE565⟩
      ·rw [if_neg c14] at H; have c14b0 := df_ c14; clear c14; obtain rfl := in_ H; obtain ⟨_, _, _, _, _, _⟩ := bc3_ BK565
       go_wp2
       repeat (go_quiet (fail); try go_wp2)
       go_ret
       exact ⟨re_, hs_ HB GE565⟩
def spec_ShowHint.l0 : Nat → ByteArray → Int → Int → Int → List (S55) → Option (ByteArray)
 | 0, _, _, _, _, _ => none
 | k + 1, x3, x4, x573000, x573001, x573002 => if x4 < (x573002.length : Int) then (if 0 ≤ x4 then ((spec_Var.f k (((rd_T55 x573002 x4).f0).size : Int)).bind fun t579 => (if x3.size + t579.size ≤ 9223372036854775807 then (if (x3 ++ t579).size + ((rd_T55 x573002 x4).f0).size ≤ 9223372036854775807 then ((spec_Var.f k ((rd_T55 x573002 x4).f1)).bind fun t580 => (if ((x3 ++ t579) ++ ((rd_T55 x573002 x4).f0)).size + t580.size ≤ 9223372036854775807 then ((spec_Var.f k ((rd_T55 x573002 x4).f2)).bind fun t581 => (if (((x3 ++ t579) ++ ((rd_T55 x573002 x4).f0)) ++ t580).size + t581.size ≤ 9223372036854775807 then ((spec_Var.f k ((rd_T55 x573002 x4).f3)).bind fun t582 => (if ((((x3 ++ t579) ++ ((rd_T55 x573002 x4).f0)) ++ t580) ++ t581).size + t582.size ≤ 9223372036854775807 then ((spec_Var.f k ((rd_T55 x573002 x4).f4)).bind fun t583 => (if (((((x3 ++ t579) ++ ((rd_T55 x573002 x4).f0)) ++ t580) ++ t581) ++ t582).size + t583.size ≤ 9223372036854775807 then (spec_ShowHint.l0 k ((((((x3 ++ t579) ++ ((rd_T55 x573002 x4).f0)) ++ t580) ++ t581) ++ t582) ++ t583) (wrap64 (x4 + 1)) x573000 x573001 x573002) else (none))) else (none))) else (none))) else (none))) else (none)) else (none))) else (none)) else ((spec_Crc.f k x3).bind fun t584 => ((spec_Fixed.f k t584 4).bind fun t585 => (if t585.size + x3.size ≤ 9223372036854775807 then (some (t585 ++ x3)) else (none))))
def spec_ShowHint.f (k : Nat) (a0_0 : Int) (a0_1 : Int) (l0_2 : List (S55)) : Option (ByteArray) := (spec_l10Ok.f k a0_0 a0_1 l0_2).bind fun t573 => (if t573 = true then ((spec_Var.f k a0_0).bind fun t574 => ((spec_Var.f k a0_1).bind fun t575 => (if t574.size + t575.size ≤ 9223372036854775807 then ((spec_Var.f k (l0_2.length : Int)).bind fun t576 => (if (t574 ++ t575).size + t576.size ≤ 9223372036854775807 then (spec_ShowHint.l0 k ((t574 ++ t575) ++ t576) 0 a0_0 a0_1 l0_2) else (none))) else (none)))) else (some (⟨#[]⟩ : ByteArray)))
def spec_ShowHint.T3 : Bool × List (List Nat × List Nat) := (true, [([], []), ([0], [0]), ([1], [1]), ([], []), ([3], [3]), ([4, 2], [4]), ([2, 5], [2, 5]), ([], []), ([7], [7]), ([8], [8]), ([9, 5], [9]), ([6, 10], [6, 10]), ([11, 10, 0, 1, 2, 3, 4, 5, 6, 7, 8, 9, 10, 11], [11])])
def spec_ShowHint.B3 : List Nat := [0, 1, 3, 0, 8, 31, 63, 0, 128, 384, 959, 2047, 4095]
theorem spec_ShowHint.tab3 : rtab .any (opsOf Try.f8 3) = spec_ShowHint.T3 := by kernel_rfl
theorem spec_ShowHint.bits3 : waitsOk spec_ShowHint.T3.2 spec_ShowHint.B3 = true := by kernel_rfl
def spec_ShowHint.T8 : Bool × List (List Nat × List Nat) := (true, [([], []), ([], []), ([1], [1]), ([2], [2]), ([3], [3]), ([0, 4], [0, 4]), ([], []), ([6], [6]), ([5, 7], [5, 7]), ([], []), ([9], [9]), ([10, 4], [10]), ([8, 11], [8, 11]), ([], []), ([13], [13]), ([14, 11], [14]), ([12, 15], [12, 15]), ([], []), ([17], [17]), ([18, 15], [18]), ([16, 19], [16, 19]), ([], []), ([21], [21]), ([22, 19], [22]), ([20, 23], [20, 23]), ([24, 23, 0, 1, 2, 3, 4, 5, 6, 7, 8, 9, 10, 11, 12, 13, 14, 15, 16, 17, 18, 19, 20, 21, 22, 23, 24], [0, 24])])
def spec_ShowHint.B8 : List Nat := [0, 0, 2, 6, 14, 31, 0, 64, 255, 0, 512, 1566, 4095, 0, 8192, 28190, 65535, 0, 131072, 454174, 1048575, 0, 2097152, 7269918, 16777215, 33554431]
theorem spec_ShowHint.tab8 : rtab .any (opsOf Try.f8 8) = spec_ShowHint.T8 := by kernel_rfl
theorem spec_ShowHint.bits8 : waitsOk spec_ShowHint.T8.2 spec_ShowHint.B8 = true := by kernel_rfl
theorem spec_ShowHint.calls {k : Nat} {a0_0 a0_1 : Int} {l0_2 : List (S55)} {r : ByteArray} {w : World} (A0_2 : Option Addr) (c0_2 : Nat) (h : spec_ShowHint.f k a0_0 a0_1 l0_2 = some r) (hr0_2 : Kd.C k55 w A0_2 l0_2.length l0_2 := by exact sr_) (hc0_2 : l0_2.length ≤ c0_2 := by exact sc_) :
  Calls Try.prog 8 #[.agg #[.int .i64 a0_0, .int .i64 a0_1, .slice A0_2 l0_2.length c0_2]] w fun e w' => e = .returned (.string r) ∧ Below w.heap.size w w' := by
 have hu26 := Try.underlying26; have hu55 := Try.underlying55; have HR0_2 := am_ hr0_2; have HC0_2 := am_ hc0_2; clear hr0_2 hc0_2; have HB := am_ (Below.refl w.heap.size w); unfold spec_ShowHint.f at h; have H := h; clear h; replace H := bnd_ H; obtain ⟨t573, A2, H⟩ := H; by_cases c3 : t573 = true
 ·subst c3; rw [if_pos rfl] at H; replace H := bnd_ H; obtain ⟨t574, A4, H⟩ := H; replace H := bnd_ H; obtain ⟨t575, A5, H⟩ := H; replace H := ih_ H; obtain ⟨c6, H⟩ := H; have ⟨c6b0, c6b1, c6b2⟩ := dl_ c6
  replace H := bnd_ H; obtain ⟨t576, A7, H⟩ := H; replace H := ih_ H; obtain ⟨c8, H⟩ := H; have ⟨c8b0, c8b1, c8b2⟩ := dl_ c8; (try have c8b3 := sp_ c8b2)
  have H' := am_ H; clear H
  go_enter Try.func8, Try.ntmps8
  try go_wp2_with (first | (refine gd_ 1 ?_; refine bx1_ 1 #[.int .i64 a0_0, .int .i64 a0_1, .slice A0_2 l0_2.length c0_2] 26 ?_; intro gb572 hg w9 hbox hb; have BK572 := am_ hbox; have GE572 := gx_ hg HB; replace HB := bx_ HB hb; clear hb hbox hg; obtain ⟨_, _, _, _, _, _⟩ := bc3_ BK572) | (refine gc_ 7 Try.func25 ?_; refine ch1_ (spec_l10Ok.calls A0_2 c0_2 A2.1) ?_; intro w11 hb; replace BK572 := bb_ BK572 hb; replace HB := bx_ HB hb; clear hb))
  replace BK572 := bd_ BK572; replace HB := hd_ HB; refine st1_ 13 spec_ShowHint.tab3 spec_ShowHint.bits3 (p3e_ BK572) (fun hHeld HT_ HW_ => ?_)
  generalize w11.drew = w12 at BK572 HB hHeld ⊢
  refine pr_ ?_; refine pv_' 3 12 (of_ 13 9) rfl rfl HT_ ?_; refine pv_' 7 16 (of_ 13 137) rfl rfl HT_ ?_; refine tk3_ 1 10 (of_ 13 139) hHeld ?_
  refine tk3_ 4 13 (of_ 13 155) hHeld ?_
  refine tk3_ 8 17 (of_ 13 411) hHeld ?_
  refine pv_' 9 18 (of_ 13 923) rfl rfl HT_ ?_; refine o1_ 2 (some 11) (of_ 13 927) fun K hK => ?_; refine go2_ Try.func26 (spec_Var.calls A4.1) ?_; intro w13 hb; replace BK572 := bb_ BK572 hb; replace HB := bx_ HB hb
  (try clear hb)
  (try clear hb2)
  (try clear hk)
  (try clear hi)
  refine hK.out _ _ (p3e_ BK572) (fun hHeld => ?_); clear hK K; refine nm_ ?_; refine o1_ 5 (some 14) (of_ 13 959) fun K hK => ?_; refine go2_ Try.func26 (spec_Var.calls A5.1) ?_; intro w14 hb; replace BK572 := bb_ BK572 hb; replace HB := bx_ HB hb
  (try clear hb)
  (try clear hb2)
  (try clear hk)
  (try clear hi)
  refine hK.out _ _ (p3e_ BK572) (fun hHeld => ?_); clear hK K; refine nm_ ?_; refine pq_ 6 15 10 3 ?_; refine o1_ 10 (some 19) (on_ 11 2) fun K hK => ?_; refine go2_ Try.func26 (spec_Var.calls A7.1) ?_; intro w15 hb; replace BK572 := bb_ BK572 hb; replace HB := bx_ HB hb
  (try clear hb)
  (try clear hb2)
  (try clear hk)
  (try clear hi)
  refine hK.out _ _ (p3e_ BK572) (fun hHeld => ?_); clear hK K; refine nm_ ?_; (iterate 2 refine pr_ ?_); refine dn_ ?_
  try go_wp2
  go_loopg [3, 4] k (fun kq v3 v4 w' => ∃ (x3_1 : ByteArray) (x4_1 : Int), v3 = .string x3_1 ∧ v4 = .int .i64 x4_1 ∧ Aside0 (spec_ShowHint.l0 kq x3_1 x4_1 a0_0 a0_1 l0_2 = some r) ∧ Aside0 (kq ≤ k) ∧ Aside0 (w'.heap[gb572]? = some (.cells #[.int .i64 a0_0, .int .i64 a0_1, (.slice A0_2 l0_2.length c0_2)] 26 (0, 0))) ∧ Aside0 (Below w.heap.size w w'))
  case atStart => exact ⟨_, _, rs_, rs_, H', ⟨Nat.le_refl _⟩, ⟨bk_ BK572⟩, ⟨hs_ HB GE572⟩⟩
  case round =>
   clear H'
   (try clear c3); (try clear c6); (try clear c6b0); (try clear c6b1); (try clear c6b2); (try clear c8); (try clear c8b0); (try clear c8b1); (try clear c8b2)
   obtain ⟨x3_1, x4_1, rfl, rfl, HA, HK1, BK572, HB⟩ := hrel
   cases gk with
   | zero => exact zz_ HA
   | succ k1 =>
    have H := HA.1; clear HA; simp only [spec_ShowHint.l0] at H; by_cases c16 : x4_1 < (l0_2.length : Int)
    ·rw [if_pos c16] at H; have c16b0 := dq_ c16; clear c16; replace H := ih_ H; obtain ⟨c17, H⟩ := H; have c17b0 := dq_ c17; clear c17; replace H := bnd_ H; obtain ⟨t579, A18, H⟩ := H; replace H := ih_ H; obtain ⟨c19, H⟩ := H; have ⟨c19b0, c19b1, c19b2⟩ := dl_ c19
     replace H := ih_ H; obtain ⟨c20, H⟩ := H; have ⟨c20b0, c20b1, c20b2⟩ := dl_ c20; (try have c20b3 := sp_ c20b2)
     replace H := bnd_ H; obtain ⟨t580, A21, H⟩ := H; replace H := ih_ H; obtain ⟨c22, H⟩ := H; have ⟨c22b0, c22b1, c22b2⟩ := dl_ c22; (try have c22b3 := sp_ c22b2)
     replace H := bnd_ H; obtain ⟨t581, A23, H⟩ := H; replace H := ih_ H; obtain ⟨c24, H⟩ := H; have ⟨c24b0, c24b1, c24b2⟩ := dl_ c24; (try have c24b3 := sp_ c24b2)
     replace H := bnd_ H; obtain ⟨t582, A25, H⟩ := H; replace H := ih_ H; obtain ⟨c26, H⟩ := H; have ⟨c26b0, c26b1, c26b2⟩ := dl_ c26; (try have c26b3 := sp_ c26b2)
     replace H := bnd_ H; obtain ⟨t583, A27, H⟩ := H; replace H := ih_ H; obtain ⟨c28, H⟩ := H; have ⟨c28b0, c28b1, c28b2⟩ := dl_ c28; (try have c28b3 := sp_ c28b2)
     have H' := am_ H; clear H; obtain ⟨_, _, _, _, _, _⟩ := bc3_ BK572; have p577 : 0 ≤ (x4_1 : Int) := od_; have q577 : x4_1 < (l0_2.length : Int) := od_; obtain ⟨ad577, e577, hx577_0, hx577_1, hx577_2, hx577_3, hx577_4⟩ := at_T55 HR0_2.1 x4_1 p577 q577
     cases e577
     (try replace hx577_0 := cb_ HB hx577_0)
     (try replace hx577_1 := cb_ HB hx577_1)
     (try replace hx577_2 := cb_ HB hx577_2)
     (try replace hx577_3 := cb_ HB hx577_3)
     (try replace hx577_4 := cb_ HB hx577_4)
     replace p577 := eq_true p577; replace q577 := eq_true q577
     try go_wp2_with (refine gd_ 5 ?_; refine bx1_ 5 #[.string (⟨#[]⟩ : ByteArray), .int .i64 0, .int .i64 0, .int .i64 0, .int .i64 0] 55 ?_; intro gb578 hg w30 hbox hb; have BK578 := am_ hbox; have GE578 := gx_ hg HB; replace HB := bx_ HB hb; have ⟨NB572_578, NB578_572⟩ := nn_ BK572 hg; replace BK572 := bb_ BK572 hb; clear hb hbox hg; have := NB578_572.1; have := NB572_578.1; obtain ⟨_, _, _, _, _, _, _, _, _, _⟩ := bc5_ BK578)
     generalize hW_ : (((((w30.setCell ⟨gb578, 0, none⟩ (.string ((rd_T55 l0_2 x4_1).f0))).setCell ⟨gb578, 1, none⟩ (.int .i64 ((rd_T55 l0_2 x4_1).f1))).setCell ⟨gb578, 2, none⟩ (.int .i64 ((rd_T55 l0_2 x4_1).f2))).setCell ⟨gb578, 3, none⟩ (.int .i64 ((rd_T55 l0_2 x4_1).f3))).setCell ⟨gb578, 4, none⟩ (.int .i64 ((rd_T55 l0_2 x4_1).f4))) = w33
     replace BK572 := uf_ BK572 NB572_578 hW_; replace BK578 := up_ #[.string ((rd_T55 l0_2 x4_1).f0), .int .i64 ((rd_T55 l0_2 x4_1).f1), .int .i64 ((rd_T55 l0_2 x4_1).f2), .int .i64 ((rd_T55 l0_2 x4_1).f3), .int .i64 ((rd_T55 l0_2 x4_1).f4)] BK578 hW_; replace HB := us_ hW_ (hu_ HB GE572 GE578); clear hW_; replace BK572 := bd_ BK572; replace BK578 := bd_ BK578; replace HB := hd_ HB; refine st1_ 26 spec_ShowHint.tab8 spec_ShowHint.bits8 (p5e_ BK578) (fun hHeld HT_ HW_ => ?_)
     generalize w33.drew = w34 at BK572 BK578 HB hHeld ⊢
     (iterate 2 refine pr_ ?_); refine pv_' 6 39 (of_ 26 67) rfl rfl HT_ ?_; refine pv_' 9 42 (of_ 26 579) rfl rfl HT_ ?_; refine pv_' 13 46 (of_ 26 8771) rfl rfl HT_ ?_; refine pv_' 17 50 (of_ 26 139843) rfl rfl HT_ ?_; refine pv_' 21 54 (of_ 26 2236995) rfl rfl HT_ ?_; refine tk5_ 2 35 (of_ 26 2236999) hHeld ?_
     refine pv_' 3 36 (of_ 26 2237007) rfl rfl HT_ ?_; refine tk5_ 7 40 (of_ 26 2237135) hHeld ?_
     refine tk5_ 10 43 (of_ 26 2238159) hHeld ?_
     refine tk5_ 14 47 (of_ 26 2254543) hHeld ?_
     refine tk5_ 18 51 (of_ 26 2516687) hHeld ?_
     refine tk5_ 22 55 (of_ 26 6710991) hHeld ?_
     refine o1_ 4 (some 37) (of_ 26 6711007) fun K hK => ?_; refine go2_ Try.func26 (spec_Var.calls A18.1) ?_; intro w35 hb; replace BK572 := bb_ BK572 hb; replace BK578 := bb_ BK578 hb; replace HB := bx_ HB hb
     (try clear hb)
     (try clear hb2)
     (try clear hk)
     (try clear hi)
     refine hK.out _ _ (p5e_ BK578) (fun hHeld => ?_); clear hK K; refine nm_ ?_; refine pv_' 5 38 (of_ 26 6711039) rfl rfl HT_ ?_; refine pv_' 8 41 (of_ 26 6711295) rfl rfl HT_ ?_; refine o1_ 11 (some 44) (of_ 26 6713343) fun K hK => ?_; refine go2_ Try.func26 (spec_Var.calls A21.1) ?_; intro w36 hb; replace BK572 := bb_ BK572 hb; replace BK578 := bb_ BK578 hb; replace HB := bx_ HB hb
     (try clear hb)
     (try clear hb2)
     (try clear hk)
     (try clear hi)
     refine hK.out _ _ (p5e_ BK578) (fun hHeld => ?_); clear hK K; refine nm_ ?_; refine pv_' 12 45 (of_ 26 6717439) rfl rfl HT_ ?_; refine o1_ 15 (some 48) (of_ 26 6750207) fun K hK => ?_; refine go2_ Try.func26 (spec_Var.calls A23.1) ?_; intro w37 hb; replace BK572 := bb_ BK572 hb; replace BK578 := bb_ BK578 hb; replace HB := bx_ HB hb
     (try clear hb)
     (try clear hb2)
     (try clear hk)
     (try clear hi)
     refine hK.out _ _ (p5e_ BK578) (fun hHeld => ?_); clear hK K; refine nm_ ?_; refine pv_' 16 49 (of_ 26 6815743) rfl rfl HT_ ?_; refine o1_ 19 (some 52) (of_ 26 7340031) fun K hK => ?_; refine go2_ Try.func26 (spec_Var.calls A25.1) ?_; intro w38 hb; replace BK572 := bb_ BK572 hb; replace BK578 := bb_ BK578 hb; replace HB := bx_ HB hb
     (try clear hb)
     (try clear hb2)
     (try clear hk)
     (try clear hi)
     refine hK.out _ _ (p5e_ BK578) (fun hHeld => ?_); clear hK K; refine nm_ ?_; refine pq_ 20 53 23 3 ?_; refine o1_ 23 (some 56) (on_ 24 2) fun K hK => ?_; refine go2_ Try.func26 (spec_Var.calls A27.1) ?_; intro w39 hb; replace BK572 := bb_ BK572 hb; replace BK578 := bb_ BK578 hb; replace HB := bx_ HB hb
     (try clear hb)
     (try clear hb2)
     (try clear hk)
     (try clear hi)
     refine hK.out _ _ (p5e_ BK578) (fun hHeld => ?_); clear hK K; refine nm_ ?_; (iterate 2 refine pr_ ?_); refine dn_ ?_
     try go_wp2
     go_roundg k1
     case measure => exact m1_ HK1
     case rel => exact ⟨_, _, rs_, rs_, H', ⟨m1_ HK1⟩, ⟨bk_ BK572⟩, ⟨hz_ HB⟩⟩
    ·rw [if_neg c16] at H; have c16b0 := df_ c16; clear c16; replace H := bnd_ H; obtain ⟨t584, A40, H⟩ := H; replace H := bnd_ H; obtain ⟨t585, A41, H⟩ := H; replace H := ih_ H; obtain ⟨c42, H⟩ := H; have ⟨c42b0, c42b1, c42b2⟩ := dl_ c42
     obtain rfl := in_ H; obtain ⟨_, _, _, _, _, _⟩ := bc3_ BK572
     go_wp2_with (first | (refine gc_ 59 Try.func28 ?_; refine ch1_ (spec_Crc.calls A40.1) ?_; rintro w' ⟨nd, rfl⟩) | (refine gc_ 60 Try.func27 ?_; refine ch1_ (spec_Fixed.calls A41.1) ?_; intro w44 hb; replace BK572 := bb_ BK572 hb; replace HB := bx_ HB hb; clear hb))
     go_ret
     exact ⟨re_, hs_ HB GE572⟩
 ·replace c3 := bF_ c3; subst c3; rw [if_neg ff_] at H; obtain rfl := in_ H
  go_enter Try.func8, Try.ntmps8
  go_wp2_with (first | (refine gd_ 1 ?_; refine bx1_ 1 #[.int .i64 a0_0, .int .i64 a0_1, .slice A0_2 l0_2.length c0_2] 26 ?_; intro gb572 hg w45 hbox hb; have BK572 := am_ hbox; have GE572 := gx_ hg HB; replace HB := bx_ HB hb; clear hb hbox hg; obtain ⟨_, _, _, _, _, _⟩ := bc3_ BK572) | (refine gc_ 7 Try.func25 ?_; refine ch1_ (spec_l10Ok.calls A0_2 c0_2 A2.1) ?_; intro w47 hb; replace BK572 := bb_ BK572 hb; replace HB := bx_ HB hb; clear hb))
  go_ret
  exact ⟨re_, hs_ HB GE572⟩
end Go.Proofs.Ytohfcgdodgdiiaa.PFnHints
