import Derived.Test.YtohfcgdodgdiiaaPFnHintsx15
namespace Go.Proofs.Ytohfcgdodgdiiaa.PFnHints
open Go.RowKit Go.Proofs.YtohfcgdodgdiiaaW.PrintWords Go.Proofs.YtohfcgdodgdiiaaW.PrintLast Go.Proofs.YtohfcgdodgdiiaaW.PrintMore
attribute [local go_sem] max2_int min2_int max_two min_two max_three min_three max_four min_four
set_option linter.unusedVariables false
set_option linter.unusedSimpArgs false
set_option maxHeartbeats 80000000
set_option maxRecDepth 100000
section
attribute [local go_sem] bl_leqq13463 bl_gtrq13463 bl_geqq13463
mutual
def impl_DirOk.l0 : Nat → List (S55) → List (S55) → Int → Int → Option (Bool)
 | 0, _, _, _, _ => none
 | k + 1, x0, x5, x6, x7 => if x7 < x6 then (if 0 ≤ x7 then (if x7 < (x5.length : Int) then ((impl_KeyOk.f ((rd_T55 x5 x7).f0)).bind fun t472 => (if t472 = true then ((impl_in.f ((rd_T55 x5 x7).f1) 1 100000).bind fun t473 => (if t473 = true then (if ((rd_T55 x5 x7).f2) < 0 then (impl_DirOk.j1 k x0 x5 x6 x7 true) else ((impl_in.f ((rd_T55 x5 x7).f3) 1 210).bind fun t474 => (if t474 = true then ((impl_in.f ((rd_T55 x5 x7).f4) 1 1000000).bind fun t475 => (if t475 = true then (if x7 > 0 then (if 0 ≤ (wrap64 (x7 - 1)) then (if (wrap64 (x7 - 1)) < (x0.length : Int) then (impl_DirOk.j1 k x0 x5 x6 x7 (!(Op.bytesLess (((rd_T55 x0 (wrap64 (x7 - 1))).f0).toList) (((rd_T55 x5 x7).f0).toList)))) else (none)) else (none)) else (impl_DirOk.j1 k x0 x5 x6 x7 false)) else (impl_DirOk.j1 k x0 x5 x6 x7 true))) else (impl_DirOk.j1 k x0 x5 x6 x7 true)))) else (impl_DirOk.j1 k x0 x5 x6 x7 true))) else (impl_DirOk.j1 k x0 x5 x6 x7 true))) else (none)) else (none)) else (some (decide ((x0.length : Int) ≤ 20)))
def impl_DirOk.j1 : Nat → List (S55) → List (S55) → Int → Int → Bool → Option (Bool)
 | 0, _, _, _, _, _ => none
 | k + 1, x0, x5, x6, x7, x53 => if x53 = true then (some false) else (impl_DirOk.l0 k x0 x5 x6 (wrap64 (x7 + 1)))
end
def impl_DirOk.f (k : Nat) (l0 : List (S55)) : Option (Bool) := impl_DirOk.l0 k l0 l0 (l0.length : Int) 0
def impl_DirOk.T4 : Bool × List (List Nat × List Nat) := (true, [([], []), ([0], [0]), ([1], [1]), ([2], [2]), ([3, 2], [3]), ([4], [4]), ([5, 4], [4, 5]), ([6, 4, 4], [4, 6]), ([7, 4], [4, 7]), ([4, 8], [4, 8]), ([9, 7], [9]), ([10], [10]), ([11, 10], [10, 11]), ([12, 10], [10, 12]), ([10, 13], [10, 13]), ([14, 10], [14]), ([15], [15]), ([16, 15], [15, 16]), ([17, 15, 15], [15, 17]), ([18, 15], [15, 18]), ([15, 19], [15, 19]), ([20, 18], [20]), ([21], [21]), ([22, 21], [21, 22]), ([23, 21, 21], [21, 23]), ([24, 21], [21, 24]), ([21, 25], [21, 25]), ([26, 24], [26]), ([27], [27]), ([28, 27], [27, 28]), ([29, 27, 27], [27, 29]), ([30], [30]), ([30], [30]), ([32, 30], [30, 32]), ([31, 33, 30], [30, 31, 33]), ([34, 30], [30, 34]), ([35, 30], [30, 35]), ([30], [30]), ([37, 30], [30, 37]), ([36, 38, 30], [30, 36, 38]), ([30, 39, 27], [27, 30, 39]), ([27, 40], [27, 40])])
def impl_DirOk.B4 : List Nat := [0, 1, 3, 7, 15, 31, 63, 127, 255, 511, 1023, 2047, 4095, 8191, 16383, 32767, 65535, 131071, 262143, 524287, 1048575, 2097151, 4194303, 8388607, 16777215, 33554431, 67108863, 134217727, 268435455, 536870911, 1073741823, 2147483647, 2147483647, 6442450943, 17179869183, 34359738367, 68719476735, 2147483647, 139586437119, 549755813887, 1099511627775, 2199023255551]
theorem impl_DirOk.tab4 : rtab .any (opsOf Try.f47 4) = impl_DirOk.T4 := by kernel_rfl
theorem impl_DirOk.bits4 : waitsOk impl_DirOk.T4.2 impl_DirOk.B4 = true := by kernel_rfl
theorem impl_DirOk.calls {k : Nat} {l0 : List (S55)} {r : Bool} {w : World} (A0 : Option Addr) (c0 : Nat) (h : impl_DirOk.f k l0 = some r) (hr0 : Kd.C k55 w A0 l0.length l0 := by exact sr_) (hc0 : l0.length ≤ c0 := by exact sc_) :
  Calls Try.prog 47 #[.slice A0 l0.length c0] w fun e w' => e = .returned (.bool r) ∧ Below w.heap.size w w' := by
 have hu55 := Try.underlying55; have HR0 := am_ hr0; have HC0 := am_ hc0; clear hr0 hc0; have HB := am_ (Below.refl w.heap.size w); unfold impl_DirOk.f at h; have H := h; clear h; have H' := am_ H; clear H
 go_enter Try.func47, Try.ntmps47
 go_wp2
 go_loopg [7] k (fun kq v7 w' => ∃ (x7_1 : Int), v7 = .int .i64 x7_1 ∧ Aside0 (impl_DirOk.l0 kq l0 l0 (l0.length : Int) x7_1 = some r) ∧ Aside0 (kq ≤ k) ∧ Aside0 (Below w.heap.size w w'))
 case atStart => exact ⟨_, rs_, H', ⟨Nat.le_refl _⟩, ⟨hb_ HB⟩⟩
 case round =>
  clear H'; obtain ⟨x7_1, rfl, HA, HK1, HB⟩ := hrel
  cases gk with
  | zero => exact zz_ HA
  | succ k1 =>
   have H := HA.1; clear HA; simp only [impl_DirOk.l0] at H; by_cases c2 : x7_1 < (l0.length : Int)
   ·rw [if_pos c2] at H; have c2b0 := dq_ c2; clear c2; replace H := ih_ H; obtain ⟨c3, H⟩ := H; have c3b0 := dq_ c3; clear c3; replace H := ih_ H; obtain ⟨c4, H⟩ := H; have c4b0 := dq_ c4; clear c4; have HC5 := am_ H; clear H; have p470 : 0 ≤ (x7_1 : Int) := od_; have q470 : x7_1 < (l0.length : Int) := od_; obtain ⟨ad470, e470, hx470_0, hx470_1, hx470_2, hx470_3, hx470_4⟩ := at_T55 HR0.1 x7_1 p470 q470
    cases e470
    (try replace hx470_0 := cb_ HB hx470_0)
    (try replace hx470_1 := cb_ HB hx470_1)
    (try replace hx470_2 := cb_ HB hx470_2)
    (try replace hx470_3 := cb_ HB hx470_3)
    (try replace hx470_4 := cb_ HB hx470_4)
    replace p470 := eq_true p470; replace q470 := eq_true q470
    go_upto_region 4 with ((with_reducible refine gd_ 4 ?_); refine bx1_ 4 #[.string (⟨#[]⟩ : ByteArray), .int .i64 0, .int .i64 0, .int .i64 0, .int .i64 0] 55 ?_; intro gb471 hg w6 hbox hb; have BK471 := am_ hbox; have GE471 := gx_ hg HB; replace HB := bx_ HB hb; (try replace hx470_0 := cx_ hb hx470_0); (try replace hx470_1 := cx_ hb hx470_1); (try replace hx470_2 := cx_ hb hx470_2); (try replace hx470_3 := cx_ hb hx470_3); (try replace hx470_4 := cx_ hb hx470_4); clear hb hbox hg; obtain ⟨_, _, _, _, _, _, _, _, _, _⟩ := bc5_ BK471)
    (try simp only [Act.put, la_, lz_, ls_])
    go_cut [53] (fun v53 wc => ∃ (kq : Nat) (x53_4 : Bool), v53 = .bool x53_4 ∧ Aside0 (impl_DirOk.j1 kq l0 l0 (l0.length : Int) x7_1 x53_4 = some r) ∧ Aside0 (kq ≤ k1) ∧ Aside0 (wc.heap[gb471]? = some (.cells #[.string ((rd_T55 l0 x7_1).f0), .int .i64 ((rd_T55 l0 x7_1).f1), .int .i64 ((rd_T55 l0 x7_1).f2), .int .i64 ((rd_T55 l0 x7_1).f3), .int .i64 ((rd_T55 l0 x7_1).f4)] 55 (0, 0))) ∧ Aside0 (Below w.heap.size w wc))
    case first =>
     have H := HC5.1; clear HC5; replace H := bnd_ H; obtain ⟨t472, A8, H⟩ := H; by_cases c9 : t472 = true
     ·subst c9; rw [if_pos rfl] at H; replace H := bnd_ H; obtain ⟨t473, A10, H⟩ := H; by_cases c11 : t473 = true
      ·subst c11; rw [if_pos rfl] at H; by_cases c12 : ((rd_T55 l0 x7_1).f2) < 0
       ·rw [if_pos c12] at H; have c12b0 := dq_ c12; clear c12
        (first | rw [c12b0] | (simp only [i64_w, i32_w]; rw [c12b0]) | skip)
        have H' := am_ H; clear H
        try go_wp2
        generalize hW_ : (((((w6.setCell ⟨gb471, 0, none⟩ (.string ((rd_T55 l0 x7_1).f0))).setCell ⟨gb471, 1, none⟩ (.int .i64 ((rd_T55 l0 x7_1).f1))).setCell ⟨gb471, 2, none⟩ (.int .i64 ((rd_T55 l0 x7_1).f2))).setCell ⟨gb471, 3, none⟩ (.int .i64 ((rd_T55 l0 x7_1).f3))).setCell ⟨gb471, 4, none⟩ (.int .i64 ((rd_T55 l0 x7_1).f4))) = w13
        replace BK471 := up_ #[.string ((rd_T55 l0 x7_1).f0), .int .i64 ((rd_T55 l0 x7_1).f1), .int .i64 ((rd_T55 l0 x7_1).f2), .int .i64 ((rd_T55 l0 x7_1).f3), .int .i64 ((rd_T55 l0 x7_1).f4)] BK471 hW_; replace HB := us_ hW_ (hs_ HB GE471); clear hW_; replace BK471 := bd_ BK471; replace HB := hd_ HB; refine st1_ 42 impl_DirOk.tab4 impl_DirOk.bits4 (p5e_ BK471) (fun hHeld HT_ HW_ => ?_)
        generalize w13.drew = w14 at BK471 HB hHeld ⊢
        refine pr_ ?_; refine tk5_ 1 13 (on_ 2 40) hHeld ?_
        refine o1_ 2 (some 14) (on_ 3 39) fun K hK => ?_; refine go2_ Try.func72 (impl_KeyOk.calls A8.1) ?_; rintro w' ⟨nd, rfl⟩; refine hK.out _ _ (p5e_ BK471) (fun hHeld => ?_); clear hK K; refine nm_ ?_; (iterate 3 refine pr_ ?_); refine tk5_ 6 18 (on_ 7 35) hHeld ?_
        refine o1_ 7 (some 19) (on_ 8 34) fun K hK => ?_; refine go2_ Try.func34 (impl_in.calls A10.1) ?_; rintro w' ⟨nd, rfl⟩; refine hK.out _ _ (p5e_ BK471) (fun hHeld => ?_); clear hK K; refine nm_ ?_; (iterate 4 refine pr_ ?_); refine tk5_ 12 24 (on_ 13 29) hHeld ?_
        (iterate 3 refine pr_ ?_); (iterate 4 refine pt_ ?_); (iterate 2 refine pr_ ?_); (iterate 4 refine pt_ ?_); (iterate 2 refine pr_ ?_); (iterate 13 refine pt_ ?_); refine pr_ ?_; refine dn_ ?_
        try go_wp2
        go_meet
        case rel => exact ⟨_, _, rs_, H', ⟨m1_ HK1⟩, ⟨bk_ BK471⟩, ⟨hs_ HB GE471⟩⟩
       ·rw [if_neg c12] at H; have c12b0 := df_ c12; clear c12
        (first | rw [c12b0] | (simp only [i64_w, i32_w]; rw [c12b0]) | skip)
        replace H := bnd_ H; obtain ⟨t474, A15, H⟩ := H; by_cases c16 : t474 = true
        ·subst c16; rw [if_pos rfl] at H; replace H := bnd_ H; obtain ⟨t475, A17, H⟩ := H; by_cases c18 : t475 = true
         ·subst c18; rw [if_pos rfl] at H; by_cases c19 : x7_1 > 0
          ·rw [if_pos c19] at H; have c19b0 := dq_ c19; clear c19; obtain ⟨ji20, hji20⟩ : ∃ j_ : Int, (wrap64 (x7_1 - 1)) = j_ := ⟨_, rfl⟩
           (first | rw [hji20] at H | simp only [hji20] at H)
           (try rw [hji20] at A8)
           (try rw [hji20] at A10)
           (try rw [hji20] at A15)
           (try rw [hji20] at A17)
           have hji20w : (IntKind.i64.wrap (x7_1 - 1)) = ji20 := (i64_w _).trans hji20; replace H := ih_ H; obtain ⟨c21, H⟩ := H; have c21b0 := dq_ c21; clear c21; replace H := ih_ H; obtain ⟨c22, H⟩ := H; have c22b0 := dq_ c22; clear c22; have H' := am_ H; clear H
           try go_wp2
           generalize hW_ : (((((w6.setCell ⟨gb471, 0, none⟩ (.string ((rd_T55 l0 x7_1).f0))).setCell ⟨gb471, 1, none⟩ (.int .i64 ((rd_T55 l0 x7_1).f1))).setCell ⟨gb471, 2, none⟩ (.int .i64 ((rd_T55 l0 x7_1).f2))).setCell ⟨gb471, 3, none⟩ (.int .i64 ((rd_T55 l0 x7_1).f3))).setCell ⟨gb471, 4, none⟩ (.int .i64 ((rd_T55 l0 x7_1).f4))) = w23
           replace BK471 := up_ #[.string ((rd_T55 l0 x7_1).f0), .int .i64 ((rd_T55 l0 x7_1).f1), .int .i64 ((rd_T55 l0 x7_1).f2), .int .i64 ((rd_T55 l0 x7_1).f3), .int .i64 ((rd_T55 l0 x7_1).f4)] BK471 hW_; replace HB := us_ hW_ (hs_ HB GE471); clear hW_; replace BK471 := bd_ BK471; replace HB := hd_ HB; have p476 : 0 ≤ ((ji20) : Int) := od_; have q476 : (ji20) < (l0.length : Int) := od_; obtain ⟨ad476, e476, hx476_0, hx476_1, hx476_2, hx476_3, hx476_4⟩ := at_T55 HR0.1 (ji20) p476 q476; have hw476_4 := hx476_4; have hw476_3 := hx476_3; have hw476_2 := hx476_2; have hw476_1 := hx476_1; have hw476_0 := hx476_0; obtain rfl : ad470 = ad476 := (by injection e476)
           (try replace hx476_0 := cb_ HB hx476_0)
           (try replace hx476_1 := cb_ HB hx476_1)
           (try replace hx476_2 := cb_ HB hx476_2)
           (try replace hx476_3 := cb_ HB hx476_3)
           (try replace hx476_4 := cb_ HB hx476_4)
           replace p476 := eq_true p476; replace q476 := eq_true q476; refine st1_ 42 impl_DirOk.tab4 impl_DirOk.bits4 (p5_ BK471 (q5e_ (cb_ HB hw476_0 :) (cb_ HB hw476_1 :) (cb_ HB hw476_2 :) (cb_ HB hw476_3 :) (cb_ HB hw476_4 :))) (fun hHeld HT_ HW_ => ?_)
           generalize w23.drew = w24 at BK471 HB hx476_0 hx476_1 hx476_2 hx476_3 hx476_4 hHeld ⊢
           refine pr_ ?_; refine tk10_ 1 13 (on_ 2 40) hHeld ?_
           refine o1_ 2 (some 14) (on_ 3 39) fun K hK => ?_; refine go2_ Try.func72 (impl_KeyOk.calls A8.1) ?_; rintro w' ⟨nd, rfl⟩; refine hK.out _ _ (p5_ BK471 (q5e_ (cb_ HB hw476_0 :) (cb_ HB hw476_1 :) (cb_ HB hw476_2 :) (cb_ HB hw476_3 :) (cb_ HB hw476_4 :))) (fun hHeld => ?_); clear hK K; refine nm_ ?_; (iterate 3 refine pr_ ?_); refine tk10_ 6 18 (on_ 7 35) hHeld ?_
           refine o1_ 7 (some 19) (on_ 8 34) fun K hK => ?_; refine go2_ Try.func34 (impl_in.calls A10.1) ?_; rintro w' ⟨nd, rfl⟩; refine hK.out _ _ (p5_ BK471 (q5e_ (cb_ HB hw476_0 :) (cb_ HB hw476_1 :) (cb_ HB hw476_2 :) (cb_ HB hw476_3 :) (cb_ HB hw476_4 :))) (fun hHeld => ?_); clear hK K; refine nm_ ?_; (iterate 4 refine pr_ ?_); refine tk10_ 12 24 (on_ 13 29) hHeld ?_
           (iterate 4 refine pr_ ?_); refine tk10_ 17 29 (on_ 18 24) hHeld ?_
           refine o1_ 18 (some 30) (on_ 19 23) fun K hK => ?_; refine go2_ Try.func34 (impl_in.calls A15.1) ?_; rintro w' ⟨nd, rfl⟩; refine hK.out _ _ (p5_ BK471 (q5e_ (cb_ HB hw476_0 :) (cb_ HB hw476_1 :) (cb_ HB hw476_2 :) (cb_ HB hw476_3 :) (cb_ HB hw476_4 :))) (fun hHeld => ?_); clear hK K; refine nm_ ?_; (iterate 4 refine pr_ ?_); refine tk10_ 23 35 (on_ 24 18) hHeld ?_
           refine o1_ 24 (some 36) (on_ 25 17) fun K hK => ?_; refine go2_ Try.func34 (impl_in.calls A17.1) ?_; rintro w' ⟨nd, rfl⟩; refine hK.out _ _ (p5_ BK471 (q5e_ (cb_ HB hw476_0 :) (cb_ HB hw476_1 :) (cb_ HB hw476_2 :) (cb_ HB hw476_3 :) (cb_ HB hw476_4 :))) (fun hHeld => ?_); clear hK K; refine nm_ ?_; (iterate 11 refine pr_ ?_); refine pv_' 37 49 (of_ 42 206158430207) rfl rfl HT_ ?_; refine tk10_ 36 48 (on_ 38 4) hHeld ?_
           refine tk10_ 38 50 (on_ 39 3) hHeld ?_
           (iterate 3 refine pr_ ?_); refine dn_ ?_; have Nji20_ := am_ hji20; clear hji20
           (try clear hji20w)
           try go_wp2
           have hji20 := Nji20_.1; clear Nji20_
           (try have hji20w := (i64_w _).trans hji20)
           go_meet
           case rel => exact ⟨_, (!(Op.bytesLess (((rd_T55 l0 (ji20)).f0).toList) (((rd_T55 l0 x7_1).f0).toList))), (by first | rfl | (simp; done) | (simp only [← hji20] <;> (first | rfl | simp)) | (simp [*]; done)), (by first | exact H' | (simp only [hji20]; exact H')), ⟨m1_ HK1⟩, ⟨bk_ BK471⟩, ⟨hs_ HB GE471⟩⟩
          ·rw [if_neg c19] at H; have c19b0 := df_ c19; clear c19; have H' := am_ H; clear H
           try go_wp2
           generalize hW_ : (((((w6.setCell ⟨gb471, 0, none⟩ (.string ((rd_T55 l0 x7_1).f0))).setCell ⟨gb471, 1, none⟩ (.int .i64 ((rd_T55 l0 x7_1).f1))).setCell ⟨gb471, 2, none⟩ (.int .i64 ((rd_T55 l0 x7_1).f2))).setCell ⟨gb471, 3, none⟩ (.int .i64 ((rd_T55 l0 x7_1).f3))).setCell ⟨gb471, 4, none⟩ (.int .i64 ((rd_T55 l0 x7_1).f4))) = w25
           replace BK471 := up_ #[.string ((rd_T55 l0 x7_1).f0), .int .i64 ((rd_T55 l0 x7_1).f1), .int .i64 ((rd_T55 l0 x7_1).f2), .int .i64 ((rd_T55 l0 x7_1).f3), .int .i64 ((rd_T55 l0 x7_1).f4)] BK471 hW_; replace HB := us_ hW_ (hs_ HB GE471); clear hW_; replace BK471 := bd_ BK471; replace HB := hd_ HB; refine st1_ 42 impl_DirOk.tab4 impl_DirOk.bits4 (p5e_ BK471) (fun hHeld HT_ HW_ => ?_)
           generalize w25.drew = w26 at BK471 HB hHeld ⊢
           refine pr_ ?_; refine tk5_ 1 13 (on_ 2 40) hHeld ?_
           refine o1_ 2 (some 14) (on_ 3 39) fun K hK => ?_; refine go2_ Try.func72 (impl_KeyOk.calls A8.1) ?_; rintro w' ⟨nd, rfl⟩; refine hK.out _ _ (p5e_ BK471) (fun hHeld => ?_); clear hK K; refine nm_ ?_; (iterate 3 refine pr_ ?_); refine tk5_ 6 18 (on_ 7 35) hHeld ?_
           refine o1_ 7 (some 19) (on_ 8 34) fun K hK => ?_; refine go2_ Try.func34 (impl_in.calls A10.1) ?_; rintro w' ⟨nd, rfl⟩; refine hK.out _ _ (p5e_ BK471) (fun hHeld => ?_); clear hK K; refine nm_ ?_; (iterate 4 refine pr_ ?_); refine tk5_ 12 24 (on_ 13 29) hHeld ?_
           (iterate 4 refine pr_ ?_); refine tk5_ 17 29 (on_ 18 24) hHeld ?_
           refine o1_ 18 (some 30) (on_ 19 23) fun K hK => ?_; refine go2_ Try.func34 (impl_in.calls A15.1) ?_; rintro w' ⟨nd, rfl⟩; refine hK.out _ _ (p5e_ BK471) (fun hHeld => ?_); clear hK K; refine nm_ ?_; (iterate 4 refine pr_ ?_); refine tk5_ 23 35 (on_ 24 18) hHeld ?_
           refine o1_ 24 (some 36) (on_ 25 17) fun K hK => ?_; refine go2_ Try.func34 (impl_in.calls A17.1) ?_; rintro w' ⟨nd, rfl⟩; refine hK.out _ _ (p5e_ BK471) (fun hHeld => ?_); clear hK K; refine nm_ ?_; (iterate 6 refine pr_ ?_); (iterate 9 refine pt_ ?_); (iterate 2 refine pr_ ?_); refine dn_ ?_
           try go_wp2
           go_meet
           case rel => exact ⟨_, (false), rs_, (by first | exact H' | (simp only [hji20]; exact H')), ⟨m1_ HK1⟩, ⟨bk_ BK471⟩, ⟨hs_ HB GE471⟩⟩
         ·replace c18 := bF_ c18; subst c18; rw [if_neg ff_] at H; have H' := am_ H; clear H
          try go_wp2
          generalize hW_ : (((((w6.setCell ⟨gb471, 0, none⟩ (.string ((rd_T55 l0 x7_1).f0))).setCell ⟨gb471, 1, none⟩ (.int .i64 ((rd_T55 l0 x7_1).f1))).setCell ⟨gb471, 2, none⟩ (.int .i64 ((rd_T55 l0 x7_1).f2))).setCell ⟨gb471, 3, none⟩ (.int .i64 ((rd_T55 l0 x7_1).f3))).setCell ⟨gb471, 4, none⟩ (.int .i64 ((rd_T55 l0 x7_1).f4))) = w27
          replace BK471 := up_ #[.string ((rd_T55 l0 x7_1).f0), .int .i64 ((rd_T55 l0 x7_1).f1), .int .i64 ((rd_T55 l0 x7_1).f2), .int .i64 ((rd_T55 l0 x7_1).f3), .int .i64 ((rd_T55 l0 x7_1).f4)] BK471 hW_; replace HB := us_ hW_ (hs_ HB GE471); clear hW_; replace BK471 := bd_ BK471; replace HB := hd_ HB; refine st1_ 42 impl_DirOk.tab4 impl_DirOk.bits4 (p5e_ BK471) (fun hHeld HT_ HW_ => ?_)
          generalize w27.drew = w28 at BK471 HB hHeld ⊢
          refine pr_ ?_; refine tk5_ 1 13 (on_ 2 40) hHeld ?_
          refine o1_ 2 (some 14) (on_ 3 39) fun K hK => ?_; refine go2_ Try.func72 (impl_KeyOk.calls A8.1) ?_; rintro w' ⟨nd, rfl⟩; refine hK.out _ _ (p5e_ BK471) (fun hHeld => ?_); clear hK K; refine nm_ ?_; (iterate 3 refine pr_ ?_); refine tk5_ 6 18 (on_ 7 35) hHeld ?_
          refine o1_ 7 (some 19) (on_ 8 34) fun K hK => ?_; refine go2_ Try.func34 (impl_in.calls A10.1) ?_; rintro w' ⟨nd, rfl⟩; refine hK.out _ _ (p5e_ BK471) (fun hHeld => ?_); clear hK K; refine nm_ ?_; (iterate 4 refine pr_ ?_); refine tk5_ 12 24 (on_ 13 29) hHeld ?_
          (iterate 4 refine pr_ ?_); refine tk5_ 17 29 (on_ 18 24) hHeld ?_
          refine o1_ 18 (some 30) (on_ 19 23) fun K hK => ?_; refine go2_ Try.func34 (impl_in.calls A15.1) ?_; rintro w' ⟨nd, rfl⟩; refine hK.out _ _ (p5e_ BK471) (fun hHeld => ?_); clear hK K; refine nm_ ?_; (iterate 4 refine pr_ ?_); refine tk5_ 23 35 (on_ 24 18) hHeld ?_
          refine o1_ 24 (some 36) (on_ 25 17) fun K hK => ?_; refine go2_ Try.func34 (impl_in.calls A17.1) ?_; rintro w' ⟨nd, rfl⟩; refine hK.out _ _ (p5e_ BK471) (fun hHeld => ?_); clear hK K; refine nm_ ?_; (iterate 3 refine pr_ ?_); (iterate 13 refine pt_ ?_); refine pr_ ?_; refine dn_ ?_
          try go_wp2
          go_meet
          case rel => exact ⟨_, _, rs_, H', ⟨m1_ HK1⟩, ⟨bk_ BK471⟩, ⟨hs_ HB GE471⟩⟩
        ·replace c16 := bF_ c16; subst c16; rw [if_neg ff_] at H; have H' := am_ H; clear H
         try go_wp2
         generalize hW_ : (((((w6.setCell ⟨gb471, 0, none⟩ (.string ((rd_T55 l0 x7_1).f0))).setCell ⟨gb471, 1, none⟩ (.int .i64 ((rd_T55 l0 x7_1).f1))).setCell ⟨gb471, 2, none⟩ (.int .i64 ((rd_T55 l0 x7_1).f2))).setCell ⟨gb471, 3, none⟩ (.int .i64 ((rd_T55 l0 x7_1).f3))).setCell ⟨gb471, 4, none⟩ (.int .i64 ((rd_T55 l0 x7_1).f4))) = w29
         replace BK471 := up_ #[.string ((rd_T55 l0 x7_1).f0), .int .i64 ((rd_T55 l0 x7_1).f1), .int .i64 ((rd_T55 l0 x7_1).f2), .int .i64 ((rd_T55 l0 x7_1).f3), .int .i64 ((rd_T55 l0 x7_1).f4)] BK471 hW_; replace HB := us_ hW_ (hs_ HB GE471); clear hW_; replace BK471 := bd_ BK471; replace HB := hd_ HB; refine st1_ 42 impl_DirOk.tab4 impl_DirOk.bits4 (p5e_ BK471) (fun hHeld HT_ HW_ => ?_)
         generalize w29.drew = w30 at BK471 HB hHeld ⊢
         refine pr_ ?_; refine tk5_ 1 13 (on_ 2 40) hHeld ?_
         refine o1_ 2 (some 14) (on_ 3 39) fun K hK => ?_; refine go2_ Try.func72 (impl_KeyOk.calls A8.1) ?_; rintro w' ⟨nd, rfl⟩; refine hK.out _ _ (p5e_ BK471) (fun hHeld => ?_); clear hK K; refine nm_ ?_; (iterate 3 refine pr_ ?_); refine tk5_ 6 18 (on_ 7 35) hHeld ?_
         refine o1_ 7 (some 19) (on_ 8 34) fun K hK => ?_; refine go2_ Try.func34 (impl_in.calls A10.1) ?_; rintro w' ⟨nd, rfl⟩; refine hK.out _ _ (p5e_ BK471) (fun hHeld => ?_); clear hK K; refine nm_ ?_; (iterate 4 refine pr_ ?_); refine tk5_ 12 24 (on_ 13 29) hHeld ?_
         (iterate 4 refine pr_ ?_); refine tk5_ 17 29 (on_ 18 24) hHeld ?_
         refine o1_ 18 (some 30) (on_ 19 23) fun K hK => ?_; refine go2_ Try.func34 (impl_in.calls A15.1) ?_; rintro w' ⟨nd, rfl⟩; refine hK.out _ _ (p5e_ BK471) (fun hHeld => ?_); clear hK K; refine nm_ ?_; (iterate 3 refine pr_ ?_); (iterate 4 refine pt_ ?_); (iterate 2 refine pr_ ?_); (iterate 13 refine pt_ ?_); refine pr_ ?_; refine dn_ ?_
         try go_wp2
         go_meet
         case rel => exact ⟨_, _, rs_, H', ⟨m1_ HK1⟩, ⟨bk_ BK471⟩, ⟨hs_ HB GE471⟩⟩
      ·replace c11 := bF_ c11; subst c11; rw [if_neg ff_] at H; have H' := am_ H; clear H
       try go_wp2
       generalize hW_ : (((((w6.setCell ⟨gb471, 0, none⟩ (.string ((rd_T55 l0 x7_1).f0))).setCell ⟨gb471, 1, none⟩ (.int .i64 ((rd_T55 l0 x7_1).f1))).setCell ⟨gb471, 2, none⟩ (.int .i64 ((rd_T55 l0 x7_1).f2))).setCell ⟨gb471, 3, none⟩ (.int .i64 ((rd_T55 l0 x7_1).f3))).setCell ⟨gb471, 4, none⟩ (.int .i64 ((rd_T55 l0 x7_1).f4))) = w31
       replace BK471 := up_ #[.string ((rd_T55 l0 x7_1).f0), .int .i64 ((rd_T55 l0 x7_1).f1), .int .i64 ((rd_T55 l0 x7_1).f2), .int .i64 ((rd_T55 l0 x7_1).f3), .int .i64 ((rd_T55 l0 x7_1).f4)] BK471 hW_; replace HB := us_ hW_ (hs_ HB GE471); clear hW_; replace BK471 := bd_ BK471; replace HB := hd_ HB; refine st1_ 42 impl_DirOk.tab4 impl_DirOk.bits4 (p5e_ BK471) (fun hHeld HT_ HW_ => ?_)
       generalize w31.drew = w32 at BK471 HB hHeld ⊢
       refine pr_ ?_; refine tk5_ 1 13 (on_ 2 40) hHeld ?_
       refine o1_ 2 (some 14) (on_ 3 39) fun K hK => ?_; refine go2_ Try.func72 (impl_KeyOk.calls A8.1) ?_; rintro w' ⟨nd, rfl⟩; refine hK.out _ _ (p5e_ BK471) (fun hHeld => ?_); clear hK K; refine nm_ ?_; (iterate 3 refine pr_ ?_); refine tk5_ 6 18 (on_ 7 35) hHeld ?_
       refine o1_ 7 (some 19) (on_ 8 34) fun K hK => ?_; refine go2_ Try.func34 (impl_in.calls A10.1) ?_; rintro w' ⟨nd, rfl⟩; refine hK.out _ _ (p5e_ BK471) (fun hHeld => ?_); clear hK K; refine nm_ ?_; (iterate 3 refine pr_ ?_); (iterate 3 refine pt_ ?_); (iterate 2 refine pr_ ?_); (iterate 4 refine pt_ ?_); (iterate 2 refine pr_ ?_); (iterate 4 refine pt_ ?_); (iterate 2 refine pr_ ?_); (iterate 13 refine pt_ ?_); refine pr_ ?_; refine dn_ ?_
       try go_wp2
       go_meet
       case rel => exact ⟨_, _, rs_, H', ⟨m1_ HK1⟩, ⟨bk_ BK471⟩, ⟨hs_ HB GE471⟩⟩
     ·replace c9 := bF_ c9; subst c9; rw [if_neg ff_] at H; have H' := am_ H; clear H
      try go_wp2
      generalize hW_ : (((((w6.setCell ⟨gb471, 0, none⟩ (.string ((rd_T55 l0 x7_1).f0))).setCell ⟨gb471, 1, none⟩ (.int .i64 ((rd_T55 l0 x7_1).f1))).setCell ⟨gb471, 2, none⟩ (.int .i64 ((rd_T55 l0 x7_1).f2))).setCell ⟨gb471, 3, none⟩ (.int .i64 ((rd_T55 l0 x7_1).f3))).setCell ⟨gb471, 4, none⟩ (.int .i64 ((rd_T55 l0 x7_1).f4))) = w33
      replace BK471 := up_ #[.string ((rd_T55 l0 x7_1).f0), .int .i64 ((rd_T55 l0 x7_1).f1), .int .i64 ((rd_T55 l0 x7_1).f2), .int .i64 ((rd_T55 l0 x7_1).f3), .int .i64 ((rd_T55 l0 x7_1).f4)] BK471 hW_; replace HB := us_ hW_ (hs_ HB GE471); clear hW_; replace BK471 := bd_ BK471; replace HB := hd_ HB; refine st1_ 42 impl_DirOk.tab4 impl_DirOk.bits4 (p5e_ BK471) (fun hHeld HT_ HW_ => ?_)
      generalize w33.drew = w34 at BK471 HB hHeld ⊢
      refine pr_ ?_; refine tk5_ 1 13 (on_ 2 40) hHeld ?_
      refine o1_ 2 (some 14) (on_ 3 39) fun K hK => ?_; refine go2_ Try.func72 (impl_KeyOk.calls A8.1) ?_; rintro w' ⟨nd, rfl⟩; refine hK.out _ _ (p5e_ BK471) (fun hHeld => ?_); clear hK K; refine nm_ ?_; (iterate 2 refine pr_ ?_); (iterate 4 refine pt_ ?_); (iterate 2 refine pr_ ?_); (iterate 3 refine pt_ ?_); (iterate 2 refine pr_ ?_); (iterate 4 refine pt_ ?_); (iterate 2 refine pr_ ?_); (iterate 4 refine pt_ ?_); (iterate 2 refine pr_ ?_); (iterate 13 refine pt_ ?_); refine pr_ ?_; refine dn_ ?_
      try go_wp2
      go_meet
      case rel => exact ⟨_, _, rs_, H', ⟨m1_ HK1⟩, ⟨bk_ BK471⟩, ⟨hs_ HB GE471⟩⟩
    case rest =>
     clear HC5
     (try clear c3); (try clear c9); (try clear c11)
     obtain ⟨kq, x53_4, rfl, HA, HJ4, BK471, HB⟩ := hcut
     cases kq with
     | zero => exact zz_ HA
     | succ kj4 =>
      have H := HA.1; clear HA; simp only [impl_DirOk.j1] at H; by_cases c35 : x53_4 = true
      ·subst c35; rw [if_pos rfl] at H; obtain rfl := in_ H
       go_wp2
       go_ret
       exact ⟨re_, hs_ HB GE471⟩
      ·replace c35 := bF_ c35; subst c35; rw [if_neg ff_] at H; have H' := am_ H; clear H
       go_wp2
       go_roundg kj4
       case measure => exact m2_ HK1 HJ4
       case rel => exact ⟨_, rs_, H', ⟨m2_ HK1 HJ4⟩, ⟨hs_ HB GE471⟩⟩
   ·rw [if_neg c2] at H; have c2b0 := df_ c2; clear c2; obtain rfl := in_ H
    go_wp2
    go_ret
    exact ⟨re_, hb_ HB⟩
end
def impl_hintOk.l0 : Nat → List (S55) → Int → Int → Int → Int → List (S55) → Option (Bool)
 | 0, _, _, _, _, _, _ => none
 | k + 1, x6, x7, x8, x478000, x478001, x478002 => if x8 < x7 then (if 0 ≤ x8 then (if x8 < (x6.length : Int) then (if 0 < (x478002.length : Int) then (if ((rd_T55 x6 x8).f1) = ((rd_T55 x478002 0).f1) then (if ((rd_T55 x6 x8).f2) > 100000 then (some false) else (impl_hintOk.l0 k x6 x7 (wrap64 (x8 + 1)) x478000 x478001 x478002)) else (some false)) else (none)) else (none)) else (none)) else ((impl_in.f x478000 0 100000).bind fun t481 => (if t481 = true then ((impl_in.f x478001 0 1000000).bind fun t482 => (if t482 = true then ((impl_DirOk.f k x478002).bind fun t483 => (some t483)) else (some false))) else (some false)))
def impl_hintOk.f (k : Nat) (a0_0 : Int) (a0_1 : Int) (l0_2 : List (S55)) : Option (Bool) := impl_hintOk.l0 k l0_2 (l0_2.length : Int) 0 a0_0 a0_1 l0_2
theorem impl_hintOk.calls {k : Nat} {a0_0 a0_1 : Int} {l0_2 : List (S55)} {r : Bool} {w : World} (A0_2 : Option Addr) (c0_2 : Nat) (h : impl_hintOk.f k a0_0 a0_1 l0_2 = some r) (hr0_2 : Kd.C k55 w A0_2 l0_2.length l0_2 := by exact sr_) (hc0_2 : l0_2.length ≤ c0_2 := by exact sc_) :
  Calls Try.prog 17 #[.agg #[.int .i64 a0_0, .int .i64 a0_1, .slice A0_2 l0_2.length c0_2]] w fun e w' => e = .returned (.bool r) ∧ Below w.heap.size w w' := by
 have hu26 := Try.underlying26; have hu55 := Try.underlying55; have HR0_2 := am_ hr0_2; have HC0_2 := am_ hc0_2; clear hr0_2 hc0_2; have HB := am_ (Below.refl w.heap.size w); unfold impl_hintOk.f at h; have H := h; clear h; have H' := am_ H; clear H
 go_enter Try.func17, Try.ntmps17
 go_wp2_with (refine gd_ 1 ?_; refine bx1_ 1 #[.int .i64 a0_0, .int .i64 a0_1, .slice A0_2 l0_2.length c0_2] 26 ?_; intro gb477 hg w2 hbox hb; have BK477 := am_ hbox; have GE477 := gx_ hg HB; replace HB := bx_ HB hb; clear hb hbox hg; obtain ⟨_, _, _, _, _, _⟩ := bc3_ BK477)
 repeat (go_quiet ((refine gd_ 1 ?_; refine bx1_ 1 #[.int .i64 a0_0, .int .i64 a0_1, .slice A0_2 l0_2.length c0_2] 26 ?_; intro gb477 hg w2 hbox hb; have BK477 := am_ hbox; have GE477 := gx_ hg HB; replace HB := bx_ HB hb; clear hb hbox hg; obtain ⟨_, _, _, _, _, _⟩ := bc3_ BK477)); try go_wp2_with (refine gd_ 1 ?_; refine bx1_ 1 #[.int .i64 a0_0, .int .i64 a0_1, .slice A0_2 l0_2.length c0_2] 26 ?_; intro gb477 hg w2 hbox hb; have BK477 := am_ hbox; have GE477 := gx_ hg HB; replace HB := bx_ HB hb; clear hb hbox hg; obtain ⟨_, _, _, _, _, _⟩ := bc3_ BK477))
 go_loopg [8] k (fun kq v8 w' => ∃ (x8_1 : Int), v8 = .int .i64 x8_1 ∧ Aside0 (impl_hintOk.l0 kq l0_2 (l0_2.length : Int) x8_1 a0_0 a0_1 l0_2 = some r) ∧ Aside0 (kq ≤ k) ∧ Aside0 (w'.heap[gb477]? = some (.cells #[.int .i64 a0_0, .int .i64 a0_1, (.slice A0_2 l0_2.length c0_2)] 26 (0, 0))) ∧ Aside0 (Below w.heap.size w w'))
 case atStart => exact ⟨_, rs_, H', ⟨Nat.le_refl _⟩, ⟨bk_ BK477⟩, ⟨hs_ HB GE477⟩⟩
 case round =>
  clear H'
  obtain ⟨x8_1, rfl, HA, HK1, BK477, HB⟩ := hrel
  cases gk with
  | zero => exact zz_ HA
  | succ k1 =>
   have H := HA.1; clear HA; simp only [impl_hintOk.l0] at H; by_cases c4 : x8_1 < (l0_2.length : Int)
   ·rw [if_pos c4] at H; have c4b0 := dq_ c4; clear c4; replace H := ih_ H; obtain ⟨c5, H⟩ := H; have c5b0 := dq_ c5; clear c5; replace H := ih_ H; obtain ⟨c6, H⟩ := H; have c6b0 := dq_ c6; clear c6; replace H := ih_ H; obtain ⟨c7, H⟩ := H; have c7b0 := dq_ c7; have c7b1 : decide (0 < l0_2.length) = true := decide_eq_true (by omega); clear c7; by_cases c8 : ((rd_T55 l0_2 x8_1).f1) = ((rd_T55 l0_2 0).f1)
    ·rw [if_pos c8] at H; have ⟨c8b0, c8b1⟩ := bq5_ c8; clear c8; by_cases c9 : ((rd_T55 l0_2 x8_1).f2) > 100000
     ·rw [if_pos c9] at H; have c9b0 := dq_ c9; clear c9; obtain rfl := in_ H; have p478 : 0 ≤ (x8_1 : Int) := od_; have q478 : x8_1 < (l0_2.length : Int) := od_; obtain ⟨ad478, e478, hx478_0, hx478_1, hx478_2, hx478_3, hx478_4⟩ := at_T55 HR0_2.1 x8_1 p478 q478
      cases e478
      (try replace hx478_0 := cb_ HB hx478_0)
      (try replace hx478_1 := cb_ HB hx478_1)
      (try replace hx478_2 := cb_ HB hx478_2)
      (try replace hx478_3 := cb_ HB hx478_3)
      (try replace hx478_4 := cb_ HB hx478_4)
      replace p478 := eq_true p478; replace q478 := eq_true q478
      go_wp2_with (refine gd_ 4 ?_; refine bx1_ 4 #[.string (⟨#[]⟩ : ByteArray), .int .i64 0, .int .i64 0, .int .i64 0, .int .i64 0] 55 ?_; intro gb479 hg w10 hbox hb; have BK479 := am_ hbox; have GE479 := gx_ hg HB; replace HB := bx_ HB hb; have ⟨NB477_479, NB479_477⟩ := nn_ BK477 hg; replace BK477 := bb_ BK477 hb; clear hb hbox hg; have := NB479_477.1; have := NB477_479.1; obtain ⟨_, _, _, _, _, _, _, _, _, _⟩ := bc5_ BK479; obtain ⟨_, _, _, _, _, _⟩ := bc3_ BK477; have p480 : 0 ≤ (0 : Int) := (by omega); have q480 : 0 < (l0_2.length : Int) := od_; obtain ⟨ad480, e480, hx480_0, hx480_1, hx480_2, hx480_3, hx480_4⟩ := at_T55 HR0_2.1 0 p480 q480; obtain rfl : ad478 = ad480 := (by injection e480); have qi480 : (0 < l0_2.length) = True := eq_true (by omega); (try rw [show ((0 : Int)).toNat = 0 from rfl] at hx480_0); (try rw [show 0 * 5 = 0 from rfl] at hx480_0); (try rw [Addr.add_zero'] at hx480_0); (try rw [show ((0 : Int)).toNat = 0 from rfl] at hx480_1); (try rw [show 0 * 5 = 0 from rfl] at hx480_1); (try rw [Addr.add_zero'] at hx480_1); (try rw [show ((0 : Int)).toNat = 0 from rfl] at hx480_2); (try rw [show 0 * 5 = 0 from rfl] at hx480_2); (try rw [Addr.add_zero'] at hx480_2); (try rw [show ((0 : Int)).toNat = 0 from rfl] at hx480_3); (try rw [show 0 * 5 = 0 from rfl] at hx480_3); (try rw [Addr.add_zero'] at hx480_3); (try rw [show ((0 : Int)).toNat = 0 from rfl] at hx480_4); (try rw [show 0 * 5 = 0 from rfl] at hx480_4); (try rw [Addr.add_zero'] at hx480_4); have hn480_0 := hq_ hx480_0 GE479.1; have y_ := cf5_ hn480_0 4 (.int .i64 ((rd_T55 l0_2 x8_1).f4)) (cf5_ hn480_0 3 (.int .i64 ((rd_T55 l0_2 x8_1).f3)) (cf5_ hn480_0 2 (.int .i64 ((rd_T55 l0_2 x8_1).f2)) (cf5_ hn480_0 1 (.int .i64 ((rd_T55 l0_2 x8_1).f1)) (cf5_ hn480_0 0 (.string ((rd_T55 l0_2 x8_1).f0)) ⟨cb_ HB hx480_0, cb_ HB hx480_1, cb_ HB hx480_2, cb_ HB hx480_3, cb_ HB hx480_4⟩)))); clear hx480_0 hx480_1 hx480_2 hx480_3 hx480_4; obtain ⟨hx480_0, hx480_1, hx480_2, hx480_3, hx480_4⟩ := y_; (try have hy480_0 := fun (n_ : Nat) => (cdk5_ n_ hx480_0)); (try have hy480_1 := fun (n_ : Nat) => (cdk5_ n_ hx480_1)); (try have hy480_2 := fun (n_ : Nat) => (cdk5_ n_ hx480_2)); (try have hy480_3 := fun (n_ : Nat) => (cdk5_ n_ hx480_3)); (try have hy480_4 := fun (n_ : Nat) => (cdk5_ n_ hx480_4)); clear hn480_0; replace p480 := eq_true p480; replace q480 := eq_true q480)
      repeat (go_quiet ((refine gd_ 4 ?_; refine bx1_ 4 #[.string (⟨#[]⟩ : ByteArray), .int .i64 0, .int .i64 0, .int .i64 0, .int .i64 0] 55 ?_; intro gb479 hg w10 hbox hb; have BK479 := am_ hbox; have GE479 := gx_ hg HB; replace HB := bx_ HB hb; have ⟨NB477_479, NB479_477⟩ := nn_ BK477 hg; replace BK477 := bb_ BK477 hb; clear hb hbox hg; have := NB479_477.1; have := NB477_479.1; obtain ⟨_, _, _, _, _, _, _, _, _, _⟩ := bc5_ BK479; obtain ⟨_, _, _, _, _, _⟩ := bc3_ BK477; have p480 : 0 ≤ (0 : Int) := (by omega); have q480 : 0 < (l0_2.length : Int) := od_; obtain ⟨ad480, e480, hx480_0, hx480_1, hx480_2, hx480_3, hx480_4⟩ := at_T55 HR0_2.1 0 p480 q480; obtain rfl : ad478 = ad480 := (by injection e480); have qi480 : (0 < l0_2.length) = True := eq_true (by omega); (try rw [show ((0 : Int)).toNat = 0 from rfl] at hx480_0); (try rw [show 0 * 5 = 0 from rfl] at hx480_0); (try rw [Addr.add_zero'] at hx480_0); (try rw [show ((0 : Int)).toNat = 0 from rfl] at hx480_1); (try rw [show 0 * 5 = 0 from rfl] at hx480_1); (try rw [Addr.add_zero'] at hx480_1); (try rw [show ((0 : Int)).toNat = 0 from rfl] at hx480_2); (try rw [show 0 * 5 = 0 from rfl] at hx480_2); (try rw [Addr.add_zero'] at hx480_2); (try rw [show ((0 : Int)).toNat = 0 from rfl] at hx480_3); (try rw [show 0 * 5 = 0 from rfl] at hx480_3); (try rw [Addr.add_zero'] at hx480_3); (try rw [show ((0 : Int)).toNat = 0 from rfl] at hx480_4); (try rw [show 0 * 5 = 0 from rfl] at hx480_4); (try rw [Addr.add_zero'] at hx480_4); have hn480_0 := hq_ hx480_0 GE479.1; have y_ := cf5_ hn480_0 4 (.int .i64 ((rd_T55 l0_2 x8_1).f4)) (cf5_ hn480_0 3 (.int .i64 ((rd_T55 l0_2 x8_1).f3)) (cf5_ hn480_0 2 (.int .i64 ((rd_T55 l0_2 x8_1).f2)) (cf5_ hn480_0 1 (.int .i64 ((rd_T55 l0_2 x8_1).f1)) (cf5_ hn480_0 0 (.string ((rd_T55 l0_2 x8_1).f0)) ⟨cb_ HB hx480_0, cb_ HB hx480_1, cb_ HB hx480_2, cb_ HB hx480_3, cb_ HB hx480_4⟩)))); clear hx480_0 hx480_1 hx480_2 hx480_3 hx480_4; obtain ⟨hx480_0, hx480_1, hx480_2, hx480_3, hx480_4⟩ := y_; (try have hy480_0 := fun (n_ : Nat) => (cdk5_ n_ hx480_0)); (try have hy480_1 := fun (n_ : Nat) => (cdk5_ n_ hx480_1)); (try have hy480_2 := fun (n_ : Nat) => (cdk5_ n_ hx480_2)); (try have hy480_3 := fun (n_ : Nat) => (cdk5_ n_ hx480_3)); (try have hy480_4 := fun (n_ : Nat) => (cdk5_ n_ hx480_4)); clear hn480_0; replace p480 := eq_true p480; replace q480 := eq_true q480)); try go_wp2_with (refine gd_ 4 ?_; refine bx1_ 4 #[.string (⟨#[]⟩ : ByteArray), .int .i64 0, .int .i64 0, .int .i64 0, .int .i64 0] 55 ?_; intro gb479 hg w10 hbox hb; have BK479 := am_ hbox; have GE479 := gx_ hg HB; replace HB := bx_ HB hb; have ⟨NB477_479, NB479_477⟩ := nn_ BK477 hg; replace BK477 := bb_ BK477 hb; clear hb hbox hg; have := NB479_477.1; have := NB477_479.1; obtain ⟨_, _, _, _, _, _, _, _, _, _⟩ := bc5_ BK479; obtain ⟨_, _, _, _, _, _⟩ := bc3_ BK477; have p480 : 0 ≤ (0 : Int) := (by omega); have q480 : 0 < (l0_2.length : Int) := od_; obtain ⟨ad480, e480, hx480_0, hx480_1, hx480_2, hx480_3, hx480_4⟩ := at_T55 HR0_2.1 0 p480 q480; obtain rfl : ad478 = ad480 := (by injection e480); have qi480 : (0 < l0_2.length) = True := eq_true (by omega); (try rw [show ((0 : Int)).toNat = 0 from rfl] at hx480_0); (try rw [show 0 * 5 = 0 from rfl] at hx480_0); (try rw [Addr.add_zero'] at hx480_0); (try rw [show ((0 : Int)).toNat = 0 from rfl] at hx480_1); (try rw [show 0 * 5 = 0 from rfl] at hx480_1); (try rw [Addr.add_zero'] at hx480_1); (try rw [show ((0 : Int)).toNat = 0 from rfl] at hx480_2); (try rw [show 0 * 5 = 0 from rfl] at hx480_2); (try rw [Addr.add_zero'] at hx480_2); (try rw [show ((0 : Int)).toNat = 0 from rfl] at hx480_3); (try rw [show 0 * 5 = 0 from rfl] at hx480_3); (try rw [Addr.add_zero'] at hx480_3); (try rw [show ((0 : Int)).toNat = 0 from rfl] at hx480_4); (try rw [show 0 * 5 = 0 from rfl] at hx480_4); (try rw [Addr.add_zero'] at hx480_4); have hn480_0 := hq_ hx480_0 GE479.1; have y_ := cf5_ hn480_0 4 (.int .i64 ((rd_T55 l0_2 x8_1).f4)) (cf5_ hn480_0 3 (.int .i64 ((rd_T55 l0_2 x8_1).f3)) (cf5_ hn480_0 2 (.int .i64 ((rd_T55 l0_2 x8_1).f2)) (cf5_ hn480_0 1 (.int .i64 ((rd_T55 l0_2 x8_1).f1)) (cf5_ hn480_0 0 (.string ((rd_T55 l0_2 x8_1).f0)) ⟨cb_ HB hx480_0, cb_ HB hx480_1, cb_ HB hx480_2, cb_ HB hx480_3, cb_ HB hx480_4⟩)))); clear hx480_0 hx480_1 hx480_2 hx480_3 hx480_4; obtain ⟨hx480_0, hx480_1, hx480_2, hx480_3, hx480_4⟩ := y_; (try have hy480_0 := fun (n_ : Nat) => (cdk5_ n_ hx480_0)); (try have hy480_1 := fun (n_ : Nat) => (cdk5_ n_ hx480_1)); (try have hy480_2 := fun (n_ : Nat) => (cdk5_ n_ hx480_2)); (try have hy480_3 := fun (n_ : Nat) => (cdk5_ n_ hx480_3)); (try have hy480_4 := fun (n_ : Nat) => (cdk5_ n_ hx480_4)); clear hn480_0; replace p480 := eq_true p480; replace q480 := eq_true q480))
      go_ret
      exact ⟨re_, hz_ HB⟩
     ·rw [if_neg c9] at H; have c9b0 := df_ c9; clear c9; have H' := am_ H; clear H; have p478 : 0 ≤ (x8_1 : Int) := od_; have q478 : x8_1 < (l0_2.length : Int) := od_; obtain ⟨ad478, e478, hx478_0, hx478_1, hx478_2, hx478_3, hx478_4⟩ := at_T55 HR0_2.1 x8_1 p478 q478
      cases e478
      (try replace hx478_0 := cb_ HB hx478_0)
      (try replace hx478_1 := cb_ HB hx478_1)
      (try replace hx478_2 := cb_ HB hx478_2)
      (try replace hx478_3 := cb_ HB hx478_3)
      (try replace hx478_4 := cb_ HB hx478_4)
      replace p478 := eq_true p478; replace q478 := eq_true q478
      go_wp2_with (refine gd_ 4 ?_; refine bx1_ 4 #[.string (⟨#[]⟩ : ByteArray), .int .i64 0, .int .i64 0, .int .i64 0, .int .i64 0] 55 ?_; intro gb479 hg w14 hbox hb; have BK479 := am_ hbox; have GE479 := gx_ hg HB; replace HB := bx_ HB hb; have ⟨NB477_479, NB479_477⟩ := nn_ BK477 hg; replace BK477 := bb_ BK477 hb; clear hb hbox hg; have := NB479_477.1; have := NB477_479.1; obtain ⟨_, _, _, _, _, _, _, _, _, _⟩ := bc5_ BK479; obtain ⟨_, _, _, _, _, _⟩ := bc3_ BK477; have p480 : 0 ≤ (0 : Int) := (by omega); have q480 : 0 < (l0_2.length : Int) := od_; obtain ⟨ad480, e480, hx480_0, hx480_1, hx480_2, hx480_3, hx480_4⟩ := at_T55 HR0_2.1 0 p480 q480; obtain rfl : ad478 = ad480 := (by injection e480); have qi480 : (0 < l0_2.length) = True := eq_true (by omega); (try rw [show ((0 : Int)).toNat = 0 from rfl] at hx480_0); (try rw [show 0 * 5 = 0 from rfl] at hx480_0); (try rw [Addr.add_zero'] at hx480_0); (try rw [show ((0 : Int)).toNat = 0 from rfl] at hx480_1); (try rw [show 0 * 5 = 0 from rfl] at hx480_1); (try rw [Addr.add_zero'] at hx480_1); (try rw [show ((0 : Int)).toNat = 0 from rfl] at hx480_2); (try rw [show 0 * 5 = 0 from rfl] at hx480_2); (try rw [Addr.add_zero'] at hx480_2); (try rw [show ((0 : Int)).toNat = 0 from rfl] at hx480_3); (try rw [show 0 * 5 = 0 from rfl] at hx480_3); (try rw [Addr.add_zero'] at hx480_3); (try rw [show ((0 : Int)).toNat = 0 from rfl] at hx480_4); (try rw [show 0 * 5 = 0 from rfl] at hx480_4); (try rw [Addr.add_zero'] at hx480_4); have hn480_0 := hq_ hx480_0 GE479.1; have y_ := cf5_ hn480_0 4 (.int .i64 ((rd_T55 l0_2 x8_1).f4)) (cf5_ hn480_0 3 (.int .i64 ((rd_T55 l0_2 x8_1).f3)) (cf5_ hn480_0 2 (.int .i64 ((rd_T55 l0_2 x8_1).f2)) (cf5_ hn480_0 1 (.int .i64 ((rd_T55 l0_2 x8_1).f1)) (cf5_ hn480_0 0 (.string ((rd_T55 l0_2 x8_1).f0)) ⟨cb_ HB hx480_0, cb_ HB hx480_1, cb_ HB hx480_2, cb_ HB hx480_3, cb_ HB hx480_4⟩)))); clear hx480_0 hx480_1 hx480_2 hx480_3 hx480_4; obtain ⟨hx480_0, hx480_1, hx480_2, hx480_3, hx480_4⟩ := y_; (try have hy480_0 := fun (n_ : Nat) => (cdk5_ n_ hx480_0)); (try have hy480_1 := fun (n_ : Nat) => (cdk5_ n_ hx480_1)); (try have hy480_2 := fun (n_ : Nat) => (cdk5_ n_ hx480_2)); (try have hy480_3 := fun (n_ : Nat) => (cdk5_ n_ hx480_3)); (try have hy480_4 := fun (n_ : Nat) => (cdk5_ n_ hx480_4)); clear hn480_0; replace p480 := eq_true p480; replace q480 := eq_true q480)
      repeat (go_quiet ((refine gd_ 4 ?_; refine bx1_ 4 #[.string (⟨#[]⟩ : ByteArray), .int .i64 0, .int .i64 0, .int .i64 0, .int .i64 0] 55 ?_; intro gb479 hg w14 hbox hb; have BK479 := am_ hbox; have GE479 := gx_ hg HB; replace HB := bx_ HB hb; have ⟨NB477_479, NB479_477⟩ := nn_ BK477 hg; replace BK477 := bb_ BK477 hb; clear hb hbox hg; have := NB479_477.1; have := NB477_479.1; obtain ⟨_, _, _, _, _, _, _, _, _, _⟩ := bc5_ BK479; obtain ⟨_, _, _, _, _, _⟩ := bc3_ BK477; have p480 : 0 ≤ (0 : Int) := (by omega); have q480 : 0 < (l0_2.length : Int) := od_; obtain ⟨ad480, e480, hx480_0, hx480_1, hx480_2, hx480_3, hx480_4⟩ := at_T55 HR0_2.1 0 p480 q480; obtain rfl : ad478 = ad480 := (by injection e480); have qi480 : (0 < l0_2.length) = True := eq_true (by omega); (try rw [show ((0 : Int)).toNat = 0 from rfl] at hx480_0); (try rw [show 0 * 5 = 0 from rfl] at hx480_0); (try rw [Addr.add_zero'] at hx480_0); (try rw [show ((0 : Int)).toNat = 0 from rfl] at hx480_1); (try rw [show 0 * 5 = 0 from rfl] at hx480_1); (try rw [Addr.add_zero'] at hx480_1); (try rw [show ((0 : Int)).toNat = 0 from rfl] at hx480_2); (try rw [show 0 * 5 = 0 from rfl] at hx480_2); (try rw [Addr.add_zero'] at hx480_2); (try rw [show ((0 : Int)).toNat = 0 from rfl] at hx480_3); (try rw [show 0 * 5 = 0 from rfl] at hx480_3); (try rw [Addr.add_zero'] at hx480_3); (try rw [show ((0 : Int)).toNat = 0 from rfl] at hx480_4); (try rw [show 0 * 5 = 0 from rfl] at hx480_4); (try rw [Addr.add_zero'] at hx480_4); have hn480_0 := hq_ hx480_0 GE479.1; have y_ := cf5_ hn480_0 4 (.int .i64 ((rd_T55 l0_2 x8_1).f4)) (cf5_ hn480_0 3 (.int .i64 ((rd_T55 l0_2 x8_1).f3)) (cf5_ hn480_0 2 (.int .i64 ((rd_T55 l0_2 x8_1).f2)) (cf5_ hn480_0 1 (.int .i64 ((rd_T55 l0_2 x8_1).f1)) (cf5_ hn480_0 0 (.string ((rd_T55 l0_2 x8_1).f0)) ⟨cb_ HB hx480_0, cb_ HB hx480_1, cb_ HB hx480_2, cb_ HB hx480_3, cb_ HB hx480_4⟩)))); clear hx480_0 hx480_1 hx480_2 hx480_3 hx480_4; obtain ⟨hx480_0, hx480_1, hx480_2, hx480_3, hx480_4⟩ := y_; (try have hy480_0 := fun (n_ : Nat) => (cdk5_ n_ hx480_0)); (try have hy480_1 := fun (n_ : Nat) => (cdk5_ n_ hx480_1)); (try have hy480_2 := fun (n_ : Nat) => (cdk5_ n_ hx480_2)); (try have hy480_3 := fun (n_ : Nat) => (cdk5_ n_ hx480_3)); (try have hy480_4 := fun (n_ : Nat) => (cdk5_ n_ hx480_4)); clear hn480_0; replace p480 := eq_true p480; replace q480 := eq_true q480)); try go_wp2_with (refine gd_ 4 ?_; refine bx1_ 4 #[.string (⟨#[]⟩ : ByteArray), .int .i64 0, .int .i64 0, .int .i64 0, .int .i64 0] 55 ?_; intro gb479 hg w14 hbox hb; have BK479 := am_ hbox; have GE479 := gx_ hg HB; replace HB := bx_ HB hb; have ⟨NB477_479, NB479_477⟩ := nn_ BK477 hg; replace BK477 := bb_ BK477 hb; clear hb hbox hg; have := NB479_477.1; have := NB477_479.1; obtain ⟨_, _, _, _, _, _, _, _, _, _⟩ := bc5_ BK479; obtain ⟨_, _, _, _, _, _⟩ := bc3_ BK477; have p480 : 0 ≤ (0 : Int) := (by omega); have q480 : 0 < (l0_2.length : Int) := od_; obtain ⟨ad480, e480, hx480_0, hx480_1, hx480_2, hx480_3, hx480_4⟩ := at_T55 HR0_2.1 0 p480 q480; obtain rfl : ad478 = ad480 := (by injection e480); have qi480 : (0 < l0_2.length) = True := eq_true (by omega); (try rw [show ((0 : Int)).toNat = 0 from rfl] at hx480_0); (try rw [show 0 * 5 = 0 from rfl] at hx480_0); (try rw [Addr.add_zero'] at hx480_0); (try rw [show ((0 : Int)).toNat = 0 from rfl] at hx480_1); (try rw [show 0 * 5 = 0 from rfl] at hx480_1); (try rw [Addr.add_zero'] at hx480_1); (try rw [show ((0 : Int)).toNat = 0 from rfl] at hx480_2); (try rw [show 0 * 5 = 0 from rfl] at hx480_2); (try rw [Addr.add_zero'] at hx480_2); (try rw [show ((0 : Int)).toNat = 0 from rfl] at hx480_3); (try rw [show 0 * 5 = 0 from rfl] at hx480_3); (try rw [Addr.add_zero'] at hx480_3); (try rw [show ((0 : Int)).toNat = 0 from rfl] at hx480_4); (try rw [show 0 * 5 = 0 from rfl] at hx480_4); (try rw [Addr.add_zero'] at hx480_4); have hn480_0 := hq_ hx480_0 GE479.1; have y_ := cf5_ hn480_0 4 (.int .i64 ((rd_T55 l0_2 x8_1).f4)) (cf5_ hn480_0 3 (.int .i64 ((rd_T55 l0_2 x8_1).f3)) (cf5_ hn480_0 2 (.int .i64 ((rd_T55 l0_2 x8_1).f2)) (cf5_ hn480_0 1 (.int .i64 ((rd_T55 l0_2 x8_1).f1)) (cf5_ hn480_0 0 (.string ((rd_T55 l0_2 x8_1).f0)) ⟨cb_ HB hx480_0, cb_ HB hx480_1, cb_ HB hx480_2, cb_ HB hx480_3, cb_ HB hx480_4⟩)))); clear hx480_0 hx480_1 hx480_2 hx480_3 hx480_4; obtain ⟨hx480_0, hx480_1, hx480_2, hx480_3, hx480_4⟩ := y_; (try have hy480_0 := fun (n_ : Nat) => (cdk5_ n_ hx480_0)); (try have hy480_1 := fun (n_ : Nat) => (cdk5_ n_ hx480_1)); (try have hy480_2 := fun (n_ : Nat) => (cdk5_ n_ hx480_2)); (try have hy480_3 := fun (n_ : Nat) => (cdk5_ n_ hx480_3)); (try have hy480_4 := fun (n_ : Nat) => (cdk5_ n_ hx480_4)); clear hn480_0; replace p480 := eq_true p480; replace q480 := eq_true q480))
      go_roundg k1
      case measure => exact m1_ HK1
      case rel => exact ⟨_, rs_, H', ⟨m1_ HK1⟩, ⟨uk_ BK477⟩, ⟨hz_ HB⟩⟩
    ·rw [if_neg c8] at H; have ⟨c8b0, c8b1⟩ := bq6_ c8; obtain rfl := in_ H; have p478 : 0 ≤ (x8_1 : Int) := od_; have q478 : x8_1 < (l0_2.length : Int) := od_; obtain ⟨ad478, e478, hx478_0, hx478_1, hx478_2, hx478_3, hx478_4⟩ := at_T55 HR0_2.1 x8_1 p478 q478
     cases e478
     (try replace hx478_0 := cb_ HB hx478_0)
     (try replace hx478_1 := cb_ HB hx478_1)
     (try replace hx478_2 := cb_ HB hx478_2)
     (try replace hx478_3 := cb_ HB hx478_3)
     (try replace hx478_4 := cb_ HB hx478_4)
     replace p478 := eq_true p478; replace q478 := eq_true q478
     go_wp2_with (refine gd_ 4 ?_; refine bx1_ 4 #[.string (⟨#[]⟩ : ByteArray), .int .i64 0, .int .i64 0, .int .i64 0, .int .i64 0] 55 ?_; intro gb479 hg w18 hbox hb; have BK479 := am_ hbox; have GE479 := gx_ hg HB; replace HB := bx_ HB hb; have ⟨NB477_479, NB479_477⟩ := nn_ BK477 hg; replace BK477 := bb_ BK477 hb; clear hb hbox hg; have := NB479_477.1; have := NB477_479.1; obtain ⟨_, _, _, _, _, _, _, _, _, _⟩ := bc5_ BK479; obtain ⟨_, _, _, _, _, _⟩ := bc3_ BK477; have p480 : 0 ≤ (0 : Int) := (by omega); have q480 : 0 < (l0_2.length : Int) := od_; obtain ⟨ad480, e480, hx480_0, hx480_1, hx480_2, hx480_3, hx480_4⟩ := at_T55 HR0_2.1 0 p480 q480; obtain rfl : ad478 = ad480 := (by injection e480); have qi480 : (0 < l0_2.length) = True := eq_true (by omega); (try rw [show ((0 : Int)).toNat = 0 from rfl] at hx480_0); (try rw [show 0 * 5 = 0 from rfl] at hx480_0); (try rw [Addr.add_zero'] at hx480_0); (try rw [show ((0 : Int)).toNat = 0 from rfl] at hx480_1); (try rw [show 0 * 5 = 0 from rfl] at hx480_1); (try rw [Addr.add_zero'] at hx480_1); (try rw [show ((0 : Int)).toNat = 0 from rfl] at hx480_2); (try rw [show 0 * 5 = 0 from rfl] at hx480_2); (try rw [Addr.add_zero'] at hx480_2); (try rw [show ((0 : Int)).toNat = 0 from rfl] at hx480_3); (try rw [show 0 * 5 = 0 from rfl] at hx480_3); (try rw [Addr.add_zero'] at hx480_3); (try rw [show ((0 : Int)).toNat = 0 from rfl] at hx480_4); (try rw [show 0 * 5 = 0 from rfl] at hx480_4); (try rw [Addr.add_zero'] at hx480_4); have hn480_0 := hq_ hx480_0 GE479.1; have y_ := cf5_ hn480_0 4 (.int .i64 ((rd_T55 l0_2 x8_1).f4)) (cf5_ hn480_0 3 (.int .i64 ((rd_T55 l0_2 x8_1).f3)) (cf5_ hn480_0 2 (.int .i64 ((rd_T55 l0_2 x8_1).f2)) (cf5_ hn480_0 1 (.int .i64 ((rd_T55 l0_2 x8_1).f1)) (cf5_ hn480_0 0 (.string ((rd_T55 l0_2 x8_1).f0)) ⟨cb_ HB hx480_0, cb_ HB hx480_1, cb_ HB hx480_2, cb_ HB hx480_3, cb_ HB hx480_4⟩)))); clear hx480_0 hx480_1 hx480_2 hx480_3 hx480_4; obtain ⟨hx480_0, hx480_1, hx480_2, hx480_3, hx480_4⟩ := y_; (try have hy480_0 := fun (n_ : Nat) => (cdk5_ n_ hx480_0)); (try have hy480_1 := fun (n_ : Nat) => (cdk5_ n_ hx480_1)); (try have hy480_2 := fun (n_ : Nat) => (cdk5_ n_ hx480_2)); (try have hy480_3 := fun (n_ : Nat) => (cdk5_ n_ hx480_3)); (try have hy480_4 := fun (n_ : Nat) => (cdk5_ n_ hx480_4)); clear hn480_0; replace p480 := eq_true p480; replace q480 := eq_true q480)
     repeat (go_quiet ((refine gd_ 4 ?_; refine bx1_ 4 #[.string (⟨#[]⟩ : ByteArray), .int .i64 0, .int .i64 0, .int .i64 0, .int .i64 0] 55 ?_; intro gb479 hg w18 hbox hb; have BK479 := am_ hbox; have GE479 := gx_ hg HB; replace HB := bx_ HB hb; have ⟨NB477_479, NB479_477⟩ := nn_ BK477 hg; replace BK477 := bb_ BK477 hb; clear hb hbox hg; have := NB479_477.1; have := NB477_479.1; obtain ⟨_, _, _, _, _, _, _, _, _, _⟩ := bc5_ BK479; obtain ⟨_, _, _, _, _, _⟩ := bc3_ BK477; have p480 : 0 ≤ (0 : Int) := (by omega); have q480 : 0 < (l0_2.length : Int) := od_; obtain ⟨ad480, e480, hx480_0, hx480_1, hx480_2, hx480_3, hx480_4⟩ := at_T55 HR0_2.1 0 p480 q480; obtain rfl : ad478 = ad480 := (by injection e480); have qi480 : (0 < l0_2.length) = True := eq_true (by omega); (try rw [show ((0 : Int)).toNat = 0 from rfl] at hx480_0); (try rw [show 0 * 5 = 0 from rfl] at hx480_0); (try rw [Addr.add_zero'] at hx480_0); (try rw [show ((0 : Int)).toNat = 0 from rfl] at hx480_1); (try rw [show 0 * 5 = 0 from rfl] at hx480_1); (try rw [Addr.add_zero'] at hx480_1); (try rw [show ((0 : Int)).toNat = 0 from rfl] at hx480_2); (try rw [show 0 * 5 = 0 from rfl] at hx480_2); (try rw [Addr.add_zero'] at hx480_2); (try rw [show ((0 : Int)).toNat = 0 from rfl] at hx480_3); (try rw [show 0 * 5 = 0 from rfl] at hx480_3); (try rw [Addr.add_zero'] at hx480_3); (try rw [show ((0 : Int)).toNat = 0 from rfl] at hx480_4); (try rw [show 0 * 5 = 0 from rfl] at hx480_4); (try rw [Addr.add_zero'] at hx480_4); have hn480_0 := hq_ hx480_0 GE479.1; have y_ := cf5_ hn480_0 4 (.int .i64 ((rd_T55 l0_2 x8_1).f4)) (cf5_ hn480_0 3 (.int .i64 ((rd_T55 l0_2 x8_1).f3)) (cf5_ hn480_0 2 (.int .i64 ((rd_T55 l0_2 x8_1).f2)) (cf5_ hn480_0 1 (.int .i64 ((rd_T55 l0_2 x8_1).f1)) (cf5_ hn480_0 0 (.string ((rd_T55 l0_2 x8_1).f0)) ⟨cb_ HB hx480_0, cb_ HB hx480_1, cb_ HB hx480_2, cb_ HB hx480_3, cb_ HB hx480_4⟩)))); clear hx480_0 hx480_1 hx480_2 hx480_3 hx480_4; obtain ⟨hx480_0, hx480_1, hx480_2, hx480_3, hx480_4⟩ := y_; (try have hy480_0 := fun (n_ : Nat) => (cdk5_ n_ hx480_0)); (try have hy480_1 := fun (n_ : Nat) => (cdk5_ n_ hx480_1)); (try have hy480_2 := fun (n_ : Nat) => (cdk5_ n_ hx480_2)); (try have hy480_3 := fun (n_ : Nat) => (cdk5_ n_ hx480_3)); (try have hy480_4 := fun (n_ : Nat) => (cdk5_ n_ hx480_4)); clear hn480_0; replace p480 := eq_true p480; replace q480 := eq_true q480)); try go_wp2_with (refine gd_ 4 ?_; refine bx1_ 4 #[.string (⟨#[]⟩ : ByteArray), .int .i64 0, .int .i64 0, .int .i64 0, .int .i64 0] 55 ?_; intro gb479 hg w18 hbox hb; have BK479 := am_ hbox; have GE479 := gx_ hg HB; replace HB := bx_ HB hb; have ⟨NB477_479, NB479_477⟩ := nn_ BK477 hg; replace BK477 := bb_ BK477 hb; clear hb hbox hg; have := NB479_477.1; have := NB477_479.1; obtain ⟨_, _, _, _, _, _, _, _, _, _⟩ := bc5_ BK479; obtain ⟨_, _, _, _, _, _⟩ := bc3_ BK477; have p480 : 0 ≤ (0 : Int) := (by omega); have q480 : 0 < (l0_2.length : Int) := od_; obtain ⟨ad480, e480, hx480_0, hx480_1, hx480_2, hx480_3, hx480_4⟩ := at_T55 HR0_2.1 0 p480 q480; obtain rfl : ad478 = ad480 := (by injection e480); have qi480 : (0 < l0_2.length) = True := eq_true (by omega); (try rw [show ((0 : Int)).toNat = 0 from rfl] at hx480_0); (try rw [show 0 * 5 = 0 from rfl] at hx480_0); (try rw [Addr.add_zero'] at hx480_0); (try rw [show ((0 : Int)).toNat = 0 from rfl] at hx480_1); (try rw [show 0 * 5 = 0 from rfl] at hx480_1); (try rw [Addr.add_zero'] at hx480_1); (try rw [show ((0 : Int)).toNat = 0 from rfl] at hx480_2); (try rw [show 0 * 5 = 0 from rfl] at hx480_2); (try rw [Addr.add_zero'] at hx480_2); (try rw [show ((0 : Int)).toNat = 0 from rfl] at hx480_3); (try rw [show 0 * 5 = 0 from rfl] at hx480_3); (try rw [Addr.add_zero'] at hx480_3); (try rw [show ((0 : Int)).toNat = 0 from rfl] at hx480_4); (try rw [show 0 * 5 = 0 from rfl] at hx480_4); (try rw [Addr.add_zero'] at hx480_4); have hn480_0 := hq_ hx480_0 GE479.1; have y_ := cf5_ hn480_0 4 (.int .i64 ((rd_T55 l0_2 x8_1).f4)) (cf5_ hn480_0 3 (.int .i64 ((rd_T55 l0_2 x8_1).f3)) (cf5_ hn480_0 2 (.int .i64 ((rd_T55 l0_2 x8_1).f2)) (cf5_ hn480_0 1 (.int .i64 ((rd_T55 l0_2 x8_1).f1)) (cf5_ hn480_0 0 (.string ((rd_T55 l0_2 x8_1).f0)) ⟨cb_ HB hx480_0, cb_ HB hx480_1, cb_ HB hx480_2, cb_ HB hx480_3, cb_ HB hx480_4⟩)))); clear hx480_0 hx480_1 hx480_2 hx480_3 hx480_4; obtain ⟨hx480_0, hx480_1, hx480_2, hx480_3, hx480_4⟩ := y_; (try have hy480_0 := fun (n_ : Nat) => (cdk5_ n_ hx480_0)); (try have hy480_1 := fun (n_ : Nat) => (cdk5_ n_ hx480_1)); (try have hy480_2 := fun (n_ : Nat) => (cdk5_ n_ hx480_2)); (try have hy480_3 := fun (n_ : Nat) => (cdk5_ n_ hx480_3)); (try have hy480_4 := fun (n_ : Nat) => (cdk5_ n_ hx480_4)); clear hn480_0; replace p480 := eq_true p480; replace q480 := eq_true q480))
     go_ret
     exact ⟨re_, hz_ HB⟩
   ·rw [if_neg c4] at H; have c4b0 := df_ c4; clear c4; replace H := bnd_ H; obtain ⟨t481, A22, H⟩ := H; by_cases c23 : t481 = true
    ·subst c23; rw [if_pos rfl] at H; replace H := bnd_ H; obtain ⟨t482, A24, H⟩ := H; by_cases c25 : t482 = true
     ·subst c25; rw [if_pos rfl] at H; replace H := bnd_ H; obtain ⟨t483, A26, H⟩ := H; obtain rfl := in_ H; obtain ⟨_, _, _, _, _, _⟩ := bc3_ BK477
      go_wp2_with (first | (go_at_call 34; refine cm_ (impl_in.calls A22.1) ?_; rintro e w' ⟨rfl, ⟨nd, rfl⟩⟩; (try first | exact dd_ | exact de_)) | (go_at_call 34; refine cm_ (impl_in.calls A24.1) ?_; rintro e w' ⟨rfl, ⟨nd, rfl⟩⟩; (try first | exact dd_ | exact de_)) | (go_at_call 47; refine cm_ (impl_DirOk.calls _ _ A26.1) ?_; rintro e w28 ⟨rfl, hb⟩; replace BK477 := bb_ BK477 hb; replace HB := bx_ HB hb; clear hb))
      repeat (go_quiet (first | (go_at_call 34; refine cm_ (impl_in.calls A22.1) ?_; rintro e w' ⟨rfl, ⟨nd, rfl⟩⟩; (try first | exact dd_ | exact de_)) | (go_at_call 34; refine cm_ (impl_in.calls A24.1) ?_; rintro e w' ⟨rfl, ⟨nd, rfl⟩⟩; (try first | exact dd_ | exact de_)) | (go_at_call 47; refine cm_ (impl_DirOk.calls _ _ A26.1) ?_; rintro e w28 ⟨rfl, hb⟩; replace BK477 := bb_ BK477 hb; replace HB := bx_ HB hb; clear hb)); try go_wp2_with (first | (go_at_call 34; refine cm_ (impl_in.calls A22.1) ?_; rintro e w' ⟨rfl, ⟨nd, rfl⟩⟩; (try first | exact dd_ | exact de_)) | (go_at_call 34; refine cm_ (impl_in.calls A24.1) ?_; rintro e w' ⟨rfl, ⟨nd, rfl⟩⟩; (try first | exact dd_ | exact de_)) | (go_at_call 47; refine cm_ (impl_DirOk.calls _ _ A26.1) ?_; rintro e w28 ⟨rfl, hb⟩; replace BK477 := bb_ BK477 hb; replace HB := bx_ HB hb; clear hb)))
      go_ret
      exact ⟨re_, hs_ HB GE477⟩
     ·replace c25 := bF_ c25; subst c25; rw [if_neg ff_] at H; obtain rfl := in_ H; obtain ⟨_, _, _, _, _, _⟩ := bc3_ BK477
      go_wp2_with (first | (go_at_call 34; refine cm_ (impl_in.calls A22.1) ?_; rintro e w' ⟨rfl, ⟨nd, rfl⟩⟩; (try first | exact dd_ | exact de_)) | (go_at_call 34; refine cm_ (impl_in.calls A24.1) ?_; rintro e w' ⟨rfl, ⟨nd, rfl⟩⟩; (try first | exact dd_ | exact de_)))
      repeat (go_quiet (first | (go_at_call 34; refine cm_ (impl_in.calls A22.1) ?_; rintro e w' ⟨rfl, ⟨nd, rfl⟩⟩; (try first | exact dd_ | exact de_)) | (go_at_call 34; refine cm_ (impl_in.calls A24.1) ?_; rintro e w' ⟨rfl, ⟨nd, rfl⟩⟩; (try first | exact dd_ | exact de_))); try go_wp2_with (first | (go_at_call 34; refine cm_ (impl_in.calls A22.1) ?_; rintro e w' ⟨rfl, ⟨nd, rfl⟩⟩; (try first | exact dd_ | exact de_)) | (go_at_call 34; refine cm_ (impl_in.calls A24.1) ?_; rintro e w' ⟨rfl, ⟨nd, rfl⟩⟩; (try first | exact dd_ | exact de_))))
      go_ret
      exact ⟨re_, hs_ HB GE477⟩
    ·replace c23 := bF_ c23; subst c23; rw [if_neg ff_] at H; obtain rfl := in_ H; obtain ⟨_, _, _, _, _, _⟩ := bc3_ BK477
     go_wp2_with (go_at_call 34; refine cm_ (impl_in.calls A22.1) ?_; rintro e w' ⟨rfl, ⟨nd, rfl⟩⟩; (try first | exact dd_ | exact de_))
     repeat (go_quiet ((go_at_call 34; refine cm_ (impl_in.calls A22.1) ?_; rintro e w' ⟨rfl, ⟨nd, rfl⟩⟩; (try first | exact dd_ | exact de_))); try go_wp2_with (go_at_call 34; refine cm_ (impl_in.calls A22.1) ?_; rintro e w' ⟨rfl, ⟨nd, rfl⟩⟩; (try first | exact dd_ | exact de_)))
     go_ret
     exact ⟨re_, hs_ HB GE477⟩
def impl_Var.l0 : Nat → Int → List Int → Option (ByteArray)
 | 0, _, _ => none
 | k + 1, x0, x3 => if x0 > 127 then (if x3.length < 140737488355328 then (impl_Var.l0 k (wrap64 (Int.tdiv x0 128)) (x3 ++ [(wrap64 ((Int.tmod x0 128) + 128)) % 256])) else (none)) else (if x3.length < 140737488355328 then (some (strOfNums (x3 ++ [(x0) % 256]))) else (none))
def impl_Var.f (k : Nat) (a0 : Int) : Option (ByteArray) := (impl_in.f a0 0 562949953421311).bind fun t484 => (if t484 = true then (impl_Var.l0 k a0 ([] : List Int)) else (some (⟨#[]⟩ : ByteArray)))
theorem impl_Var.calls {k : Nat} {a0 : Int} {r : ByteArray} {w : World} (h : impl_Var.f k a0 = some r) :
  Calls Try.prog 48 #[.int .i64 a0] w fun e w' => e = .returned (.string r) ∧ Below w.heap.size w w' := by
 have HB := am_ (Below.refl w.heap.size w); unfold impl_Var.f at h; have H := h; clear h; replace H := bnd_ H; obtain ⟨t484, A2, H⟩ := H; by_cases c3 : t484 = true
 ·subst c3; rw [if_pos rfl] at H; have H' := am_ H; clear H
  go_enter Try.func48, Try.ntmps48
  go_wp2_with (refine gc_ 5 Try.func34 ?_; refine ch1_ (impl_in.calls A2.1) ?_; rintro w' ⟨nd, rfl⟩)
  go_loopg [0, 3] k (fun kq v0 v3 w' => ∃ (x0_1 : Int) (x3_1 : List Int), v0 = .int .i64 x0_1 ∧ Aside0 (impl_Var.l0 kq x0_1 x3_1 = some r) ∧ Aside0 (kq ≤ k) ∧ Aside0 (Kd.R (Kd.int .u8) 5 w' w.heap.size (fun _ => True) v3 x3_1) ∧ Aside0 (Below w.heap.size w w'))
  case atStart => exact ⟨_, _, rs_, H', ⟨Nat.le_refl _⟩, ⟨by first | exact Kd.R_nil _ _ _ _ _ | exact Kd.N_nil _ _ _ _ _ | exact Kd.V_nil _ _ _ _ _ | exact Kd.Q_nil _ _ _ _ _ | exact Kd.S_nil _ _ _ _ _⟩, ⟨hb_ HB⟩⟩
  case round =>
   clear H'
   (try clear c3)
   obtain ⟨x0_1, x3_1, rfl, HA, HK1, HO_3, HB⟩ := hrel
   cases gk with
   | zero => exact zz_ HA
   | succ k1 =>
    have H := HA.1; clear HA; simp only [impl_Var.l0] at H; by_cases c4 : x0_1 > 127
    ·rw [if_pos c4] at H; have c4b0 := dq_ c4; clear c4; replace H := il_ H; obtain ⟨LMc5, H⟩ := H; obtain ⟨y485, hy485⟩ : ∃ y_ : List Int, y_ = (x3_1 ++ [(wrap64 ((Int.tmod x0_1 128) + 128)) % 256]) := ⟨_, rfl⟩
     rw [← hy485] at H; have Ny485 := am_ hy485; clear hy485; have H' := am_ H; clear H
     go_wp2_with (at_builtin; refine gb_ #[.tmp 9, .tmp 14] ?_; refine Kd.R_append (Kd.int .u8) (w0 := w) w.heap.size rfl (.tmp 9) (.tmp 14) 22 5 (.int .u8 0) 1 rfl Try.underlying22 info5 rfl (by decide) (by omega) u3 x3_1 ((wrap64 ((Int.tmod x0_1 128) + 128)) % 256) [.int .u8 ((wrap64 ((Int.tmod x0_1 128) + 128)) % 256)] (fun _ => True) (fun _ => False) rfl rfl ?aP (fun _ hk => hk.elim) ?aF ?aO ?aB ?aS ?aL ?_; (case aP => exact rfl); (case aB => exact (hb_ HB)); (case aF => exact (fun _ _ => trivial)); (case aO => exact (rr_ HO_3)); (case aS => exact (below_size (hb_ HB))); (case aL => have := LMc5.1; omega); intro v486 w6 ho hb hg hat; rw [← Ny485.1] at ho; replace HB := am_ hb; have HO487 := am_ ho; clear HO_3; clear ho hb hg hat)
     go_roundg k1
     case measure => exact m1_ HK1
     case rel => exact ⟨_, _, rs_, H', ⟨m1_ HK1⟩, ⟨rr_ HO487⟩, ⟨hb_ HB⟩⟩
    ·rw [if_neg c4] at H; have c4b0 := df_ c4; clear c4; replace H := il_ H; obtain ⟨LMc7, H⟩ := H; obtain ⟨y488, hy488⟩ : ∃ y_ : List Int, y_ = (x3_1 ++ [(x0_1) % 256]) := ⟨_, rfl⟩
     rw [← hy488] at H; have Ny488 := am_ hy488; clear hy488; obtain rfl := in_ H
     go_wp2_with (at_builtin; refine gb_ #[.tmp 18, .tmp 21] ?_; refine Kd.R_append (Kd.int .u8) (w0 := w) w.heap.size rfl (.tmp 18) (.tmp 21) 22 5 (.int .u8 0) 1 rfl Try.underlying22 info5 rfl (by decide) (by omega) u3 x3_1 ((x0_1) % 256) [.int .u8 ((x0_1) % 256)] (fun _ => True) (fun _ => False) rfl rfl ?aP (fun _ hk => hk.elim) ?aF ?aO ?aB ?aS ?aL ?_; (case aP => exact rfl); (case aB => exact (hb_ HB)); (case aF => exact (fun _ _ => trivial)); (case aO => exact (rr_ HO_3)); (case aS => exact (below_size (hb_ HB))); (case aL => have := LMc7.1; omega); intro v489 w8 ho hb hg hat; rw [← Ny488.1] at ho; replace HB := am_ hb; have HO490 := am_ ho; clear HO_3; clear ho hb hg hat; have hcv9 := own_string (P := Try.prog) Try.underlying22 Try.underlying5 Try.underlying9 (Kd.own_of_R HO490.1))
     go_ret
     exact ⟨re_, hb_ HB⟩
 ·replace c3 := bF_ c3; subst c3; rw [if_neg ff_] at H; obtain rfl := in_ H
  go_enter Try.func48, Try.ntmps48
  go_wp2_with (refine gc_ 5 Try.func34 ?_; refine ch1_ (impl_in.calls A2.1) ?_; rintro w' ⟨nd, rfl⟩)
  go_ret
  exact ⟨re_, hb_ HB⟩
def impl_vars.l0 : Nat → ByteArray → List Int → Int → Int → Option (ByteArray)
 | 0, _, _, _, _ => none
 | k + 1, x3, x6, x7, x8 => if x8 < x7 then (if 0 ≤ x8 then (if x8 < (x6.length : Int) then ((impl_Var.f k (rd x6 x8)).bind fun t492 => (if x3.size + t492.size ≤ 9223372036854775807 then (impl_vars.l0 k (x3 ++ t492) x6 x7 (wrap64 (x8 + 1))) else (none))) else (none)) else (none)) else (some x3)
def impl_vars.f (k : Nat) (l0 : List Int) : Option (ByteArray) := impl_vars.l0 k (⟨#[]⟩ : ByteArray) l0 (l0.length : Int) 0
theorem impl_vars.calls {k : Nat} {l0 : List Int} {r : ByteArray} {w : World} (A0 : Option Addr) (c0 : Nat) (h : impl_vars.f k l0 = some r) (hr0 : Kd.C (Kd.int .i64) w A0 l0.length l0 := by exact sr_) (hc0 : l0.length ≤ c0 := by exact sc_) :
  Calls Try.prog 18 #[.slice A0 l0.length c0] w fun e w' => e = .returned (.string r) ∧ Below w.heap.size w w' := by
 have HR0 := am_ hr0; have HC0 := am_ hc0; clear hr0 hc0; have HB := am_ (Below.refl w.heap.size w); unfold impl_vars.f at h; have H := h; clear h; have H' := am_ H; clear H
 go_enter Try.func18, Try.ntmps18
 go_wp2
 go_loopg [3, 8] k (fun kq v3 v8 w' => ∃ (x3_1 : ByteArray) (x8_1 : Int), v3 = .string x3_1 ∧ v8 = .int .i64 x8_1 ∧ Aside0 (impl_vars.l0 kq x3_1 l0 (l0.length : Int) x8_1 = some r) ∧ Aside0 (kq ≤ k) ∧ Aside0 (Below w.heap.size w w'))
 case atStart => exact ⟨_, _, rs_, rs_, H', ⟨Nat.le_refl _⟩, ⟨hb_ HB⟩⟩
 case round =>
  clear H'; obtain ⟨x3_1, x8_1, rfl, rfl, HA, HK1, HB⟩ := hrel
  cases gk with
  | zero => exact zz_ HA
  | succ k1 =>
   have H := HA.1; clear HA; simp only [impl_vars.l0] at H; by_cases c2 : x8_1 < (l0.length : Int)
   ·rw [if_pos c2] at H; have c2b0 := dq_ c2; clear c2; replace H := ih_ H; obtain ⟨c3, H⟩ := H; have c3b0 := dq_ c3; clear c3; replace H := ih_ H; obtain ⟨c4, H⟩ := H; have c4b0 := dq_ c4; clear c4; replace H := bnd_ H; obtain ⟨t492, A5, H⟩ := H; replace H := ih_ H; obtain ⟨c6, H⟩ := H; have ⟨c6b0, c6b1, c6b2⟩ := dl_ c6
    have H' := am_ H; clear H; have p491 : 0 ≤ (x8_1 : Int) := od_; have q491 : x8_1 < (l0.length : Int) := od_; obtain ⟨ad491, e491, hx491_0⟩ := Kd.at_int HR0.1 x8_1 p491 q491
    cases e491
    (try replace hx491_0 := cb_ HB hx491_0)
    replace p491 := eq_true p491; replace q491 := eq_true q491
    go_wp2_with (refine gc_ 14 Try.func48 ?_; refine ch1_ (impl_Var.calls A5.1) ?_; intro w7 hb; replace HB := bx_ HB hb; clear hb)
    go_roundg k1
    case measure => exact m1_ HK1
    case rel => exact ⟨_, _, rs_, rs_, H', ⟨m1_ HK1⟩, ⟨hb_ HB⟩⟩
   ·rw [if_neg c2] at H; have c2b0 := df_ c2; clear c2; obtain rfl := in_ H
    go_wp2
    go_ret
    exact ⟨re_, hb_ HB⟩
def impl_textOf.f (k : Nat) (a0 : ByteArray) : Option (ByteArray) := (impl_Var.f k (a0.size : Int)).bind fun t493 => (if t493.size + a0.size ≤ 9223372036854775807 then (some (t493 ++ a0)) else (none))
theorem impl_textOf.calls {k : Nat} {a0 r : ByteArray} {w : World} (h : impl_textOf.f k a0 = some r) :
  Calls Try.prog 19 #[.string a0] w fun e w' => e = .returned (.string r) ∧ Below w.heap.size w w' := by
 have HB := am_ (Below.refl w.heap.size w); unfold impl_textOf.f at h; have H := h; clear h; replace H := bnd_ H; obtain ⟨t493, A2, H⟩ := H; replace H := ih_ H; obtain ⟨c3, H⟩ := H; have ⟨c3b0, c3b1, c3b2⟩ := dl_ c3
 obtain rfl := in_ H
 go_enter Try.func19, Try.ntmps19
 go_wp2_with (refine gc_ 5 Try.func48 ?_; refine ch1_ (impl_Var.calls A2.1) ?_; intro w4 hb; replace HB := bx_ HB hb; clear hb)
 go_ret
 exact ⟨re_, hb_ HB⟩
mutual
def impl_Fixed.j0 : Nat → Int → Int → Bool → Option (ByteArray)
 | 0, _, _, _ => none
 | k + 1, x0, x1, x18 => if x18 = true then (some (⟨#[]⟩ : ByteArray)) else (impl_Fixed.l0 k x0 ([] : List Int) (wrap64 (x1 - 1)))
def impl_Fixed.l0 : Nat → Int → List Int → Int → Option (ByteArray)
 | 0, _, _, _ => none
 | k + 1, x0, x5, x6 => if x6 ≥ 0 then (if 0 ≤ (wrap64 (8 * x6)) then (if x5.length < 140737488355328 then (impl_Fixed.l0 k x0 (x5 ++ [(shr .i64 x0 (wrap64 (8 * x6))) % 256]) (wrap64 (x6 - 1))) else (none)) else (none)) else (some (strOfNums x5))
end
def impl_Fixed.f (k : Nat) (a0 : Int) (a1 : Int) : Option (ByteArray) := (impl_in.f a1 1 7).bind fun t494 => (if t494 = true then (if 0 ≤ (wrap64 (8 * a1)) then ((impl_in.f a0 0 (wrap64 ((shl .i64 1 (wrap64 (8 * a1))) - 1))).bind fun t495 => (impl_Fixed.j0 k a0 a1 (!t495))) else (none)) else (impl_Fixed.j0 k a0 a1 true))
theorem impl_Fixed.calls {k : Nat} {a0 a1 : Int} {r : ByteArray} {w : World} (h : impl_Fixed.f k a0 a1 = some r) :
  Calls Try.prog 20 #[.int .i64 a0, .int .i64 a1] w fun e w' => e = .returned (.string r) ∧ Below w.heap.size w w' := by
 have HB := am_ (Below.refl w.heap.size w); unfold impl_Fixed.f at h; have H := h; clear h; have HC3 := am_ H; clear H
 go_enter Try.func20, Try.ntmps20
 go_upto_region 1 with (fail)
 go_cut [18] (fun v18 wc => ∃ (kq : Nat) (x18_2 : Bool), v18 = .bool x18_2 ∧ Aside0 (impl_Fixed.j0 kq a0 a1 x18_2 = some r) ∧ Aside0 (kq ≤ k) ∧ Aside0 (Below w.heap.size w wc))
 case first =>
  have H := HC3.1; clear HC3; replace H := bnd_ H; obtain ⟨t494, A4, H⟩ := H; by_cases c5 : t494 = true
  ·subst c5; rw [if_pos rfl] at H; obtain ⟨ji6, hji6⟩ : ∃ j_ : Int, (wrap64 (8 * a1)) = j_ := ⟨_, rfl⟩
   (first | rw [hji6] at H | simp only [hji6] at H)
   (try rw [hji6] at A4)
   have hji6w : (IntKind.i64.wrap (8 * a1)) = ji6 := (i64_w _).trans hji6; replace H := ig_ H; obtain ⟨c7b0, c7b1, H⟩ := H; obtain ⟨ji8, hji8⟩ : ∃ j_ : Int, (shl .i64 1 (ji6)) = j_ := ⟨_, rfl⟩
   (first | rw [hji8] at H | simp only [hji8] at H)
   (try rw [hji8] at A4)
   have hji8_ : (IntKind.i64.wrap (1 * 2 ^ min (ji6).toNat 64)) = ji8 := hji8; have hji8z : (ji6) ≤ 64 → (IntKind.i64.wrap (1 * 2 ^ (ji6).toNat)) = ji8 := shl_small hji8; have hji8u : (IntKind.i64.wrap (2 ^ min (ji6).toNat 64)) = ji8 := by have h_ := hji8_; rw [Int.one_mul] at h_; exact h_
   have hji8v : (ji6) ≤ 64 → (IntKind.i64.wrap (2 ^ (ji6).toNat)) = ji8 := fun hle_ => by have h_ := hji8z hle_; rw [Int.one_mul] at h_; exact h_
   have hji8y : (wrap64 (1 * 2 ^ min (ji6).toNat 64)) = ji8 := (i64_w _).symm.trans hji8_; have hji8x : (ji6) ≤ 64 → (wrap64 (1 * 2 ^ (ji6).toNat)) = ji8 := fun h_ => (i64_w _).symm.trans (hji8z h_)
   replace H := bnd_ H; obtain ⟨t495, A9, H⟩ := H; have H' := am_ H; clear H
   go_wp2_with (first | (refine gc_ 8 Try.func34 ?_; refine ch1_ (impl_in.calls A4.1) ?_; rintro w' ⟨nd, rfl⟩) | (go_at_call 34; refine cm_ (impl_in.calls A9.1) ?_; rintro e w' ⟨rfl, ⟨nd, rfl⟩⟩))
   go_meet
   case rel => exact ⟨_, (!t495), rs_, (by first | exact H' | (simp only [hji8, hji6]; exact H')), ⟨m0_⟩, ⟨hb_ HB⟩⟩
  ·replace c5 := bF_ c5; subst c5; rw [if_neg ff_] at H; have H' := am_ H; clear H
   go_wp2_with (refine gc_ 8 Try.func34 ?_; refine ch1_ (impl_in.calls A4.1) ?_; rintro w' ⟨nd, rfl⟩)
   go_meet
   case rel => exact ⟨_, (true), rs_, (by first | exact H' | (simp only [hji6]; exact H')), ⟨m0_⟩, ⟨hb_ HB⟩⟩
 case rest =>
  clear HC3
  (try clear c5); (try clear c7); (try clear c7b0); (try clear c7b1)
  obtain ⟨kq, x18_2, rfl, HA, HJ2, HB⟩ := hcut
  cases kq with
  | zero => exact zz_ HA
  | succ kj2 =>
   have H := HA.1; clear HA; simp only [impl_Fixed.j0] at H; by_cases c10 : x18_2 = true
   ·subst c10; rw [if_pos rfl] at H; obtain rfl := in_ H
    go_wp2
    go_ret
    exact ⟨re_, hb_ HB⟩
   ·replace c10 := bF_ c10; subst c10; rw [if_neg ff_] at H; have H' := am_ H; clear H
    go_wp2
    go_loopg [5, 6] kj2 (fun kq v5 v6 w' => ∃ (x5_2 : List Int) (x6_2 : Int), v6 = .int .i64 x6_2 ∧ Aside0 (impl_Fixed.l0 kq a0 x5_2 x6_2 = some r) ∧ Aside0 (kq ≤ kj2) ∧ Aside0 (Kd.R (Kd.int .u8) 5 w' w.heap.size (fun _ => True) v5 x5_2) ∧ Aside0 (Below w.heap.size w w'))
    case atStart => exact ⟨_, _, rs_, H', ⟨Nat.le_refl _⟩, ⟨by first | exact Kd.R_nil _ _ _ _ _ | exact Kd.N_nil _ _ _ _ _ | exact Kd.V_nil _ _ _ _ _ | exact Kd.Q_nil _ _ _ _ _ | exact Kd.S_nil _ _ _ _ _⟩, ⟨hb_ HB⟩⟩
    case round =>
     clear H'
     (try clear c5); (try clear c7); (try clear c7b0); (try clear c7b1); (try clear c10)
     obtain ⟨x5_2, x6_2, rfl, HA, HK2, HO_5, HB⟩ := hrel
     cases gk with
     | zero => exact zz_ HA
     | succ k2 =>
      have H := HA.1; clear HA; simp only [impl_Fixed.l0] at H; by_cases c11 : x6_2 ≥ 0
      ·rw [if_pos c11] at H; have c11b0 := dq_ c11; clear c11; obtain ⟨ji12, hji12⟩ : ∃ j_ : Int, (wrap64 (8 * x6_2)) = j_ := ⟨_, rfl⟩
       (first | rw [hji12] at H | simp only [hji12] at H)
       have hji12w : (IntKind.i64.wrap (8 * x6_2)) = ji12 := (i64_w _).trans hji12; replace H := ig_ H; obtain ⟨c13b0, c13b1, H⟩ := H; obtain ⟨ji14, hji14⟩ : ∃ j_ : Int, (shr .i64 a0 (ji12)) = j_ := ⟨_, rfl⟩
       (first | rw [hji14] at H | simp only [hji14] at H)
       have hji14_ : (a0 / 2 ^ min (ji12).toNat 64) = ji14 := hji14; have hji14z : (ji12) ≤ 64 → (a0 / 2 ^ (ji12).toNat) = ji14 := shr_small hji14; replace H := il_ H; obtain ⟨LMc15, H⟩ := H; obtain ⟨y496, hy496⟩ : ∃ y_ : List Int, y_ = (x5_2 ++ [(ji14) % 256]) := ⟨_, rfl⟩
       rw [← hy496] at H; have Ny496 := am_ hy496; clear hy496; have H' := am_ H; clear H
       go_wp2_with (at_builtin; refine gb_ #[.tmp 25, .tmp 31] ?_; refine Kd.R_append (Kd.int .u8) (w0 := w) w.heap.size rfl (.tmp 25) (.tmp 31) 22 5 (.int .u8 0) 1 rfl Try.underlying22 info5 rfl (by decide) (by omega) u5 x5_2 ((ji14) % 256) [.int .u8 ((ji14) % 256)] (fun _ => True) (fun _ => False) rfl rfl ?aP (fun _ hk => hk.elim) ?aF ?aO ?aB ?aS ?aL ?_; (case aP => exact rfl); (case aB => exact (hb_ HB)); (case aF => exact (fun _ _ => trivial)); (case aO => exact (rr_ HO_5)); (case aS => exact (below_size (hb_ HB))); (case aL => have := LMc15.1; omega); intro v497 w16 ho hb hg hat; rw [← Ny496.1] at ho; replace HB := am_ hb; have HO498 := am_ ho; clear HO_5; clear ho hb hg hat)
       go_roundg k2
       case measure => exact m2_ HJ2 HK2
       case rel => exact ⟨(y496), (wrap64 (x6_2 - 1)), rs_, (by first | exact H' | (simp only [hji14, hji12]; exact H')), ⟨m2_ HJ2 HK2⟩, ⟨rr_ HO498⟩, ⟨hb_ HB⟩⟩
      ·rw [if_neg c11] at H; have c11b0 := df_ c11; clear c11; obtain rfl := in_ H; have hcv17 := own_string (P := Try.prog) Try.underlying22 Try.underlying5 Try.underlying9 (Kd.own_of_R HO_5.1)
       go_wp2
       go_ret
       exact ⟨re_, hb_ HB⟩
mutual
def impl_Crc.l0 : Nat → ByteArray → Int → Int → Option (Int)
 | 0, _, _, _ => none
 | k + 1, x0, x3, x4 => if x4 < (x0.size : Int) then (if 0 ≤ x4 then (impl_Crc.l1 k x0 (Go.bits .xor .u32 x3 ((bt x0 x4) % 4294967296)) x4 0) else (none)) else (some (wrap64 (Go.bits .xor .u32 (IntKind.u32.max) x3)))
def impl_Crc.l1 : Nat → ByteArray → Int → Int → Int → Option (Int)
 | 0, _, _, _, _ => none
 | k + 1, x0, x3, x4, x18 => if x18 < 8 then (if (Go.bits .and .u32 x3 1) = 1 then (impl_Crc.l1 k x0 (Go.bits .xor .u32 (x3 / 2) 2197175160) x4 (wrap64 (x18 + 1))) else (impl_Crc.l1 k x0 (x3 / 2) x4 (wrap64 (x18 + 1)))) else (impl_Crc.l0 k x0 x3 (wrap64 (x4 + 1)))
end
def impl_Crc.f (k : Nat) (a0 : ByteArray) : Option (Int) := impl_Crc.l0 k a0 4294967295 0
theorem impl_Crc.calls {k : Nat} {a0 : ByteArray} {r : Int} {w : World} (h : impl_Crc.f k a0 = some r) :
  Calls Try.prog 21 #[.string a0] w fun e w' => e = .returned (.int .i64 r) ∧ Drawn0 w w' := by
 unfold impl_Crc.f at h; have H := h; clear h; have H' := am_ H; clear H
 go_enter Try.func21, Try.ntmps21
 go_wp2
 go_loopg [3, 4] k (fun kq v3 v4 w' => ∃ (x3_1 : Int) (x4_1 : Int), v3 = .int .u32 x3_1 ∧ v4 = .int .i64 x4_1 ∧ Aside0 (impl_Crc.l0 kq a0 x3_1 x4_1 = some r) ∧ Aside0 (kq ≤ k) ∧ Drawn0 w w')
 case atStart => exact ⟨_, _, rs_, rs_, H', ⟨Nat.le_refl _⟩, by repeat (first | exact Drawn0.refl _ | apply Drawn0.step)⟩
 case round =>
  clear H'; obtain ⟨x3_1, x4_1, rfl, rfl, HA, HK1, ⟨m1, rfl⟩⟩ := hrel
  cases gk with
  | zero => exact zz_ HA
  | succ k1 =>
   have H := HA.1; clear HA; simp only [impl_Crc.l0] at H; by_cases c2 : x4_1 < (a0.size : Int)
   ·rw [if_pos c2] at H; have c2b0 := dq_ c2; clear c2; replace H := ih_ H; obtain ⟨c3, H⟩ := H; have c3b0 := dq_ c3; clear c3; have H' := am_ H; clear H; have p4 : 0 ≤ (x4_1 : Int) := od_; have q4 : x4_1 < (a0.size : Int) := od_; have hx4 := bt_at a0 x4_1; replace p4 := eq_true p4; replace q4 := eq_true q4
    go_wp2
    go_loopg [3, 18] k1 (fun kq v3 v18 w' => ∃ (x3_2 : Int) (x18_2 : Int), v3 = .int .u32 x3_2 ∧ v18 = .int .i64 x18_2 ∧ Aside0 (impl_Crc.l1 kq a0 x3_2 x4_1 x18_2 = some r) ∧ Aside0 (kq ≤ k1) ∧ Drawn0 w w')
    case atStart => exact ⟨_, _, rs_, rs_, H', ⟨Nat.le_refl _⟩, by repeat (first | exact Drawn0.refl _ | apply Drawn0.step)⟩
    case round =>
     clear H'
     (try clear c2); (try clear c2b0); (try clear c3); (try clear c3b0); (try clear p4); (try clear q4); (try clear hx4)
     obtain ⟨x3_2, x18_2, rfl, rfl, HA, HK2, ⟨m2, rfl⟩⟩ := hrel
     cases gk with
     | zero => exact zz_ HA
     | succ k2 =>
      have H := HA.1; clear HA; simp only [impl_Crc.l1] at H; by_cases c5 : x18_2 < 8
      ·rw [if_pos c5] at H; have c5b0 := dq_ c5; clear c5; by_cases c6 : (Go.bits .and .u32 x3_2 1) = 1
       ·rw [if_pos c6] at H; have ⟨c6b0, c6b1⟩ := bq5_ c6; clear c6; have H' := am_ H; clear H
        go_wp2
        go_roundg k2
        case measure => exact m2_ HK1 HK2
        case rel => exact ⟨_, _, rs_, rs_, H', ⟨m2_ HK1 HK2⟩, by repeat (first | exact Drawn0.refl _ | apply Drawn0.step)⟩
       ·rw [if_neg c6] at H; have ⟨c6b0, c6b1⟩ := bq6_ c6; have H' := am_ H; clear H
        go_wp2
        go_roundg k2
        case measure => exact m2_ HK1 HK2
        case rel => exact ⟨_, _, rs_, rs_, H', ⟨m2_ HK1 HK2⟩, by repeat (first | exact Drawn0.refl _ | apply Drawn0.step)⟩
      ·rw [if_neg c5] at H; have c5b0 := df_ c5; clear c5; have H' := am_ H; clear H
       go_wp2
       go_roundg k2
       case measure => exact m2_ HK1 HK2
       case rel => exact ⟨_, _, rs_, rs_, H', ⟨m2_ HK1 HK2⟩, by repeat (first | exact Drawn0.refl _ | apply Drawn0.step)⟩
   ·rw [if_neg c2] at H; have c2b0 := df_ c2; clear c2; obtain rfl := in_ H
    go_wp2
    go_ret
    exact ⟨by first | rfl | (simp; done) | (simp [*]; done), by repeat (first | exact Drawn0.refl _ | apply Drawn0.step)⟩
end Go.Proofs.Ytohfcgdodgdiiaa.PFnHints
