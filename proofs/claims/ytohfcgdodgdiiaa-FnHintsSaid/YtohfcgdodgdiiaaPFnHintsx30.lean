import Derived.Test.YtohfcgdodgdiiaaPFnHintsx29
namespace Go.Proofs.Ytohfcgdodgdiiaa.PFnHints
open Go.RowKit Go.Proofs.YtohfcgdodgdiiaaW.PrintWords Go.Proofs.YtohfcgdodgdiiaaW.PrintLast Go.Proofs.YtohfcgdodgdiiaaW.PrintMore
attribute [local go_sem] max2_int min2_int max_two min_two max_three min_three max_four min_four
set_option linter.unusedVariables false
set_option linter.unusedSimpArgs false
set_option maxHeartbeats 80000000
set_option maxRecDepth 100000
attribute [local go_sem] bl_leqq13463 bl_gtrq13463 bl_geqq13463
mutual
def impl_HintOf.j0 : Nat → Int → List (S43) → Int → Int → Bool → Option (Int × Int × (List (S55)) × Bool)
 | 0, _, _, _, _, _ => none
 | k + 1, x0, x6, x7, x8, x55 => if x55 = true then (some (0, 0, ([] : List (S55)), false)) else (if 0 ≤ x8 then (if x8 < (x6.length : Int) then (if x8 ≤ (x6.length : Int) then ((some (x6.take (x8 : Int).toNat : List (S43))).bind fun y785 => (impl_HintOf.l0 k x0 x6 y785 (y785.length : Int) 0 x7 ((rd_T43 x6 x8).f2.f1) ([] : List (S55)))) else (none)) else (none)) else (none))
def impl_HintOf.l0 : Nat → Int → List (S43) → List (S43) → Int → Int → Int → Int → List (S55) → Option (Int × Int × (List (S55)) × Bool)
 | 0, _, _, _, _, _, _, _, _ => none
 | k + 1, x0, x6, x67, x68, x69, x785000, x785001, x785002 => if x69 < x68 then (if 0 ≤ x69 then (if x69 < (x67.length : Int) then (if ((rd_T43 x67 x69).f2.f0) = 4 then (if ((rd_T43 x67 x69).f2.f1) > x785001 then (impl_HintOf.j2 k x0 x6 x67 x68 x69 true x785000 x785001 x785002 ((rd_T43 x67 x69).f0) ((rd_T43 x67 x69).f1) ((rd_T43 x67 x69).f2.f0) ((rd_T43 x67 x69).f2.f1) ((rd_T43 x67 x69).f2.f2) ((rd_T43 x67 x69).f2.f3) ((rd_T43 x67 x69).f2.f4) ((rd_T43 x67 x69).f2.f5)) else (if x69 > 0 then (if 0 ≤ (wrap64 (x69 - 1)) then (if (wrap64 (x69 - 1)) < (x6.length : Int) then (impl_HintOf.j2 k x0 x6 x67 x68 x69 (!(Op.bytesLess (((rd_T43 x6 (wrap64 (x69 - 1))).f2.f2).toList) (((rd_T43 x67 x69).f2.f2).toList))) x785000 x785001 x785002 ((rd_T43 x67 x69).f0) ((rd_T43 x67 x69).f1) ((rd_T43 x67 x69).f2.f0) ((rd_T43 x67 x69).f2.f1) ((rd_T43 x67 x69).f2.f2) ((rd_T43 x67 x69).f2.f3) ((rd_T43 x67 x69).f2.f4) ((rd_T43 x67 x69).f2.f5)) else (none)) else (none)) else (impl_HintOf.j2 k x0 x6 x67 x68 x69 false x785000 x785001 x785002 ((rd_T43 x67 x69).f0) ((rd_T43 x67 x69).f1) ((rd_T43 x67 x69).f2.f0) ((rd_T43 x67 x69).f2.f1) ((rd_T43 x67 x69).f2.f2) ((rd_T43 x67 x69).f2.f3) ((rd_T43 x67 x69).f2.f4) ((rd_T43 x67 x69).f2.f5)))) else (impl_HintOf.j2 k x0 x6 x67 x68 x69 true x785000 x785001 x785002 ((rd_T43 x67 x69).f0) ((rd_T43 x67 x69).f1) ((rd_T43 x67 x69).f2.f0) ((rd_T43 x67 x69).f2.f1) ((rd_T43 x67 x69).f2.f2) ((rd_T43 x67 x69).f2.f3) ((rd_T43 x67 x69).f2.f4) ((rd_T43 x67 x69).f2.f5))) else (none)) else (none)) else (some (x785000, x785001, x785002, true))
def impl_HintOf.j2 : Nat → Int → List (S43) → List (S43) → Int → Int → Bool → Int → Int → List (S55) → Int → Int → Int → Int → ByteArray → ByteArray → Int → Int → Option (Int × Int × (List (S55)) × Bool)
 | 0, _, _, _, _, _, _, _, _, _, _, _, _, _, _, _, _, _ => none
 | k + 1, x0, x6, x67, x68, x69, x102, x785000, x785001, x785002, x791000, x791001, x791002, x791003, x791004, x791005, x791006, x791007 => if x102 = true then (some (0, 0, ([] : List (S55)), false)) else (if x785002.length < 2932031007402 then (impl_HintOf.l0 k x0 x6 x67 x68 (wrap64 (x69 + 1)) x785000 x785001 (x785002 ++ [(⟨x791004, x0, x791000, x791001, x791003⟩ : S55)])) else (none))
end
def impl_HintOf.f (k : Nat) (a0 : Int) (a1 : ByteArray) : Option (Int × Int × (List (S55)) × Bool) := (impl_ScanRecs.f k a1).bind fun bt768 => (if (wrap64 ((bt768.1.length : Int) - 1)) < 0 then (impl_HintOf.j0 k a0 bt768.1 bt768.2 (wrap64 ((bt768.1.length : Int) - 1)) true) else (if bt768.2 = (a1.size : Int) then ((impl_in.f a0 1 100000).bind fun t772 => (if t772 = true then (if 0 ≤ (wrap64 ((bt768.1.length : Int) - 1)) then (if (wrap64 ((bt768.1.length : Int) - 1)) < (bt768.1.length : Int) then (if ((rd_T43 bt768.1 (wrap64 ((bt768.1.length : Int) - 1))).f2.f0) = 5 then (if (wrap64 ((bt768.1.length : Int) - 1)) ≤ (bt768.1.length : Int) then ((impl_placed.f k a0 (bt768.1.take ((wrap64 ((bt768.1.length : Int) - 1)) : Int).toNat)).bind fun t779 => ((impl_fits.f k ((rd_T43 bt768.1 (wrap64 ((bt768.1.length : Int) - 1))).f2.f0) ((rd_T43 bt768.1 (wrap64 ((bt768.1.length : Int) - 1))).f2.f1) ((rd_T43 bt768.1 (wrap64 ((bt768.1.length : Int) - 1))).f2.f2) ((rd_T43 bt768.1 (wrap64 ((bt768.1.length : Int) - 1))).f2.f3) ((rd_T43 bt768.1 (wrap64 ((bt768.1.length : Int) - 1))).f2.f4) ((rd_T43 bt768.1 (wrap64 ((bt768.1.length : Int) - 1))).f2.f5) t779).bind fun t782 => (impl_HintOf.j0 k a0 bt768.1 bt768.2 (wrap64 ((bt768.1.length : Int) - 1)) (!t782)))) else (none)) else (impl_HintOf.j0 k a0 bt768.1 bt768.2 (wrap64 ((bt768.1.length : Int) - 1)) true)) else (none)) else (none)) else (impl_HintOf.j0 k a0 bt768.1 bt768.2 (wrap64 ((bt768.1.length : Int) - 1)) true))) else (impl_HintOf.j0 k a0 bt768.1 bt768.2 (wrap64 ((bt768.1.length : Int) - 1)) true)))
def impl_HintOf.T3 : Bool × List (List Nat × List Nat) := (true, [([], []), ([0], [0]), ([1], [1]), ([2], [2]), ([2], [2]), ([4, 2], [2, 4]), ([3, 5, 2], [2, 3, 5]), ([2, 6], [2, 6]), ([7, 2], [7]), ([8], [8]), ([9, 8, 8], [8, 9]), ([10, 8], [8, 10]), ([8, 11], [8, 11]), ([12, 10], [12]), ([13], [13]), ([13], [13]), ([14, 15, 13], [13, 14, 15]), ([16, 13], [13, 16]), ([17, 13], [13, 17]), ([18, 13], [13, 18]), ([19, 13], [13, 19]), ([13, 20], [13, 20]), ([21, 13], [21]), ([22], [22]), ([22], [22]), ([23, 24, 22], [22, 23, 24]), ([25, 22], [22, 25]), ([26, 22], [22, 26]), ([22], [22]), ([22], [22]), ([22], [22]), ([29, 30, 22], [22, 29, 30]), ([28, 31, 22, 22], [22, 28, 31]), ([27, 32, 32, 22], [22, 27, 32]), ([33, 22], [22, 33]), ([22, 34], [22, 34])])
def impl_HintOf.B3 : List Nat := [0, 1, 3, 7, 7, 23, 63, 127, 255, 511, 1023, 2047, 4095, 8191, 16383, 16383, 65535, 131071, 262143, 524287, 1048575, 2097151, 4194303, 8388607, 8388607, 33554431, 67108863, 134217727, 8388607, 8388607, 8388607, 1619001343, 4034920447, 8589934591, 17179869183, 34359738367]
theorem impl_HintOf.tab3 : rtab .any (opsOf Try.f11 3) = impl_HintOf.T3 := by kernel_rfl
theorem impl_HintOf.bits3 : waitsOk impl_HintOf.T3.2 impl_HintOf.B3 = true := by kernel_rfl
def impl_HintOf.T9 : Bool × List (List Nat × List Nat) := (true, [([], []), ([0], [0]), ([1], [1]), ([2], [2]), ([3], [3]), ([4], [4]), ([5, 4], [4, 5]), ([6, 4], [4, 6]), ([4], [4]), ([8, 4], [4, 8]), ([7, 9, 4], [4, 7, 9]), ([4, 10], [4, 10]), ([11, 4], [11]), ([12], [12]), ([13, 12], [12, 13]), ([14, 12, 12], [12, 14]), ([15], [15]), ([15], [15]), ([17, 15], [15, 17]), ([16, 18, 15], [15, 16, 18]), ([19, 15], [15, 19]), ([20, 15], [15, 20]), ([21, 15], [15, 21]), ([15], [15]), ([23, 15], [15, 23]), ([24, 15], [15, 24]), ([22, 25, 15], [15, 22, 25]), ([15, 26, 12], [12, 15, 26]), ([12, 27], [12, 27])])
def impl_HintOf.B9 : List Nat := [0, 1, 3, 7, 15, 31, 63, 127, 31, 287, 1023, 2047, 4095, 8191, 16383, 32767, 65535, 65535, 196607, 524287, 1048575, 2097151, 4194303, 65535, 8454143, 25231359, 67108863, 134217727, 268435455]
theorem impl_HintOf.tab9 : rtab .any (opsOf Try.f11 9) = impl_HintOf.T9 := by kernel_rfl
theorem impl_HintOf.bits9 : waitsOk impl_HintOf.T9.2 impl_HintOf.B9 = true := by kernel_rfl
theorem impl_HintOf.calls {k : Nat} {a0 : Int} {a1 : ByteArray} {r1 r2 : Int} {r3 : List (S55)} {r4 : Bool} {w : World} (h : impl_HintOf.f k a0 a1 = some (r1, r2, r3, r4)) :
  Calls Try.prog 11 #[.int .i64 a0, .string a1] w fun e w' => ∃ v2_ : Value, e = .returned (.tuple #[.agg #[.int .i64 r1, .int .i64 r2, v2_], .bool r4]) ∧ Kd.R k55 55 w' w.heap.size (fun _ => True) v2_ r3 ∧ Below w.heap.size w w' := by
 have hu26 := Try.underlying26; have hu41 := Try.underlying41; have hu43 := Try.underlying43; have hu55 := Try.underlying55; have HB := am_ (Below.refl w.heap.size w); unfold impl_HintOf.f at h; have H := h; clear h; replace H := bnd_ H; obtain ⟨⟨t768, t769⟩, A3, H⟩ := H; have HC4 := am_ H; clear H
 go_enter Try.func11, Try.ntmps11
 go_upto_region 3 with (first | ((with_reducible refine gd_ 4 ?_); (try (refine gate_guard (by rfl) ?_; dsimp only)); refine bx1_ 4 #[.int .i64 0, .int .i64 0, .slice none 0 0] 26 ?_; intro gb767 hg w5 hbox hb; have BK767 := am_ hbox; have GE767 := gx_ hg HB; replace HB := bx_ HB hb; clear hb hbox hg) | ((with_reducible refine gc0_ 33 ?_); refine gc_ 14 Try.func33 ?_; refine ch_ (impl_ScanRecs.calls A3.1) ?_; rintro e w6 ⟨v770, rfl, ho0, hb⟩; refine ⟨_, rfl, ?_⟩; have HO771 := rm_ ho0 HB; replace BK767 := bb_ BK767 hb; replace HB := bx_ HB hb; clear hb ho0; obtain ⟨Ao7, co7, eo7⟩ := Kd.R_slice HO771.1; subst eo7))
 (try simp only [Act.put, la_, lz_, ls_])
 go_cut [55] (fun v55 wc => ∃ (kq : Nat) (x55_3 : Bool), v55 = .bool x55_3 ∧ Aside0 (impl_HintOf.j0 kq a0 t768 t769 (wrap64 ((t768.length : Int) - 1)) x55_3 = some (r1, r2, r3, r4)) ∧ Aside0 (kq ≤ k) ∧ Aside0 (Kd.R k43 43 wc w.heap.size (fun _ => True) (.slice Ao7 t768.length co7) t768) ∧ Aside0 (wc.heap[gb767]? = some (.cells #[.int .i64 0, .int .i64 0, (.slice none 0 0)] 26 (0, 0))) ∧ Aside0 (Below w.heap.size w wc))
 case first =>
  have H := HC4.1; clear HC4; by_cases c8 : (wrap64 ((t768.length : Int) - 1)) < 0
  ·rw [if_pos c8] at H; have c8b0 := dq_ c8; clear c8
   (first | rw [c8b0] | (simp only [i64_w, i32_w]; rw [c8b0]) | skip)
   have H' := am_ H; clear H
   try go_wp2
   replace HO771 := rd_ HO771; replace BK767 := bd_ BK767; replace HB := hd_ HB; refine st1_ 36 impl_HintOf.tab3 impl_HintOf.bits3 trivial (fun hHeld HT_ HW_ => ?_) (S := fun w' => True)
   generalize w6.drew = w9 at HO771 BK767 HB hHeld ⊢
   (iterate 3 refine pr_ ?_); (iterate 4 refine pt_ ?_); (iterate 2 refine pr_ ?_); (iterate 3 refine pt_ ?_); (iterate 2 refine pr_ ?_); (iterate 7 refine pt_ ?_); (iterate 2 refine pr_ ?_); (iterate 12 refine pt_ ?_); refine pr_ ?_; refine dn_ ?_
   try go_wp2
   go_meet
   case rel => exact ⟨_, _, rs_, H', ⟨m0_⟩, ⟨rr_ HO771⟩, ⟨bk_ BK767⟩, ⟨hs_ HB GE767⟩⟩
  ·rw [if_neg c8] at H; have c8b0 := df_ c8; clear c8
   (first | rw [c8b0] | (simp only [i64_w, i32_w]; rw [c8b0]) | skip)
   by_cases c10 : t769 = (a1.size : Int)
   ·rw [if_pos c10] at H; have ⟨c10b0, c10b1⟩ := bq5_ c10; clear c10; replace H := bnd_ H; obtain ⟨t772, A11, H⟩ := H; by_cases c12 : t772 = true
    ·subst c12; rw [if_pos rfl] at H; obtain ⟨ji13, hji13⟩ : ∃ j_ : Int, (wrap64 ((t768.length : Int) - 1)) = j_ := ⟨_, rfl⟩
     (first | rw [hji13] at H | simp only [hji13] at H)
     (try rw [hji13] at c8b0)
     (try rw [hji13] at A11)
     have hji13w : (IntKind.i64.wrap ((t768.length : Int) - 1)) = ji13 := (i64_w _).trans hji13; replace H := ih_ H; obtain ⟨c14, H⟩ := H; have c14b0 := dq_ c14; clear c14; replace H := ih_ H; obtain ⟨c15, H⟩ := H; have c15b0 := dq_ c15; clear c15; by_cases c16 : ((rd_T43 t768 (ji13)).f2.f0) = 5
     ·rw [if_pos c16] at H; have ⟨c16b0, c16b1⟩ := bq5_ c16; clear c16; have c17b0 := eq_true (od_ : 0 ≤ (ji13)); replace H := ig_ H; obtain ⟨c18b0, c18b1, H⟩ := H; obtain ⟨y775, hy775⟩ : ∃ y_ : List (S43), y_ = (t768.take ((ji13) : Int).toNat) := ⟨_, rfl⟩
      rw [← hy775] at H; have Ny775 := am_ hy775; clear hy775; replace H := bnd_ H; obtain ⟨t779, A19, H⟩ := H; replace H := bnd_ H; obtain ⟨t782, A20, H⟩ := H; have H' := am_ H; clear H
      try go_wp2
      replace HO771 := rd_ HO771; replace BK767 := bd_ BK767; replace HB := hd_ HB; have p773 : 0 ≤ ((ji13) : Int) := od_; have q773 : (ji13) < (t768.length : Int) := od_; obtain ⟨ad773, e773, hx773_0, hx773_1, hx773_2, hx773_3, hx773_4, hx773_5, hx773_6, hx773_7⟩ := at_T43 (Kd.R_reads' HO771.1).2.2 (ji13) p773 q773
      cases e773
      replace p773 := eq_true p773; replace q773 := eq_true q773; have p774 : 0 ≤ ((ji13) : Int) := od_; have q774 : (ji13) < (t768.length : Int) := od_; obtain ⟨ad774, e774, hx774_0, hx774_1, hx774_2, hx774_3, hx774_4, hx774_5, hx774_6, hx774_7⟩ := at_T43 (Kd.R_reads' HO771.1).2.2 (ji13) p774 q774; obtain rfl : ad773 = ad774 := (by injection e774); replace p774 := eq_true p774; replace q774 := eq_true q774; refine st1_ 36 impl_HintOf.tab3 impl_HintOf.bits3 (q8_ hx773_0 hx773_1 hx773_2 hx773_3 hx773_4 hx773_5 hx773_6 hx773_7 (q8e_ hx774_0 hx774_1 hx774_2 hx774_3 hx774_4 hx774_5 hx774_6 hx774_7)) (fun hHeld HT_ HW_ => ?_) (S := e8_ (ad773.add (((ji13)).toNat * 8)) (.int .i64 ((rd_T43 t768 (ji13)).f0)) (.int .i64 ((rd_T43 t768 (ji13)).f1)) (.int .i64 ((rd_T43 t768 (ji13)).f2.f0)) (.int .i64 ((rd_T43 t768 (ji13)).f2.f1)) (.string ((rd_T43 t768 (ji13)).f2.f2)) (.string ((rd_T43 t768 (ji13)).f2.f3)) (.int .i64 ((rd_T43 t768 (ji13)).f2.f4)) (.int .i64 ((rd_T43 t768 (ji13)).f2.f5)) (e8e_ (ad773.add (((ji13)).toNat * 8)) (.int .i64 ((rd_T43 t768 (ji13)).f0)) (.int .i64 ((rd_T43 t768 (ji13)).f1)) (.int .i64 ((rd_T43 t768 (ji13)).f2.f0)) (.int .i64 ((rd_T43 t768 (ji13)).f2.f1)) (.string ((rd_T43 t768 (ji13)).f2.f2)) (.string ((rd_T43 t768 (ji13)).f2.f3)) (.int .i64 ((rd_T43 t768 (ji13)).f2.f4)) (.int .i64 ((rd_T43 t768 (ji13)).f2.f5))))
      generalize w6.drew = w21 at HO771 BK767 HB hx773_0 hx773_1 hx773_2 hx773_3 hx773_4 hx773_5 hx773_6 hx773_7 hx774_0 hx774_1 hx774_2 hx774_3 hx774_4 hx774_5 hx774_6 hx774_7 hHeld ⊢
      (iterate 10 refine pr_ ?_); refine o1_ 10 (some 30) (on_ 11 25) fun K hK => ?_; refine go2_ Try.func34 (impl_in.calls A11.1) ?_; rintro w' ⟨nd, rfl⟩; have q22 : ((ji13) : Int) ≤ ((t768.length : Int) : Int) := od_; obtain ⟨i022, hi022, _, hsz22, _⟩ := info_parts info43; have hroom22 : t768.length ≤ co7 := (Kd.R_reads' HO771.1).2.1; have hC22 : Kd.C k43 _ (some ad773) t768.length t768 := (Kd.R_reads' HO771.1).2.2; have hcut22 := cut_to (P := Try.prog) 37 43 .i64 Try.underlying37 hi022 (some ad773) t768.length co7 (ji13) (od_) q22 hroom22; have hr22 := Kd.C_take (m := ((ji13) : Int).toNat) hC22 (by omega); have hy22 : y775.length = ((ji13) : Int).toNat := (by rw [Ny775.1, List.length_take]; omega); rw [← Ny775.1] at hr22; rw [← hy22] at hcut22; have HR778 := am_ hr22; have HC778 := am_ (show y775.length ≤ co7 from by omega); clear hr22 hC22 hroom22 hi022 hsz22; have KY22 := am_ hy22; clear hy22; have KL22 := am_ (show ((ji13) : Int).toNat ≤ t768.length from by omega); replace q22 := eq_true q22; refine hK.out _ _ (q8_ hHeld.1 hHeld.2.1 hHeld.2.2.1 hHeld.2.2.2.1 hHeld.2.2.2.2.1 hHeld.2.2.2.2.2.1 hHeld.2.2.2.2.2.2.1 hHeld.2.2.2.2.2.2.2.1 (q8e_ hHeld.2.2.2.2.2.2.2.2.1 hHeld.2.2.2.2.2.2.2.2.2.1 hHeld.2.2.2.2.2.2.2.2.2.2.1 hHeld.2.2.2.2.2.2.2.2.2.2.2.1 hHeld.2.2.2.2.2.2.2.2.2.2.2.2.1 hHeld.2.2.2.2.2.2.2.2.2.2.2.2.2.1 hHeld.2.2.2.2.2.2.2.2.2.2.2.2.2.2.1 hHeld.2.2.2.2.2.2.2.2.2.2.2.2.2.2.2)) (fun hHeld => ?_); clear hK K; refine nm_ ?_; (iterate 8 refine pr_ ?_); refine tk16_ 19 39 (on_ 20 16) hHeld ?_
      (iterate 7 refine pr_ ?_); refine pv_' 28 48 (of_ 36 402653183) rfl rfl HT_ ?_; refine pv_' 29 49 (of_ 36 939524095) rfl rfl HT_ ?_; refine pv_' 30 50 (of_ 36 2013265919) rfl rfl HT_ ?_; refine pv_' 31 51 (of_ 36 4160749567) rfl rfl HT_ ?_; refine tk16_ 27 47 (on_ 32 4) hHeld ?_
      refine o1_ 32 (some 52) (on_ 33 3) fun K hK => ?_; refine go1_ Try.func36 (impl_placed.calls (some ad773) co7 A19.1 (hr1 := by repeat (first | exact (by repeat (first | (with_reducible exact HR778.1) | (with_reducible refine Kd.C_alloc ?_ _) | (with_reducible refine Kd.C_drewN ?_ _) | (with_reducible refine Kd.C_drew ?_) | exact HR778.1)) | (with_reducible refine Kd.C_alloc ?_ _) | (with_reducible refine Kd.C_drewN ?_ _) | (with_reducible refine Kd.C_drew ?_)))) ?_; rintro e w23 ⟨v780, rfl, ho0, hb⟩; have HS0_ := hc_ hb hHeld.1; have HS1_ := hc_ hb hHeld.2.1; have HS2_ := hc_ hb hHeld.2.2.1; have HS3_ := hc_ hb hHeld.2.2.2.1; have HS4_ := hc_ hb hHeld.2.2.2.2.1; have HS5_ := hc_ hb hHeld.2.2.2.2.2.1; have HS6_ := hc_ hb hHeld.2.2.2.2.2.2.1; have HS7_ := hc_ hb hHeld.2.2.2.2.2.2.2.1; have HS8_ := hc_ hb hHeld.2.2.2.2.2.2.2.2.1; have HS9_ := hc_ hb hHeld.2.2.2.2.2.2.2.2.2.1; have HS10_ := hc_ hb hHeld.2.2.2.2.2.2.2.2.2.2.1; have HS11_ := hc_ hb hHeld.2.2.2.2.2.2.2.2.2.2.2.1; have HS12_ := hc_ hb hHeld.2.2.2.2.2.2.2.2.2.2.2.2.1; have HS13_ := hc_ hb hHeld.2.2.2.2.2.2.2.2.2.2.2.2.2.1; have HS14_ := hc_ hb hHeld.2.2.2.2.2.2.2.2.2.2.2.2.2.2.1; have HS15_ := hc_ hb hHeld.2.2.2.2.2.2.2.2.2.2.2.2.2.2.2; refine ⟨_, rfl, ?_⟩; replace HO771 := rb_ HO771 hb; have HO781 := rm_ ho0 HB; replace BK767 := bb_ BK767 hb; replace HR778 := am_ (Kd.C_below (by repeat (first | (with_reducible exact HR778.1) | (with_reducible refine Kd.C_alloc ?_ _) | (with_reducible refine Kd.C_drewN ?_ _) | (with_reducible refine Kd.C_drew ?_) | exact HR778.1)) hb); replace HB := bx_ HB hb
      (try clear hb)
      (try clear hb2)
      (try clear hk)
      (try clear hi)
      (try clear ho0)
      obtain ⟨Ao24, co24, eo24⟩ := Kd.R_slice HO781.1
      (first | subst eo24 | (injection eo24 with f1_ f2_ f3_; have f4_ := f1_.symm; have f5_ := f3_.symm; clear f1_ f2_ f3_; subst f4_; subst f5_))
      refine hK.out _ _ (q8_ HS0_ HS1_ HS2_ HS3_ HS4_ HS5_ HS6_ HS7_ (q8e_ HS8_ HS9_ HS10_ HS11_ HS12_ HS13_ HS14_ HS15_)) (fun hHeld => ?_); clear hK K; refine nm_ ?_; refine o1_ 33 (some 53) (on_ 34 2) fun K hK => ?_; refine go1_ Try.func35 (impl_fits.calls Ao24 co24 A20.1) ?_ (hargs := (by (try simp only [List.map_toArray, List.map_cons, List.map_nil]); first | done | (simp only [hji13]; rfl) | rfl | (simp only [List.length_drop, List.length_take]; rfl))); rintro e w25 ⟨rfl, hb⟩; have HS0_ := hc_ hb hHeld.1; have HS1_ := hc_ hb hHeld.2.1; have HS2_ := hc_ hb hHeld.2.2.1; have HS3_ := hc_ hb hHeld.2.2.2.1; have HS4_ := hc_ hb hHeld.2.2.2.2.1; have HS5_ := hc_ hb hHeld.2.2.2.2.2.1; have HS6_ := hc_ hb hHeld.2.2.2.2.2.2.1; have HS7_ := hc_ hb hHeld.2.2.2.2.2.2.2.1; have HS8_ := hc_ hb hHeld.2.2.2.2.2.2.2.2.1; have HS9_ := hc_ hb hHeld.2.2.2.2.2.2.2.2.2.1; have HS10_ := hc_ hb hHeld.2.2.2.2.2.2.2.2.2.2.1; have HS11_ := hc_ hb hHeld.2.2.2.2.2.2.2.2.2.2.2.1; have HS12_ := hc_ hb hHeld.2.2.2.2.2.2.2.2.2.2.2.2.1; have HS13_ := hc_ hb hHeld.2.2.2.2.2.2.2.2.2.2.2.2.2.1; have HS14_ := hc_ hb hHeld.2.2.2.2.2.2.2.2.2.2.2.2.2.2.1; have HS15_ := hc_ hb hHeld.2.2.2.2.2.2.2.2.2.2.2.2.2.2.2; refine ⟨_, rfl, ?_⟩; replace HO771 := rb_ HO771 hb; replace HO781 := rb_ HO781 hb; replace BK767 := bb_ BK767 hb; replace HR778 := am_ (Kd.C_below (by repeat (first | (with_reducible exact HR778.1) | (with_reducible refine Kd.C_alloc ?_ _) | (with_reducible refine Kd.C_drewN ?_ _) | (with_reducible refine Kd.C_drew ?_) | exact HR778.1)) hb); replace HB := bx_ HB hb
      (try clear hb)
      (try clear hb2)
      (try clear hk)
      (try clear hi)
      refine hK.out _ _ (q8_ HS0_ HS1_ HS2_ HS3_ HS4_ HS5_ HS6_ HS7_ (q8e_ HS8_ HS9_ HS10_ HS11_ HS12_ HS13_ HS14_ HS15_)) (fun hHeld => ?_); clear hK K; refine nm_ ?_; (iterate 2 refine pr_ ?_); refine dn_ ?_; have Nji13_ := am_ hji13; clear hji13
      (try clear hji13w)
      try go_wp2
      have hji13 := Nji13_.1; clear Nji13_
      (try have hji13w := (i64_w _).trans hji13)
      (try subst hji13)
      go_meet
      case rel => exact ⟨_, (!t782), rs_, (by first | exact H' | (simp only [hji13]; exact H')), ⟨m0_⟩, ⟨rr_ HO771⟩, ⟨bk_ BK767⟩, ⟨hs_ HB GE767⟩⟩
     ·rw [if_neg c16] at H; have ⟨c16b0, c16b1⟩ := bq6_ c16; have H' := am_ H; clear H
      try go_wp2
      replace HO771 := rd_ HO771; replace BK767 := bd_ BK767; replace HB := hd_ HB; have p773 : 0 ≤ ((ji13) : Int) := od_; have q773 : (ji13) < (t768.length : Int) := od_; obtain ⟨ad773, e773, hx773_0, hx773_1, hx773_2, hx773_3, hx773_4, hx773_5, hx773_6, hx773_7⟩ := at_T43 (Kd.R_reads' HO771.1).2.2 (ji13) p773 q773
      cases e773
      replace p773 := eq_true p773; replace q773 := eq_true q773; refine st1_ 36 impl_HintOf.tab3 impl_HintOf.bits3 (q8e_ hx773_0 hx773_1 hx773_2 hx773_3 hx773_4 hx773_5 hx773_6 hx773_7) (fun hHeld HT_ HW_ => ?_) (S := e8e_ (ad773.add (((ji13)).toNat * 8)) (.int .i64 ((rd_T43 t768 (ji13)).f0)) (.int .i64 ((rd_T43 t768 (ji13)).f1)) (.int .i64 ((rd_T43 t768 (ji13)).f2.f0)) (.int .i64 ((rd_T43 t768 (ji13)).f2.f1)) (.string ((rd_T43 t768 (ji13)).f2.f2)) (.string ((rd_T43 t768 (ji13)).f2.f3)) (.int .i64 ((rd_T43 t768 (ji13)).f2.f4)) (.int .i64 ((rd_T43 t768 (ji13)).f2.f5)))
      generalize w6.drew = w26 at HO771 BK767 HB hx773_0 hx773_1 hx773_2 hx773_3 hx773_4 hx773_5 hx773_6 hx773_7 hHeld ⊢
      (iterate 10 refine pr_ ?_); refine o1_ 10 (some 30) (on_ 11 25) fun K hK => ?_; refine go2_ Try.func34 (impl_in.calls A11.1) ?_; rintro w' ⟨nd, rfl⟩; refine hK.out _ _ (q8e_ hHeld.1 hHeld.2.1 hHeld.2.2.1 hHeld.2.2.2.1 hHeld.2.2.2.2.1 hHeld.2.2.2.2.2.1 hHeld.2.2.2.2.2.2.1 hHeld.2.2.2.2.2.2.2) (fun hHeld => ?_); clear hK K; refine nm_ ?_; (iterate 8 refine pr_ ?_); refine tk8_ 19 39 (on_ 20 16) hHeld ?_
      (iterate 3 refine pr_ ?_); (iterate 12 refine pt_ ?_); refine pr_ ?_; refine dn_ ?_; have Nji13_ := am_ hji13; clear hji13
      (try clear hji13w)
      try go_wp2
      have hji13 := Nji13_.1; clear Nji13_
      (try have hji13w := (i64_w _).trans hji13)
      (try subst hji13)
      go_meet
      case rel => exact ⟨_, (true), rs_, (by first | exact H' | (simp only [hji13]; exact H')), ⟨m0_⟩, ⟨rr_ HO771⟩, ⟨bk_ BK767⟩, ⟨hs_ HB GE767⟩⟩
    ·replace c12 := bF_ c12; subst c12; rw [if_neg ff_] at H; have H' := am_ H; clear H
     try go_wp2
     replace HO771 := rd_ HO771; replace BK767 := bd_ BK767; replace HB := hd_ HB; refine st1_ 36 impl_HintOf.tab3 impl_HintOf.bits3 trivial (fun hHeld HT_ HW_ => ?_) (S := fun w' => True)
     generalize w6.drew = w27 at HO771 BK767 HB hHeld ⊢
     (iterate 10 refine pr_ ?_); refine o1_ 10 (some 30) (on_ 11 25) fun K hK => ?_; refine go2_ Try.func34 (impl_in.calls A11.1) ?_; rintro w' ⟨nd, rfl⟩; refine hK.out _ _ trivial (fun hHeld => ?_); clear hK K; refine nm_ ?_; (iterate 3 refine pr_ ?_); (iterate 7 refine pt_ ?_); (iterate 2 refine pr_ ?_); (iterate 12 refine pt_ ?_); refine pr_ ?_; refine dn_ ?_
     try go_wp2
     go_meet
     case rel => exact ⟨_, (true), rs_, (by first | exact H' | (simp only [hji13]; exact H')), ⟨m0_⟩, ⟨rr_ HO771⟩, ⟨bk_ BK767⟩, ⟨hs_ HB GE767⟩⟩
   ·rw [if_neg c10] at H; have ⟨c10b0, c10b1⟩ := bq6_ c10; have H' := am_ H; clear H
    try go_wp2
    replace HO771 := rd_ HO771; replace BK767 := bd_ BK767; replace HB := hd_ HB; refine st1_ 36 impl_HintOf.tab3 impl_HintOf.bits3 trivial (fun hHeld HT_ HW_ => ?_) (S := fun w' => True)
    generalize w6.drew = w28 at HO771 BK767 HB hHeld ⊢
    (iterate 9 refine pr_ ?_); (iterate 3 refine pt_ ?_); (iterate 2 refine pr_ ?_); (iterate 7 refine pt_ ?_); (iterate 2 refine pr_ ?_); (iterate 12 refine pt_ ?_); refine pr_ ?_; refine dn_ ?_
    try go_wp2
    go_meet
    case rel => exact ⟨_, _, rs_, H', ⟨m0_⟩, ⟨rr_ HO771⟩, ⟨bk_ BK767⟩, ⟨hs_ HB GE767⟩⟩
 case rest =>
  clear HC4
  (try clear c10); (try clear c10b0); (try clear c10b1); (try clear c12); (try clear c14); (try clear c15)
  obtain ⟨kq, x55_3, rfl, HA, HJ3, HO_6, BK767, HB⟩ := hcut
  cases kq with
  | zero => exact zz_ HA
  | succ kj3 =>
   have H := HA.1; clear HA; simp only [impl_HintOf.j0] at H; by_cases c29 : x55_3 = true
   ·subst c29; rw [if_pos rfl] at H; obtain ⟨rfl, rfl, rfl, rfl⟩ := i4_ H; obtain ⟨_, _, _, _, _, _⟩ := bc3_ BK767
    go_wp2
    refine bodyPost_ret (results_ct rfl _ _ gb767 26 #[.int .i64 0, .int .i64 0, .slice none 0 0] (0, 0) _ rfl (uk_ BK767) Try.underlying26 rfl (by kernel_rfl)) rfl ?_; exact ⟨_, re_, by first | exact Kd.R_nil _ _ _ _ _ | exact Kd.N_nil _ _ _ _ _ | exact Kd.V_nil _ _ _ _ _ | exact Kd.Q_nil _ _ _ _ _ | exact Kd.S_nil _ _ _ _ _, hs_ HB GE767⟩
   ·replace c29 := bF_ c29; subst c29; rw [if_neg ff_] at H; obtain ⟨ji31, hji31⟩ : ∃ j_ : Int, (wrap64 ((t768.length : Int) - 1)) = j_ := ⟨_, rfl⟩
    (first | rw [hji31] at H | simp only [hji31] at H)
    have hji31w : (IntKind.i64.wrap ((t768.length : Int) - 1)) = ji31 := (i64_w _).trans hji31; replace H := ih_ H; obtain ⟨c32, H⟩ := H; have c32b0 := dq_ c32; clear c32; replace H := ih_ H; obtain ⟨c33, H⟩ := H; have c33b0 := dq_ c33; clear c33; have c34b0 := eq_true (od_ : 0 ≤ (ji31)); replace H := ig_ H; obtain ⟨c35b0, c35b1, H⟩ := H; obtain ⟨y785, hy785, H⟩ := ov_ H; have Ny785 := am_ hy785; clear hy785; have H' := am_ H; clear H; have p783 : 0 ≤ ((ji31) : Int) := od_; have q783 : (ji31) < (t768.length : Int) := od_; obtain ⟨ad783, e783, hx783_0, hx783_1, hx783_2, hx783_3, hx783_4, hx783_5, hx783_6, hx783_7⟩ := at_T43 (Kd.R_reads' HO_6.1).2.2 (ji31) p783 q783
    cases e783
    replace p783 := eq_true p783; replace q783 := eq_true q783
    go_wp2_with (first | (refine gd_ 9 ?_; (try (refine gate_guard (by rfl) ?_; dsimp only)); refine bx1_ 9 #[.int .i64 0, .int .i64 0, .slice none 0 0] 26 ?_; intro gb784 hg w36 hbox hb; replace HO_6 := rb_ HO_6 hb; have BK784 := am_ hbox; have GE784 := gx_ hg HB; replace HB := bx_ HB hb; have ⟨NB767_784, NB784_767⟩ := nn_ BK767 hg; replace BK767 := bb_ BK767 hb; clear hb hbox hg; have := NB784_767.1; have := NB767_784.1; obtain ⟨_, _, _, _, _, _⟩ := bc3_ BK784) | ((with_reducible refine gate_store (t := 26) (p := 9) rfl ?_); refine store_event (t := 26) (p := 9) (v := ?vo_w39) (w1 := (((w36.setCell ⟨gb784, 0, none⟩ (.int .i64 t769)).setCell ⟨gb784, 1, none⟩ (.int .i64 ((rd_T43 t768 (ji31)).f2.f1))).setCell ⟨gb784, 2, none⟩ (.slice none 0 0))) ?hg ?ho ?hn ?hr ?_; (case ho => rfl); (case hg => rfl); (case hn => rfl); (case hr => first | (go_simp; done) | (go_simp; rfl)); intro w39 hw; have n0_ : Aside0 (Kd.R k43 43 w39 w.heap.size (fun _ => True) (.slice (some ad783) t768.length co7) t768) := ⟨(by rw [hw]; exact (by (with_reducible repeat (first | apply Kd.R_alloc | apply Kd.R_drewN | apply Kd.R_drew)); exact Kd.R_mono (Kd.R_far (p := ⟨gb784, 2, none⟩) (Kd.R_far (p := ⟨gb784, 1, none⟩) (Kd.R_far (p := ⟨gb784, 0, none⟩) (Kd.R_types HO_6.1 BK784.1 (by decide)) (fun _ hk => hk.2) (.int .i64 t769)) (fun _ hk => hk.2) (.int .i64 ((rd_T43 t768 (ji31)).f2.f1))) (fun _ hk => hk.2) (.slice none 0 0)) (fun _ hk => trivial)))⟩; have n1_ : Aside0 (w39.heap[gb767]? = some (.cells #[.int .i64 0, .int .i64 0, .slice none 0 0] 26 (0, 0))) := ⟨(by rw [hw]; exact (uk_ BK767))⟩; have n2_ : Aside0 (w39.heap[gb784]? = some (.cells #[.int .i64 t769, .int .i64 ((rd_T43 t768 (ji31)).f2.f1), .slice none 0 0] 26 (0, 0))) := ⟨(by rw [hw]; exact (uk_ BK784))⟩; have n3_ : Aside0 (Below w.heap.size w w39) := ⟨(by rw [hw]; exact (hu_ HB GE767 GE784))⟩; clear hw; clear HO_6; clear BK767; clear BK784; clear HB; have HO_6 := n0_; have BK767 := n1_; have BK784 := n2_; have HB := n3_; clear n0_ n1_ n2_ n3_; have q40 : ((ji31) : Int) ≤ ((t768.length : Int) : Int) := od_; obtain ⟨i040, hi040, _, hsz40, _⟩ := info_parts info43; have hroom40 : t768.length ≤ co7 := (Kd.R_reads' HO_6.1).2.1; have hC40 : Kd.C k43 _ (some ad783) t768.length t768 := (Kd.R_reads' HO_6.1).2.2; have hcut40 := cut_to (P := Try.prog) 37 43 .i64 Try.underlying37 hi040 (some ad783) t768.length co7 (ji31) (od_) q40 hroom40; have hr40 := Kd.C_take (m := ((ji31) : Int).toNat) hC40 (by omega); have hy40 : y785.length = ((ji31) : Int).toNat := (by rw [Ny785.1, List.length_take]; omega); rw [← Ny785.1] at hr40; rw [← hy40] at hcut40; have HR788 := am_ hr40; have HC788 := am_ (show y785.length ≤ co7 from by omega); clear hr40 hC40 hroom40 hi040 hsz40; have KY40 := am_ hy40; clear hy40; have KL40 := am_ (show ((ji31) : Int).toNat ≤ t768.length from by omega); replace q40 := eq_true q40))
    go_loopg [69] kj3 (fun kq v69 w' => ∃ (x69_2 : Int) (x768000_2 : Int) (x768001_2 : Int) (x785002_2 : List (S55)) (u785002 : Value), v69 = .int .i64 x69_2 ∧ Aside0 (impl_HintOf.l0 kq a0 t768 y785 (y785.length : Int) x69_2 t769 ((rd_T43 t768 (ji31)).f2.f1) x785002_2 = some (r1, r2, r3, r4)) ∧ Aside0 (kq ≤ kj3) ∧ Aside0 (Kd.R k43 43 w' w.heap.size (fun _ => True) (.slice (some ad783) t768.length co7) t768) ∧ Aside0 (Kd.R k55 55 w' w.heap.size (fun _ => True) u785002 x785002_2) ∧ Aside0 (w'.heap[gb767]? = some (.cells #[.int .i64 x768000_2, .int .i64 x768001_2, (.slice none 0 0)] 26 (0, 0))) ∧ Aside0 (w'.heap[gb784]? = some (.cells #[.int .i64 t769, .int .i64 ((rd_T43 t768 (ji31)).f2.f1), u785002] 26 (0, 0))) ∧ Aside0 (Below w.heap.size w w'))
    case atStart => exact ⟨_, _, _, _, _, rs_, H', ⟨Nat.le_refl _⟩, ⟨rr_ HO_6⟩, ⟨by first | exact Kd.R_nil _ _ _ _ _ | exact Kd.N_nil _ _ _ _ _ | exact Kd.V_nil _ _ _ _ _ | exact Kd.Q_nil _ _ _ _ _ | exact Kd.S_nil _ _ _ _ _⟩, ⟨bk_ BK767⟩, ⟨bk_ BK784⟩, ⟨hz_ HB⟩⟩
    case round =>
     clear H'
     (try clear c10); (try clear c10b0); (try clear c10b1); (try clear c12); (try clear c14); (try clear c15); (try clear c29); (try clear c32); (try clear c32b0); (try clear c33); (try clear c33b0); (try clear c34b0); (try clear c35); (try clear c35b0); (try clear c35b1); (try clear q40); (try clear hx783_0); (try clear hx783_1); (try clear hx783_2); (try clear hx783_3); (try clear hx783_4); (try clear hx783_5); (try clear hx783_6); (try clear hx783_7); (try clear p783); (try clear q783)
     obtain ⟨x69_2, x768000_2, x768001_2, x785002_2, u785002, rfl, HA, HK2, HO_6, HO_785002, BK767, BK784, HB⟩ := hrel
     cases gk with
     | zero => exact zz_ HA
     | succ k2 =>
      have H := HA.1; clear HA; simp only [impl_HintOf.l0] at H; by_cases c41 : x69_2 < (y785.length : Int)
      ·rw [if_pos c41] at H; have c41b0 := dq_ c41; clear c41; replace H := ih_ H; obtain ⟨c42, H⟩ := H; have c42b0 := dq_ c42; clear c42; replace H := ih_ H; obtain ⟨c43, H⟩ := H; have c43b0 := dq_ c43; clear c43; have HC44 := am_ H; clear H; have p789 : 0 ≤ (x69_2 : Int) := od_; have q789 : x69_2 < (y785.length : Int) := od_; have hl_ : y785.length ≤ t768.length := by rw [Ny785.1]; exact (List.length_take_le' _ _)
       have ht_ : t768.take y785.length = y785 := by rw [Ny785.1, List.length_take, ← List.take_take, List.take_length]
       have hr_ := Kd.C_take (m := y785.length) (Kd.R_reads' HO_6.1).2.2 hl_; rw [ht_] at hr_; have HR788 := am_ hr_; clear hl_ ht_ hr_; obtain ⟨ad789, e789, hx789_0, hx789_1, hx789_2, hx789_3, hx789_4, hx789_5, hx789_6, hx789_7⟩ := at_T43 HR788.1 x69_2 p789 q789; obtain rfl : ad783 = ad789 := (by injection e789)
       (try replace hx789_0 := cb_ HB hx789_0)
       (try replace hx789_1 := cb_ HB hx789_1)
       (try replace hx789_2 := cb_ HB hx789_2)
       (try replace hx789_3 := cb_ HB hx789_3)
       (try replace hx789_4 := cb_ HB hx789_4)
       (try replace hx789_5 := cb_ HB hx789_5)
       (try replace hx789_6 := cb_ HB hx789_6)
       (try replace hx789_7 := cb_ HB hx789_7)
       replace p789 := eq_true p789; replace q789 := eq_true q789
       go_upto_region 9 with ((with_reducible refine gd_ 11 ?_); (try (refine gate_guard (by rfl) ?_; dsimp only)); refine bx1_ 11 #[.int .i64 0, .int .i64 0, .int .i64 0, .int .i64 0, .string (⟨#[]⟩ : ByteArray), .string (⟨#[]⟩ : ByteArray), .int .i64 0, .int .i64 0] 43 ?_; intro gb790 hg w45 hbox hb; replace HO_6 := re1_ HO_6 hg hb; replace HO_785002 := rb_ HO_785002 hb; have BK790 := am_ hbox; have GE790 := gx_ hg HB; replace HB := bx_ HB hb; have ⟨NB767_790, NB790_767⟩ := nn_ BK767 hg; replace BK767 := bb_ BK767 hb; have ⟨NB784_790, NB790_784⟩ := nn_ BK784 hg; replace BK784 := bb_ BK784 hb; (try replace hx789_0 := cx_ hb hx789_0); (try replace hx789_1 := cx_ hb hx789_1); (try replace hx789_2 := cx_ hb hx789_2); (try replace hx789_3 := cx_ hb hx789_3); (try replace hx789_4 := cx_ hb hx789_4); (try replace hx789_5 := cx_ hb hx789_5); (try replace hx789_6 := cx_ hb hx789_6); (try replace hx789_7 := cx_ hb hx789_7); clear hb hbox hg; have := NB790_767.1; have := NB767_790.1; have := NB790_784.1; have := NB784_790.1; obtain ⟨_, _, _, _, _, _, _, _, _, _, _, _, _, _, _, _⟩ := bc8_ BK790)
       (try simp only [Act.put, la_, lz_, ls_])
       go_cut [102] (fun v102 wc => ∃ (kq : Nat) (x102_43 : Bool), v102 = .bool x102_43 ∧ Aside0 (impl_HintOf.j2 kq a0 t768 y785 (y785.length : Int) x69_2 x102_43 t769 ((rd_T43 t768 (ji31)).f2.f1) x785002_2 ((rd_T43 y785 x69_2).f0) ((rd_T43 y785 x69_2).f1) ((rd_T43 y785 x69_2).f2.f0) ((rd_T43 y785 x69_2).f2.f1) ((rd_T43 y785 x69_2).f2.f2) ((rd_T43 y785 x69_2).f2.f3) ((rd_T43 y785 x69_2).f2.f4) ((rd_T43 y785 x69_2).f2.f5) = some (r1, r2, r3, r4)) ∧ Aside0 (kq ≤ k2) ∧ Aside0 (Kd.R k43 43 wc w.heap.size (fun k_ => k_ ≠ gb790) (.slice (some ad783) t768.length co7) t768) ∧ Aside0 (Kd.R k55 55 wc w.heap.size (fun _ => True) u785002 x785002_2) ∧ Aside0 (wc.heap[gb767]? = some (.cells #[.int .i64 x768000_2, .int .i64 x768001_2, (.slice none 0 0)] 26 (0, 0))) ∧ Aside0 (wc.heap[gb784]? = some (.cells #[.int .i64 t769, .int .i64 ((rd_T43 t768 (ji31)).f2.f1), u785002] 26 (0, 0))) ∧ Aside0 (wc.heap[gb790]? = some (.cells #[.int .i64 ((rd_T43 y785 x69_2).f0), .int .i64 ((rd_T43 y785 x69_2).f1), .int .i64 ((rd_T43 y785 x69_2).f2.f0), .int .i64 ((rd_T43 y785 x69_2).f2.f1), .string ((rd_T43 y785 x69_2).f2.f2), .string ((rd_T43 y785 x69_2).f2.f3), .int .i64 ((rd_T43 y785 x69_2).f2.f4), .int .i64 ((rd_T43 y785 x69_2).f2.f5)] 43 (0, 0))) ∧ Aside0 (Below w.heap.size w wc))
       case first =>
        have H := HC44.1; clear HC44; by_cases c49 : ((rd_T43 y785 x69_2).f2.f0) = 4
        ·rw [if_pos c49] at H; have ⟨c49b0, c49b1⟩ := bq5_ c49; clear c49
         (first | rw [c49b0] | (simp only [i64_w, i32_w]; rw [c49b0]) | skip)
         by_cases c50 : ((rd_T43 y785 x69_2).f2.f1) > ((rd_T43 t768 (ji31)).f2.f1)
         ·rw [if_pos c50] at H; have c50b0 := dq_ c50; clear c50; have H' := am_ H; clear H
          try go_wp2
          generalize hW_ : ((((((((w45.setCell ⟨gb790, 0, none⟩ (.int .i64 ((rd_T43 y785 x69_2).f0))).setCell ⟨gb790, 1, none⟩ (.int .i64 ((rd_T43 y785 x69_2).f1))).setCell ⟨gb790, 2, none⟩ (.int .i64 ((rd_T43 y785 x69_2).f2.f0))).setCell ⟨gb790, 3, none⟩ (.int .i64 ((rd_T43 y785 x69_2).f2.f1))).setCell ⟨gb790, 4, none⟩ (.string ((rd_T43 y785 x69_2).f2.f2))).setCell ⟨gb790, 5, none⟩ (.string ((rd_T43 y785 x69_2).f2.f3))).setCell ⟨gb790, 6, none⟩ (.int .i64 ((rd_T43 y785 x69_2).f2.f4))).setCell ⟨gb790, 7, none⟩ (.int .i64 ((rd_T43 y785 x69_2).f2.f5))) = w51
          replace HO_6 := un_ (fun k_ => k_ ≠ gb790) HO_6 gb790 hW_; replace HO_785002 := ur_ (fun _ => True) HO_785002 BK790 hW_; replace BK767 := uf_ BK767 NB767_790 hW_; replace BK784 := uf_ BK784 NB784_790 hW_; replace BK790 := up_ #[.int .i64 ((rd_T43 y785 x69_2).f0), .int .i64 ((rd_T43 y785 x69_2).f1), .int .i64 ((rd_T43 y785 x69_2).f2.f0), .int .i64 ((rd_T43 y785 x69_2).f2.f1), .string ((rd_T43 y785 x69_2).f2.f2), .string ((rd_T43 y785 x69_2).f2.f3), .int .i64 ((rd_T43 y785 x69_2).f2.f4), .int .i64 ((rd_T43 y785 x69_2).f2.f5)] BK790 hW_; replace HB := us_ hW_ (hv_ HB GE767 GE784 GE790); clear hW_; replace HO_6 := rd_ HO_6; replace HO_785002 := rd_ HO_785002; replace BK767 := bd_ BK767; replace BK784 := bd_ BK784; replace BK790 := bd_ BK790; replace HB := hd_ HB; refine st1_ 29 impl_HintOf.tab9 impl_HintOf.bits9 (p8_ BK790 (p3e_ BK784)) (fun hHeld HT_ HW_ => ?_)
          generalize w51.drew = w52 at HO_6 HO_785002 BK767 BK784 BK790 HB hHeld ⊢
          (iterate 2 refine pr_ ?_); refine tk11_ 2 76 (on_ 3 26) hHeld ?_
          (iterate 4 refine pr_ ?_); refine pv_' 8 82 (of_ 29 383) rfl rfl HT_ ?_; refine tk11_ 7 81 (on_ 9 20) hHeld ?_
          refine tk11_ 9 83 (on_ 10 19) hHeld ?_
          (iterate 3 refine pr_ ?_); (iterate 15 refine pt_ ?_); refine pr_ ?_; refine dn_ ?_; have Nji31_ := am_ hji31; clear hji31
          (try clear hji31w)
          try go_wp2
          have hji31 := Nji31_.1; clear Nji31_
          (try have hji31w := (i64_w _).trans hji31)
          go_meet
          case rel => exact ⟨_, (true), rs_, (by first | exact H' | (simp only [hji31]; exact H')), ⟨m2_ HJ3 HK2⟩, ⟨rr_ HO_6⟩, ⟨rr_ HO_785002⟩, ⟨bk_ BK767⟩, ⟨bk_ BK784⟩, ⟨bk_ BK790⟩, ⟨hz_ HB⟩⟩
         ·rw [if_neg c50] at H; have c50b0 := df_ c50; clear c50; by_cases c53 : x69_2 > 0
          ·rw [if_pos c53] at H; have c53b0 := dq_ c53; clear c53; obtain ⟨ji54, hji54⟩ : ∃ j_ : Int, (wrap64 (x69_2 - 1)) = j_ := ⟨_, rfl⟩
           (first | rw [hji54] at H | simp only [hji54] at H)
           have hji54w : (IntKind.i64.wrap (x69_2 - 1)) = ji54 := (i64_w _).trans hji54; replace H := ih_ H; obtain ⟨c55, H⟩ := H; have c55b0 := dq_ c55; clear c55; replace H := ih_ H; obtain ⟨c56, H⟩ := H; have c56b0 := dq_ c56; clear c56; have H' := am_ H; clear H
           try go_wp2
           generalize hW_ : ((((((((w45.setCell ⟨gb790, 0, none⟩ (.int .i64 ((rd_T43 y785 x69_2).f0))).setCell ⟨gb790, 1, none⟩ (.int .i64 ((rd_T43 y785 x69_2).f1))).setCell ⟨gb790, 2, none⟩ (.int .i64 ((rd_T43 y785 x69_2).f2.f0))).setCell ⟨gb790, 3, none⟩ (.int .i64 ((rd_T43 y785 x69_2).f2.f1))).setCell ⟨gb790, 4, none⟩ (.string ((rd_T43 y785 x69_2).f2.f2))).setCell ⟨gb790, 5, none⟩ (.string ((rd_T43 y785 x69_2).f2.f3))).setCell ⟨gb790, 6, none⟩ (.int .i64 ((rd_T43 y785 x69_2).f2.f4))).setCell ⟨gb790, 7, none⟩ (.int .i64 ((rd_T43 y785 x69_2).f2.f5))) = w57
           replace HO_6 := un_ (fun k_ => k_ ≠ gb790) HO_6 gb790 hW_; replace HO_785002 := ur_ (fun _ => True) HO_785002 BK790 hW_; replace BK767 := uf_ BK767 NB767_790 hW_; replace BK784 := uf_ BK784 NB784_790 hW_; replace BK790 := up_ #[.int .i64 ((rd_T43 y785 x69_2).f0), .int .i64 ((rd_T43 y785 x69_2).f1), .int .i64 ((rd_T43 y785 x69_2).f2.f0), .int .i64 ((rd_T43 y785 x69_2).f2.f1), .string ((rd_T43 y785 x69_2).f2.f2), .string ((rd_T43 y785 x69_2).f2.f3), .int .i64 ((rd_T43 y785 x69_2).f2.f4), .int .i64 ((rd_T43 y785 x69_2).f2.f5)] BK790 hW_; replace HB := us_ hW_ (hv_ HB GE767 GE784 GE790); clear hW_; replace HO_6 := rd_ HO_6; replace HO_785002 := rd_ HO_785002; replace BK767 := bd_ BK767; replace BK784 := bd_ BK784; replace BK790 := bd_ BK790; replace HB := hd_ HB; have p791 : 0 ≤ ((ji54) : Int) := od_; have q791 : (ji54) < (t768.length : Int) := od_; obtain ⟨ad791, e791, hx791_0, hx791_1, hx791_2, hx791_3, hx791_4, hx791_5, hx791_6, hx791_7⟩ := at_T43 (Kd.R_reads' HO_6.1).2.2 (ji54) p791 q791; obtain rfl : ad783 = ad791 := (by injection e791); replace p791 := eq_true p791; replace q791 := eq_true q791; refine st1_ 29 impl_HintOf.tab9 impl_HintOf.bits9 (p8_ BK790 (p3_ BK784 (q8e_ hx791_0 hx791_1 hx791_2 hx791_3 hx791_4 hx791_5 hx791_6 hx791_7))) (fun hHeld HT_ HW_ => ?_)
           generalize w57.drew = w58 at HO_6 HO_785002 BK767 BK784 BK790 HB hx791_0 hx791_1 hx791_2 hx791_3 hx791_4 hx791_5 hx791_6 hx791_7 hHeld ⊢
           (iterate 2 refine pr_ ?_); refine tk19_ 2 76 (on_ 3 26) hHeld ?_
           (iterate 4 refine pr_ ?_); refine pv_' 8 82 (of_ 29 383) rfl rfl HT_ ?_; refine tk19_ 7 81 (on_ 9 20) hHeld ?_
           refine tk19_ 9 83 (on_ 10 19) hHeld ?_
           (iterate 12 refine pr_ ?_); refine pv_' 23 97 (of_ 29 12582911) rfl rfl HT_ ?_; refine pv_' 24 98 (of_ 29 29360127) rfl rfl HT_ ?_; refine tk19_ 22 96 (on_ 25 4) hHeld ?_
           refine tk19_ 25 99 (on_ 26 3) hHeld ?_
           (iterate 3 refine pr_ ?_); refine dn_ ?_; have Nji54_ := am_ hji54; clear hji54
           (try clear hji54w)
           have Nji31_ := am_ hji31; clear hji31
           (try clear hji31w)
           try go_wp2
           have hji31 := Nji31_.1; clear Nji31_
           (try have hji31w := (i64_w _).trans hji31)
           have hji54 := Nji54_.1; clear Nji54_
           (try have hji54w := (i64_w _).trans hji54)
           go_meet
           case rel => exact ⟨_, (!(Op.bytesLess (((rd_T43 t768 (ji54)).f2.f2).toList) (((rd_T43 y785 x69_2).f2.f2).toList))), (by first | rfl | (simp; done) | (simp only [← hji54] <;> (first | rfl | simp)) | (simp [*]; done)), (by first | exact H' | (simp only [hji54, hji31]; exact H')), ⟨m2_ HJ3 HK2⟩, ⟨rr_ HO_6⟩, ⟨rr_ HO_785002⟩, ⟨bk_ BK767⟩, ⟨bk_ BK784⟩, ⟨bk_ BK790⟩, ⟨hz_ HB⟩⟩
          ·rw [if_neg c53] at H; have c53b0 := df_ c53; clear c53; have H' := am_ H; clear H
           try go_wp2
           generalize hW_ : ((((((((w45.setCell ⟨gb790, 0, none⟩ (.int .i64 ((rd_T43 y785 x69_2).f0))).setCell ⟨gb790, 1, none⟩ (.int .i64 ((rd_T43 y785 x69_2).f1))).setCell ⟨gb790, 2, none⟩ (.int .i64 ((rd_T43 y785 x69_2).f2.f0))).setCell ⟨gb790, 3, none⟩ (.int .i64 ((rd_T43 y785 x69_2).f2.f1))).setCell ⟨gb790, 4, none⟩ (.string ((rd_T43 y785 x69_2).f2.f2))).setCell ⟨gb790, 5, none⟩ (.string ((rd_T43 y785 x69_2).f2.f3))).setCell ⟨gb790, 6, none⟩ (.int .i64 ((rd_T43 y785 x69_2).f2.f4))).setCell ⟨gb790, 7, none⟩ (.int .i64 ((rd_T43 y785 x69_2).f2.f5))) = w59
           replace HO_6 := un_ (fun k_ => k_ ≠ gb790) HO_6 gb790 hW_; replace HO_785002 := ur_ (fun _ => True) HO_785002 BK790 hW_; replace BK767 := uf_ BK767 NB767_790 hW_; replace BK784 := uf_ BK784 NB784_790 hW_; replace BK790 := up_ #[.int .i64 ((rd_T43 y785 x69_2).f0), .int .i64 ((rd_T43 y785 x69_2).f1), .int .i64 ((rd_T43 y785 x69_2).f2.f0), .int .i64 ((rd_T43 y785 x69_2).f2.f1), .string ((rd_T43 y785 x69_2).f2.f2), .string ((rd_T43 y785 x69_2).f2.f3), .int .i64 ((rd_T43 y785 x69_2).f2.f4), .int .i64 ((rd_T43 y785 x69_2).f2.f5)] BK790 hW_; replace HB := us_ hW_ (hv_ HB GE767 GE784 GE790); clear hW_; replace HO_6 := rd_ HO_6; replace HO_785002 := rd_ HO_785002; replace BK767 := bd_ BK767; replace BK784 := bd_ BK784; replace BK790 := bd_ BK790; replace HB := hd_ HB; refine st1_ 29 impl_HintOf.tab9 impl_HintOf.bits9 (p8_ BK790 (p3e_ BK784)) (fun hHeld HT_ HW_ => ?_)
           generalize w59.drew = w60 at HO_6 HO_785002 BK767 BK784 BK790 HB hHeld ⊢
           (iterate 2 refine pr_ ?_); refine tk11_ 2 76 (on_ 3 26) hHeld ?_
           (iterate 4 refine pr_ ?_); refine pv_' 8 82 (of_ 29 383) rfl rfl HT_ ?_; refine tk11_ 7 81 (on_ 9 20) hHeld ?_
           refine tk11_ 9 83 (on_ 10 19) hHeld ?_
           (iterate 6 refine pr_ ?_); (iterate 11 refine pt_ ?_); (iterate 2 refine pr_ ?_); refine dn_ ?_; have Nji31_ := am_ hji31; clear hji31
           (try clear hji31w)
           try go_wp2
           have hji31 := Nji31_.1; clear Nji31_
           (try have hji31w := (i64_w _).trans hji31)
           go_meet
           case rel => exact ⟨_, (false), rs_, (by first | exact H' | (simp only [hji54, hji31]; exact H')), ⟨m2_ HJ3 HK2⟩, ⟨rr_ HO_6⟩, ⟨rr_ HO_785002⟩, ⟨bk_ BK767⟩, ⟨bk_ BK784⟩, ⟨bk_ BK790⟩, ⟨hz_ HB⟩⟩
        ·rw [if_neg c49] at H; have ⟨c49b0, c49b1⟩ := bq6_ c49
         (first | rw [c49b0] | (simp only [i64_w, i32_w]; rw [c49b0]) | skip)
         have H' := am_ H; clear H
         try go_wp2
         generalize hW_ : ((((((((w45.setCell ⟨gb790, 0, none⟩ (.int .i64 ((rd_T43 y785 x69_2).f0))).setCell ⟨gb790, 1, none⟩ (.int .i64 ((rd_T43 y785 x69_2).f1))).setCell ⟨gb790, 2, none⟩ (.int .i64 ((rd_T43 y785 x69_2).f2.f0))).setCell ⟨gb790, 3, none⟩ (.int .i64 ((rd_T43 y785 x69_2).f2.f1))).setCell ⟨gb790, 4, none⟩ (.string ((rd_T43 y785 x69_2).f2.f2))).setCell ⟨gb790, 5, none⟩ (.string ((rd_T43 y785 x69_2).f2.f3))).setCell ⟨gb790, 6, none⟩ (.int .i64 ((rd_T43 y785 x69_2).f2.f4))).setCell ⟨gb790, 7, none⟩ (.int .i64 ((rd_T43 y785 x69_2).f2.f5))) = w61
         replace HO_6 := un_ (fun k_ => k_ ≠ gb790) HO_6 gb790 hW_; replace HO_785002 := ur_ (fun _ => True) HO_785002 BK790 hW_; replace BK767 := uf_ BK767 NB767_790 hW_; replace BK784 := uf_ BK784 NB784_790 hW_; replace BK790 := up_ #[.int .i64 ((rd_T43 y785 x69_2).f0), .int .i64 ((rd_T43 y785 x69_2).f1), .int .i64 ((rd_T43 y785 x69_2).f2.f0), .int .i64 ((rd_T43 y785 x69_2).f2.f1), .string ((rd_T43 y785 x69_2).f2.f2), .string ((rd_T43 y785 x69_2).f2.f3), .int .i64 ((rd_T43 y785 x69_2).f2.f4), .int .i64 ((rd_T43 y785 x69_2).f2.f5)] BK790 hW_; replace HB := us_ hW_ (hv_ HB GE767 GE784 GE790); clear hW_; replace HO_6 := rd_ HO_6; replace HO_785002 := rd_ HO_785002; replace BK767 := bd_ BK767; replace BK784 := bd_ BK784; replace BK790 := bd_ BK790; replace HB := hd_ HB; refine st1_ 29 impl_HintOf.tab9 impl_HintOf.bits9 (p8e_ BK790) (fun hHeld HT_ HW_ => ?_)
         generalize w61.drew = w62 at HO_6 HO_785002 BK767 BK784 BK790 HB hHeld ⊢
         (iterate 2 refine pr_ ?_); refine tk8_ 2 76 (on_ 3 26) hHeld ?_
         (iterate 2 refine pr_ ?_); (iterate 6 refine pt_ ?_); (iterate 2 refine pr_ ?_); (iterate 15 refine pt_ ?_); refine pr_ ?_; refine dn_ ?_; have Nji31_ := am_ hji31; clear hji31
         (try clear hji31w)
         try go_wp2
         have hji31 := Nji31_.1; clear Nji31_
         (try have hji31w := (i64_w _).trans hji31)
         go_meet
         case rel => exact ⟨_, (true), rs_, (by first | exact H' | (simp only [hji31]; exact H')), ⟨m2_ HJ3 HK2⟩, ⟨rr_ HO_6⟩, ⟨rr_ HO_785002⟩, ⟨bk_ BK767⟩, ⟨bk_ BK784⟩, ⟨bk_ BK790⟩, ⟨hz_ HB⟩⟩
       case rest =>
        clear HC44
        (try clear c49); (try clear c49b0); (try clear c49b1); (try clear c53); (try clear c53b0); (try clear c55); (try clear c56)
        obtain ⟨kq, x102_43, rfl, HA, HJ43, HO_6, HO_785002, BK767, BK784, BK790, HB⟩ := hcut
        cases kq with
        | zero => exact zz_ HA
        | succ kj43 =>
         have H := HA.1; clear HA; simp only [impl_HintOf.j2] at H; by_cases c63 : x102_43 = true
         ·subst c63; rw [if_pos rfl] at H; obtain ⟨rfl, rfl, rfl, rfl⟩ := i4_ H; have := NB767_784.1; have := NB784_767.1; have := NB767_790.1; have := NB790_767.1; obtain ⟨_, _, _, _, _, _⟩ := bc3_ BK767
          go_wp2
          refine bodyPost_ret (results_ct rfl _ _ gb767 26 #[.int .i64 0, .int .i64 0, .slice none 0 0] (0, 0) _ rfl (uk_ BK767) Try.underlying26 rfl (by kernel_rfl)) rfl ?_; exact ⟨_, rj_ hji31, by first | exact Kd.R_nil _ _ _ _ _ | exact Kd.N_nil _ _ _ _ _ | exact Kd.V_nil _ _ _ _ _ | exact Kd.Q_nil _ _ _ _ _ | exact Kd.S_nil _ _ _ _ _, hz_ HB⟩
         ·replace c63 := bF_ c63; subst c63; rw [if_neg ff_] at H; replace H := il_ H; obtain ⟨LMc67, H⟩ := H; obtain ⟨y792, hy792⟩ : ∃ y_ : List (S55), y_ = (x785002_2 ++ [(⟨((rd_T43 y785 x69_2).f2.f2), a0, ((rd_T43 y785 x69_2).f0), ((rd_T43 y785 x69_2).f1), ((rd_T43 y785 x69_2).f2.f1)⟩ : S55)]) := ⟨_, rfl⟩
          rw [← hy792] at H; have Ny792 := am_ hy792; clear hy792; have H' := am_ H; clear H; have := NB784_767.1; have := NB767_784.1; have := NB784_790.1; have := NB790_784.1; obtain ⟨_, _, _, _, _, _⟩ := bc3_ BK784; have := NB790_767.1; have := NB767_790.1; obtain ⟨_, _, _, _, _, _, _, _, _, _, _, _, _, _, _, _⟩ := bc8_ BK790
          go_wp2_with (refine gb_ #[.tmp 105, .tmp 118] ?_; (try (refine gate_guard (by rfl) ?_; dsimp only)); at_builtin; refine Kd.R_append k55 (w0 := w) w.heap.size rfl (.tmp 105) (.tmp 118) 24 55 (.agg #[(.string ⟨#[]⟩), (.int .i64 0), (.int .i64 0), (.int .i64 0), (.int .i64 0)]) 48 rfl Try.underlying24 info55 rfl (by decide) (by omega) u785002 x785002_2 (⟨((rd_T43 y785 x69_2).f2.f2), a0, ((rd_T43 y785 x69_2).f0), ((rd_T43 y785 x69_2).f1), ((rd_T43 y785 x69_2).f2.f1)⟩ : S55) [.string ((rd_T43 y785 x69_2).f2.f2), .int .i64 a0, .int .i64 ((rd_T43 y785 x69_2).f0), .int .i64 ((rd_T43 y785 x69_2).f1), .int .i64 ((rd_T43 y785 x69_2).f2.f1)] (fun _ => True) (fun _ => False) rfl rfl ?aP (fun _ hk => hk.elim) ?aF ?aO ?aB ?aS ?aL ?_; (case aP => exact k55_mkM _ _ _ (⟨((rd_T43 y785 x69_2).f2.f2), a0, ((rd_T43 y785 x69_2).f0), ((rd_T43 y785 x69_2).f1), ((rd_T43 y785 x69_2).f2.f1)⟩ : S55)); (case aB => exact (hv_ HB GE767 GE784 GE790)); (case aF => exact (fun _ _ => trivial)); (case aO => exact (rr_ HO_785002)); (case aS => exact (below_size (hv_ HB GE767 GE784 GE790))); (case aL => have := LMc67.1; omega); intro v793 w73 ho hb hg hat; rw [← Ny792.1] at ho; replace HO_6 := am_ (Kd.R_over' (rr_ HO_6) (Kd.R_typed (rr_ HO_785002)) (by decide) hg); replace BK767 := bg_ BK767 hg (Kd.R_ne HO_785002.1 BK767.1 (by decide)); replace BK784 := bg_ BK784 hg (Kd.R_ne HO_785002.1 BK784.1 (by decide)); replace BK790 := bg_ BK790 hg (Kd.R_ne HO_785002.1 BK790.1 (by decide)); replace HB := am_ hb; have HO794 := am_ ho; clear HO_785002; clear ho hb hg hat; obtain ⟨Ao74, co74, eo74⟩ := Kd.R_slice HO794.1; subst eo74; obtain ⟨_, _, _, _, _, _⟩ := bc3_ BK784)
          go_roundg kj43
          case measure => exact m3_ HJ3 HK2 HJ43
          case rel => exact ⟨(wrap64 (x69_2 + 1)), (x768000_2), (x768001_2), (y792), (.slice Ao74 y792.length co74), rs_, (by first | exact H' | (simp only [hji31]; exact H')), ⟨m3_ HJ3 HK2 HJ43⟩, ⟨rf_ HO_6 BK784⟩, ⟨rf_ HO794 BK784⟩, ⟨uk_ BK767⟩, ⟨uk_ BK784⟩, ⟨hz_ HB⟩⟩
      ·rw [if_neg c41] at H; have c41b0 := df_ c41; clear c41; obtain ⟨rfl, rfl, rfl, rfl⟩ := i4_ H; have := NB784_767.1; have := NB767_784.1; obtain ⟨_, _, _, _, _, _⟩ := bc3_ BK784; obtain ⟨_, _, _, _, _, _⟩ := bc3_ BK767; obtain ⟨Ao79, co79, eo79⟩ := Kd.R_slice HO_785002.1; subst eo79
       go_wp2
       refine bodyPost_ret (results_ct rfl _ _ gb767 26 #[.int .i64 t769, .int .i64 ((rd_T43 t768 (ji31)).f2.f1), .slice Ao79 x785002_2.length co79] (0, 0) _ rfl (uk_ BK767) Try.underlying26 rfl (by kernel_rfl)) rfl ?_; exact ⟨_, rj_ hji31, rf_ HO_785002 BK767, hz_ HB⟩
end Go.Proofs.Ytohfcgdodgdiiaa.PFnHints
