import Derived.Test.YtohfcgdodgdiiaaPFnHintsx17
namespace Go.Proofs.Ytohfcgdodgdiiaa.PFnHints
open Go.RowKit Go.Proofs.YtohfcgdodgdiiaaW.PrintWords Go.Proofs.YtohfcgdodgdiiaaW.PrintLast Go.Proofs.YtohfcgdodgdiiaaW.PrintMore
attribute [local go_sem] max2_int min2_int max_two min_two max_three min_three max_four min_four
set_option linter.unusedVariables false
set_option linter.unusedSimpArgs false
set_option maxHeartbeats 80000000
set_option maxRecDepth 100000
def impl_ShowHint.l0 : Nat → ByteArray → List (S55) → Int → Int → Option (ByteArray)
 | 0, _, _, _, _ => none
 | k + 1, x3, x19, x20, x21 => if x21 < x20 then (if 0 ≤ x21 then (if x21 < (x19.length : Int) then ((impl_textOf.f k ((rd_T55 x19 x21).f0)).bind fun t507 => ((impl_vars.f k (([(rd_T55 x19 x21).f1, (rd_T55 x19 x21).f2, (rd_T55 x19 x21).f3, (rd_T55 x19 x21).f4] : List Int))).bind fun t511 => (if t507.size + t511.size ≤ 9223372036854775807 then (if x3.size + (t507 ++ t511).size ≤ 9223372036854775807 then (impl_ShowHint.l0 k (x3 ++ (t507 ++ t511)) x19 x20 (wrap64 (x21 + 1))) else (none)) else (none)))) else (none)) else (none)) else ((impl_Crc.f k x3).bind fun t512 => ((impl_Fixed.f k t512 4).bind fun t513 => (if t513.size + x3.size ≤ 9223372036854775807 then (some (t513 ++ x3)) else (none))))
def impl_ShowHint.f (k : Nat) (a0_0 : Int) (a0_1 : Int) (l0_2 : List (S55)) : Option (ByteArray) := (impl_hintOk.f k a0_0 a0_1 l0_2).bind fun t500 => (if t500 = true then ((impl_vars.f k (([a0_0, a0_1, (l0_2.length : Int)] : List Int))).bind fun t504 => (impl_ShowHint.l0 k t504 l0_2 (l0_2.length : Int) 0)) else (some (⟨#[]⟩ : ByteArray)))
def impl_ShowHint.T7 : Bool × List (List Nat × List Nat) := (true, [([], []), ([], []), ([1], [1]), ([2], [2]), ([], []), ([4], [4]), ([], []), ([6], [6]), ([], []), ([8], [8]), ([], []), ([10], [10]), ([5, 7, 9, 11], [5, 7, 9, 11]), ([12, 3], [12]), ([3, 13], [3, 13]), ([0, 14], [0, 14]), ([15, 13, 0, 1, 2, 3, 4, 5, 6, 7, 8, 9, 10, 11, 12, 13, 14, 15], [0, 15])])
def impl_ShowHint.B7 : List Nat := [0, 0, 2, 6, 0, 16, 0, 64, 0, 256, 0, 1024, 4080, 8190, 16382, 32767, 65535]
theorem impl_ShowHint.tab7 : rtab .any (opsOf Try.f6 7) = impl_ShowHint.T7 := by kernel_rfl
theorem impl_ShowHint.bits7 : waitsOk impl_ShowHint.T7.2 impl_ShowHint.B7 = true := by kernel_rfl
theorem impl_ShowHint.calls {k : Nat} {a0_0 a0_1 : Int} {l0_2 : List (S55)} {r : ByteArray} {w : World} (A0_2 : Option Addr) (c0_2 : Nat) (h : impl_ShowHint.f k a0_0 a0_1 l0_2 = some r) (hr0_2 : Kd.C k55 w A0_2 l0_2.length l0_2 := by exact sr_) (hc0_2 : l0_2.length ≤ c0_2 := by exact sc_) :
  Calls Try.prog 6 #[.agg #[.int .i64 a0_0, .int .i64 a0_1, .slice A0_2 l0_2.length c0_2]] w fun e w' => e = .returned (.string r) ∧ Below w.heap.size w w' := by
 have hu26 := Try.underlying26; have hu55 := Try.underlying55; have HR0_2 := am_ hr0_2; have HC0_2 := am_ hc0_2; clear hr0_2 hc0_2; have HB := am_ (Below.refl w.heap.size w); unfold impl_ShowHint.f at h; have H := h; clear h; replace H := bnd_ H; obtain ⟨t500, A2, H⟩ := H; by_cases c3 : t500 = true
 ·subst c3; rw [if_pos rfl] at H; obtain ⟨y501, hy501⟩ : ∃ y_ : List Int, y_ = (([a0_0, a0_1, (l0_2.length : Int)] : List Int)) := ⟨_, rfl⟩
  rw [← hy501] at H; have Ny501 := am_ hy501; clear hy501; replace H := bnd_ H; obtain ⟨t504, A4, H⟩ := H; have H' := am_ H; clear H
  go_enter Try.func6, Try.ntmps6
  go_wp2_with (first | (refine gd_ 1 ?_; refine bx1_ 1 #[.int .i64 a0_0, .int .i64 a0_1, .slice A0_2 l0_2.length c0_2] 26 ?_; intro gb499 hg w5 hbox hb; have BK499 := am_ hbox; have GE499 := gx_ hg HB; replace HB := bx_ HB hb; clear hb hbox hg; obtain ⟨Z6_0, Z6_1, Z6_2, F6_0, F6_1, F6_2⟩ := bc3_ BK499) | (refine gc_ 7 Try.func17 ?_; refine ch1_ (impl_hintOk.calls A0_2 c0_2 A2.1) ?_; intro w7 hb; replace BK499 := bb_ BK499 hb; replace HB := bx_ HB hb; clear hb; obtain ⟨_, _, _, _, _, _⟩ := bc3_ BK499) | (refine gd_ 16 ?_; refine li_ 16 (Kd.int .i64) 3 ([a0_0, a0_1, (l0_2.length : Int)] : List Int) [.int .i64 a0_0, .int .i64 a0_1, .int .i64 (l0_2.length : Int)] ?_ (hp := (Reps.one (show Kd.M (Kd.int .i64) _ _ _ a0_0 [.int .i64 a0_0] from rfl) (Reps.one (show Kd.M (Kd.int .i64) _ _ _ a0_1 [.int .i64 a0_1] from rfl) (Reps.one (show Kd.M (Kd.int .i64) _ _ _ (l0_2.length : Int) [.int .i64 (l0_2.length : Int)] from rfl) (Reps.none _ _))))); intro v502 w9 ho10 hb hg_ hnew_; clear hg_ hnew_; (first | rw [← Ny501.1] at ho10 | (simp only [Int.reduceToNat] at ho10; rw [← Ny501.1] at ho10)); have HO503 := rm_ ho10 HB; replace BK499 := bb_ BK499 hb; replace HB := bx_ HB hb; clear hb ho10; obtain ⟨Ao11, co11, eo11⟩ := Kd.R_slice HO503.1; subst eo11) | (refine gc_ 17 Try.func18 ?_; refine ch1_ (impl_vars.calls Ao11 co11 A4.1) ?_; intro w12 hb; replace HO503 := rb_ HO503 hb; replace BK499 := bb_ BK499 hb; replace HB := bx_ HB hb; clear hb; obtain ⟨_, _, _, _, _, _⟩ := bc3_ BK499))
  go_loopg [3, 21] k (fun kq v3 v21 w' => ∃ (x3_1 : ByteArray) (x21_1 : Int), v3 = .string x3_1 ∧ v21 = .int .i64 x21_1 ∧ Aside0 (impl_ShowHint.l0 kq x3_1 l0_2 (l0_2.length : Int) x21_1 = some r) ∧ Aside0 (kq ≤ k) ∧ Aside0 (w'.heap[gb499]? = some (.cells #[.int .i64 a0_0, .int .i64 a0_1, (.slice A0_2 l0_2.length c0_2)] 26 (0, 0))) ∧ Aside0 (Below w.heap.size w w'))
  case atStart => exact ⟨_, _, rs_, rs_, H', ⟨Nat.le_refl _⟩, ⟨bk_ BK499⟩, ⟨hs_ HB GE499⟩⟩
  case round =>
   clear H'
   (try clear c3)
   obtain ⟨x3_1, x21_1, rfl, rfl, HA, HK1, BK499, HB⟩ := hrel
   cases gk with
   | zero => exact zz_ HA
   | succ k1 =>
    have H := HA.1; clear HA; simp only [impl_ShowHint.l0] at H; by_cases c14 : x21_1 < (l0_2.length : Int)
    ·rw [if_pos c14] at H; have c14b0 := dq_ c14; clear c14; replace H := ih_ H; obtain ⟨c15, H⟩ := H; have c15b0 := dq_ c15; clear c15; replace H := ih_ H; obtain ⟨c16, H⟩ := H; have c16b0 := dq_ c16; clear c16; replace H := bnd_ H; obtain ⟨t507, A17, H⟩ := H; obtain ⟨y508, hy508⟩ : ∃ y_ : List Int, y_ = (([(rd_T55 l0_2 x21_1).f1, (rd_T55 l0_2 x21_1).f2, (rd_T55 l0_2 x21_1).f3, (rd_T55 l0_2 x21_1).f4] : List Int)) := ⟨_, rfl⟩
     rw [← hy508] at H; have Ny508 := am_ hy508; clear hy508; replace H := bnd_ H; obtain ⟨t511, A18, H⟩ := H; replace H := ih_ H; obtain ⟨c19, H⟩ := H; have ⟨c19b0, c19b1, c19b2⟩ := dl_ c19
     replace H := ih_ H; obtain ⟨c20, H⟩ := H; have ⟨c20b0, c20b1, c20b2⟩ := dl_ c20; (try have c20b3 := sp_ c20b2)
     have H' := am_ H; clear H; have p505 : 0 ≤ (x21_1 : Int) := od_; have q505 : x21_1 < (l0_2.length : Int) := od_; obtain ⟨ad505, e505, hx505_0, hx505_1, hx505_2, hx505_3, hx505_4⟩ := at_T55 HR0_2.1 x21_1 p505 q505
     cases e505
     (try replace hx505_0 := cb_ HB hx505_0)
     (try replace hx505_1 := cb_ HB hx505_1)
     (try replace hx505_2 := cb_ HB hx505_2)
     (try replace hx505_3 := cb_ HB hx505_3)
     (try replace hx505_4 := cb_ HB hx505_4)
     replace p505 := eq_true p505; replace q505 := eq_true q505
     try go_wp2_with (refine gd_ 5 ?_; refine bx1_ 5 #[.string (⟨#[]⟩ : ByteArray), .int .i64 0, .int .i64 0, .int .i64 0, .int .i64 0] 55 ?_; intro gb506 hg w21 hbox hb; have BK506 := am_ hbox; have GE506 := gx_ hg HB; replace HB := bx_ HB hb; have ⟨NB499_506, NB506_499⟩ := nn_ BK499 hg; replace BK499 := bb_ BK499 hb; clear hb hbox hg; have := NB506_499.1; have := NB499_506.1; obtain ⟨_, _, _, _, _, _, _, _, _, _⟩ := bc5_ BK506)
     generalize hW_ : (((((w21.setCell ⟨gb506, 0, none⟩ (.string ((rd_T55 l0_2 x21_1).f0))).setCell ⟨gb506, 1, none⟩ (.int .i64 ((rd_T55 l0_2 x21_1).f1))).setCell ⟨gb506, 2, none⟩ (.int .i64 ((rd_T55 l0_2 x21_1).f2))).setCell ⟨gb506, 3, none⟩ (.int .i64 ((rd_T55 l0_2 x21_1).f3))).setCell ⟨gb506, 4, none⟩ (.int .i64 ((rd_T55 l0_2 x21_1).f4))) = w24
     replace BK499 := uf_ BK499 NB499_506 hW_; replace BK506 := up_ #[.string ((rd_T55 l0_2 x21_1).f0), .int .i64 ((rd_T55 l0_2 x21_1).f1), .int .i64 ((rd_T55 l0_2 x21_1).f2), .int .i64 ((rd_T55 l0_2 x21_1).f3), .int .i64 ((rd_T55 l0_2 x21_1).f4)] BK506 hW_; replace HB := us_ hW_ (hu_ HB GE499 GE506); clear hW_; replace BK499 := bd_ BK499; replace BK506 := bd_ BK506; replace HB := hd_ HB; refine st1_ 17 impl_ShowHint.tab7 impl_ShowHint.bits7 trivial (fun hHeld HT_ HW_ => ?_) (S := fun w' => True)
     generalize w24.drew = w25 at BK499 BK506 HB hHeld ⊢
     (iterate 2 refine pr_ ?_); refine pv_' 4 29 (of_ 17 19) rfl rfl HT_ ?_; refine pv_' 6 31 (of_ 17 83) rfl rfl HT_ ?_; refine pv_' 8 33 (of_ 17 339) rfl rfl HT_ ?_; refine pv_' 10 35 (of_ 17 1363) rfl rfl HT_ ?_; refine inv_at [2, 3, 5, 7, 9, 11, 12, 13, 14, 15, 16] (fun a0_ b a w' => ∃ (v509 : Value), a = putSel a0_ b [(2, 27, .string ((rd_T55 l0_2 x21_1).f0)), (3, 28, .string t507), (5, 30, .int .i64 ((rd_T55 l0_2 x21_1).f1)), (7, 32, .int .i64 ((rd_T55 l0_2 x21_1).f2)), (9, 34, .int .i64 ((rd_T55 l0_2 x21_1).f3)), (11, 36, .int .i64 ((rd_T55 l0_2 x21_1).f4)), (12, 37, v509), (13, 38, .string t511), (14, 39, .string (t507 ++ t511)), (15, 40, .string (x3_1 ++ (t507 ++ t511))), (16, 3, .string (x3_1 ++ (t507 ++ t511)))] ∧ (w'.heap[gb499]? = some (.cells #[.int .i64 a0_0, .int .i64 a0_1, .slice (some ad505) l0_2.length c0_2] 26 (0, 0))) ∧ (w'.heap[gb506]? = some (.cells #[.string ((rd_T55 l0_2 x21_1).f0), .int .i64 ((rd_T55 l0_2 x21_1).f1), .int .i64 ((rd_T55 l0_2 x21_1).f2), .int .i64 ((rd_T55 l0_2 x21_1).f3), .int .i64 ((rd_T55 l0_2 x21_1).f4)] 55 (0, 0))) ∧ (Below w.heap.size w w') ∧ (b 12 = true → Kd.R (Kd.int .i64) 3 w' w.heap.size (fun _ => True) v509 y508)) HT_.1 HW_.1 (by kernel_rfl) (by kernel_rfl) ?_ ?_ ?_
     ·exact ⟨.bool false, by simp only [putSel, Bool.false_eq_true, if_false], BK499.1, BK506.1, HB.1, fun h_ => absurd h_ (by decide)⟩
     ·skip
      clear BK499 BK506 HB; refine steps_cons ?_ ?_
      ·rintro b a w' ⟨v509, ha, Q_BK499, Q_BK506, Q_HB, Q_HO510⟩ hb_ hon hoff; refine ⟨_, rfl, fun K hK => ?_⟩; have e26 : a.tmps[26]? = some (.pointer (some ⟨gb506, 0, none⟩)) := by rw [ha]; exact (putSel_off rfl).trans rfl
       replace ha := am_ ha; have BK499 := am_ Q_BK499; have BK506 := am_ Q_BK506; have HB := am_ Q_HB; have hc0_ : w'.cell? ⟨gb506, 0, none⟩ = some (.string ((rd_T55 l0_2 x21_1).f0)) := (blk_cell BK506.1 0).trans rfl; have hc1_ : w'.cell? ⟨gb506, 1, none⟩ = some (.int .i64 ((rd_T55 l0_2 x21_1).f1)) := (blk_cell BK506.1 1).trans rfl; have hc2_ : w'.cell? ⟨gb506, 2, none⟩ = some (.int .i64 ((rd_T55 l0_2 x21_1).f2)) := (blk_cell BK506.1 2).trans rfl; have hc3_ : w'.cell? ⟨gb506, 3, none⟩ = some (.int .i64 ((rd_T55 l0_2 x21_1).f3)) := (blk_cell BK506.1 3).trans rfl; have hc4_ : w'.cell? ⟨gb506, 4, none⟩ = some (.int .i64 ((rd_T55 l0_2 x21_1).f4)) := (blk_cell BK506.1 4).trans rfl; refine value_ (w1 := w') (v := .string ((rd_T55 l0_2 x21_1).f0)) (by rfl) rfl ?_ ?_
       ·go_simp
        (try simp only [i64_w])
        try rfl
       refine hK.out _ _ ⟨v509, (by rw [ha.out]; exact putSel_upk 0 hb_ rfl rfl rfl), Q_BK499, Q_BK506, Q_HB, Q_HO510⟩
      refine steps_cons ?_ ?_
      ·rintro b a w' ⟨v509, ha, Q_BK499, Q_BK506, Q_HB, Q_HO510⟩ hb_ hon hoff; refine ⟨_, rfl, fun K hK => ?_⟩; have e27 : a.tmps[27]? = some (.string ((rd_T55 l0_2 x21_1).f0)) := by rw [ha]; exact putSel_on (e := (2, 27, .string ((rd_T55 l0_2 x21_1).f0))) 0 rfl rfl (hon 2 (by kernel_rfl)) rfl
       replace ha := am_ ha; have BK499 := am_ Q_BK499; have BK506 := am_ Q_BK506; have HB := am_ Q_HB; refine go2_ Try.func19 (impl_textOf.calls A17.1) ?_ (hargs := (by first | (simp only [List.map_toArray, List.map_cons, List.map_nil, Act.eval, Array.getD_eq_getD_getElem?, Option.getD_some, e27]; done) | (simp only [List.map_toArray, List.map_cons, List.map_nil, Act.eval, Array.getD_eq_getD_getElem?, Option.getD_some, e27]; rfl))); intro w26 hb; have n0_ := am_ (blk_below (g := gb499) (o := .cells #[.int .i64 a0_0, .int .i64 a0_1, .slice (some ad505) l0_2.length c0_2] 26 (0, 0)) (bk_ BK499) hb); have n1_ := am_ (blk_below (g := gb506) (o := .cells #[.string ((rd_T55 l0_2 x21_1).f0), .int .i64 ((rd_T55 l0_2 x21_1).f1), .int .i64 ((rd_T55 l0_2 x21_1).f2), .int .i64 ((rd_T55 l0_2 x21_1).f3), .int .i64 ((rd_T55 l0_2 x21_1).f4)] 55 (0, 0)) (bk_ BK506) hb); have n2_ := am_ (below_step (hu_ HB GE499 GE506) hb); have z_HO510 := fun (h0_ : b 12 = true) => (show Kd.R (Kd.int .i64) 3 w26 w.heap.size (fun _ => True) v509 y508 from by first | exact (Kd.R_below (by (with_reducible repeat (first | apply Kd.R_alloc | apply Kd.R_drewN | apply Kd.R_drew)); exact (Q_HO510 h0_)) hb) | exact Kd.R_mono (Kd.R_below (by (with_reducible repeat (first | apply Kd.R_alloc | apply Kd.R_drewN | apply Kd.R_drew)); exact (Q_HO510 h0_)) hb) (fun _ h_ => by first | trivial | exact h_ | exact h_.1))
       clear BK499; clear BK506; clear HB; have BK499 := n0_; have BK506 := n1_; have HB := n2_; clear n0_ n1_ n2_
       (try clear hb)
       (try clear hb2)
       (try clear hk)
       (try clear hi)
       refine hK.out _ _ ⟨v509, (by rw [ha.out]; exact putSel_upk 1 hb_ rfl rfl rfl), (bk_ BK499), (bk_ BK506), (hu_ HB GE499 GE506), z_HO510⟩
      refine steps_cons ?_ ?_
      ·rintro b a w' ⟨v509, ha, Q_BK499, Q_BK506, Q_HB, Q_HO510⟩ hb_ hon hoff; refine ⟨_, rfl, fun K hK => ?_⟩; have e29 : a.tmps[29]? = some (.pointer (some ⟨gb506, 1, none⟩)) := by rw [ha]; exact (putSel_off rfl).trans rfl
       replace ha := am_ ha; have BK499 := am_ Q_BK499; have BK506 := am_ Q_BK506; have HB := am_ Q_HB; have hc0_ : w'.cell? ⟨gb506, 0, none⟩ = some (.string ((rd_T55 l0_2 x21_1).f0)) := (blk_cell BK506.1 0).trans rfl; have hc1_ : w'.cell? ⟨gb506, 1, none⟩ = some (.int .i64 ((rd_T55 l0_2 x21_1).f1)) := (blk_cell BK506.1 1).trans rfl; have hc2_ : w'.cell? ⟨gb506, 2, none⟩ = some (.int .i64 ((rd_T55 l0_2 x21_1).f2)) := (blk_cell BK506.1 2).trans rfl; have hc3_ : w'.cell? ⟨gb506, 3, none⟩ = some (.int .i64 ((rd_T55 l0_2 x21_1).f3)) := (blk_cell BK506.1 3).trans rfl; have hc4_ : w'.cell? ⟨gb506, 4, none⟩ = some (.int .i64 ((rd_T55 l0_2 x21_1).f4)) := (blk_cell BK506.1 4).trans rfl; refine value_ (w1 := w') (v := .int .i64 ((rd_T55 l0_2 x21_1).f1)) (by rfl) rfl ?_ ?_
       ·go_simp
        (try simp only [i64_w])
        try rfl
       refine hK.out _ _ ⟨v509, (by rw [ha.out]; exact putSel_upk 2 hb_ rfl rfl rfl), Q_BK499, Q_BK506, Q_HB, fun h0_ => absurd ((hoff 12 (by kernel_rfl)).symm.trans h0_) (by decide)⟩
      refine steps_cons ?_ ?_
      ·rintro b a w' ⟨v509, ha, Q_BK499, Q_BK506, Q_HB, Q_HO510⟩ hb_ hon hoff; refine ⟨_, rfl, fun K hK => ?_⟩; have e31 : a.tmps[31]? = some (.pointer (some ⟨gb506, 2, none⟩)) := by rw [ha]; exact (putSel_off rfl).trans rfl
       replace ha := am_ ha; have BK499 := am_ Q_BK499; have BK506 := am_ Q_BK506; have HB := am_ Q_HB; have hc0_ : w'.cell? ⟨gb506, 0, none⟩ = some (.string ((rd_T55 l0_2 x21_1).f0)) := (blk_cell BK506.1 0).trans rfl; have hc1_ : w'.cell? ⟨gb506, 1, none⟩ = some (.int .i64 ((rd_T55 l0_2 x21_1).f1)) := (blk_cell BK506.1 1).trans rfl; have hc2_ : w'.cell? ⟨gb506, 2, none⟩ = some (.int .i64 ((rd_T55 l0_2 x21_1).f2)) := (blk_cell BK506.1 2).trans rfl; have hc3_ : w'.cell? ⟨gb506, 3, none⟩ = some (.int .i64 ((rd_T55 l0_2 x21_1).f3)) := (blk_cell BK506.1 3).trans rfl; have hc4_ : w'.cell? ⟨gb506, 4, none⟩ = some (.int .i64 ((rd_T55 l0_2 x21_1).f4)) := (blk_cell BK506.1 4).trans rfl; refine value_ (w1 := w') (v := .int .i64 ((rd_T55 l0_2 x21_1).f2)) (by rfl) rfl ?_ ?_
       ·go_simp
        (try simp only [i64_w])
        try rfl
       refine hK.out _ _ ⟨v509, (by rw [ha.out]; exact putSel_upk 3 hb_ rfl rfl rfl), Q_BK499, Q_BK506, Q_HB, fun h0_ => absurd ((hoff 12 (by kernel_rfl)).symm.trans h0_) (by decide)⟩
      refine steps_cons ?_ ?_
      ·rintro b a w' ⟨v509, ha, Q_BK499, Q_BK506, Q_HB, Q_HO510⟩ hb_ hon hoff; refine ⟨_, rfl, fun K hK => ?_⟩; have e33 : a.tmps[33]? = some (.pointer (some ⟨gb506, 3, none⟩)) := by rw [ha]; exact (putSel_off rfl).trans rfl
       replace ha := am_ ha; have BK499 := am_ Q_BK499; have BK506 := am_ Q_BK506; have HB := am_ Q_HB; have hc0_ : w'.cell? ⟨gb506, 0, none⟩ = some (.string ((rd_T55 l0_2 x21_1).f0)) := (blk_cell BK506.1 0).trans rfl; have hc1_ : w'.cell? ⟨gb506, 1, none⟩ = some (.int .i64 ((rd_T55 l0_2 x21_1).f1)) := (blk_cell BK506.1 1).trans rfl; have hc2_ : w'.cell? ⟨gb506, 2, none⟩ = some (.int .i64 ((rd_T55 l0_2 x21_1).f2)) := (blk_cell BK506.1 2).trans rfl; have hc3_ : w'.cell? ⟨gb506, 3, none⟩ = some (.int .i64 ((rd_T55 l0_2 x21_1).f3)) := (blk_cell BK506.1 3).trans rfl; have hc4_ : w'.cell? ⟨gb506, 4, none⟩ = some (.int .i64 ((rd_T55 l0_2 x21_1).f4)) := (blk_cell BK506.1 4).trans rfl; refine value_ (w1 := w') (v := .int .i64 ((rd_T55 l0_2 x21_1).f3)) (by rfl) rfl ?_ ?_
       ·go_simp
        (try simp only [i64_w])
        try rfl
       refine hK.out _ _ ⟨v509, (by rw [ha.out]; exact putSel_upk 4 hb_ rfl rfl rfl), Q_BK499, Q_BK506, Q_HB, fun h0_ => absurd ((hoff 12 (by kernel_rfl)).symm.trans h0_) (by decide)⟩
      refine steps_cons ?_ ?_
      ·rintro b a w' ⟨v509, ha, Q_BK499, Q_BK506, Q_HB, Q_HO510⟩ hb_ hon hoff; refine ⟨_, rfl, fun K hK => ?_⟩; have e35 : a.tmps[35]? = some (.pointer (some ⟨gb506, 4, none⟩)) := by rw [ha]; exact (putSel_off rfl).trans rfl
       replace ha := am_ ha; have BK499 := am_ Q_BK499; have BK506 := am_ Q_BK506; have HB := am_ Q_HB; have hc0_ : w'.cell? ⟨gb506, 0, none⟩ = some (.string ((rd_T55 l0_2 x21_1).f0)) := (blk_cell BK506.1 0).trans rfl; have hc1_ : w'.cell? ⟨gb506, 1, none⟩ = some (.int .i64 ((rd_T55 l0_2 x21_1).f1)) := (blk_cell BK506.1 1).trans rfl; have hc2_ : w'.cell? ⟨gb506, 2, none⟩ = some (.int .i64 ((rd_T55 l0_2 x21_1).f2)) := (blk_cell BK506.1 2).trans rfl; have hc3_ : w'.cell? ⟨gb506, 3, none⟩ = some (.int .i64 ((rd_T55 l0_2 x21_1).f3)) := (blk_cell BK506.1 3).trans rfl; have hc4_ : w'.cell? ⟨gb506, 4, none⟩ = some (.int .i64 ((rd_T55 l0_2 x21_1).f4)) := (blk_cell BK506.1 4).trans rfl; refine value_ (w1 := w') (v := .int .i64 ((rd_T55 l0_2 x21_1).f4)) (by rfl) rfl ?_ ?_
       ·go_simp
        (try simp only [i64_w])
        try rfl
       refine hK.out _ _ ⟨v509, (by rw [ha.out]; exact putSel_upk 5 hb_ rfl rfl rfl), Q_BK499, Q_BK506, Q_HB, fun h0_ => absurd ((hoff 12 (by kernel_rfl)).symm.trans h0_) (by decide)⟩
      refine steps_cons ?_ ?_
      ·rintro b a w' ⟨v509, ha, Q_BK499, Q_BK506, Q_HB, Q_HO510⟩ hb_ hon hoff; refine ⟨_, rfl, fun K hK => ?_⟩; have e30 : a.tmps[30]? = some (.int .i64 ((rd_T55 l0_2 x21_1).f1)) := by rw [ha]; exact putSel_on (e := (5, 30, .int .i64 ((rd_T55 l0_2 x21_1).f1))) 2 rfl rfl (hon 5 (by kernel_rfl)) rfl
       have e32 : a.tmps[32]? = some (.int .i64 ((rd_T55 l0_2 x21_1).f2)) := by rw [ha]; exact putSel_on (e := (7, 32, .int .i64 ((rd_T55 l0_2 x21_1).f2))) 3 rfl rfl (hon 7 (by kernel_rfl)) rfl
       have e34 : a.tmps[34]? = some (.int .i64 ((rd_T55 l0_2 x21_1).f3)) := by rw [ha]; exact putSel_on (e := (9, 34, .int .i64 ((rd_T55 l0_2 x21_1).f3))) 4 rfl rfl (hon 9 (by kernel_rfl)) rfl
       have e36 : a.tmps[36]? = some (.int .i64 ((rd_T55 l0_2 x21_1).f4)) := by rw [ha]; exact putSel_on (e := (11, 36, .int .i64 ((rd_T55 l0_2 x21_1).f4))) 5 rfl rfl (hon 11 (by kernel_rfl)) rfl
       replace ha := am_ ha; have BK499 := am_ Q_BK499; have BK506 := am_ Q_BK506; have HB := am_ Q_HB; refine Kd.R_lit_step (Kd.int .i64) _ 3 ?hg (N := 37) ?hd (xs := ([(rd_T55 l0_2 x21_1).f1, (rd_T55 l0_2 x21_1).f2, (rd_T55 l0_2 x21_1).f3, (rd_T55 l0_2 x21_1).f4] : List Int)) (inner := [.int .i64 ((rd_T55 l0_2 x21_1).f1), .int .i64 ((rd_T55 l0_2 x21_1).f2), .int .i64 ((rd_T55 l0_2 x21_1).f3), .int .i64 ((rd_T55 l0_2 x21_1).f4)]) (ok := fun _ => True) (okp := fun _ => True) ?hr ?hp (fun _ hk => hk) trivial (Below.refl _ _) (Nat.le_refl _) (by simp) ?_; (case hd => rfl); (case hg => rfl); (case hr => first | (go_simp; done) | (go_simp; rfl)); (case hp => exact (Reps.one (show Kd.M (Kd.int .i64) _ _ _ ((rd_T55 l0_2 x21_1).f1) [.int .i64 ((rd_T55 l0_2 x21_1).f1)] from rfl) (Reps.one (show Kd.M (Kd.int .i64) _ _ _ ((rd_T55 l0_2 x21_1).f2) [.int .i64 ((rd_T55 l0_2 x21_1).f2)] from rfl) (Reps.one (show Kd.M (Kd.int .i64) _ _ _ ((rd_T55 l0_2 x21_1).f3) [.int .i64 ((rd_T55 l0_2 x21_1).f3)] from rfl) (Reps.one (show Kd.M (Kd.int .i64) _ _ _ ((rd_T55 l0_2 x21_1).f4) [.int .i64 ((rd_T55 l0_2 x21_1).f4)] from rfl) (Reps.none _ _)))))); intro v509 w26 ho27 hb hg_ hnew_; clear hg_ hnew_
       (first | rw [← Ny508.1] at ho27 | (simp only [Int.reduceToNat] at ho27; rw [← Ny508.1] at ho27))
       have HO510 := rm_ ho27 HB; replace BK499 := bb_ BK499 hb; replace BK506 := bb_ BK506 hb; replace HB := bx_ HB hb; clear hb ho27; refine hK.out _ _ ⟨v509, (by rw [ha.out]; exact putSel_upk 6 hb_ rfl rfl rfl), (bk_ BK499), (bk_ BK506), (hu_ HB GE499 GE506), fun _ => (rr_ HO510)⟩
      refine steps_cons ?_ ?_
      ·rintro b a w' ⟨v509, ha, Q_BK499, Q_BK506, Q_HB, Q_HO510⟩ hb_ hon hoff; refine ⟨_, rfl, fun K hK => ?_⟩; have e37 : a.tmps[37]? = some (v509) := by rw [ha]; exact putSel_on (e := (12, 37, v509)) 6 rfl rfl (hon 12 (by kernel_rfl)) rfl
       replace ha := am_ ha; have BK499 := am_ Q_BK499; have BK506 := am_ Q_BK506; have HB := am_ Q_HB; have HO510 := am_ (Q_HO510 (hon 12 (by kernel_rfl))); obtain ⟨Ao30, co30, eo30⟩ := Kd.R_slice HO510.1
       (first | subst eo30 | (injection eo30 with f1_ f2_ f3_; have f4_ := f1_.symm; have f5_ := f3_.symm; clear f1_ f2_ f3_; subst f4_; subst f5_))
       refine go2_ Try.func18 (impl_vars.calls Ao30 co30 A18.1) ?_ (hargs := (by first | (simp only [List.map_toArray, List.map_cons, List.map_nil, Act.eval, Array.getD_eq_getD_getElem?, Option.getD_some, e37]; done) | (simp only [List.map_toArray, List.map_cons, List.map_nil, Act.eval, Array.getD_eq_getD_getElem?, Option.getD_some, e37]; rfl))); intro w31 hb; replace HO510 := rb_ HO510 hb; replace BK499 := bb_ BK499 hb; replace BK506 := bb_ BK506 hb; replace HB := bx_ HB hb
       (try clear hb)
       (try clear hb2)
       (try clear hk)
       (try clear hi)
       refine hK.out _ _ ⟨.slice Ao30 y508.length co30, (by rw [ha.out]; exact putSel_upk 7 hb_ rfl rfl rfl), (bk_ BK499), (bk_ BK506), (hu_ HB GE499 GE506), fun _ => (rr_ HO510)⟩
      refine steps_cons ?_ ?_
      ·rintro b a w' ⟨v509, ha, Q_BK499, Q_BK506, Q_HB, Q_HO510⟩ hb_ hon hoff; refine ⟨_, rfl, fun K hK => ?_⟩; have e28 : a.tmps[28]? = some (.string t507) := by rw [ha]; exact putSel_on (e := (3, 28, .string t507)) 1 rfl rfl (hon 3 (by kernel_rfl)) rfl
       have e38 : a.tmps[38]? = some (.string t511) := by rw [ha]; exact putSel_on (e := (13, 38, .string t511)) 7 rfl rfl (hon 13 (by kernel_rfl)) rfl
       replace ha := am_ ha; have BK499 := am_ Q_BK499; have BK506 := am_ Q_BK506; have HB := am_ Q_HB; have HO510 := am_ (Q_HO510 (hon 12 (by kernel_rfl))); refine value_ (w1 := w') (v := .string (t507 ++ t511)) (by rfl) rfl ?_ ?_
       ·go_simp
        (try simp only [i64_w])
        try rfl
       refine hK.out _ _ ⟨v509, (by rw [ha.out]; exact putSel_upk 8 hb_ rfl rfl rfl), Q_BK499, Q_BK506, Q_HB, Q_HO510⟩
      refine steps_cons ?_ ?_
      ·rintro b a w' ⟨v509, ha, Q_BK499, Q_BK506, Q_HB, Q_HO510⟩ hb_ hon hoff; refine ⟨_, rfl, fun K hK => ?_⟩; have e25 : a.tmps[25]? = some (.string x3_1) := by rw [ha]; exact (putSel_off rfl).trans rfl
       have e39 : a.tmps[39]? = some (.string (t507 ++ t511)) := by rw [ha]; exact putSel_on (e := (14, 39, .string (t507 ++ t511))) 8 rfl rfl (hon 14 (by kernel_rfl)) rfl
       replace ha := am_ ha; have BK499 := am_ Q_BK499; have BK506 := am_ Q_BK506; have HB := am_ Q_HB; have HO510 := am_ (Q_HO510 (hon 12 (by kernel_rfl))); refine value_ (w1 := w') (v := .string (x3_1 ++ (t507 ++ t511))) (by rfl) rfl ?_ ?_
       ·go_simp
        (try simp only [i64_w])
        try rfl
       refine hK.out _ _ ⟨v509, (by rw [ha.out]; exact putSel_upk 9 hb_ rfl rfl rfl), Q_BK499, Q_BK506, Q_HB, Q_HO510⟩
      refine steps_cons ?_ ?_
      ·rintro b a w' ⟨v509, ha, Q_BK499, Q_BK506, Q_HB, Q_HO510⟩ hb_ hon hoff; refine ⟨_, rfl, fun K hK => ?_⟩; have e40 : a.tmps[40]? = some (.string (x3_1 ++ (t507 ++ t511))) := by rw [ha]; exact putSel_on (e := (15, 40, .string (x3_1 ++ (t507 ++ t511)))) 9 rfl rfl (hon 15 (by kernel_rfl)) rfl
       replace ha := am_ ha; have BK499 := am_ Q_BK499; have BK506 := am_ Q_BK506; have HB := am_ Q_HB; have HO510 := am_ (Q_HO510 (hon 12 (by kernel_rfl))); refine value_ (w1 := w') (v := .string (x3_1 ++ (t507 ++ t511))) (by rfl) rfl ?_ ?_
       ·go_simp
        (try simp only [i64_w])
        try rfl
       refine hK.out _ _ ⟨v509, (by rw [ha.out]; exact putSel_upk 10 hb_ rfl rfl rfl), Q_BK499, Q_BK506, Q_HB, Q_HO510⟩
      exact steps_nil
     rintro b a w31 hall ⟨v509, ha, Q_BK499, Q_BK506, Q_HB, Q_HO510⟩; clear BK499 BK506 HB; have hb2_ := hall 2 (by kernel_rfl); have hb3_ := hall 3 (by kernel_rfl); have hb5_ := hall 5 (by kernel_rfl); have hb7_ := hall 7 (by kernel_rfl); have hb9_ := hall 9 (by kernel_rfl); have hb11_ := hall 11 (by kernel_rfl); have hb12_ := hall 12 (by kernel_rfl); have hb13_ := hall 13 (by kernel_rfl); have hb14_ := hall 14 (by kernel_rfl); have hb15_ := hall 15 (by kernel_rfl); have hb16_ := hall 16 (by kernel_rfl); subst ha; simp only [putSel, hb2_, hb3_, hb5_, hb7_, hb9_, hb11_, hb12_, hb13_, hb14_, hb15_, hb16_, if_true, Act.put, la_, lz_, ls_]; have BK499 := am_ Q_BK499; clear Q_BK499; have BK506 := am_ Q_BK506; clear Q_BK506; have HB := am_ Q_HB; clear Q_HB; have HO510 := am_ (Q_HO510 hb12_); clear Q_HO510; clear hall hb2_ hb3_ hb5_ hb7_ hb9_ hb11_ hb12_ hb13_ hb14_ hb15_ hb16_
     try go_wp2
     go_roundg k1
     case measure => exact m1_ HK1
     case rel => exact ⟨_, _, rs_, rs_, H', ⟨m1_ HK1⟩, ⟨bk_ BK499⟩, ⟨hz_ HB⟩⟩
    ·rw [if_neg c14] at H; have c14b0 := df_ c14; clear c14; replace H := bnd_ H; obtain ⟨t512, A32, H⟩ := H; replace H := bnd_ H; obtain ⟨t513, A33, H⟩ := H; replace H := ih_ H; obtain ⟨c34, H⟩ := H; have ⟨c34b0, c34b1, c34b2⟩ := dl_ c34
     obtain rfl := in_ H
     go_wp2_with (first | (refine gc_ 43 Try.func21 ?_; refine ch1_ (impl_Crc.calls A32.1) ?_; rintro w' ⟨nd, rfl⟩) | (refine gc_ 44 Try.func20 ?_; refine ch1_ (impl_Fixed.calls A33.1) ?_; intro w35 hb; replace BK499 := bb_ BK499 hb; replace HB := bx_ HB hb; clear hb))
     go_ret
     exact ⟨re_, hs_ HB GE499⟩
 ·replace c3 := bF_ c3; subst c3; rw [if_neg ff_] at H; obtain rfl := in_ H
  go_enter Try.func6, Try.ntmps6
  go_wp2_with (first | (refine gd_ 1 ?_; refine bx1_ 1 #[.int .i64 a0_0, .int .i64 a0_1, .slice A0_2 l0_2.length c0_2] 26 ?_; intro gb499 hg w36 hbox hb; have BK499 := am_ hbox; have GE499 := gx_ hg HB; replace HB := bx_ HB hb; clear hb hbox hg; obtain ⟨_, _, _, _, _, _⟩ := bc3_ BK499) | (refine gc_ 7 Try.func17 ?_; refine ch1_ (impl_hintOk.calls A0_2 c0_2 A2.1) ?_; intro w38 hb; replace BK499 := bb_ BK499 hb; replace HB := bx_ HB hb; clear hb))
  go_ret
  exact ⟨re_, hs_ HB GE499⟩
/-- A state of type 61 at block g of W; what its slices lead to came in by w0. -/
def IsS61 (w0 W : World) (g : Nat) (f0 : ByteArray) (f1 : Bool) : Prop := W.heap[g]? = some (.cells #[.string f0, .bool f1] 61 (0, 0)) ∧ w0.heap.size ≤ g
theorem IsS61.grown {w0 W : World} {g : Nat} {f0 : ByteArray} {f1 : Bool} {W1 : World} {row : Option Nat} (h : IsS61 w0 W g f0 f1) (hw : W.grownBy W1 row) (hne : some g ≠ row) : IsS61 w0 W1 g f0 f1 := by
 obtain ⟨hb, hg⟩ := h; exact ⟨blk_grown hb hw hne, hg⟩
theorem IsS61.kept {w0 W : World} {g : Nat} {f0 : ByteArray} {f1 : Bool} {W1 : World} {S : Nat → Prop} (h : IsS61 w0 W g f0 f1) (hk : Kept W W1 S) (hne : ¬ S g) : IsS61 w0 W1 g f0 f1 := by
 obtain ⟨hb, hg⟩ := h; exact ⟨blk_kept hb hk hne, hg⟩
theorem IsS61.below {w0 W : World} {g : Nat} {f0 : ByteArray} {f1 : Bool} {W1 : World} (h : IsS61 w0 W g f0 f1) (hw : Below W.heap.size W W1) : IsS61 w0 W1 g f0 f1 := h.grown (grown_of_below hw none) (by simp)
theorem IsS61.alloc {w0 W : World} {g : Nat} {f0 : ByteArray} {f1 : Bool} (h : IsS61 w0 W g f0 f1) (o : Obj) : IsS61 w0 (W.alloc o) g f0 f1 := h.below (below_alloc (Below.refl _ _) o)
theorem IsS61.drewN {w0 W : World} {g : Nat} {f0 : ByteArray} {f1 : Bool} (h : IsS61 w0 W g f0 f1) (m : Nat) : IsS61 w0 (W.drewN m) g f0 f1 := h
theorem IsS61.drew {w0 W : World} {g : Nat} {f0 : ByteArray} {f1 : Bool} (h : IsS61 w0 W g f0 f1) : IsS61 w0 W.drew g f0 f1 := h
theorem IsS61.at_ {w0 W : World} {g : Nat} {f0 : ByteArray} {f1 : Bool} {w' : World} {m : Nat} (hq : W.drewN m = w') (h : IsS61 w0 W g f0 f1) : IsS61 w0 w' g f0 f1 := by subst hq; exact IsS61.drewN h m
theorem IsS61.apart {w0 W : World} {g : Nat} {f0 : ByteArray} {f1 : Bool} {α : Type} {d : Kd α} {e : Nat} {base : Nat} {ok : Nat → Prop} {v : Value} {xs : List α} (h : IsS61 w0 W g f0 f1) (ho : d.R e W base ok v xs) (ht : ∀ q, q ∈ e :: d.E → q ≠ 61) : d.R e W base (fun k => ok k ∧ k ≠ g) v xs := by
 obtain ⟨hb, hg⟩ := h; exact Kd.R_types ho hb ht
theorem IsS61.own_ne {w0 W : World} {g : Nat} {f0 : ByteArray} {f1 : Bool} {α : Type} {d : Kd α} {e : Nat} {base : Nat} {ok : Nat → Prop} {v : Value} {xs : List α} (h : IsS61 w0 W g f0 f1) (ho : d.R e W base ok v xs) (ht : e ≠ 61) : some g ≠ v.ownBlock := by
 obtain ⟨hb, hg⟩ := h; exact Kd.R_ne ho hb ht
theorem IsS61.lt {w0 W : World} {g : Nat} {f0 : ByteArray} {f1 : Bool} (h : IsS61 w0 W g f0 f1) : g < W.heap.size := by
 obtain ⟨hb, hg⟩ := h; exact blk_lt hb
theorem IsS61.ge {w0 W : World} {g : Nat} {f0 : ByteArray} {f1 : Bool} (h : IsS61 w0 W g f0 f1) : w0.heap.size ≤ g := by
 obtain ⟨hb, hg⟩ := h; exact hg
theorem IsS61.ne_blk {w0 W : World} {g : Nat} {f0 : ByteArray} {f1 : Bool} {a : Nat} {cs : Array Value} {t : TypeId} {fr : Nat × Nat} (h : IsS61 w0 W g f0 f1) (hb2 : W.heap[a]? = some (.cells cs t fr)) (ht : t ≠ 61) : g ≠ a := by
 obtain ⟨hb, hg⟩ := h; rintro rfl; rw [hb] at hb2
 injection hb2 with hb2
 injection hb2 with _ ht2
 exact ht ht2.symm
theorem IsS61.far {w0 W : World} {g : Nat} {f0 : ByteArray} {f1 : Bool} {p : Addr} (h : IsS61 w0 W g f0 f1) (hne : g ≠ p.block) (u : Value) : IsS61 w0 (W.setCell p u) g f0 f1 := by
 obtain ⟨hb, hg⟩ := h; exact ⟨blk_far hb hne u, hg⟩
theorem cellS61_0 {W : World} {g : Nat} {f0 : ByteArray} {f1 : Bool} (h : W.heap[g]? = some (.cells #[.string f0, .bool f1] 61 (0, 0))) : W.cell? ⟨g, 0, none⟩ = some (.string f0) := (blk_cell h 0).trans rfl
theorem IsS61.set_0 {w0 W : World} {g : Nat} {f0 : ByteArray} {f1 : Bool} (h : IsS61 w0 W g f0 f1) (x : ByteArray) : IsS61 w0 (W.setCell ⟨g, 0, none⟩ (.string x)) g x f1 := by
 obtain ⟨hb, hg⟩ := h; exact ⟨by simpa using blk_set hb 0 (.string x), hg⟩
theorem cellS61_1 {W : World} {g : Nat} {f0 : ByteArray} {f1 : Bool} (h : W.heap[g]? = some (.cells #[.string f0, .bool f1] 61 (0, 0))) : W.cell? ⟨g, 1, none⟩ = some (.bool f1) := (blk_cell h 1).trans rfl
theorem IsS61.set_1 {w0 W : World} {g : Nat} {f0 : ByteArray} {f1 : Bool} (h : IsS61 w0 W g f0 f1) (x : Bool) : IsS61 w0 (W.setCell ⟨g, 1, none⟩ (.bool x)) g f0 x := by
 obtain ⟨hb, hg⟩ := h; exact ⟨by simpa using blk_set hb 1 (.bool x), hg⟩
def impl_scanner_bytes.f (s0_0 : ByteArray) (s0_1 : Bool) (a1 : Int) : Option (ByteArray × ByteArray × Bool) := if s0_1 = true then (some ((⟨#[]⟩ : ByteArray), s0_0, true)) else (if a1 > (s0_0.size : Int) then (some ((⟨#[]⟩ : ByteArray), s0_0, true)) else (if 0 ≤ a1 then (if a1 ≤ (s0_0.size : Int) then (some (s0_0.extract 0 (a1 : Int).toNat, s0_0.extract (a1 : Int).toNat s0_0.size, s0_1)) else (none)) else (none)))
theorem impl_scanner_bytes.calls {s0_0 : ByteArray} {s0_1 : Bool} {a1 : Int} {r1 r2 : ByteArray} {r3 : Bool} {w : World} (g : Nat) (w0 : World) (h : impl_scanner_bytes.f s0_0 s0_1 a1 = some (r1, r2, r3)) (hI : IsS61 w0 w g s0_0 s0_1 := by exact si_) (hB : Below w0.heap.size w0 w := by exact bw_) :
  Calls Try.prog 22 #[.pointer (some ⟨g, 0, none⟩), .int .i64 a1] w fun e w' => e = .returned (.string r1) ∧ IsS61 w0 w' g r2 r3 ∧ Below w0.heap.size w0 w' ∧ KeepBut w w' g none := by
 have HI0 := am_ hI; have HK := am_ (KeepBut.refl w g none); have HL := am_ hB.size; clear hI; have HW0 := am_ hB.size; have HB := am_ hB; clear hB; unfold impl_scanner_bytes.f at h; have H := h; clear h; by_cases c3 : s0_1 = true
 ·subst c3; rw [if_pos rfl] at H; obtain ⟨rfl, rfl, rfl⟩ := i3_ H; obtain ⟨HGz4, hgz4⟩ := HI0.1; have Z4_0 := cellS61_0 HGz4; have Z4_1 := cellS61_1 HGz4; have F4_0 := blk_frozen HGz4 0; have F4_1 := blk_frozen HGz4 1; clear HGz4 hgz4
  go_enter Try.func22, Try.ntmps22
  go_wp2
  go_ret
  exact ⟨re_, hi_ HI0, hj_ HB, hk_ HK⟩
 ·replace c3 := bF_ c3; subst c3; rw [if_neg ff_] at H; by_cases c5 : a1 > (s0_0.size : Int)
  ·rw [if_pos c5] at H; have c5b0 := dq_ c5; clear c5; obtain ⟨rfl, rfl, rfl⟩ := i3_ H; obtain ⟨HGz6, hgz6⟩ := HI0.1; have Z6_0 := cellS61_0 HGz6; have Z6_1 := cellS61_1 HGz6; have F6_0 := blk_frozen HGz6 0; have F6_1 := blk_frozen HGz6 1; clear HGz6 hgz6
   go_enter Try.func22, Try.ntmps22
   go_wp2
   go_ret
   exact ⟨re_, hi_ HI0, hj_ HB, hk_ HK⟩
  ·rw [if_neg c5] at H; have c5b0 := df_ c5; clear c5; replace H := ig_ H; obtain ⟨c7b0, c7b1, H⟩ := H; replace H := ig_ H; obtain ⟨c8b0, c8b1, H⟩ := H; have c9b0 := eq_true (od_ : 0 ≤ a1); have c10b0 := eq_true (od_ : a1 ≤ (s0_0.size : Int)); obtain ⟨rfl, rfl, rfl⟩ := i3_ H; obtain ⟨HGz11, hgz11⟩ := HI0.1; have Z11_0 := cellS61_0 HGz11; have Z11_1 := cellS61_1 HGz11; have F11_0 := blk_frozen HGz11 0; have F11_1 := blk_frozen HGz11 1; clear HGz11 hgz11
   go_enter Try.func22, Try.ntmps22
   go_wp2
   go_ret
   exact ⟨re_, hi_ HI0, hj_ HB, hk_ HK⟩
mutual
def impl_ReadVar.l0 : Nat → ByteArray → Int → Int → Option (Int × Int)
 | 0, _, _, _ => none
 | k + 1, x0, x4, x5 => if x5 < 7 then (impl_ReadVar.j1 k x0 x4 x5 (decide (x5 < (x0.size : Int)))) else (impl_ReadVar.j1 k x0 x4 x5 false)
def impl_ReadVar.j1 : Nat → ByteArray → Int → Int → Bool → Option (Int × Int)
 | 0, _, _, _, _ => none
 | k + 1, x0, x4, x5, x14 => if x14 = true then (if 0 ≤ x5 then (if x5 < (x0.size : Int) then (if 0 ≤ (wrap64 (7 * x5)) then (if (wrap64 (bt x0 x5)) ≥ 128 then (impl_ReadVar.l0 k x0 (wrap64 (x4 + (shl .i64 (Int.tmod (wrap64 (bt x0 x5)) 128) (wrap64 (7 * x5))))) (wrap64 (x5 + 1))) else (if (wrap64 (bt x0 x5)) = 0 then (if x5 > 0 then (some (0, 0)) else (some (wrap64 (x4 + (shl .i64 (Int.tmod (wrap64 (bt x0 x5)) 128) (wrap64 (7 * x5)))), wrap64 (x5 + 1)))) else (some (wrap64 (x4 + (shl .i64 (Int.tmod (wrap64 (bt x0 x5)) 128) (wrap64 (7 * x5)))), wrap64 (x5 + 1))))) else (none)) else (none)) else (none)) else (some (0, 0))
end
def impl_ReadVar.f (k : Nat) (a0 : ByteArray) : Option (Int × Int) := impl_ReadVar.l0 k a0 0 0
theorem impl_ReadVar.calls {k : Nat} {a0 : ByteArray} {r1 r2 : Int} {w : World} (h : impl_ReadVar.f k a0 = some (r1, r2)) :
  Calls Try.prog 49 #[.string a0] w fun e w' => e = .returned (.tuple #[.int .i64 r1, .int .i64 r2]) ∧ Drawn0 w w' := by
 unfold impl_ReadVar.f at h; have H := h; clear h; have H' := am_ H; clear H
 go_enter Try.func49, Try.ntmps49
 go_wp2
 go_loopg [4, 5] k (fun kq v4 v5 w' => ∃ (x4_1 : Int) (x5_1 : Int), v4 = .int .i64 x4_1 ∧ v5 = .int .i64 x5_1 ∧ Aside0 (impl_ReadVar.l0 kq a0 x4_1 x5_1 = some (r1, r2)) ∧ Aside0 (kq ≤ k) ∧ Drawn0 w w')
 case atStart => exact ⟨_, _, rs_, rs_, H', ⟨Nat.le_refl _⟩, by repeat (first | exact Drawn0.refl _ | apply Drawn0.step)⟩
 case round =>
  clear H'; obtain ⟨x4_1, x5_1, rfl, rfl, HA, HK1, ⟨m1, rfl⟩⟩ := hrel
  cases gk with
  | zero => exact zz_ HA
  | succ k1 =>
   have H := HA.1; clear HA; simp only [impl_ReadVar.l0] at H; have HC2 := am_ H; clear H
   go_upto_region 3 with (fail)
   go_cut [14] (fun v14 wc => ∃ (kq : Nat) (x14_1 : Bool), v14 = .bool x14_1 ∧ Aside0 (impl_ReadVar.j1 kq a0 x4_1 x5_1 x14_1 = some (r1, r2)) ∧ Aside0 (kq ≤ k1) ∧ Drawn0 w wc)
   case first =>
    have H := HC2.1; clear HC2; by_cases c3 : x5_1 < 7
    ·rw [if_pos c3] at H; have c3b0 := dq_ c3; clear c3
     (first | rw [c3b0] | (simp only [i64_w, i32_w]; rw [c3b0]) | skip)
     have H' := am_ H; clear H
     go_wp2
     go_meet
     case rel => exact ⟨_, _, rs_, H', ⟨m1_ HK1⟩, by repeat (first | exact Drawn0.refl _ | apply Drawn0.step)⟩
    ·rw [if_neg c3] at H; have c3b0 := df_ c3; clear c3
     (first | rw [c3b0] | (simp only [i64_w, i32_w]; rw [c3b0]) | skip)
     have H' := am_ H; clear H
     go_wp2
     go_meet
     case rel => exact ⟨_, _, rs_, H', ⟨m1_ HK1⟩, by repeat (first | exact Drawn0.refl _ | apply Drawn0.step)⟩
   case rest =>
    clear HC2
    (try clear c3); (try clear c3b0)
    obtain ⟨kq, x14_1, rfl, HA, HJ1, ⟨mc1, rfl⟩⟩ := hcut
    cases kq with
    | zero => exact zz_ HA
    | succ kj1 =>
     have H := HA.1; clear HA; simp only [impl_ReadVar.j1] at H; by_cases c4 : x14_1 = true
     ·subst c4; rw [if_pos rfl] at H; replace H := ih_ H; obtain ⟨c5, H⟩ := H; have c5b0 := dq_ c5; clear c5; replace H := ih_ H; obtain ⟨c6, H⟩ := H; have c6b0 := dq_ c6; clear c6; obtain ⟨ji8, hji8⟩ : ∃ j_ : Int, (wrap64 (7 * x5_1)) = j_ := ⟨_, rfl⟩
      (first | rw [hji8] at H | simp only [hji8] at H)
      have hji8w : (IntKind.i64.wrap (7 * x5_1)) = ji8 := (i64_w _).trans hji8; replace H := ig_ H; obtain ⟨c9b0, c9b1, H⟩ := H; obtain ⟨ji10, hji10⟩ : ∃ j_ : Int, (shl .i64 (Int.tmod (wrap64 (bt a0 x5_1)) 128) (ji8)) = j_ := ⟨_, rfl⟩
      (first | rw [hji10] at H | simp only [hji10] at H)
      have hji10_ : (IntKind.i64.wrap ((Int.tmod (wrap64 (bt a0 x5_1)) 128) * 2 ^ min (ji8).toNat 64)) = ji10 := hji10; have hji10z : (ji8) ≤ 64 → (IntKind.i64.wrap ((Int.tmod (wrap64 (bt a0 x5_1)) 128) * 2 ^ (ji8).toNat)) = ji10 := shl_small hji10; have hji10y : (wrap64 ((Int.tmod (wrap64 (bt a0 x5_1)) 128) * 2 ^ min (ji8).toNat 64)) = ji10 := (i64_w _).symm.trans hji10_; have hji10x : (ji8) ≤ 64 → (wrap64 ((Int.tmod (wrap64 (bt a0 x5_1)) 128) * 2 ^ (ji8).toNat)) = ji10 := fun h_ => (i64_w _).symm.trans (hji10z h_)
      by_cases c11 : (wrap64 (bt a0 x5_1)) ≥ 128
      ·rw [if_pos c11] at H; have c11b0 := dq_ c11; clear c11; have H' := am_ H; clear H; have p7 : 0 ≤ (x5_1 : Int) := od_; have q7 : x5_1 < (a0.size : Int) := od_; have hx7 := bt_at a0 x5_1; replace p7 := eq_true p7; replace q7 := eq_true q7
       go_wp2
       go_roundg kj1
       case measure => exact m2_ HK1 HJ1
       case rel => exact ⟨(wrap64 (x4_1 + (ji10))), (wrap64 (x5_1 + 1)), (by first | rfl | (simp; done) | (simp only [← hji10] <;> (first | rfl | simp)) | (simp [*]; done)), rs_, (by first | exact H' | (simp only [hji10, hji8]; exact H')), ⟨m2_ HK1 HJ1⟩, by repeat (first | exact Drawn0.refl _ | apply Drawn0.step)⟩
      ·rw [if_neg c11] at H; have c11b0 := df_ c11; clear c11; by_cases c12 : (wrap64 (bt a0 x5_1)) = 0
       ·rw [if_pos c12] at H; have ⟨c12b0, c12b1⟩ := bq5_ c12; clear c12; by_cases c13 : x5_1 > 0
        ·rw [if_pos c13] at H; have c13b0 := dq_ c13; clear c13; obtain ⟨rfl, rfl⟩ := i2_ H; have p7 : 0 ≤ (x5_1 : Int) := od_; have q7 : x5_1 < (a0.size : Int) := od_; have hx7 := bt_at a0 x5_1; replace p7 := eq_true p7; replace q7 := eq_true q7
         go_wp2
         go_ret2
         exact ⟨by first | rfl | (simp; done) | (simp only [← hji8, ← hji10] <;> (first | rfl | simp)) | (simp [*]; done), by repeat (first | exact Drawn0.refl _ | apply Drawn0.step)⟩
        ·rw [if_neg c13] at H; have c13b0 := df_ c13; clear c13; obtain ⟨rfl, rfl⟩ := i2_ H; have p7 : 0 ≤ (x5_1 : Int) := od_; have q7 : x5_1 < (a0.size : Int) := od_; have hx7 := bt_at a0 x5_1; replace p7 := eq_true p7; replace q7 := eq_true q7
         go_wp2
         go_ret2
         exact ⟨by first | rfl | (simp; done) | (simp only [← hji8, ← hji10] <;> (first | rfl | simp)) | (simp [*]; done), by repeat (first | exact Drawn0.refl _ | apply Drawn0.step)⟩
       ·rw [if_neg c12] at H; have ⟨c12b0, c12b1⟩ := bq6_ c12; obtain ⟨rfl, rfl⟩ := i2_ H; have p7 : 0 ≤ (x5_1 : Int) := od_; have q7 : x5_1 < (a0.size : Int) := od_; have hx7 := bt_at a0 x5_1; replace p7 := eq_true p7; replace q7 := eq_true q7
        go_wp2
        go_ret2
        exact ⟨by first | rfl | (simp; done) | (simp only [← hji8, ← hji10] <;> (first | rfl | simp)) | (simp [*]; done), by repeat (first | exact Drawn0.refl _ | apply Drawn0.step)⟩
     ·replace c4 := bF_ c4; subst c4; rw [if_neg ff_] at H; obtain ⟨rfl, rfl⟩ := i2_ H
      go_wp2
      go_ret2
      exact ⟨by first | rfl | (simp; done) | (simp [*]; done), by repeat (first | exact Drawn0.refl _ | apply Drawn0.step)⟩
def impl_scanner_num.f (k : Nat) (s0_0 : ByteArray) (s0_1 : Bool) : Option (Int × ByteArray × Bool) := (impl_ReadVar.f k s0_0).bind fun bt514 => (if s0_1 = true then (some (0, s0_0, true)) else (if bt514.2 = 0 then (some (0, s0_0, true)) else (if 0 ≤ bt514.2 then (if bt514.2 ≤ (s0_0.size : Int) then (some (bt514.1, s0_0.extract (bt514.2 : Int).toNat s0_0.size, s0_1)) else (none)) else (none))))
theorem impl_scanner_num.calls {k : Nat} {s0_0 : ByteArray} {s0_1 : Bool} {r1 : Int} {r2 : ByteArray} {r3 : Bool} {w : World} (g : Nat) (w0 : World) (h : impl_scanner_num.f k s0_0 s0_1 = some (r1, r2, r3)) (hI : IsS61 w0 w g s0_0 s0_1 := by exact si_) (hB : Below w0.heap.size w0 w := by exact bw_) :
  Calls Try.prog 23 #[.pointer (some ⟨g, 0, none⟩)] w fun e w' => e = .returned (.int .i64 r1) ∧ IsS61 w0 w' g r2 r3 ∧ Below w0.heap.size w0 w' ∧ KeepBut w w' g none := by
 have HI0 := am_ hI; have HK := am_ (KeepBut.refl w g none); have HL := am_ hB.size; clear hI; have HW0 := am_ hB.size; have HB := am_ hB; clear hB; unfold impl_scanner_num.f at h; have H := h; clear h; replace H := bnd_ H; obtain ⟨⟨t514, t515⟩, A2, H⟩ := H; by_cases c3 : s0_1 = true
 ·subst c3; rw [if_pos rfl] at H; obtain ⟨rfl, rfl, rfl⟩ := i3_ H; obtain ⟨HGz4, hgz4⟩ := HI0.1; have Z4_0 := cellS61_0 HGz4; have Z4_1 := cellS61_1 HGz4; have F4_0 := blk_frozen HGz4 0; have F4_1 := blk_frozen HGz4 1; clear HGz4 hgz4
  go_enter Try.func23, Try.ntmps23
  go_wp2_with (refine gc_ 10 Try.func49 ?_; refine ch1_ (impl_ReadVar.calls A2.1) ?_; rintro w' ⟨nd, rfl⟩)
  go_ret
  exact ⟨re_, hi_ HI0, hj_ HB, hk_ HK⟩
 ·replace c3 := bF_ c3; subst c3; rw [if_neg ff_] at H; by_cases c5 : t515 = 0
  ·rw [if_pos c5] at H; have ⟨c5b0, c5b1⟩ := bq5_ c5; clear c5; obtain ⟨rfl, rfl, rfl⟩ := i3_ H; obtain ⟨HGz6, hgz6⟩ := HI0.1; have Z6_0 := cellS61_0 HGz6; have Z6_1 := cellS61_1 HGz6; have F6_0 := blk_frozen HGz6 0; have F6_1 := blk_frozen HGz6 1; clear HGz6 hgz6
   go_enter Try.func23, Try.ntmps23
   go_wp2_with (refine gc_ 10 Try.func49 ?_; refine ch1_ (impl_ReadVar.calls A2.1) ?_; rintro w' ⟨nd, rfl⟩)
   go_ret
   exact ⟨re_, hi_ HI0, hj_ HB, hk_ HK⟩
  ·rw [if_neg c5] at H; have ⟨c5b0, c5b1⟩ := bq6_ c5; replace H := ig_ H; obtain ⟨c7b0, c7b1, H⟩ := H; replace H := ig_ H; obtain ⟨c8b0, c8b1, H⟩ := H; obtain ⟨rfl, rfl, rfl⟩ := i3_ H; obtain ⟨HGz9, hgz9⟩ := HI0.1; have Z9_0 := cellS61_0 HGz9; have Z9_1 := cellS61_1 HGz9; have F9_0 := blk_frozen HGz9 0; have F9_1 := blk_frozen HGz9 1; clear HGz9 hgz9
   go_enter Try.func23, Try.ntmps23
   go_wp2_with (refine gc_ 10 Try.func49 ?_; refine ch1_ (impl_ReadVar.calls A2.1) ?_; rintro w' ⟨nd, rfl⟩)
   go_ret
   exact ⟨re_, hi_ HI0, hj_ HB, hk_ HK⟩
def impl_scanner_text.f (k : Nat) (s0_0 : ByteArray) (s0_1 : Bool) : Option (ByteArray × ByteArray × Bool) := (impl_scanner_num.f k s0_0 s0_1).bind fun bt516 => ((impl_scanner_bytes.f bt516.2.1 bt516.2.2 bt516.1).bind fun bt519 => (some (bt519.1, bt519.2.1, bt519.2.2)))
theorem impl_scanner_text.calls {k : Nat} {s0_0 : ByteArray} {s0_1 : Bool} {r1 r2 : ByteArray} {r3 : Bool} {w : World} (g : Nat) (w0 : World) (h : impl_scanner_text.f k s0_0 s0_1 = some (r1, r2, r3)) (hI : IsS61 w0 w g s0_0 s0_1 := by exact si_) (hB : Below w0.heap.size w0 w := by exact bw_) :
  Calls Try.prog 24 #[.pointer (some ⟨g, 0, none⟩)] w fun e w' => e = .returned (.string r1) ∧ IsS61 w0 w' g r2 r3 ∧ Below w0.heap.size w0 w' ∧ KeepBut w w' g none := by
 have HI0 := am_ hI; have HK := am_ (KeepBut.refl w g none); have HL := am_ hB.size; clear hI; have HW0 := am_ hB.size; have HB := am_ hB; clear hB; unfold impl_scanner_text.f at h; have H := h; clear h; replace H := bnd_ H; obtain ⟨⟨t516, t517, t518⟩, A2, H⟩ := H; replace H := bnd_ H; obtain ⟨⟨t519, t520, t521⟩, A3, H⟩ := H; obtain ⟨rfl, rfl, rfl⟩ := i3_ H
 go_enter Try.func24, Try.ntmps24
 go_wp2_with (first | (refine gc_ 5 Try.func23 ?_; refine ch1_ (impl_scanner_num.calls g w0 A2.1) ?_; rintro w4 ⟨hi, hb, hk⟩; replace HK := kt_ HK hk; replace HB := am_ hb; replace HI0 := am_ hi; clear hb hk hi) | (refine gc_ 8 Try.func22 ?_; refine ch1_ (impl_scanner_bytes.calls g w0 A3.1) ?_; rintro w5 ⟨hi, hb, hk⟩; replace HK := kt_ HK hk; replace HB := am_ hb; replace HI0 := am_ hi; clear hb hk hi))
 go_ret
 exact ⟨re_, hi_ HI0, hj_ HB, hk_ HK⟩
mutual
def impl_ReadHint.l0 : Nat → ByteArray → Int → Int → ByteArray → Bool → Int → Int → List (S55) → Option (Int × Int × (List (S55)) × Bool)
 | 0, _, _, _, _, _, _, _, _ => none
 | k + 1, x0, x6, x7, x524000, x524001, x528000, x528001, x528002 => if x7 < x6 then (impl_ReadHint.j1 k x0 x6 x7 (!x524001) x524000 x524001 x528000 x528001 x528002) else (impl_ReadHint.j1 k x0 x6 x7 false x524000 x524001 x528000 x528001 x528002)
def impl_ReadHint.j1 : Nat → ByteArray → Int → Int → Bool → ByteArray → Bool → Int → Int → List (S55) → Option (Int × Int × (List (S55)) × Bool)
 | 0, _, _, _, _, _, _, _, _, _ => none
 | k + 1, x0, x6, x7, x31, x524000, x524001, x528000, x528001, x528002 => if x31 = true then ((impl_scanner_text.f k x524000 x524001).bind fun bt538 => ((impl_scanner_num.f k bt538.2.1 bt538.2.2).bind fun bt541 => ((impl_scanner_num.f k bt541.2.1 bt541.2.2).bind fun bt544 => ((impl_scanner_num.f k bt544.2.1 bt544.2.2).bind fun bt547 => ((impl_scanner_num.f k bt547.2.1 bt547.2.2).bind fun bt550 => (if x528002.length < 2932031007402 then (impl_ReadHint.l0 k x0 x6 (wrap64 (x7 + 1)) bt550.2.1 bt550.2.2 x528000 x528001 (x528002 ++ [(⟨bt538.1, bt541.1, bt544.1, bt547.1, bt550.1⟩ : S55)])) else (none))))))) else (if x524001 = true then (impl_ReadHint.j2 k true x528000 x528001 x528002) else ((impl_hintOk.f k x528000 x528001 x528002).bind fun t556 => (if t556 = true then ((impl_ShowHint.f k x528000 x528001 x528002).bind fun t557 => (impl_ReadHint.j2 k (t557.toList != x0.toList) x528000 x528001 x528002)) else (impl_ReadHint.j2 k true x528000 x528001 x528002))))
def impl_ReadHint.j2 : Nat → Bool → Int → Int → List (S55) → Option (Int × Int × (List (S55)) × Bool)
 | 0, _, _, _, _ => none
 | k + 1, x69, x528000, x528001, x528002 => if x69 = true then (some (0, 0, ([] : List (S55)), false)) else (some (x528000, x528001, x528002, true))
end
def impl_ReadHint.f (k : Nat) (a0 : ByteArray) : Option (Int × Int × (List (S55)) × Bool) := (impl_scanner_bytes.f a0 false 4).bind fun bt524 => ((impl_scanner_num.f k bt524.2.1 bt524.2.2).bind fun bt528 => ((impl_scanner_num.f k bt528.2.1 bt528.2.2).bind fun bt531 => ((impl_scanner_num.f k bt531.2.1 bt531.2.2).bind fun bt534 => (impl_ReadHint.l0 k a0 bt534.1 0 bt534.2.1 bt534.2.2 bt528.1 bt531.1 ([] : List (S55))))))
theorem impl_ReadHint.calls {k : Nat} {a0 : ByteArray} {r1 r2 : Int} {r3 : List (S55)} {r4 : Bool} {w : World} (h : impl_ReadHint.f k a0 = some (r1, r2, r3, r4)) :
  Calls Try.prog 7 #[.string a0] w fun e w' => ∃ v2_ : Value, e = .returned (.tuple #[.agg #[.int .i64 r1, .int .i64 r2, v2_], .bool r4]) ∧ Kd.R k55 55 w' w.heap.size (fun _ => True) v2_ r3 ∧ Below w.heap.size w w' := by
 have hu26 := Try.underlying26; have hu61 := Try.underlying61; have hu55 := Try.underlying55; have HB := am_ (Below.refl w.heap.size w); unfold impl_ReadHint.f at h; have H := h; clear h; replace H := bnd_ H; obtain ⟨⟨t524, t525, t526⟩, A2, H⟩ := H; replace H := bnd_ H; obtain ⟨⟨t528, t529, t530⟩, A3, H⟩ := H; replace H := bnd_ H; obtain ⟨⟨t531, t532, t533⟩, A4, H⟩ := H; replace H := bnd_ H; obtain ⟨⟨t534, t535, t536⟩, A5, H⟩ := H; have H' := am_ H; clear H
 go_enter Try.func7, Try.ntmps7
 go_wp2_with (first | (refine gd_ 2 ?_; refine bx1_ 2 #[.int .i64 0, .int .i64 0, .slice none 0 0] 26 ?_; intro gb522 hg w6 hbox hb; have BK522 := am_ hbox; have GE522 := gx_ hg HB; replace HB := bx_ HB hb; clear hb hbox hg) | (refine gd_ 11 ?_; refine bx1_ 11 #[.string a0, .bool false] 61 ?_; intro gb523 hg w7 hbox hb; have BK523 := am_ hbox; have GE523 := gx_ hg HB; replace HB := bx_ HB hb; have ⟨NB522_523, NB523_522⟩ := nn_ BK522 hg; replace BK522 := bb_ BK522 hb; clear hb hbox hg; have HI523 := am_ (show IsS61 w w7 gb523 a0 false from ⟨BK523.1, GE523.1⟩); clear BK523) | (refine gc_ 13 Try.func22 ?_; refine ch1_ (impl_scanner_bytes.calls gb523 w A2.1) ?_; rintro w8 ⟨hi, hb, hk⟩; replace BK522 := kb_ BK522 hk NB522_523; replace HB := am_ hb; replace HI523 := am_ hi; clear hb hk hi) | (refine gd_ 5 ?_; refine bx1_ 5 #[.int .i64 0, .int .i64 0, .slice none 0 0] 26 ?_; intro gb527 hg w9 hbox hb; have BK527 := am_ hbox; have GW527 := am_ ((by rw [hg]; exact (below_size (hj_ HB)) : w.heap.size ≤ gb527)); have GE527 := am_ ((by rw [hg]; exact (below_size (hj_ HB)) : w.heap.size ≤ gb527)); replace HB := bx_ HB hb; have ⟨NB522_527, NB527_522⟩ := nn_ BK522 hg; replace BK522 := bb_ BK522 hb; have ⟨NB523_527, NB527_523⟩ := ni_ gb523 HI523 hg; replace HI523 := am_ (IsS61.below (hi_ HI523) hb); clear hb hbox hg) | (refine gc_ 15 Try.func23 ?_; refine ch1_ (impl_scanner_num.calls gb523 w A3.1) ?_; rintro w10 ⟨hi, hb, hk⟩; replace BK522 := kb_ BK522 hk NB522_523; replace BK527 := kb_ BK527 hk NB527_523; replace HB := am_ hb; replace HI523 := am_ hi; clear hb hk hi; have := NB527_522.1; have := NB522_527.1; have := NB527_523.1; have := NB523_527.1; obtain ⟨_, _, _, _, _, _⟩ := bc3_ BK527) | (refine gc_ 18 Try.func23 ?_; refine ch1_ (impl_scanner_num.calls gb523 w A4.1) ?_; rintro w14 ⟨hi, hb, hk⟩; replace BK522 := kp_ #[.int .i64 0, .int .i64 0, .slice none 0 0] BK522 hk NB522_523; replace BK527 := kp_ #[.int .i64 t528, .int .i64 0, .slice none 0 0] BK527 hk NB527_523; replace HB := am_ hb; replace HI523 := am_ hi; clear hb hk hi; obtain ⟨_, _, _, _, _, _⟩ := bc3_ BK527) | (refine gc_ 21 Try.func23 ?_; refine ch1_ (impl_scanner_num.calls gb523 w A5.1) ?_; rintro w16 ⟨hi, hb, hk⟩; replace BK522 := kp_ #[.int .i64 0, .int .i64 0, .slice none 0 0] BK522 hk NB522_523; replace BK527 := kp_ #[.int .i64 t528, .int .i64 t531, .slice none 0 0] BK527 hk NB527_523; replace HB := am_ hb; replace HI523 := am_ hi; clear hb hk hi))
 go_loopg [7] k (fun kq v7 w' => ∃ (x7_1 : Int) (x524000_1 : ByteArray) (x524001_1 : Bool) (x528002_1 : List (S55)) (u528002 : Value), v7 = .int .i64 x7_1 ∧ Aside0 (impl_ReadHint.l0 kq a0 t534 x7_1 x524000_1 x524001_1 t528 t531 x528002_1 = some (r1, r2, r3, r4)) ∧ Aside0 (kq ≤ k) ∧ Aside0 (Kd.R k55 55 w' w.heap.size (fun _ => True) u528002 x528002_1) ∧ Aside0 (w'.heap[gb522]? = some (.cells #[.int .i64 0, .int .i64 0, (.slice none 0 0)] 26 (0, 0))) ∧ Aside0 (w'.heap[gb527]? = some (.cells #[.int .i64 t528, .int .i64 t531, u528002] 26 (0, 0))) ∧ Aside0 (IsS61 w w' gb523 x524000_1 x524001_1) ∧ Aside0 (Below w.heap.size w w'))
 case atStart => exact ⟨_, _, _, _, _, rs_, H', ⟨Nat.le_refl _⟩, ⟨by first | exact Kd.R_nil _ _ _ _ _ | exact Kd.N_nil _ _ _ _ _ | exact Kd.V_nil _ _ _ _ _ | exact Kd.Q_nil _ _ _ _ _ | exact Kd.S_nil _ _ _ _ _⟩, ⟨bk_ BK522⟩, ⟨bk_ BK527⟩, ⟨hi_ HI523⟩, ⟨hj_ HB⟩⟩
 case round =>
  clear H'
  obtain ⟨x7_1, x524000_1, x524001_1, x528002_1, u528002, rfl, HA, HK1, HO_528002, BK522, BK527, HI523, HB⟩ := hrel
  cases gk with
  | zero => exact zz_ HA
  | succ k1 =>
   have H := HA.1; clear HA; simp only [impl_ReadHint.l0] at H; have HC17 := am_ H; clear H
   go_upto_region 8 with (fail)
   go_cut [31] (fun v31 wc => ∃ (kq : Nat) (x31_16 : Bool), v31 = .bool x31_16 ∧ Aside0 (impl_ReadHint.j1 kq a0 t534 x7_1 x31_16 x524000_1 x524001_1 t528 t531 x528002_1 = some (r1, r2, r3, r4)) ∧ Aside0 (kq ≤ k1) ∧ Aside0 (Kd.R k55 55 wc w.heap.size (fun _ => True) u528002 x528002_1) ∧ Aside0 (wc.heap[gb522]? = some (.cells #[.int .i64 0, .int .i64 0, (.slice none 0 0)] 26 (0, 0))) ∧ Aside0 (wc.heap[gb527]? = some (.cells #[.int .i64 t528, .int .i64 t531, u528002] 26 (0, 0))) ∧ Aside0 (IsS61 w wc gb523 x524000_1 x524001_1) ∧ Aside0 (Below w.heap.size w wc))
   case first =>
    have H := HC17.1; clear HC17; by_cases c18 : x7_1 < t534
    ·rw [if_pos c18] at H; have c18b0 := dq_ c18; clear c18
     (first | rw [c18b0] | (simp only [i64_w, i32_w]; rw [c18b0]) | skip)
     have H' := am_ H; clear H; obtain ⟨HGz19, hgz19⟩ := HI523.1; have Z19_0 := cellS61_0 HGz19; have Z19_1 := cellS61_1 HGz19; have F19_0 := blk_frozen HGz19 0; have F19_1 := blk_frozen HGz19 1; clear HGz19 hgz19
     go_wp2
     go_meet
     case rel => exact ⟨_, _, rs_, H', ⟨m1_ HK1⟩, ⟨rr_ HO_528002⟩, ⟨bk_ BK522⟩, ⟨bk_ BK527⟩, ⟨hi_ HI523⟩, ⟨hj_ HB⟩⟩
    ·rw [if_neg c18] at H; have c18b0 := df_ c18; clear c18
     (first | rw [c18b0] | (simp only [i64_w, i32_w]; rw [c18b0]) | skip)
     have H' := am_ H; clear H
     go_wp2
     go_meet
     case rel => exact ⟨_, _, rs_, H', ⟨m1_ HK1⟩, ⟨rr_ HO_528002⟩, ⟨bk_ BK522⟩, ⟨bk_ BK527⟩, ⟨hi_ HI523⟩, ⟨hj_ HB⟩⟩
   case rest =>
    clear HC17
    (try clear c18); (try clear c18b0)
    obtain ⟨kq, x31_16, rfl, HA, HJ16, HO_528002, BK522, BK527, HI523, HB⟩ := hcut
    cases kq with
    | zero => exact zz_ HA
    | succ kj16 =>
     have H := HA.1; clear HA; simp only [impl_ReadHint.j1] at H; by_cases c20 : x31_16 = true
     ·subst c20; rw [if_pos rfl] at H; replace H := bnd_ H; obtain ⟨⟨t538, t539, t540⟩, A21, H⟩ := H; replace H := bnd_ H; obtain ⟨⟨t541, t542, t543⟩, A22, H⟩ := H; replace H := bnd_ H; obtain ⟨⟨t544, t545, t546⟩, A23, H⟩ := H; replace H := bnd_ H; obtain ⟨⟨t547, t548, t549⟩, A24, H⟩ := H; replace H := bnd_ H; obtain ⟨⟨t550, t551, t552⟩, A25, H⟩ := H; replace H := il_ H; obtain ⟨LMc26, H⟩ := H; obtain ⟨y553, hy553⟩ : ∃ y_ : List (S55), y_ = (x528002_1 ++ [(⟨t538, t541, t544, t547, t550⟩ : S55)]) := ⟨_, rfl⟩
      rw [← hy553] at H; have Ny553 := am_ hy553; clear hy553; have H' := am_ H; clear H
      go_wp2_with (first | (refine gd_ 8 ?_; refine bx1_ 8 #[.string (⟨#[]⟩ : ByteArray), .int .i64 0, .int .i64 0, .int .i64 0, .int .i64 0] 55 ?_; intro gb537 hg w27 hbox hb; replace HO_528002 := re1_ HO_528002 hg hb; have BK537 := am_ hbox; have GW537 := am_ ((by rw [hg]; exact (below_size (hj_ HB)) : w.heap.size ≤ gb537)); have GE537 := am_ ((by rw [hg]; exact (below_size (hj_ HB)) : w.heap.size ≤ gb537)); replace HB := bx_ HB hb; have ⟨NB522_537, NB537_522⟩ := nn_ BK522 hg; replace BK522 := bb_ BK522 hb; have ⟨NB527_537, NB537_527⟩ := nn_ BK527 hg; replace BK527 := bb_ BK527 hb; have ⟨NB523_537, NB537_523⟩ := ni_ gb523 HI523 hg; replace HI523 := am_ (IsS61.below (hi_ HI523) hb); clear hb hbox hg) | (refine gc_ 35 Try.func24 ?_; refine ch1_ (impl_scanner_text.calls gb523 w A21.1) ?_; rintro w28 ⟨hi, hb, hk⟩; replace HO_528002 := ro_ HI523 HO_528002 hk; replace BK522 := kb_ BK522 hk NB522_523; replace BK527 := kb_ BK527 hk NB527_523; replace BK537 := kb_ BK537 hk NB537_523; replace HB := am_ hb; replace HI523 := am_ hi; clear hb hk hi; have := NB537_522.1; have := NB522_537.1; have := NB537_527.1; have := NB527_537.1; have := NB537_523.1; have := NB523_537.1; obtain ⟨_, _, _, _, _, _, _, _, _, _⟩ := bc5_ BK537) | (refine gc_ 38 Try.func23 ?_; refine ch1_ (impl_scanner_num.calls gb523 w A22.1) ?_; rintro w33 ⟨hi, hb, hk⟩; replace HO_528002 := am_ (Kd.R_mono (Kd.R_keep (IsS61.apart (show IsS61 w _ gb523 t539 t540 from hi_ HI523) (by (with_reducible repeat (first | apply Kd.R_alloc | apply Kd.R_drewN | apply Kd.R_drew)); exact (Kd.R_mono (Kd.R_far (p := ⟨gb537, 0, none⟩) (Kd.R_mono HO_528002.1 (fun k_ hk => (⟨hk, hk.2⟩ : _ ∧ k_ ≠ gb537))) (fun _ hk => hk.2) (.string t538)) (fun _ h_ => h_.1))) (by decide)) hk (fun _ h => h.2)) (fun _ h => h.1)); replace BK522 := kp_ #[.int .i64 0, .int .i64 0, .slice none 0 0] BK522 hk NB522_523; replace BK527 := kp_ #[.int .i64 t528, .int .i64 t531, u528002] BK527 hk NB527_523; replace BK537 := kp_ #[.string t538, .int .i64 0, .int .i64 0, .int .i64 0, .int .i64 0] BK537 hk NB537_523; replace HB := am_ hb; replace HI523 := am_ hi; clear hb hk hi; obtain ⟨_, _, _, _, _, _, _, _, _, _⟩ := bc5_ BK537) | (refine gc_ 41 Try.func23 ?_; refine ch1_ (impl_scanner_num.calls gb523 w A23.1) ?_; rintro w35 ⟨hi, hb, hk⟩; replace HO_528002 := am_ (Kd.R_mono (Kd.R_keep (IsS61.apart (show IsS61 w _ gb523 t542 t543 from hi_ HI523) (by (with_reducible repeat (first | apply Kd.R_alloc | apply Kd.R_drewN | apply Kd.R_drew)); exact (Kd.R_mono (Kd.R_far (p := ⟨gb537, 1, none⟩) (Kd.R_mono HO_528002.1 (fun k_ hk => (⟨hk, hk.2⟩ : _ ∧ k_ ≠ gb537))) (fun _ hk => hk.2) (.int .i64 t541)) (fun _ h_ => h_.1))) (by decide)) hk (fun _ h => h.2)) (fun _ h => h.1)); replace BK522 := kp_ #[.int .i64 0, .int .i64 0, .slice none 0 0] BK522 hk NB522_523; replace BK527 := kp_ #[.int .i64 t528, .int .i64 t531, u528002] BK527 hk NB527_523; replace BK537 := kp_ #[.string t538, .int .i64 t541, .int .i64 0, .int .i64 0, .int .i64 0] BK537 hk NB537_523; replace HB := am_ hb; replace HI523 := am_ hi; clear hb hk hi; obtain ⟨_, _, _, _, _, _, _, _, _, _⟩ := bc5_ BK537) | (refine gc_ 44 Try.func23 ?_; refine ch1_ (impl_scanner_num.calls gb523 w A24.1) ?_; rintro w37 ⟨hi, hb, hk⟩; replace HO_528002 := am_ (Kd.R_mono (Kd.R_keep (IsS61.apart (show IsS61 w _ gb523 t545 t546 from hi_ HI523) (by (with_reducible repeat (first | apply Kd.R_alloc | apply Kd.R_drewN | apply Kd.R_drew)); exact (Kd.R_mono (Kd.R_far (p := ⟨gb537, 2, none⟩) (Kd.R_mono HO_528002.1 (fun k_ hk => (⟨hk, hk.2⟩ : _ ∧ k_ ≠ gb537))) (fun _ hk => hk.2) (.int .i64 t544)) (fun _ h_ => h_.1))) (by decide)) hk (fun _ h => h.2)) (fun _ h => h.1)); replace BK522 := kp_ #[.int .i64 0, .int .i64 0, .slice none 0 0] BK522 hk NB522_523; replace BK527 := kp_ #[.int .i64 t528, .int .i64 t531, u528002] BK527 hk NB527_523; replace BK537 := kp_ #[.string t538, .int .i64 t541, .int .i64 t544, .int .i64 0, .int .i64 0] BK537 hk NB537_523; replace HB := am_ hb; replace HI523 := am_ hi; clear hb hk hi; obtain ⟨_, _, _, _, _, _, _, _, _, _⟩ := bc5_ BK537) | (refine gc_ 47 Try.func23 ?_; refine ch1_ (impl_scanner_num.calls gb523 w A25.1) ?_; rintro w39 ⟨hi, hb, hk⟩; replace HO_528002 := am_ (Kd.R_mono (Kd.R_keep (IsS61.apart (show IsS61 w _ gb523 t548 t549 from hi_ HI523) (by (with_reducible repeat (first | apply Kd.R_alloc | apply Kd.R_drewN | apply Kd.R_drew)); exact (Kd.R_mono (Kd.R_far (p := ⟨gb537, 3, none⟩) (Kd.R_mono HO_528002.1 (fun k_ hk => (⟨hk, hk.2⟩ : _ ∧ k_ ≠ gb537))) (fun _ hk => hk.2) (.int .i64 t547)) (fun _ h_ => h_.1))) (by decide)) hk (fun _ h => h.2)) (fun _ h => h.1)); replace BK522 := kp_ #[.int .i64 0, .int .i64 0, .slice none 0 0] BK522 hk NB522_523; replace BK527 := kp_ #[.int .i64 t528, .int .i64 t531, u528002] BK527 hk NB527_523; replace BK537 := kp_ #[.string t538, .int .i64 t541, .int .i64 t544, .int .i64 t547, .int .i64 0] BK537 hk NB537_523; replace HB := am_ hb; replace HI523 := am_ hi; clear hb hk hi; obtain ⟨_, _, _, _, _, _, _, _, _, _⟩ := bc5_ BK537; have := NB527_522.1; have := NB522_527.1; have := NB527_523.1; have := NB523_527.1; obtain ⟨_, _, _, _, _, _⟩ := bc3_ BK527) | (at_builtin; refine gb_ #[.tmp 50, .tmp 52] ?_; refine Kd.R_append k55 (w0 := w) w.heap.size rfl (.tmp 50) (.tmp 52) 24 55 _ _ rfl Try.underlying24 info55 rfl (by decide) (by omega) u528002 x528002_1 (⟨t538, t541, t544, t547, t550⟩ : S55) _ (fun k_ => k_ ≠ gb537) (fun _ => False) rfl gr_ (k55_mkM _ _ _ _) (fun _ hk => hk.elim) ?aF ?aO ?aB ?aS ?aL ?_; (case aB => exact (hj_ HB)); (case aF => exact fu_ BK537); (case aO => exact (rg_ HO_528002 gb537)); (case aS => exact (below_size (hj_ HB))); (case aL => have := LMc26.1; omega); intro v554 w44 ho hb hg hat; rw [← Ny553.1] at ho; replace BK522 := am_ (blk_grown (g := gb522) (o := .cells #[.int .i64 0, .int .i64 0, .slice none 0 0] 26 (0, 0)) (uk_ BK522) hg (Kd.R_ne HO_528002.1 BK522.1 (by decide))); replace BK527 := am_ (blk_grown (g := gb527) (o := .cells #[.int .i64 t528, .int .i64 t531, u528002] 26 (0, 0)) (uk_ BK527) hg (Kd.R_ne HO_528002.1 BK527.1 (by decide))); replace HI523 := am_ (IsS61.grown (hi_ HI523) hg (IsS61.own_ne HI523.1 HO_528002.1 (by decide))); replace BK537 := am_ (blk_grown (g := gb537) (o := .cells #[.string t538, .int .i64 t541, .int .i64 t544, .int .i64 t547, .int .i64 t550] 55 (0, 0)) (uk_ BK537) hg (Kd.R_away HO_528002.1 (fun _ hk => hk.2))); replace HB := am_ hb; have HO555 := am_ ho; clear HO_528002; clear ho hb hg hat; obtain ⟨Ao45, co45, eo45⟩ := Kd.R_slice HO555.1; subst eo45; obtain ⟨_, _, _, _, _, _⟩ := bc3_ BK527))
      go_roundg kj16
      case measure => exact m2_ HK1 HJ16
      case rel => exact ⟨_, _, _, _, _, rs_, H', ⟨m2_ HK1 HJ16⟩, ⟨rf_ HO555 BK527⟩, ⟨uk_ BK522⟩, ⟨uk_ BK527⟩, ⟨hi_ HI523⟩, ⟨hj_ HB⟩⟩
     ·replace c20 := bF_ c20; subst c20; rw [if_neg ff_] at H; have HC47 := am_ H; clear H
      go_upto_region 17 with (fail)
      go_cut [69] (fun v69 wc => ∃ (kq : Nat) (x69_46 : Bool), v69 = .bool x69_46 ∧ Aside0 (impl_ReadHint.j2 kq x69_46 t528 t531 x528002_1 = some (r1, r2, r3, r4)) ∧ Aside0 (kq ≤ kj16) ∧ Aside0 (Kd.R k55 55 wc w.heap.size (fun _ => True) u528002 x528002_1) ∧ Aside0 (wc.heap[gb522]? = some (.cells #[.int .i64 0, .int .i64 0, (.slice none 0 0)] 26 (0, 0))) ∧ Aside0 (wc.heap[gb527]? = some (.cells #[.int .i64 t528, .int .i64 t531, u528002] 26 (0, 0))) ∧ Aside0 (Below w.heap.size w wc))
      case first =>
       have H := HC47.1; clear HC47; by_cases c48 : x524001_1 = true
       ·subst c48; rw [if_pos rfl] at H; have H' := am_ H; clear H; obtain ⟨HGz49, hgz49⟩ := HI523.1; have Z49_0 := cellS61_0 HGz49; have Z49_1 := cellS61_1 HGz49; have F49_0 := blk_frozen HGz49 0; have F49_1 := blk_frozen HGz49 1; clear HGz49 hgz49
        go_wp2
        go_meet
        case rel => exact ⟨_, _, rs_, H', ⟨m2_ HK1 HJ16⟩, ⟨rr_ HO_528002⟩, ⟨bk_ BK522⟩, ⟨bk_ BK527⟩, ⟨hj_ HB⟩⟩
       ·replace c48 := bF_ c48; subst c48; rw [if_neg ff_] at H; replace H := bnd_ H; obtain ⟨t556, A50, H⟩ := H; by_cases c51 : t556 = true
        ·subst c51; rw [if_pos rfl] at H; replace H := bnd_ H; obtain ⟨t557, A52, H⟩ := H; have H' := am_ H; clear H; obtain ⟨HGz53, hgz53⟩ := HI523.1; have Z53_0 := cellS61_0 HGz53; have Z53_1 := cellS61_1 HGz53; have F53_0 := blk_frozen HGz53 0; have F53_1 := blk_frozen HGz53 1; clear HGz53 hgz53; have := NB527_522.1; have := NB522_527.1; have := NB527_523.1; have := NB523_527.1; obtain ⟨_, _, _, _, _, _⟩ := bc3_ BK527; obtain ⟨Ao57, co57, eo57⟩ := Kd.R_slice HO_528002.1; subst eo57
         go_wp2_with (first | (go_at_call 17; refine cm_ (impl_hintOk.calls _ _ A50.1) ?_; rintro e w58 ⟨rfl, hb⟩; replace HO_528002 := rb_ HO_528002 hb; replace BK522 := bb_ BK522 hb; replace BK527 := bb_ BK527 hb; replace HB := bx_ HB hb; replace HI523 := am_ (IsS61.below (hi_ HI523) hb); clear hb; obtain ⟨_, _, _, _, _, _⟩ := bc3_ BK527) | (go_at_call 6; refine cm_ (impl_ShowHint.calls _ _ A52.1) ?_; rintro e w60 ⟨rfl, hb⟩; replace HO_528002 := rb_ HO_528002 hb; replace BK522 := bb_ BK522 hb; replace BK527 := bb_ BK527 hb; replace HB := bx_ HB hb; replace HI523 := am_ (IsS61.below (hi_ HI523) hb); clear hb))
         go_meet
         case rel => exact ⟨_, _, rs_, H', ⟨m2_ HK1 HJ16⟩, ⟨rr_ HO_528002⟩, ⟨bk_ BK522⟩, ⟨bk_ BK527⟩, ⟨hj_ HB⟩⟩
        ·replace c51 := bF_ c51; subst c51; rw [if_neg ff_] at H; have H' := am_ H; clear H; obtain ⟨HGz61, hgz61⟩ := HI523.1; have Z61_0 := cellS61_0 HGz61; have Z61_1 := cellS61_1 HGz61; have F61_0 := blk_frozen HGz61 0; have F61_1 := blk_frozen HGz61 1; clear HGz61 hgz61; have := NB527_522.1; have := NB522_527.1; have := NB527_523.1; have := NB523_527.1; obtain ⟨_, _, _, _, _, _⟩ := bc3_ BK527; obtain ⟨Ao65, co65, eo65⟩ := Kd.R_slice HO_528002.1; subst eo65
         go_wp2_with (go_at_call 17; refine cm_ (impl_hintOk.calls _ _ A50.1) ?_; rintro e w66 ⟨rfl, hb⟩; replace HO_528002 := rb_ HO_528002 hb; replace BK522 := bb_ BK522 hb; replace BK527 := bb_ BK527 hb; replace HB := bx_ HB hb; replace HI523 := am_ (IsS61.below (hi_ HI523) hb); clear hb)
         go_meet
         case rel => exact ⟨_, _, rs_, H', ⟨m2_ HK1 HJ16⟩, ⟨rr_ HO_528002⟩, ⟨bk_ BK522⟩, ⟨bk_ BK527⟩, ⟨hj_ HB⟩⟩
      case rest =>
       clear HC47
       (try clear c18); (try clear c18b0); (try clear c20); (try clear c26); (try clear c48); (try clear c51)
       obtain ⟨kq, x69_46, rfl, HA, HJ46, HO_528002, BK522, BK527, HB⟩ := hcut
       cases kq with
       | zero => exact zz_ HA
       | succ kj46 =>
        have H := HA.1; clear HA; simp only [impl_ReadHint.j2] at H; by_cases c67 : x69_46 = true
        ·subst c67; rw [if_pos rfl] at H; obtain ⟨rfl, rfl, rfl, rfl⟩ := i4_ H; have := NB522_527.1; have := NB527_522.1; obtain ⟨_, _, _, _, _, _⟩ := bc3_ BK522
         go_wp2
         refine bodyPost_ret (results_ct rfl _ _ gb522 26 #[.int .i64 0, .int .i64 0, .slice none 0 0] (0, 0) _ rfl (uk_ BK522) Try.underlying26 rfl (by kernel_rfl)) rfl ?_; exact ⟨_, re_, by first | exact Kd.R_nil _ _ _ _ _ | exact Kd.N_nil _ _ _ _ _ | exact Kd.V_nil _ _ _ _ _ | exact Kd.Q_nil _ _ _ _ _ | exact Kd.S_nil _ _ _ _ _, hz_ HB⟩
        ·replace c67 := bF_ c67; subst c67; rw [if_neg ff_] at H; obtain ⟨rfl, rfl, rfl, rfl⟩ := i4_ H; have := NB527_522.1; have := NB522_527.1; obtain ⟨_, _, _, _, _, _⟩ := bc3_ BK527; obtain ⟨_, _, _, _, _, _⟩ := bc3_ BK522; obtain ⟨Ao73, co73, eo73⟩ := Kd.R_slice HO_528002.1; subst eo73
         go_wp2
         refine bodyPost_ret (results_ct rfl _ _ gb522 26 #[.int .i64 t528, .int .i64 t531, .slice Ao73 x528002_1.length co73] (0, 0) _ rfl (uk_ BK522) Try.underlying26 rfl (by kernel_rfl)) rfl ?_; exact ⟨_, re_, rf_ HO_528002 BK522, hz_ HB⟩
end Go.Proofs.Ytohfcgdodgdiiaa.PFnHints
