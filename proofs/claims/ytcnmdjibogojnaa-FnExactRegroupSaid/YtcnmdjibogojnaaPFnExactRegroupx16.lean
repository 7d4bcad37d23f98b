-- Laid by a program of this session, a copy of the kit's printer with additions (wip/patch_print.py): myhead. Lean checks it.
import Derived.Test.YtcnmdjibogojnaaPFnExactRegroupx0
import Derived.Test.YtcnmdjibogojnaaPFnExactRegroupx15
namespace Go.Proofs.Ytcnmdjibogojnaa.PFnExactRegroup
open Go.RowKit Go.Proofs.YtcnmdjibogojnaaW.PrintWords Go.Proofs.YtcnmdjibogojnaaW.PrintLast Go.Proofs.YtcnmdjibogojnaaW.PrintMore
attribute [local go_sem] max2_int min2_int max_two min_two max_three min_three max_four min_four   -- for this text's walks alone
set_option linter.unusedVariables false
set_option linter.unusedSimpArgs false

/-! ### impl_fits: function 25 -/
def impl_fits.l0 : Nat → List (S46) → List (S48) → Int → Int → Int → Int → ByteArray → ByteArray → Int → Int → Option (Bool)
 | 0, _, _, _, _, _, _, _, _, _, _ => none
 | k + 1, x5, x8, x9, x10, x350000, x350001, x350002, x350003, x350004, x350005 => if x10 < x9 then (if 0 ≤ x10 then (if x10 < (x8.length : Int) then (if x5.length < 2199023255552 then (impl_fits.l0 k (x5 ++ [(⟨(rd_T48 x8 x10).f3.f0, (rd_T48 x8 x10).f3.f1, (rd_T48 x8 x10).f3.f2, (rd_T48 x8 x10).f3.f3, (rd_T48 x8 x10).f3.f4, (rd_T48 x8 x10).f3.f5⟩ : S46)]) x8 x9 (wrap64 (x10 + 1)) x350000 x350001 x350002 x350003 x350004 x350005) else (none)) else (none)) else (none)) else (if x350004 = (x5.length : Int) then ((impl_SumOf.f k x5).bind fun t355 => (some (x350005 == t355))) else (some false))
def impl_fits.f (k : Nat) (a0_0 : Int) (a0_1 : Int) (a0_2 : ByteArray) (a0_3 : ByteArray) (a0_4 : Int) (a0_5 : Int) (l1 : List (S48)) : Option (Bool) := impl_fits.l0 k ([] : List (S46)) l1 (l1.length : Int) 0 a0_0 a0_1 a0_2 a0_3 a0_4 a0_5
def impl_fits.T7 : Bool × List (List Nat × List Nat) := (true, [([], []), ([0], [0]), ([], []), ([2], [2]), ([1, 3], [1, 3]), ([4], [4]), ([5], [5]), ([6, 5], [5, 6]), ([5], [5]), ([8, 5, 5], [5, 8]), ([7, 9, 5], [5, 7, 9]), ([5, 10], [5, 10]), ([11, 9, 0, 1, 2, 3, 4, 5, 6, 7, 8, 9, 10, 11], [11])])
def impl_fits.B7 : List Nat := [0, 1, 0, 4, 15, 31, 63, 127, 63, 319, 1023, 2047, 4095]
theorem impl_fits.tab7 : rtab .any (opsOf Try.f25 7) = impl_fits.T7 := by kernel_rfl
theorem impl_fits.bits7 : waitsOk impl_fits.T7.2 impl_fits.B7 = true := by kernel_rfl
set_option maxHeartbeats 80000000 in
set_option maxRecDepth 100000 in
theorem impl_fits.calls (k : Nat) (a0_0 : Int) (a0_1 : Int) (a0_2 : ByteArray) (a0_3 : ByteArray) (a0_4 : Int) (a0_5 : Int) (A1 : Option Addr) (c1 : Nat) (l1 : List (S48)) (r : Bool) (w : World) (hr1 : Kd.C k48 w A1 l1.length l1) (hc1 : l1.length ≤ c1) (h : impl_fits.f k a0_0 a0_1 a0_2 a0_3 a0_4 a0_5 l1 = some r) :
  Calls Try.prog 25 #[.agg #[.int .i64 a0_0, .int .i64 a0_1, .string a0_2, .string a0_3, .int .i64 a0_4, .int .i64 a0_5], .slice A1 l1.length c1] w fun e w' => e = .returned (.bool r) ∧ Below w.heap.size w w' := by
 have hu46 := Try.underlying46
 have hu48 := Try.underlying48
 have HR1 := Aside0.mk hr1
 have HC1 := Aside0.mk hc1
 clear hr1 hc1
 have HB := Aside0.mk (Below.refl w.heap.size w)
 unfold impl_fits.f at h; have H := h
 clear h
 have H' := Aside0.mk H
 clear H
 go_enter Try.func25, Try.ntmps25
 go_wp2_with (first | ((with_reducible refine gate_dst (N := 2) rfl ?_); refine box_event ?hg (N := 2) ?hd (cs := #[.int .i64 a0_0, .int .i64 a0_1, .string a0_2, .string a0_3, .int .i64 a0_4, .int .i64 a0_5]) (t := 46) ?hr ?_; (case hd => rfl); (case hg => rfl); (case hr => first | (go_simp; done) | (go_simp; rfl)); intro gb349 hg w3 hbox hb; have BK349 := Aside0.mk (hbox); have GE349 := ge_ hg (hb_ HB); replace HB := bs_ HB hb; clear hb hbox hg))
 go_loopg [5, 10] k (fun kq v5 v10 w' => ∃ (x5_1 : List (S46)) (x10_1 : Int), v10 = .int .i64 x10_1 ∧ Aside0 (impl_fits.l0 kq x5_1 l1 (l1.length : Int) x10_1 a0_0 a0_1 a0_2 a0_3 a0_4 a0_5 = some r) ∧ Aside0 (kq ≤ k) ∧ Aside0 (Kd.R k46 46 w' w.heap.size (fun k_ => k_ ≠ gb349) v5 x5_1) ∧ Aside0 (w'.heap[gb349]? = some (.cells #[.int .i64 a0_0, .int .i64 a0_1, .string a0_2, .string a0_3, .int .i64 a0_4, .int .i64 a0_5] 46 (0, 0))) ∧ Aside0 (Below w.heap.size w w'))
 case atStart => exact ⟨(([] : List (S46))), (0), rs_, H', ⟨Nat.le_refl _⟩, ⟨by first | exact Kd.R_nil _ _ _ _ _ | exact Kd.N_nil _ _ _ _ _ | exact Kd.V_nil _ _ _ _ _ | exact Kd.Q_nil _ _ _ _ _ | exact Kd.S_nil _ _ _ _ _⟩, ⟨bk_ BK349⟩, ⟨hs_ HB GE349⟩⟩
 case round =>
  clear H'
  (try clear c1)
  obtain ⟨x5_1, x10_1, rfl, HA, HK1, HO_5, BK349, HB⟩ := hrel
  cases gk with
  | zero => exact absurd HA.out (by simp [impl_fits.l0])
  | succ k1 =>
   have H := HA.out
   clear HA
   simp only [impl_fits.l0] at H
   by_cases c4 : x10_1 < (l1.length : Int)
   ·rw [if_pos c4] at H
    have c4b0 : decide (x10_1 < (l1.length : Int)) = true := decide_eq_true c4
    clear c4
    by_cases c5 : 0 ≤ x10_1
    ·rw [if_pos c5] at H
     have c5b0 : decide (0 ≤ x10_1) = true := decide_eq_true c5
     clear c5
     by_cases c6 : x10_1 < (l1.length : Int)
     ·rw [if_pos c6] at H
      have c6b0 : decide (x10_1 < (l1.length : Int)) = true := decide_eq_true c6
      clear c6
      by_cases c7 : x5_1.length < 2199023255552
      ·rw [if_pos c7] at H
       have LMc7 := Aside0.mk c7
       clear c7
       obtain ⟨y352, hy352⟩ : ∃ y_ : List (S46), y_ = (x5_1 ++ [(⟨(rd_T48 l1 x10_1).f3.f0, (rd_T48 l1 x10_1).f3.f1, (rd_T48 l1 x10_1).f3.f2, (rd_T48 l1 x10_1).f3.f3, (rd_T48 l1 x10_1).f3.f4, (rd_T48 l1 x10_1).f3.f5⟩ : S46)]) := ⟨_, rfl⟩
       rw [← hy352] at H
       have Ny352 := Aside0.mk hy352
       clear hy352
       have H' := Aside0.mk H
       clear H
       have p350 : 0 ≤ (x10_1 : Int) := of_decide_eq_true as_
       have q350 : x10_1 < (l1.length : Int) := of_decide_eq_true as_
       obtain ⟨ad350, e350, hx350_0, hx350_1, hx350_2, hx350_3, hx350_4, hx350_5, hx350_6, hx350_7, hx350_8⟩ := at_T48 HR1.out x10_1 p350 q350
       cases e350
       (try replace hx350_0 := cb_ HB hx350_0)
       (try replace hx350_1 := cb_ HB hx350_1)
       (try replace hx350_2 := cb_ HB hx350_2)
       (try replace hx350_3 := cb_ HB hx350_3)
       (try replace hx350_4 := cb_ HB hx350_4)
       (try replace hx350_5 := cb_ HB hx350_5)
       (try replace hx350_6 := cb_ HB hx350_6)
       (try replace hx350_7 := cb_ HB hx350_7)
       (try replace hx350_8 := cb_ HB hx350_8)
       replace p350 := eq_true p350
       replace q350 := eq_true q350
       go_wp2_with (first | ((with_reducible refine gate_dst (N := 7) rfl ?_); refine box_event ?hg (N := 7) ?hd (cs := #[.int .i64 0, .int .i64 0, .int .i64 0, .int .i64 0, .int .i64 0, .string (⟨#[]⟩ : ByteArray), .string (⟨#[]⟩ : ByteArray), .int .i64 0, .int .i64 0]) (t := 48) ?hr ?_; (case hd => rfl); (case hg => rfl); (case hr => first | (go_simp; done) | (go_simp; rfl)); intro gb351 hg w8 hbox hb; replace HO_5 := rb_ HO_5 hb; have BK351 := Aside0.mk (hbox); have GE351 := ge_ hg (hs_ HB GE349); replace HB := bt_ HB GE349 hb; have NB349_351 := nl_ BK349 hg; have NB351_349 := ng_ BK349 hg; replace BK349 := bb_ BK349 hb; (try replace hx350_0 := cx_ hb hx350_0); (try replace hx350_1 := cx_ hb hx350_1); (try replace hx350_2 := cx_ hb hx350_2); (try replace hx350_3 := cx_ hb hx350_3); (try replace hx350_4 := cx_ hb hx350_4); (try replace hx350_5 := cx_ hb hx350_5); (try replace hx350_6 := cx_ hb hx350_6); (try replace hx350_7 := cx_ hb hx350_7); (try replace hx350_8 := cx_ hb hx350_8); clear hb hbox hg; have hnb9 := NB351_349.out; have hnc9 := NB349_351.out; obtain ⟨hcz10_0, hcz10_1, hcz10_2, hcz10_3, hcz10_4, hcz10_5, hcz10_6, hcz10_7, hcz10_8, hfz10_0, hfz10_1, hfz10_2, hfz10_3, hfz10_4, hfz10_5, hfz10_6, hfz10_7, hfz10_8⟩ := bc9_ BK351) | (at_builtin; (with_reducible refine gate_builtin (b := .append) (xs := #[.tmp 14, .tmp 17]) rfl ?_); refine Kd.R_append k46 (w0 := w) w.heap.size rfl (.tmp 14) (.tmp 17) 67 46 (.agg #[(.int .i64 0), (.int .i64 0), (.string ⟨#[]⟩), (.string ⟨#[]⟩), (.int .i64 0), (.int .i64 0)]) 64 rfl Try.underlying67 info46 rfl (by decide) (by omega) u5 x5_1 (⟨(rd_T48 l1 x10_1).f3.f0, (rd_T48 l1 x10_1).f3.f1, (rd_T48 l1 x10_1).f3.f2, (rd_T48 l1 x10_1).f3.f3, (rd_T48 l1 x10_1).f3.f4, (rd_T48 l1 x10_1).f3.f5⟩ : S46) [.int .i64 ((rd_T48 l1 x10_1).f3.f0), .int .i64 ((rd_T48 l1 x10_1).f3.f1), .string ((rd_T48 l1 x10_1).f3.f2), .string ((rd_T48 l1 x10_1).f3.f3), .int .i64 ((rd_T48 l1 x10_1).f3.f4), .int .i64 ((rd_T48 l1 x10_1).f3.f5)] (fun k_ => k_ ≠ gb349) (fun _ => False) rfl (by first | (go_simp; done) | (go_simp; rfl)) ?aP (fun _ hk => hk.elim) ?aF ?aO ?aB ?aS ?aL ?_; (case aP => exact k46_mkM _ _ _ (⟨(rd_T48 l1 x10_1).f3.f0, (rd_T48 l1 x10_1).f3.f1, (rd_T48 l1 x10_1).f3.f2, (rd_T48 l1 x10_1).f3.f3, (rd_T48 l1 x10_1).f3.f4, (rd_T48 l1 x10_1).f3.f5⟩ : S46)); (case aB => exact (hu_ HB GE349 GE351)); (case aF => exact (fun k_ hk => Kd.freshB (g := gb349) (o := .cells #[.int .i64 a0_0, .int .i64 a0_1, .string a0_2, .string a0_3, .int .i64 a0_4, .int .i64 a0_5] 46 (0, 0)) (uq_ BK349 fun h_ => ⟨_, ua_, ub_⟩) k_ hk)); (case aO => exact (by (with_reducible repeat (first | apply Kd.R_alloc | apply Kd.R_drewN | apply Kd.R_drew)); exact Kd.R_mono (Kd.R_far (p := ⟨gb351, 8, none⟩) (Kd.R_far (p := ⟨gb351, 7, none⟩) (Kd.R_far (p := ⟨gb351, 6, none⟩) (Kd.R_far (p := ⟨gb351, 5, none⟩) (Kd.R_far (p := ⟨gb351, 4, none⟩) (Kd.R_far (p := ⟨gb351, 3, none⟩) (Kd.R_far (p := ⟨gb351, 2, none⟩) (Kd.R_far (p := ⟨gb351, 1, none⟩) (Kd.R_far (p := ⟨gb351, 0, none⟩) (Kd.R_types HO_5.out BK351.out (by decide)) (fun _ hk => hk.2) (.int .i64 ((rd_T48 l1 x10_1).f0))) (fun _ hk => hk.2) (.int .i64 ((rd_T48 l1 x10_1).f1))) (fun _ hk => hk.2) (.int .i64 ((rd_T48 l1 x10_1).f2))) (fun _ hk => hk.2) (.int .i64 ((rd_T48 l1 x10_1).f3.f0))) (fun _ hk => hk.2) (.int .i64 ((rd_T48 l1 x10_1).f3.f1))) (fun _ hk => hk.2) (.string ((rd_T48 l1 x10_1).f3.f2))) (fun _ hk => hk.2) (.string ((rd_T48 l1 x10_1).f3.f3))) (fun _ hk => hk.2) (.int .i64 ((rd_T48 l1 x10_1).f3.f4))) (fun _ hk => hk.2) (.int .i64 ((rd_T48 l1 x10_1).f3.f5))) (fun _ hk => hk.1))); (case aS => exact (below_size (hu_ HB GE349 GE351))); (case aL => have := LMc7.out; omega); intro v353 w11 ho hb hg hat; rw [← Ny352.out] at ho; replace BK349 := Aside0.mk (blk_grown (g := gb349) (o := .cells #[.int .i64 a0_0, .int .i64 a0_1, .string a0_2, .string a0_3, .int .i64 a0_4, .int .i64 a0_5] 46 (0, 0)) (uq_ BK349 fun h_ => ⟨_, ua_, ub_⟩) hg (Kd.R_away HO_5.out (fun _ hk => hk))); replace BK351 := Aside0.mk (blk_grown (g := gb351) (o := .cells #[.int .i64 ((rd_T48 l1 x10_1).f0), .int .i64 ((rd_T48 l1 x10_1).f1), .int .i64 ((rd_T48 l1 x10_1).f2), .int .i64 ((rd_T48 l1 x10_1).f3.f0), .int .i64 ((rd_T48 l1 x10_1).f3.f1), .string ((rd_T48 l1 x10_1).f3.f2), .string ((rd_T48 l1 x10_1).f3.f3), .int .i64 ((rd_T48 l1 x10_1).f3.f4), .int .i64 ((rd_T48 l1 x10_1).f3.f5)] 48 (0, 0)) (uq_ BK351 fun h_ => ⟨_, ua_, ub_⟩) hg (Kd.R_ne HO_5.out BK351.out (by decide))); replace HB := Aside0.mk (hb); have HO354 := Aside0.mk (ho); clear HO_5; clear ho hb hg hat))
       go_roundg k1
       case measure => have := HK1.out; first | exact this | exact Nat.le_of_succ_le this | exact Nat.le_refl _ | omega
       case rel => exact ⟨(y352), (wrap64 (x10_1 + 1)), rs_, H', ⟨by have := HK1.out; first | exact this | exact Nat.le_of_succ_le this | exact Nat.le_refl _ | omega⟩, ⟨rr_ HO354⟩, ⟨bk_ BK349⟩, ⟨hz_ HB⟩⟩
      ·rw [if_neg c7] at H
       exact absurd H (by simp)
     ·rw [if_neg c6] at H
      exact absurd H (by simp)
    ·rw [if_neg c5] at H
     exact absurd H (by simp)
   ·rw [if_neg c4] at H
    have c4b0 : decide (x10_1 < (l1.length : Int)) = false := decide_eq_false c4
    clear c4
    by_cases c12 : a0_4 = (x5_1.length : Int)
    ·rw [if_pos c12] at H
     have c12b0 : (a0_4 == (x5_1.length : Int)) = true := beq_iff_eq.mpr c12
     have c12b1 : (a0_4 != (x5_1.length : Int)) = false := bne_eq_false_iff_eq.mpr c12
     clear c12
     replace H := Option.bind_eq_some_iff.mp H
     obtain ⟨t355, A130, H⟩ := H
     have A13 := Aside0.mk A130
     clear A130
     obtain rfl := Option.some.inj H
     try go_wp2
     replace HO_5 := rd_ HO_5
     replace BK349 := bd_ BK349
     replace HB := hd_ HB
     obtain ⟨Ao15, co15, eo15⟩ := Kd.R_slice HO_5.out
     (first | subst eo15 | (injection eo15 with f1_ f2_ f3_; have f4_ := f1_.symm; have f5_ := f3_.symm; clear f1_ f2_ f3_; subst f4_; subst f5_))
     refine start_ (n := 13) (S := k6e_ gb349 (.int .i64 a0_0) (.int .i64 a0_1) (.string a0_2) (.string a0_3) (.int .i64 a0_4) (.int .i64 a0_5)) (ds := []) (on_ 0 13) (by kernel_rfl) rfl rfl (p6e_ BK349) (fun hHeld => ?_); refine with_tabW impl_fits.tab7 impl_fits.bits7 (fun HT_ HW_ => ?_)
     generalize wr.drew = w14 at HO_5 BK349 HB hHeld ⊢
     refine pv_' 0 20 (on_ 1 12) rfl rfl HT_ ?_
     refine pv_' 2 22 #[i',o',i',o',o',o',o',o',o',o',o',o',o'] rfl rfl HT_ ?_
     refine pv_' 3 23 #[i',o',i',i',o',o',o',o',o',o',o',o',o'] rfl rfl HT_ ?_
     refine take_ (i := 1) (N := some 21) (v := ?_) (a' := ?_) (on_ 4 9) rfl rfl (take_ofW HT_.out HW_.out (by kernel_rfl)) (fun _ _ _ h => h) (Or.inl ⟨by rfl, ?_⟩) hHeld ?_ ?_
     rotate_left
     ·rintro w' ⟨s0, s1, s2, s3, s4, s5⟩
      go_simp
      with_reducible rfl
     rotate_left
     ·simp only [Act.put, la_, lz_, ls_, i64_w, i32_w]
      rfl
     refine pv_' 4 24 (on_ 5 8) rfl rfl HT_ ?_
     refine pv_' 5 25 (on_ 6 7) rfl rfl HT_ ?_
     refine pv_' 6 26 (on_ 7 6) rfl rfl HT_ ?_
     refine pv_' 8 28 #[i',i',i',i',i',i',i',o',i',o',o',o',o'] rfl rfl HT_ ?_
     refine take_ (i := 7) (N := some 27) (v := ?_) (a' := ?_) (on_ 9 4) rfl rfl (take_ofW HT_.out HW_.out (by kernel_rfl)) (fun _ _ _ h => h) (Or.inl ⟨by rfl, ?_⟩) hHeld ?_ ?_
     rotate_left
     ·rintro w' ⟨s0, s1, s2, s3, s4, s5⟩
      go_simp
      with_reducible rfl
     rotate_left
     ·simp only [Act.put, la_, lz_, ls_, i64_w, i32_w]
      rfl
     refine one_ (i := 9) (N := some 29) (on_ 10 3) rfl rfl (one_of HT_.out (by kernel_rfl)) (by decide) (fun K hK => ?_)
     refine goes_ Try.func40 (by kernel_rfl) rfl #[.slice Ao15 x5_1.length co15] (by rfl) rfl rfl ar_ ?_
     with_reducible refine (impl_SumOf.calls k1 _ _ x5_1 t355 _ ?side1 ?side2 A13.out).mono ?_
     (case side1 => repeat (first | exact (Kd.R_reads' HO_5.out).2.2 | (with_reducible refine Kd.C_alloc ?_ _) | (with_reducible refine Kd.C_drewN ?_ _) | (with_reducible refine Kd.C_drew ?_)))
     (case side2 => exact (Kd.R_reads' HO_5.out).2.1)
     rintro e w16 ⟨rfl, hb⟩
     refine ⟨_, rfl, ?_⟩
     replace HO_5 := rb_ HO_5 hb
     replace BK349 := bb_ BK349 hb
     replace HB := bt_ HB GE349 hb
     (try clear hb)
     (try clear hb2)
     (try clear hk)
     (try clear hi)
     refine hK.out _ _ (p6e_ BK349) (fun hHeld => ?_)
     clear hK K
     refine norm_ (a' := ?_) ?_ ?_
     rotate_left
     ·show Act.put _ (some 29) _ = _
      simp only [Act.put, la_, lz_, ls_, i64_w, i32_w]
      rfl
     refine pv_' 10 30 (on_ 11 2) rfl rfl HT_ ?_
     refine pv_' 11 31 (on_ 12 1) rfl rfl HT_ ?_
     refine pv_' 12 4 (on_ 13 0) rfl rfl HT_ ?_
     refine done_ (done_of HT_.out (by kernel_rfl)) ?_
     try go_wp2
     go_ret
     exact ⟨re_, hs_ HB GE349⟩
    ·rw [if_neg c12] at H
     have c12b0 : (a0_4 == (x5_1.length : Int)) = false := beq_eq_false_iff_ne.mpr c12
     have c12b1 : (a0_4 != (x5_1.length : Int)) = true := bne_iff_ne.mpr c12
     obtain rfl := Option.some.inj H
     try go_wp2
     replace HO_5 := rd_ HO_5
     replace BK349 := bd_ BK349
     replace HB := hd_ HB
     obtain ⟨Ao18, co18, eo18⟩ := Kd.R_slice HO_5.out
     (first | subst eo18 | (injection eo18 with f1_ f2_ f3_; have f4_ := f1_.symm; have f5_ := f3_.symm; clear f1_ f2_ f3_; subst f4_; subst f5_))
     refine start_ (n := 13) (S := k6e_ gb349 (.int .i64 a0_0) (.int .i64 a0_1) (.string a0_2) (.string a0_3) (.int .i64 a0_4) (.int .i64 a0_5)) (ds := []) (on_ 0 13) (by kernel_rfl) rfl rfl (p6e_ BK349) (fun hHeld => ?_); refine with_tabW impl_fits.tab7 impl_fits.bits7 (fun HT_ HW_ => ?_)
     generalize wr.drew = w17 at HO_5 BK349 HB hHeld ⊢
     refine pv_' 0 20 (on_ 1 12) rfl rfl HT_ ?_
     refine pv_' 2 22 #[i',o',i',o',o',o',o',o',o',o',o',o',o'] rfl rfl HT_ ?_
     refine pv_' 3 23 #[i',o',i',i',o',o',o',o',o',o',o',o',o'] rfl rfl HT_ ?_
     refine take_ (i := 1) (N := some 21) (v := ?_) (a' := ?_) (on_ 4 9) rfl rfl (take_ofW HT_.out HW_.out (by kernel_rfl)) (fun _ _ _ h => h) (Or.inl ⟨by rfl, ?_⟩) hHeld ?_ ?_
     rotate_left
     ·rintro w' ⟨s0, s1, s2, s3, s4, s5⟩
      go_simp
      with_reducible rfl
     rotate_left
     ·simp only [Act.put, la_, lz_, ls_, i64_w, i32_w]
      rfl
     refine pv_' 4 24 (on_ 5 8) rfl rfl HT_ ?_
     refine pv_' 5 25 (on_ 6 7) rfl rfl HT_ ?_
     refine pun_' 6 26 (on_ 7 6) rfl rfl HT_ ?_
     refine pun_' 7 27 (on_ 8 5) rfl rfl HT_ ?_
     refine pun_' 8 28 (on_ 9 4) rfl rfl HT_ ?_
     refine pun_' 9 29 (on_ 10 3) rfl rfl HT_ ?_
     refine pun_' 10 30 (on_ 11 2) rfl rfl HT_ ?_
     refine pv_' 11 31 (on_ 12 1) rfl rfl HT_ ?_
     refine pv_' 12 4 (on_ 13 0) rfl rfl HT_ ?_
     refine done_ (done_of HT_.out (by kernel_rfl)) ?_
     try go_wp2
     go_ret
     exact ⟨re_, hs_ HB GE349⟩

/-! ### impl_DirDrop: function 41 -/
def impl_DirDrop.l0 : Nat → ByteArray → List (S71) → List (S71) → Int → Int → Option ((List (S71)))
 | 0, _, _, _, _, _ => none
 | k + 1, x1, x5, x8, x9, x10 => if x10 < x9 then (if 0 ≤ x10 then (if x10 < (x8.length : Int) then (if ((rd_T71 x8 x10).f0).toList = x1.toList then (impl_DirDrop.l0 k x1 x5 x8 x9 (wrap64 (x10 + 1))) else (if x5.length < 2932031007402 then (impl_DirDrop.l0 k x1 (x5 ++ [(⟨(rd_T71 x8 x10).f0, (rd_T71 x8 x10).f1, (rd_T71 x8 x10).f2, (rd_T71 x8 x10).f3, (rd_T71 x8 x10).f4⟩ : S71)]) x8 x9 (wrap64 (x10 + 1))) else (none))) else (none)) else (none)) else (some x5)
def impl_DirDrop.f (k : Nat) (l0 : List (S71)) (a1 : ByteArray) : Option ((List (S71))) := impl_DirDrop.l0 k a1 ([] : List (S71)) l0 (l0.length : Int) 0
set_option maxHeartbeats 80000000 in
set_option maxRecDepth 100000 in
theorem impl_DirDrop.calls (k : Nat) (A0 : Option Addr) (c0 : Nat) (l0 : List (S71)) (a1 : ByteArray) (r : List (S71)) (w : World) (hr0 : Kd.C k71 w A0 l0.length l0) (hc0 : l0.length ≤ c0) (h : impl_DirDrop.f k l0 a1 = some r) :
  Calls Try.prog 41 #[.slice A0 l0.length c0, .string a1] w fun e w' => ∃ v0_ : Value, e = .returned (v0_) ∧ Kd.R k71 71 w' w.heap.size (fun _ => True) v0_ r ∧ Below w.heap.size w w' := by
 have hu71 := Try.underlying71
 have HR0 := Aside0.mk hr0
 have HC0 := Aside0.mk hc0
 clear hr0 hc0
 have HB := Aside0.mk (Below.refl w.heap.size w)
 unfold impl_DirDrop.f at h; have H := h
 clear h
 have H' := Aside0.mk H
 clear H
 go_enter Try.func41, Try.ntmps41
 go_wp2
 go_loopg [5, 10] k (fun kq v5 v10 w' => ∃ (x5_1 : List (S71)) (x10_1 : Int), v10 = .int .i64 x10_1 ∧ Aside0 (impl_DirDrop.l0 kq a1 x5_1 l0 (l0.length : Int) x10_1 = some r) ∧ Aside0 (kq ≤ k) ∧ Aside0 (Kd.R k71 71 w' w.heap.size (fun _ => True) v5 x5_1) ∧ Aside0 (Below w.heap.size w w'))
 case atStart => exact ⟨(([] : List (S71))), (0), rs_, H', ⟨Nat.le_refl _⟩, ⟨by first | exact Kd.R_nil _ _ _ _ _ | exact Kd.N_nil _ _ _ _ _ | exact Kd.V_nil _ _ _ _ _ | exact Kd.Q_nil _ _ _ _ _ | exact Kd.S_nil _ _ _ _ _⟩, ⟨hb_ HB⟩⟩
 case round =>
  clear H'
  obtain ⟨x5_1, x10_1, rfl, HA, HK1, HO_5, HB⟩ := hrel
  cases gk with
  | zero => exact absurd HA.out (by simp [impl_DirDrop.l0])
  | succ k1 =>
   have H := HA.out
   clear HA
   simp only [impl_DirDrop.l0] at H
   by_cases c3 : x10_1 < (l0.length : Int)
   ·rw [if_pos c3] at H
    have c3b0 : decide (x10_1 < (l0.length : Int)) = true := decide_eq_true c3
    clear c3
    by_cases c4 : 0 ≤ x10_1
    ·rw [if_pos c4] at H
     have c4b0 : decide (0 ≤ x10_1) = true := decide_eq_true c4
     clear c4
     by_cases c5 : x10_1 < (l0.length : Int)
     ·rw [if_pos c5] at H
      have c5b0 : decide (x10_1 < (l0.length : Int)) = true := decide_eq_true c5
      clear c5
      by_cases c6 : ((rd_T71 l0 x10_1).f0).toList = a1.toList
      ·rw [if_pos c6] at H
       have c6b0 : (((rd_T71 l0 x10_1).f0).toList == a1.toList) = true := beq_iff_eq.mpr c6
       have c6b1 : (((rd_T71 l0 x10_1).f0).toList != a1.toList) = false := bne_eq_false_iff_eq.mpr c6
       clear c6
       have H' := Aside0.mk H
       clear H
       have p356 : 0 ≤ (x10_1 : Int) := of_decide_eq_true as_
       have q356 : x10_1 < (l0.length : Int) := of_decide_eq_true as_
       obtain ⟨ad356, e356, hx356_0, hx356_1, hx356_2, hx356_3, hx356_4⟩ := at_T71 HR0.out x10_1 p356 q356
       cases e356
       (try replace hx356_0 := cb_ HB hx356_0)
       (try replace hx356_1 := cb_ HB hx356_1)
       (try replace hx356_2 := cb_ HB hx356_2)
       (try replace hx356_3 := cb_ HB hx356_3)
       (try replace hx356_4 := cb_ HB hx356_4)
       replace p356 := eq_true p356
       replace q356 := eq_true q356
       go_wp2_with (first | ((with_reducible refine gate_dst (N := 7) rfl ?_); refine box_event ?hg (N := 7) ?hd (cs := #[.string (⟨#[]⟩ : ByteArray), .int .i64 0, .int .i64 0, .int .i64 0, .int .i64 0]) (t := 71) ?hr ?_; (case hd => rfl); (case hg => rfl); (case hr => first | (go_simp; done) | (go_simp; rfl)); intro gb357 hg w7 hbox hb; replace HO_5 := Aside0.mk (Kd.R_below (Kd.R_elderB (rr_ HO_5) gb357 (Nat.le_of_eq hg.symm)) hb); have BK357 := Aside0.mk (hbox); have GE357 := ge_ hg (hb_ HB); replace HB := bs_ HB hb; (try replace hx356_0 := cx_ hb hx356_0); (try replace hx356_1 := cx_ hb hx356_1); (try replace hx356_2 := cx_ hb hx356_2); (try replace hx356_3 := cx_ hb hx356_3); (try replace hx356_4 := cx_ hb hx356_4); clear hb hbox hg; obtain ⟨hcz8_0, hcz8_1, hcz8_2, hcz8_3, hcz8_4, hfz8_0, hfz8_1, hfz8_2, hfz8_3, hfz8_4⟩ := bc5_ BK357))
       go_roundg k1
       case measure => have := HK1.out; first | exact this | exact Nat.le_of_succ_le this | exact Nat.le_refl _ | omega
       case rel => exact ⟨(x5_1), (wrap64 (x10_1 + 1)), rs_, H', ⟨by have := HK1.out; first | exact this | exact Nat.le_of_succ_le this | exact Nat.le_refl _ | omega⟩, ⟨by (with_reducible repeat (first | apply Kd.R_alloc | apply Kd.R_drewN | apply Kd.R_drew)); exact Kd.R_mono (Kd.R_far (p := ⟨gb357, 4, none⟩) (Kd.R_far (p := ⟨gb357, 3, none⟩) (Kd.R_far (p := ⟨gb357, 2, none⟩) (Kd.R_far (p := ⟨gb357, 1, none⟩) (Kd.R_far (p := ⟨gb357, 0, none⟩) (Kd.R_mono HO_5.out (fun k_ hk => (⟨hk, hk.2⟩ : _ ∧ k_ ≠ gb357))) (fun _ hk => hk.2) (.string ((rd_T71 l0 x10_1).f0))) (fun _ hk => hk.2) (.int .i64 ((rd_T71 l0 x10_1).f1))) (fun _ hk => hk.2) (.int .i64 ((rd_T71 l0 x10_1).f2))) (fun _ hk => hk.2) (.int .i64 ((rd_T71 l0 x10_1).f3))) (fun _ hk => hk.2) (.int .i64 ((rd_T71 l0 x10_1).f4))) (fun _ hk => trivial)⟩, ⟨hs_ HB GE357⟩⟩
      ·rw [if_neg c6] at H
       have c6b0 : (((rd_T71 l0 x10_1).f0).toList == a1.toList) = false := beq_eq_false_iff_ne.mpr c6
       have c6b1 : (((rd_T71 l0 x10_1).f0).toList != a1.toList) = true := bne_iff_ne.mpr c6
       by_cases c9 : x5_1.length < 2932031007402
       ·rw [if_pos c9] at H
        have LMc9 := Aside0.mk c9
        clear c9
        obtain ⟨y358, hy358⟩ : ∃ y_ : List (S71), y_ = (x5_1 ++ [(⟨(rd_T71 l0 x10_1).f0, (rd_T71 l0 x10_1).f1, (rd_T71 l0 x10_1).f2, (rd_T71 l0 x10_1).f3, (rd_T71 l0 x10_1).f4⟩ : S71)]) := ⟨_, rfl⟩
        rw [← hy358] at H
        have Ny358 := Aside0.mk hy358
        clear hy358
        have H' := Aside0.mk H
        clear H
        have p356 : 0 ≤ (x10_1 : Int) := of_decide_eq_true as_
        have q356 : x10_1 < (l0.length : Int) := of_decide_eq_true as_
        obtain ⟨ad356, e356, hx356_0, hx356_1, hx356_2, hx356_3, hx356_4⟩ := at_T71 HR0.out x10_1 p356 q356
        cases e356
        (try replace hx356_0 := cb_ HB hx356_0)
        (try replace hx356_1 := cb_ HB hx356_1)
        (try replace hx356_2 := cb_ HB hx356_2)
        (try replace hx356_3 := cb_ HB hx356_3)
        (try replace hx356_4 := cb_ HB hx356_4)
        replace p356 := eq_true p356
        replace q356 := eq_true q356
        go_wp2_with (first | ((with_reducible refine gate_dst (N := 7) rfl ?_); refine box_event ?hg (N := 7) ?hd (cs := #[.string (⟨#[]⟩ : ByteArray), .int .i64 0, .int .i64 0, .int .i64 0, .int .i64 0]) (t := 71) ?hr ?_; (case hd => rfl); (case hg => rfl); (case hr => first | (go_simp; done) | (go_simp; rfl)); intro gb357 hg w10 hbox hb; replace HO_5 := Aside0.mk (Kd.R_below (Kd.R_elderB (rr_ HO_5) gb357 (Nat.le_of_eq hg.symm)) hb); have BK357 := Aside0.mk (hbox); have GE357 := ge_ hg (hb_ HB); replace HB := bs_ HB hb; (try replace hx356_0 := cx_ hb hx356_0); (try replace hx356_1 := cx_ hb hx356_1); (try replace hx356_2 := cx_ hb hx356_2); (try replace hx356_3 := cx_ hb hx356_3); (try replace hx356_4 := cx_ hb hx356_4); clear hb hbox hg; obtain ⟨hcz11_0, hcz11_1, hcz11_2, hcz11_3, hcz11_4, hfz11_0, hfz11_1, hfz11_2, hfz11_3, hfz11_4⟩ := bc5_ BK357) | (at_builtin; (with_reducible refine gate_builtin (b := .append) (xs := #[.tmp 18, .tmp 20]) rfl ?_); refine Kd.R_append k71 (w0 := w) w.heap.size rfl (.tmp 18) (.tmp 20) 28 71 (.agg #[(.string ⟨#[]⟩), (.int .i64 0), (.int .i64 0), (.int .i64 0), (.int .i64 0)]) 48 rfl Try.underlying28 info71 rfl (by decide) (by omega) u5 x5_1 (⟨(rd_T71 l0 x10_1).f0, (rd_T71 l0 x10_1).f1, (rd_T71 l0 x10_1).f2, (rd_T71 l0 x10_1).f3, (rd_T71 l0 x10_1).f4⟩ : S71) [.string ((rd_T71 l0 x10_1).f0), .int .i64 ((rd_T71 l0 x10_1).f1), .int .i64 ((rd_T71 l0 x10_1).f2), .int .i64 ((rd_T71 l0 x10_1).f3), .int .i64 ((rd_T71 l0 x10_1).f4)] (fun k_ => k_ ≠ gb357) (fun _ => False) rfl (by first | (go_simp; done) | (go_simp; rfl)) ?aP (fun _ hk => hk.elim) ?aF ?aO ?aB ?aS ?aL ?_; (case aP => exact k71_mkM _ _ _ (⟨(rd_T71 l0 x10_1).f0, (rd_T71 l0 x10_1).f1, (rd_T71 l0 x10_1).f2, (rd_T71 l0 x10_1).f3, (rd_T71 l0 x10_1).f4⟩ : S71)); (case aB => exact (hs_ HB GE357)); (case aF => exact (fun k_ hk => Kd.freshB (g := gb357) (o := .cells #[.string ((rd_T71 l0 x10_1).f0), .int .i64 ((rd_T71 l0 x10_1).f1), .int .i64 ((rd_T71 l0 x10_1).f2), .int .i64 ((rd_T71 l0 x10_1).f3), .int .i64 ((rd_T71 l0 x10_1).f4)] 71 (0, 0)) (uq_ BK357 fun h_ => ⟨_, ua_, ub_⟩) k_ hk)); (case aO => exact (by (with_reducible repeat (first | apply Kd.R_alloc | apply Kd.R_drewN | apply Kd.R_drew)); exact Kd.R_mono (Kd.R_far (p := ⟨gb357, 4, none⟩) (Kd.R_far (p := ⟨gb357, 3, none⟩) (Kd.R_far (p := ⟨gb357, 2, none⟩) (Kd.R_far (p := ⟨gb357, 1, none⟩) (Kd.R_far (p := ⟨gb357, 0, none⟩) (Kd.R_mono HO_5.out (fun k_ hk => (⟨hk, hk.2⟩ : _ ∧ k_ ≠ gb357))) (fun _ hk => hk.2) (.string ((rd_T71 l0 x10_1).f0))) (fun _ hk => hk.2) (.int .i64 ((rd_T71 l0 x10_1).f1))) (fun _ hk => hk.2) (.int .i64 ((rd_T71 l0 x10_1).f2))) (fun _ hk => hk.2) (.int .i64 ((rd_T71 l0 x10_1).f3))) (fun _ hk => hk.2) (.int .i64 ((rd_T71 l0 x10_1).f4))) (fun _ hk => hk.1.2))); (case aS => exact (below_size (hs_ HB GE357))); (case aL => have := LMc9.out; omega); intro v359 w12 ho hb hg hat; rw [← Ny358.out] at ho; replace BK357 := Aside0.mk (blk_grown (g := gb357) (o := .cells #[.string ((rd_T71 l0 x10_1).f0), .int .i64 ((rd_T71 l0 x10_1).f1), .int .i64 ((rd_T71 l0 x10_1).f2), .int .i64 ((rd_T71 l0 x10_1).f3), .int .i64 ((rd_T71 l0 x10_1).f4)] 71 (0, 0)) (uq_ BK357 fun h_ => ⟨_, ua_, ub_⟩) hg (Kd.R_away HO_5.out (fun _ hk => hk.2))); replace HB := Aside0.mk (hb); have HO360 := Aside0.mk (ho); clear HO_5; clear ho hb hg hat))
        go_roundg k1
        case measure => have := HK1.out; first | exact this | exact Nat.le_of_succ_le this | exact Nat.le_refl _ | omega
        case rel => exact ⟨(y358), (wrap64 (x10_1 + 1)), rs_, H', ⟨by have := HK1.out; first | exact this | exact Nat.le_of_succ_le this | exact Nat.le_refl _ | omega⟩, ⟨by (with_reducible repeat (first | apply Kd.R_alloc | apply Kd.R_drewN | apply Kd.R_drew)); exact Kd.R_mono HO360.out (fun _ hk => trivial)⟩, ⟨hs_ HB GE357⟩⟩
       ·rw [if_neg c9] at H
        exact absurd H (by simp)
     ·rw [if_neg c5] at H
      exact absurd H (by simp)
    ·rw [if_neg c4] at H
     exact absurd H (by simp)
   ·rw [if_neg c3] at H
    have c3b0 : decide (x10_1 < (l0.length : Int)) = false := decide_eq_false c3
    clear c3
    obtain rfl := Option.some.inj H
    go_wp2
    go_ret
    exact ⟨_, by first | rfl | (simp [errW_none, errW_some] <;> rfl) | (simp [*, errW_none, errW_some] <;> rfl), rr_ HO_5, hb_ HB⟩

end Go.Proofs.Ytcnmdjibogojnaa.PFnExactRegroup
