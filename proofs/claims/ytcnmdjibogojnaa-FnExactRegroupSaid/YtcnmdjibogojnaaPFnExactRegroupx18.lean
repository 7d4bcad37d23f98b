-- Laid by a program of this session, a copy of the kit's printer with additions (wip/patch_print.py): myhead. Lean checks it.
import Derived.Test.YtcnmdjibogojnaaPFnExactRegroupx0
import Derived.Test.YtcnmdjibogojnaaPFnExactRegroupx10
import Derived.Test.YtcnmdjibogojnaaPFnExactRegroupx16
import Derived.Test.YtcnmdjibogojnaaPFnExactRegroupx17
namespace Go.Proofs.Ytcnmdjibogojnaa.PFnExactRegroup
open Go.RowKit Go.Proofs.YtcnmdjibogojnaaW.PrintWords Go.Proofs.YtcnmdjibogojnaaW.PrintLast Go.Proofs.YtcnmdjibogojnaaW.PrintMore
attribute [local go_sem] max2_int min2_int max_two min_two max_three min_three max_four min_four   -- for this text's walks alone
set_option linter.unusedVariables false
set_option linter.unusedSimpArgs false

/-! ### what a method that writes its receiver's block leaves as it was -/
theorem kset_ {w w1 : World} {g b : Nat} {row : Option Nat} (h : KeepBut w w1 g row) (hb : w.heap.size ≤ b) (j : Nat) (u : Value) : KeepBut w (w1.setCell ⟨b, j, none⟩ u) g row :=
 ⟨by simpa [World.setCell] using h.1, fun i hi hg hr => (Below.heap_setCell w1 ⟨b, j, none⟩ u i (fun e => by have e2 : i = b := e; omega)).trans (h.2 i hi hg hr)⟩
theorem kz_ {w W0 W : World} {g : Nat} {row : Option Nat} (h : Aside0 (KeepBut w W0 g row)) (k : KeepBut w W0 g row → KeepBut w W g row := by intro h_; repeat (first | (with_reducible exact h_) | (with_reducible refine keep_drewN ?_ _) | (with_reducible refine keep_drew ?_) | (with_reducible refine keep_alloc ?_ _) | (with_reducible refine KeepBut.set_ ?_ _ _))) : KeepBut w W g row := k h.out
theorem gk_ {w W0 W : World} {g b : Nat} {row : Option Nat} (hg : b = W.heap.size) (h : Aside0 (KeepBut w W0 g row)) (k : KeepBut w W0 g row → KeepBut w W g row := by intro h_; repeat (first | (with_reducible exact h_) | (with_reducible refine keep_drewN ?_ _) | (with_reducible refine keep_drew ?_) | (with_reducible refine keep_alloc ?_ _) | (with_reducible refine KeepBut.set_ ?_ _ _))) : Aside0 (w.heap.size ≤ b) := ⟨by rw [hg]; exact (k h.out).1⟩
theorem kw_ {w W0 W W2 : World} {g : Nat} (h : Aside0 (KeepBut w W0 g none)) (hb : Below W.heap.size W W2) (k : KeepBut w W0 g none → KeepBut w W g none := by intro h_; repeat (first | (with_reducible exact h_) | (with_reducible refine keep_drewN ?_ _) | (with_reducible refine keep_drew ?_) | (with_reducible refine keep_alloc ?_ _) | (with_reducible refine KeepBut.set_ ?_ _ _))) : Aside0 (KeepBut w W2 g none) := ⟨(k h.out).trans (KeepBut.of_below hb g none) (.inl rfl)⟩
theorem ks_ {w W0 W W2 : World} {g b : Nat} {row : Option Nat} (h : Aside0 (KeepBut w W0 g row)) (n : Aside0 (w.heap.size ≤ b)) (hw : W = W2) (k : KeepBut w W0 g row → w.heap.size ≤ b → KeepBut w W g row := by intro h_ n_; repeat (first | (with_reducible exact h_) | (with_reducible refine kset_ ?_ n_ _ _))) : Aside0 (KeepBut w W2 g row) := ⟨hw ▸ k h.out n.out⟩
theorem kd_ {w W : World} {g : Nat} {row : Option Nat} (h : Aside0 (KeepBut w W g row)) : Aside0 (KeepBut w W.drew g row) := ⟨keep_drew h.out⟩
theorem kb_ {W0 W W2 : World} {g g' : Nat} {o : Obj} (h : Aside0 (W0.heap[g']? = some o)) (n : Aside0 (g' ≠ g)) (hk : KeepBut W W2 g none) (k : W0.heap[g']? = some o → W.heap[g']? = some o := by intro h_; (with_reducible repeat (first | refine blk_drewN ?_ _ | refine blk_drew ?_ | refine blk_alloc ?_ _)); exact h_) : Aside0 (W2.heap[g']? = some o) := by
 have h1 := k h.out
 have hl : g' < W.heap.size := by
  rcases Nat.lt_or_ge g' W.heap.size with h | h
  · exact h
  · rw [Array.getElem?_eq_none h] at h1; exact absurd h1 (by simp)
 exact ⟨(hk.2 g' hl n.out (by simp)).trans h1⟩
/-! ### impl_Group_apply: function 26 -/
def impl_Group_apply.l0 : Nat → List (S48) → Int → Int → List (S71) → Int → Int → Option ((List (S71)) × Int × Int)
 | 0, _, _, _, _, _, _ => none
 | k + 1, x6, x7, x8, x407000, x407001, x407002 => if x8 < x7 then (if 0 ≤ x8 then (if x8 < (x6.length : Int) then (if ((rd_T48 x6 x8).f3.f0) = 2 then ((impl_DirDrop.f k x407000 ((rd_T48 x6 x8).f3.f2)).bind fun t416 => (impl_Group_apply.l0 k x6 x7 (wrap64 (x8 + 1)) t416 x407001 x407002)) else ((impl_DirPut.f k x407000 ((rd_T48 x6 x8).f3.f2) ((rd_T48 x6 x8).f0) ((rd_T48 x6 x8).f1) ((rd_T48 x6 x8).f2) ((rd_T48 x6 x8).f3.f1)).bind fun t419 => (impl_Group_apply.l0 k x6 x7 (wrap64 (x8 + 1)) t419 x407001 x407002))) else (none)) else (none)) else (if (x407000.length : Int) > 20 then (some (x407000, x407001, 2)) else (some (x407000, x407001, x407002)))
def impl_Group_apply.f (k : Nat) (l0_0 : List (S71)) (a0_1 : Int) (a0_2 : Int) (l1 : List (S48)) : Option ((List (S71)) × Int × Int) := impl_Group_apply.l0 k l1 (l1.length : Int) 0 l0_0 a0_1 a0_2
def impl_Group_apply.T4 : Bool × List (List Nat × List Nat) := (true, [([], []), ([], []), ([1], [1]), ([2], [2]), ([3], [3]), ([], []), ([5], [5]), ([6], [6]), ([4, 7], [4, 7]), ([0, 0, 1, 2, 3, 4, 5, 6, 7, 8], [0]), ([9, 0, 1, 2, 3, 4, 5, 6, 7, 8], [9]), ([10, 8, 8, 0, 1, 2, 3, 4, 5, 6, 7, 8], [8, 10])])
def impl_Group_apply.B4 : List Nat := [0, 0, 2, 6, 14, 0, 32, 96, 254, 511, 1023, 2047]
theorem impl_Group_apply.tab4 : rtab .any (opsOf Try.f26 4) = impl_Group_apply.T4 := by kernel_rfl
theorem impl_Group_apply.bits4 : waitsOk impl_Group_apply.T4.2 impl_Group_apply.B4 = true := by kernel_rfl
def impl_Group_apply.T5 : Bool × List (List Nat × List Nat) := (true, [([], []), ([], []), ([1], [1]), ([2], [2]), ([3], [3]), ([], []), ([5], [5]), ([6], [6]), ([], []), ([8], [8]), ([], []), ([10], [10]), ([], []), ([12], [12]), ([], []), ([14], [14]), ([15], [15]), ([7, 9, 11, 13, 16], [7, 9, 11, 13, 16]), ([4, 17], [4, 17]), ([0, 0, 1, 2, 3, 4, 5, 6, 7, 8, 9, 10, 11, 12, 13, 14, 15, 16, 17, 18], [0]), ([19, 0, 1, 2, 3, 4, 5, 6, 7, 8, 9, 10, 11, 12, 13, 14, 15, 16, 17, 18], [19]), ([20, 18, 18, 0, 1, 2, 3, 4, 5, 6, 7, 8, 9, 10, 11, 12, 13, 14, 15, 16, 17, 18], [18, 20])])
def impl_Group_apply.B5 : List Nat := [0, 0, 2, 6, 14, 0, 32, 96, 0, 256, 0, 1024, 0, 4096, 0, 16384, 49152, 131040, 262142, 524287, 1048575, 2097151]
theorem impl_Group_apply.tab5 : rtab .any (opsOf Try.f26 5) = impl_Group_apply.T5 := by kernel_rfl
theorem impl_Group_apply.bits5 : waitsOk impl_Group_apply.T5.2 impl_Group_apply.B5 = true := by kernel_rfl
set_option maxHeartbeats 80000000 in
set_option maxRecDepth 100000 in
theorem impl_Group_apply.calls (k : Nat) (gb406 : Nat) (u0 : Value) (l0_0 : List (S71)) (a0_1 a0_2 : Int) (Ao13 : Option Addr) (co13 : Nat) (y411 : List (S48)) (r1 : List (S71)) (r2 r3 : Int) (w0 w : World) (hB : Below w0.heap.size w0 w) (hge : w0.heap.size ≤ gb406) (hbk : w.heap[gb406]? = some (.cells #[u0, .int .i64 a0_1, .int .i64 a0_2] 30 (0, 0))) (ho0 : Kd.R k71 71 w w0.heap.size (fun _ => True) u0 l0_0) (ho1 : Kd.R k48 48 w w0.heap.size (fun _ => True) (.slice Ao13 y411.length co13) y411) (h : impl_Group_apply.f k l0_0 a0_1 a0_2 y411 = some (r1, r2, r3)) :
  Calls Try.prog 26 #[.pointer (some ⟨gb406, 0, none⟩), .slice Ao13 y411.length co13] w fun e w' => ∃ u_ : Value, e = .returned (.tuple #[]) ∧ Kd.R k71 71 w' w0.heap.size (fun _ => True) u_ r1 ∧ w'.heap[gb406]? = some (.cells #[u_, .int .i64 r2, .int .i64 r3] 30 (0, 0)) ∧ Below w0.heap.size w0 w' ∧ KeepBut w w' gb406 none := by
 have hu30 := Try.underlying30
 have hu48 := Try.underlying48
 have hu71 := Try.underlying71
 have HB := Aside0.mk hB
 have GE406 := Aside0.mk hge
 have BK406 := Aside0.mk hbk
 have HO0 := Aside0.mk ho0
 have HO1 := Aside0.mk ho1
 have HK := Aside0.mk (KeepBut.refl w gb406 none)
 clear hB hge hbk ho0 ho1
 have H' : Aside0 (impl_Group_apply.l0 k y411 (y411.length : Int) 0 l0_0 a0_1 a0_2 = some (r1, r2, r3)) := ⟨h⟩
 clear h
 go_enter Try.func26, Try.ntmps26
 go_wp2
 go_loopg [8] k (fun kq v8 w' => ∃ (x8_1 : Int) (x407000_1 : List (S71)) (u407000 : Value), v8 = .int .i64 x8_1 ∧ Aside0 (impl_Group_apply.l0 kq y411 (y411.length : Int) x8_1 x407000_1 a0_1 a0_2 = some (r1, r2, r3)) ∧ Aside0 (kq ≤ k) ∧ Aside0 (Kd.R k48 48 w' w0.heap.size (fun _ => True) (.slice Ao13 y411.length co13) y411) ∧ Aside0 (Kd.R k71 71 w' w0.heap.size (fun _ => True) u407000 x407000_1) ∧ Aside0 (w'.heap[gb406]? = some (.cells #[u407000, .int .i64 a0_1, .int .i64 a0_2] 30 (0, 0))) ∧ Aside0 (Below w0.heap.size w0 w') ∧ Aside0 (KeepBut w w' gb406 none))
 case atStart => exact ⟨(0), l0_0, u0, rs_, H', ⟨Nat.le_refl _⟩, ⟨rr_ HO1⟩, ⟨rr_ HO0⟩, ⟨bk_ BK406⟩, ⟨hz_ HB⟩, ⟨kz_ HK⟩⟩
 case round =>
  clear H'
  obtain ⟨x8_1, x407000_1, u407000, rfl, HA, HK1, HO_6, HO_407000, BK406, HB, HK⟩ := hrel
  cases gk with
  | zero => exact absurd HA.out (by simp [impl_Group_apply.l0])
  | succ k1 =>
   have H := HA.out
   clear HA
   simp only [impl_Group_apply.l0] at H
   by_cases c14 : x8_1 < (y411.length : Int)
   ·rw [if_pos c14] at H
    have c14b0 : decide (x8_1 < (y411.length : Int)) = true := decide_eq_true c14
    clear c14
    by_cases c15 : 0 ≤ x8_1
    ·rw [if_pos c15] at H
     have c15b0 : decide (0 ≤ x8_1) = true := decide_eq_true c15
     clear c15
     by_cases c16 : x8_1 < (y411.length : Int)
     ·rw [if_pos c16] at H
      have c16b0 : decide (x8_1 < (y411.length : Int)) = true := decide_eq_true c16
      clear c16
      by_cases c17 : ((rd_T48 y411 x8_1).f3.f0) = 2
      ·rw [if_pos c17] at H
       have c17b0 : (((rd_T48 y411 x8_1).f3.f0) == 2) = true := beq_iff_eq.mpr c17
       have c17b1 : (((rd_T48 y411 x8_1).f3.f0) != 2) = false := bne_eq_false_iff_eq.mpr c17
       clear c17
       replace H := Option.bind_eq_some_iff.mp H
       obtain ⟨t416, A180, H⟩ := H
       have A18 := Aside0.mk A180
       clear A180
       have H' := Aside0.mk H
       clear H
       have p414 : 0 ≤ (x8_1 : Int) := of_decide_eq_true as_
       have q414 : x8_1 < (y411.length : Int) := of_decide_eq_true as_
       obtain ⟨ad414, e414, hx414_0, hx414_1, hx414_2, hx414_3, hx414_4, hx414_5, hx414_6, hx414_7, hx414_8⟩ := at_T48 (Kd.R_reads' HO_6.out).2.2 x8_1 p414 q414
       cases e414
       replace p414 := eq_true p414
       replace q414 := eq_true q414
       try go_wp2_with (first | ((with_reducible refine gate_dst (N := 5) rfl ?_); refine box_event ?hg (N := 5) ?hd (cs := #[.int .i64 0, .int .i64 0, .int .i64 0, .int .i64 0, .int .i64 0, .string (⟨#[]⟩ : ByteArray), .string (⟨#[]⟩ : ByteArray), .int .i64 0, .int .i64 0]) (t := 48) ?hr ?_; (case hd => rfl); (case hg => rfl); (case hr => first | (go_simp; done) | (go_simp; rfl)); intro gb415 hg w19 hbox hb; replace HO_6 := Aside0.mk (Kd.R_below (Kd.R_elderB (rr_ HO_6) gb415 (Nat.le_of_eq hg.symm)) hb); replace HO_407000 := rb_ HO_407000 hb; have BK415 := Aside0.mk (hbox); have GW415 := gk_ hg HK; have GE415 := ge_ hg (hs_ HB GE406); replace HB := bt_ HB GE406 hb; have NB406_415 := nl_ BK406 hg; have NB415_406 := ng_ BK406 hg; replace BK406 := bb_ BK406 hb; replace HK := kw_ HK hb; clear hb hbox hg; have hnb20 := NB415_406.out; have hnc20 := NB406_415.out; obtain ⟨hcz22_0, hcz22_1, hcz22_2, hcz22_3, hcz22_4, hcz22_5, hcz22_6, hcz22_7, hcz22_8, hfz22_0, hfz22_1, hfz22_2, hfz22_3, hfz22_4, hfz22_5, hfz22_6, hfz22_7, hfz22_8⟩ := bc9_ BK415))
       generalize hW_ : (((((((((w19.setCell ⟨gb415, 0, none⟩ (.int .i64 ((rd_T48 y411 x8_1).f0))).setCell ⟨gb415, 1, none⟩ (.int .i64 ((rd_T48 y411 x8_1).f1))).setCell ⟨gb415, 2, none⟩ (.int .i64 ((rd_T48 y411 x8_1).f2))).setCell ⟨gb415, 3, none⟩ (.int .i64 ((rd_T48 y411 x8_1).f3.f0))).setCell ⟨gb415, 4, none⟩ (.int .i64 ((rd_T48 y411 x8_1).f3.f1))).setCell ⟨gb415, 5, none⟩ (.string ((rd_T48 y411 x8_1).f3.f2))).setCell ⟨gb415, 6, none⟩ (.string ((rd_T48 y411 x8_1).f3.f3))).setCell ⟨gb415, 7, none⟩ (.int .i64 ((rd_T48 y411 x8_1).f3.f4))).setCell ⟨gb415, 8, none⟩ (.int .i64 ((rd_T48 y411 x8_1).f3.f5))) = w23
       replace HO_6 := un_ (fun k_ => k_ ≠ gb415) HO_6 gb415 hW_
       replace HO_407000 := ur_ (fun _ => True) HO_407000 BK415 hW_
       replace BK406 := uf_ BK406 NB406_415 hW_
       replace BK415 := up_ #[.int .i64 ((rd_T48 y411 x8_1).f0), .int .i64 ((rd_T48 y411 x8_1).f1), .int .i64 ((rd_T48 y411 x8_1).f2), .int .i64 ((rd_T48 y411 x8_1).f3.f0), .int .i64 ((rd_T48 y411 x8_1).f3.f1), .string ((rd_T48 y411 x8_1).f3.f2), .string ((rd_T48 y411 x8_1).f3.f3), .int .i64 ((rd_T48 y411 x8_1).f3.f4), .int .i64 ((rd_T48 y411 x8_1).f3.f5)] BK415 hW_
       replace HB := us_ hW_ (hu_ HB GE406 GE415)
       replace HK := ks_ HK GW415 hW_
       clear hW_
       replace HO_6 := rd_ HO_6
       replace HO_407000 := rd_ HO_407000
       replace BK406 := bd_ BK406
       replace BK415 := bd_ BK415
       replace HB := hd_ HB
       replace HK := kd_ HK
       obtain ⟨Ao25, co25, eo25⟩ := Kd.R_slice HO_407000.out
       (first | subst eo25 | (injection eo25 with f1_ f2_ f3_; have f4_ := f1_.symm; have f5_ := f3_.symm; clear f1_ f2_ f3_; subst f4_; subst f5_))
       refine start_ (n := 12) (S := k3_ gb406 (.slice Ao25 x407000_1.length co25) (.int .i64 a0_1) (.int .i64 a0_2) (k9e_ gb415 (.int .i64 ((rd_T48 y411 x8_1).f0)) (.int .i64 ((rd_T48 y411 x8_1).f1)) (.int .i64 ((rd_T48 y411 x8_1).f2)) (.int .i64 ((rd_T48 y411 x8_1).f3.f0)) (.int .i64 ((rd_T48 y411 x8_1).f3.f1)) (.string ((rd_T48 y411 x8_1).f3.f2)) (.string ((rd_T48 y411 x8_1).f3.f3)) (.int .i64 ((rd_T48 y411 x8_1).f3.f4)) (.int .i64 ((rd_T48 y411 x8_1).f3.f5)))) (ds := [11]) (on_ 0 12) (by kernel_rfl) rfl rfl (p3_ BK406 (p9e_ BK415)) (fun hHeld => ?_); refine with_tabW impl_Group_apply.tab4 impl_Group_apply.bits4 (fun HT_ HW_ => ?_)
       generalize w23.drew = w24 at HO_6 HO_407000 BK406 BK415 HB HK hHeld ⊢
       refine pv_' 0 16 (on_ 1 11) rfl rfl HT_ ?_
       refine pv_' 1 17 (on_ 2 10) rfl rfl HT_ ?_
       refine pv_' 2 18 (on_ 3 9) rfl rfl HT_ ?_
       refine pv_' 3 19 (on_ 4 8) rfl rfl HT_ ?_
       refine pv_' 5 21 #[i',i',i',i',o',i',o',o',o',o',o',o'] rfl rfl HT_ ?_
       refine pv_' 6 22 #[i',i',i',i',o',i',i',o',o',o',o',o'] rfl rfl HT_ ?_
       refine take_ (i := 4) (N := some 20) (v := ?_) (a' := ?_) (on_ 7 5) rfl rfl (take_ofW HT_.out HW_.out (by kernel_rfl)) (fun _ _ _ h => h) (Or.inl ⟨by rfl, ?_⟩) hHeld ?_ ?_
       rotate_left
       ·rintro w' ⟨s0, s1, s2, s3, s4, s5, s6, s7, s8, s9, s10, s11⟩
        go_simp
        with_reducible rfl
       rotate_left
       ·simp only [Act.put, la_, lz_, ls_, i64_w, i32_w]
        rfl
       refine take_ (i := 7) (N := some 23) (v := ?_) (a' := ?_) (on_ 8 4) rfl rfl (take_ofW HT_.out HW_.out (by kernel_rfl)) (fun _ _ _ h => h) (Or.inl ⟨by rfl, ?_⟩) hHeld ?_ ?_
       rotate_left
       ·rintro w' ⟨s0, s1, s2, s3, s4, s5, s6, s7, s8, s9, s10, s11⟩
        go_simp
        with_reducible rfl
       rotate_left
       ·simp only [Act.put, la_, lz_, ls_, i64_w, i32_w]
        rfl
       refine one_ (i := 8) (N := some 24) (on_ 9 3) rfl rfl (one_of HT_.out (by kernel_rfl)) (by decide) (fun K hK => ?_)
       refine goes_ Try.func41 (by kernel_rfl) rfl #[.slice Ao25 x407000_1.length co25, .string ((rd_T48 y411 x8_1).f3.f2)] (by rfl) rfl rfl ar_ ?_
       with_reducible refine (impl_DirDrop.calls k1 _ _ x407000_1 ((rd_T48 y411 x8_1).f3.f2) t416 _ ?side1 ?side2 A18.out).mono ?_
       (case side1 => repeat (first | exact (Kd.R_reads' HO_407000.out).2.2 | (with_reducible refine Kd.C_alloc ?_ _) | (with_reducible refine Kd.C_drewN ?_ _) | (with_reducible refine Kd.C_drew ?_)))
       (case side2 => exact (Kd.R_reads' HO_407000.out).2.1)
       rintro e w26 ⟨v417, rfl, ho0, hb⟩
       refine ⟨_, rfl, ?_⟩
       replace HO_6 := rb_ HO_6 hb
       have HO418 := Aside0.mk (Kd.R_lower (Kd.R_new' ho0 (Kd.R_lt (rr_ HO_407000))) (below_size (hu_ HB GE406 GE415)))
       replace HO_407000 := Aside0.mk (Kd.R_elder' (rr_ HO_407000) (Kd.R_base ho0) hb)
       replace BK406 := bb_ BK406 hb
       replace BK415 := bb_ BK415 hb
       replace HB := Aside0.mk (below_step (hu_ HB GE406 GE415) hb)
       replace HK := kw_ HK hb
       (try clear hb)
       (try clear hb2)
       (try clear hk)
       (try clear hi)
       (try clear ho0)
       obtain ⟨Ao27, co27, eo27⟩ := Kd.R_slice HO418.out
       (first | subst eo27 | (injection eo27 with f1_ f2_ f3_; have f4_ := f1_.symm; have f5_ := f3_.symm; clear f1_ f2_ f3_; subst f4_; subst f5_))
       refine hK.out _ _ (p3_ BK406 (p9e_ BK415)) (fun hHeld => ?_)
       clear hK K
       refine norm_ (a' := ?_) ?_ ?_
       rotate_left
       ·show Act.put _ (some 24) _ = _
        simp only [Act.put, la_, lz_, ls_, i64_w, i32_w]
        rfl
       refine pv_' 9 25 (on_ 10 2) rfl rfl HT_ ?_
       refine pv_' 10 26 (on_ 11 1) rfl rfl HT_ ?_
       refine last_ (i := 11) (N := none) (on_ 12 0) rfl rfl (one_of HT_.out (by kernel_rfl)) (by decide) (fun K hK => ?_)
       have hs28 : w26.cell? ⟨gb406, 0, none⟩ = some (.slice Ao25 x407000_1.length co25) := (blk_cell BK406.out 0).trans rfl
       have hfs28 := blk_frozen BK406.out 0
       have hns28_2 := NB415_406.out
       have hms28_2 := NB406_415.out
       refine skip_ (w1 := ?_) (by rfl) rfl ?_ ?_
       rotate_left
       ·go_simp
        rfl
       refine hK.out _ _ ?_
       clear hK K
       refine done_ (done_of HT_.out (by kernel_rfl)) ?_
       try go_wp2
       go_roundg k1
       case measure => have := HK1.out; first | exact this | exact Nat.le_of_succ_le this | exact Nat.le_refl _ | omega
       case rel => exact ⟨(wrap64 (x8_1 + 1)), (t416), (.slice Ao27 t416.length co27), rs_, H', ⟨by have := HK1.out; first | exact this | exact Nat.le_of_succ_le this | exact Nat.le_refl _ | omega⟩, ⟨by (with_reducible repeat (first | apply Kd.R_alloc | apply Kd.R_drewN | apply Kd.R_drew)); exact Kd.R_mono (Kd.R_far (p := ⟨gb406, 0, none⟩) (Kd.R_types HO_6.out BK406.out (by decide)) (fun _ hk => hk.2) (.slice Ao27 t416.length co27)) (fun _ hk => trivial)⟩, ⟨by (with_reducible repeat (first | apply Kd.R_alloc | apply Kd.R_drewN | apply Kd.R_drew)); exact Kd.R_mono (Kd.R_far (p := ⟨gb406, 0, none⟩) (Kd.R_types HO418.out BK406.out (by decide)) (fun _ hk => hk.2) (.slice Ao27 t416.length co27)) (fun _ hk => trivial)⟩, ⟨uq_ BK406 fun h_ => ⟨_, ua_, ub_⟩⟩, ⟨hz_ HB⟩, ⟨kz_ HK⟩⟩
      ·rw [if_neg c17] at H
       have c17b0 : (((rd_T48 y411 x8_1).f3.f0) == 2) = false := beq_eq_false_iff_ne.mpr c17
       have c17b1 : (((rd_T48 y411 x8_1).f3.f0) != 2) = true := bne_iff_ne.mpr c17
       replace H := Option.bind_eq_some_iff.mp H
       obtain ⟨t419, A290, H⟩ := H
       have A29 := Aside0.mk A290
       clear A290
       have H' := Aside0.mk H
       clear H
       have p414 : 0 ≤ (x8_1 : Int) := of_decide_eq_true as_
       have q414 : x8_1 < (y411.length : Int) := of_decide_eq_true as_
       obtain ⟨ad414, e414, hx414_0, hx414_1, hx414_2, hx414_3, hx414_4, hx414_5, hx414_6, hx414_7, hx414_8⟩ := at_T48 (Kd.R_reads' HO_6.out).2.2 x8_1 p414 q414
       cases e414
       replace p414 := eq_true p414
       replace q414 := eq_true q414
       try go_wp2_with (first | ((with_reducible refine gate_dst (N := 5) rfl ?_); refine box_event ?hg (N := 5) ?hd (cs := #[.int .i64 0, .int .i64 0, .int .i64 0, .int .i64 0, .int .i64 0, .string (⟨#[]⟩ : ByteArray), .string (⟨#[]⟩ : ByteArray), .int .i64 0, .int .i64 0]) (t := 48) ?hr ?_; (case hd => rfl); (case hg => rfl); (case hr => first | (go_simp; done) | (go_simp; rfl)); intro gb415 hg w30 hbox hb; replace HO_6 := Aside0.mk (Kd.R_below (Kd.R_elderB (rr_ HO_6) gb415 (Nat.le_of_eq hg.symm)) hb); replace HO_407000 := rb_ HO_407000 hb; have BK415 := Aside0.mk (hbox); have GW415 := gk_ hg HK; have GE415 := ge_ hg (hs_ HB GE406); replace HB := bt_ HB GE406 hb; have NB406_415 := nl_ BK406 hg; have NB415_406 := ng_ BK406 hg; replace BK406 := bb_ BK406 hb; replace HK := kw_ HK hb; clear hb hbox hg; have hnb31 := NB415_406.out; have hnc31 := NB406_415.out; obtain ⟨hcz33_0, hcz33_1, hcz33_2, hcz33_3, hcz33_4, hcz33_5, hcz33_6, hcz33_7, hcz33_8, hfz33_0, hfz33_1, hfz33_2, hfz33_3, hfz33_4, hfz33_5, hfz33_6, hfz33_7, hfz33_8⟩ := bc9_ BK415))
       generalize hW_ : (((((((((w30.setCell ⟨gb415, 0, none⟩ (.int .i64 ((rd_T48 y411 x8_1).f0))).setCell ⟨gb415, 1, none⟩ (.int .i64 ((rd_T48 y411 x8_1).f1))).setCell ⟨gb415, 2, none⟩ (.int .i64 ((rd_T48 y411 x8_1).f2))).setCell ⟨gb415, 3, none⟩ (.int .i64 ((rd_T48 y411 x8_1).f3.f0))).setCell ⟨gb415, 4, none⟩ (.int .i64 ((rd_T48 y411 x8_1).f3.f1))).setCell ⟨gb415, 5, none⟩ (.string ((rd_T48 y411 x8_1).f3.f2))).setCell ⟨gb415, 6, none⟩ (.string ((rd_T48 y411 x8_1).f3.f3))).setCell ⟨gb415, 7, none⟩ (.int .i64 ((rd_T48 y411 x8_1).f3.f4))).setCell ⟨gb415, 8, none⟩ (.int .i64 ((rd_T48 y411 x8_1).f3.f5))) = w34
       replace HO_6 := un_ (fun k_ => k_ ≠ gb415) HO_6 gb415 hW_
       replace HO_407000 := ur_ (fun _ => True) HO_407000 BK415 hW_
       replace BK406 := uf_ BK406 NB406_415 hW_
       replace BK415 := up_ #[.int .i64 ((rd_T48 y411 x8_1).f0), .int .i64 ((rd_T48 y411 x8_1).f1), .int .i64 ((rd_T48 y411 x8_1).f2), .int .i64 ((rd_T48 y411 x8_1).f3.f0), .int .i64 ((rd_T48 y411 x8_1).f3.f1), .string ((rd_T48 y411 x8_1).f3.f2), .string ((rd_T48 y411 x8_1).f3.f3), .int .i64 ((rd_T48 y411 x8_1).f3.f4), .int .i64 ((rd_T48 y411 x8_1).f3.f5)] BK415 hW_
       replace HB := us_ hW_ (hu_ HB GE406 GE415)
       replace HK := ks_ HK GW415 hW_
       clear hW_
       replace HO_6 := rd_ HO_6
       replace HO_407000 := rd_ HO_407000
       replace BK406 := bd_ BK406
       replace BK415 := bd_ BK415
       replace HB := hd_ HB
       replace HK := kd_ HK
       obtain ⟨Ao36, co36, eo36⟩ := Kd.R_slice HO_407000.out
       (first | subst eo36 | (injection eo36 with f1_ f2_ f3_; have f4_ := f1_.symm; have f5_ := f3_.symm; clear f1_ f2_ f3_; subst f4_; subst f5_))
       refine start_ (n := 22) (S := k3_ gb406 (.slice Ao36 x407000_1.length co36) (.int .i64 a0_1) (.int .i64 a0_2) (k9e_ gb415 (.int .i64 ((rd_T48 y411 x8_1).f0)) (.int .i64 ((rd_T48 y411 x8_1).f1)) (.int .i64 ((rd_T48 y411 x8_1).f2)) (.int .i64 ((rd_T48 y411 x8_1).f3.f0)) (.int .i64 ((rd_T48 y411 x8_1).f3.f1)) (.string ((rd_T48 y411 x8_1).f3.f2)) (.string ((rd_T48 y411 x8_1).f3.f3)) (.int .i64 ((rd_T48 y411 x8_1).f3.f4)) (.int .i64 ((rd_T48 y411 x8_1).f3.f5)))) (ds := [21]) (on_ 0 22) (by kernel_rfl) rfl rfl (p3_ BK406 (p9e_ BK415)) (fun hHeld => ?_); refine with_tabW impl_Group_apply.tab5 impl_Group_apply.bits5 (fun HT_ HW_ => ?_)
       generalize w34.drew = w35 at HO_6 HO_407000 BK406 BK415 HB HK hHeld ⊢
       refine pv_' 0 27 (on_ 1 21) rfl rfl HT_ ?_
       refine pv_' 1 28 (on_ 2 20) rfl rfl HT_ ?_
       refine pv_' 2 29 (on_ 3 19) rfl rfl HT_ ?_
       refine pv_' 3 30 (on_ 4 18) rfl rfl HT_ ?_
       refine pv_' 5 32 #[i',i',i',i',o',i',o',o',o',o',o',o',o',o',o',o',o',o',o',o',o',o'] rfl rfl HT_ ?_
       refine pv_' 6 33 #[i',i',i',i',o',i',i',o',o',o',o',o',o',o',o',o',o',o',o',o',o',o'] rfl rfl HT_ ?_
       refine pv_' 8 35 #[i',i',i',i',o',i',i',o',i',o',o',o',o',o',o',o',o',o',o',o',o',o'] rfl rfl HT_ ?_
       refine pv_' 10 37 #[i',i',i',i',o',i',i',o',i',o',i',o',o',o',o',o',o',o',o',o',o',o'] rfl rfl HT_ ?_
       refine pv_' 12 39 #[i',i',i',i',o',i',i',o',i',o',i',o',i',o',o',o',o',o',o',o',o',o'] rfl rfl HT_ ?_
       refine pv_' 14 41 #[i',i',i',i',o',i',i',o',i',o',i',o',i',o',i',o',o',o',o',o',o',o'] rfl rfl HT_ ?_
       refine pv_' 15 42 #[i',i',i',i',o',i',i',o',i',o',i',o',i',o',i',i',o',o',o',o',o',o'] rfl rfl HT_ ?_
       refine take_ (i := 4) (N := some 31) (v := ?_) (a' := ?_) #[i',i',i',i',i',i',i',o',i',o',i',o',i',o',i',i',o',o',o',o',o',o'] rfl rfl (take_ofW HT_.out HW_.out (by kernel_rfl)) (fun _ _ _ h => h) (Or.inl ⟨by rfl, ?_⟩) hHeld ?_ ?_
       rotate_left
       ·rintro w' ⟨s0, s1, s2, s3, s4, s5, s6, s7, s8, s9, s10, s11⟩
        go_simp
        with_reducible rfl
       rotate_left
       ·simp only [Act.put, la_, lz_, ls_, i64_w, i32_w]
        rfl
       refine take_ (i := 7) (N := some 34) (v := ?_) (a' := ?_) #[i',i',i',i',i',i',i',i',i',o',i',o',i',o',i',i',o',o',o',o',o',o'] rfl rfl (take_ofW HT_.out HW_.out (by kernel_rfl)) (fun _ _ _ h => h) (Or.inl ⟨by rfl, ?_⟩) hHeld ?_ ?_
       rotate_left
       ·rintro w' ⟨s0, s1, s2, s3, s4, s5, s6, s7, s8, s9, s10, s11⟩
        go_simp
        with_reducible rfl
       rotate_left
       ·simp only [Act.put, la_, lz_, ls_, i64_w, i32_w]
        rfl
       refine take_ (i := 9) (N := some 36) (v := ?_) (a' := ?_) #[i',i',i',i',i',i',i',i',i',i',i',o',i',o',i',i',o',o',o',o',o',o'] rfl rfl (take_ofW HT_.out HW_.out (by kernel_rfl)) (fun _ _ _ h => h) (Or.inl ⟨by rfl, ?_⟩) hHeld ?_ ?_
       rotate_left
       ·rintro w' ⟨s0, s1, s2, s3, s4, s5, s6, s7, s8, s9, s10, s11⟩
        go_simp
        with_reducible rfl
       rotate_left
       ·simp only [Act.put, la_, lz_, ls_, i64_w, i32_w]
        rfl
       refine take_ (i := 11) (N := some 38) (v := ?_) (a' := ?_) #[i',i',i',i',i',i',i',i',i',i',i',i',i',o',i',i',o',o',o',o',o',o'] rfl rfl (take_ofW HT_.out HW_.out (by kernel_rfl)) (fun _ _ _ h => h) (Or.inl ⟨by rfl, ?_⟩) hHeld ?_ ?_
       rotate_left
       ·rintro w' ⟨s0, s1, s2, s3, s4, s5, s6, s7, s8, s9, s10, s11⟩
        go_simp
        with_reducible rfl
       rotate_left
       ·simp only [Act.put, la_, lz_, ls_, i64_w, i32_w]
        rfl
       refine take_ (i := 13) (N := some 40) (v := ?_) (a' := ?_) (on_ 16 6) rfl rfl (take_ofW HT_.out HW_.out (by kernel_rfl)) (fun _ _ _ h => h) (Or.inl ⟨by rfl, ?_⟩) hHeld ?_ ?_
       rotate_left
       ·rintro w' ⟨s0, s1, s2, s3, s4, s5, s6, s7, s8, s9, s10, s11⟩
        go_simp
        with_reducible rfl
       rotate_left
       ·simp only [Act.put, la_, lz_, ls_, i64_w, i32_w]
        rfl
       refine take_ (i := 16) (N := some 43) (v := ?_) (a' := ?_) (on_ 17 5) rfl rfl (take_ofW HT_.out HW_.out (by kernel_rfl)) (fun _ _ _ h => h) (Or.inl ⟨by rfl, ?_⟩) hHeld ?_ ?_
       rotate_left
       ·rintro w' ⟨s0, s1, s2, s3, s4, s5, s6, s7, s8, s9, s10, s11⟩
        go_simp
        with_reducible rfl
       rotate_left
       ·simp only [Act.put, la_, lz_, ls_, i64_w, i32_w]
        rfl
       refine pv_' 17 44 (on_ 18 4) rfl rfl HT_ ?_
       refine one_ (i := 18) (N := some 45) (on_ 19 3) rfl rfl (one_of HT_.out (by kernel_rfl)) (by decide) (fun K hK => ?_)
       refine goes_ Try.func42 (by kernel_rfl) rfl #[.slice Ao36 x407000_1.length co36, .agg #[.string ((rd_T48 y411 x8_1).f3.f2), .int .i64 ((rd_T48 y411 x8_1).f0), .int .i64 ((rd_T48 y411 x8_1).f1), .int .i64 ((rd_T48 y411 x8_1).f2), .int .i64 ((rd_T48 y411 x8_1).f3.f1)]] (by rfl) rfl rfl ar_ ?_
       with_reducible refine (impl_DirPut.calls k1 _ _ x407000_1 ((rd_T48 y411 x8_1).f3.f2) ((rd_T48 y411 x8_1).f0) ((rd_T48 y411 x8_1).f1) ((rd_T48 y411 x8_1).f2) ((rd_T48 y411 x8_1).f3.f1) t419 _ ?side1 ?side2 A29.out).mono ?_
       (case side1 => repeat (first | exact (Kd.R_reads' HO_407000.out).2.2 | (with_reducible refine Kd.C_alloc ?_ _) | (with_reducible refine Kd.C_drewN ?_ _) | (with_reducible refine Kd.C_drew ?_)))
       (case side2 => exact (Kd.R_reads' HO_407000.out).2.1)
       rintro e w37 ⟨v420, rfl, ho0, hb⟩
       refine ⟨_, rfl, ?_⟩
       replace HO_6 := rb_ HO_6 hb
       have HO421 := Aside0.mk (Kd.R_lower (Kd.R_new' ho0 (Kd.R_lt (rr_ HO_407000))) (below_size (hu_ HB GE406 GE415)))
       replace HO_407000 := Aside0.mk (Kd.R_elder' (rr_ HO_407000) (Kd.R_base ho0) hb)
       replace BK406 := bb_ BK406 hb
       replace BK415 := bb_ BK415 hb
       replace HB := Aside0.mk (below_step (hu_ HB GE406 GE415) hb)
       replace HK := kw_ HK hb
       (try clear hb)
       (try clear hb2)
       (try clear hk)
       (try clear hi)
       (try clear ho0)
       obtain ⟨Ao38, co38, eo38⟩ := Kd.R_slice HO421.out
       (first | subst eo38 | (injection eo38 with f1_ f2_ f3_; have f4_ := f1_.symm; have f5_ := f3_.symm; clear f1_ f2_ f3_; subst f4_; subst f5_))
       refine hK.out _ _ (p3_ BK406 (p9e_ BK415)) (fun hHeld => ?_)
       clear hK K
       refine norm_ (a' := ?_) ?_ ?_
       rotate_left
       ·show Act.put _ (some 45) _ = _
        simp only [Act.put, la_, lz_, ls_, i64_w, i32_w]
        rfl
       refine pv_' 19 46 (on_ 20 2) rfl rfl HT_ ?_
       refine pv_' 20 47 (on_ 21 1) rfl rfl HT_ ?_
       refine last_ (i := 21) (N := none) (on_ 22 0) rfl rfl (one_of HT_.out (by kernel_rfl)) (by decide) (fun K hK => ?_)
       have hs39 : w37.cell? ⟨gb406, 0, none⟩ = some (.slice Ao36 x407000_1.length co36) := (blk_cell BK406.out 0).trans rfl
       have hfs39 := blk_frozen BK406.out 0
       have hns39_2 := NB415_406.out
       have hms39_2 := NB406_415.out
       refine skip_ (w1 := ?_) (by rfl) rfl ?_ ?_
       rotate_left
       ·go_simp
        rfl
       refine hK.out _ _ ?_
       clear hK K
       refine done_ (done_of HT_.out (by kernel_rfl)) ?_
       try go_wp2
       go_roundg k1
       case measure => have := HK1.out; first | exact this | exact Nat.le_of_succ_le this | exact Nat.le_refl _ | omega
       case rel => exact ⟨(wrap64 (x8_1 + 1)), (t419), (.slice Ao38 t419.length co38), rs_, H', ⟨by have := HK1.out; first | exact this | exact Nat.le_of_succ_le this | exact Nat.le_refl _ | omega⟩, ⟨by (with_reducible repeat (first | apply Kd.R_alloc | apply Kd.R_drewN | apply Kd.R_drew)); exact Kd.R_mono (Kd.R_far (p := ⟨gb406, 0, none⟩) (Kd.R_types HO_6.out BK406.out (by decide)) (fun _ hk => hk.2) (.slice Ao38 t419.length co38)) (fun _ hk => trivial)⟩, ⟨by (with_reducible repeat (first | apply Kd.R_alloc | apply Kd.R_drewN | apply Kd.R_drew)); exact Kd.R_mono (Kd.R_far (p := ⟨gb406, 0, none⟩) (Kd.R_types HO421.out BK406.out (by decide)) (fun _ hk => hk.2) (.slice Ao38 t419.length co38)) (fun _ hk => trivial)⟩, ⟨uq_ BK406 fun h_ => ⟨_, ua_, ub_⟩⟩, ⟨hz_ HB⟩, ⟨kz_ HK⟩⟩
     ·rw [if_neg c16] at H
      exact absurd H (by simp)
    ·rw [if_neg c15] at H
     exact absurd H (by simp)
   ·rw [if_neg c14] at H
    have c14b0 : decide (x8_1 < (y411.length : Int)) = false := decide_eq_false c14
    clear c14
    by_cases c40 : (x407000_1.length : Int) > 20
    ·rw [if_pos c40] at H
     have c40b0 : decide (20 < (x407000_1.length : Int)) = true := decide_eq_true c40
     have c40b1 : decide (20 < x407000_1.length) = true := decide_eq_true (by omega)
     clear c40
     simp only [Option.some.injEq, Prod.mk.injEq] at H
     obtain ⟨rfl, rfl, rfl⟩ := H
     obtain ⟨hcz42_0, hcz42_1, hcz42_2, hfz42_0, hfz42_1, hfz42_2⟩ := bc3_ BK406
     obtain ⟨Ao43, co43, eo43⟩ := Kd.R_slice HO_407000.out
     subst eo43
     go_wp2
     refine bodyPost_end (results_none rfl _ _ _) rfl ?_
     exact ⟨rfl, _, by (with_reducible repeat (first | apply Kd.R_alloc | apply Kd.R_drewN | apply Kd.R_drew)); exact Kd.R_mono (Kd.R_far (p := ⟨gb406, 2, none⟩) (Kd.R_types HO_407000.out BK406.out (by decide)) (fun _ hk => hk.2) (.int .i64 2)) (fun _ hk => trivial), uq_ BK406 fun h_ => ⟨_, ua_, ub_⟩, hs_ HB GE406, kz_ HK⟩
    ·rw [if_neg c40] at H
     have c40b0 : decide (20 < (x407000_1.length : Int)) = false := decide_eq_false c40
     have c40b1 : decide (20 < x407000_1.length) = false := decide_eq_false (by omega)
     clear c40
     simp only [Option.some.injEq, Prod.mk.injEq] at H
     obtain ⟨rfl, rfl, rfl⟩ := H
     obtain ⟨hcz46_0, hcz46_1, hcz46_2, hfz46_0, hfz46_1, hfz46_2⟩ := bc3_ BK406
     obtain ⟨Ao47, co47, eo47⟩ := Kd.R_slice HO_407000.out
     subst eo47
     go_wp2
     refine bodyPost_end (results_none rfl _ _ _) rfl ?_
     exact ⟨rfl, _, rr_ HO_407000, bk_ BK406, hs_ HB GE406, kz_ HK⟩

end Go.Proofs.Ytcnmdjibogojnaa.PFnExactRegroup
