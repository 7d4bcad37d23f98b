-- Laid by a program of this session, a copy of the kit's printer with additions (wip/patch_print.py): myhead. Lean checks it.
import Derived.Test.YtcnmdjibogojnaaPFnExactRegroupx0
import Derived.Test.YtcnmdjibogojnaaPFnExactRegroupx10
import Derived.Test.YtcnmdjibogojnaaPFnExactRegroupx16
namespace Go.Proofs.Ytcnmdjibogojnaa.PFnExactRegroup
open Go.RowKit Go.Proofs.YtcnmdjibogojnaaW.PrintWords Go.Proofs.YtcnmdjibogojnaaW.PrintLast Go.Proofs.YtcnmdjibogojnaaW.PrintMore
theorem bl_swq5035 : ∀ x y : List UInt8, (Op.bytesLess x y || x == y) = !(Op.bytesLess y x)
 | [], [] => by simp [Op.bytesLess]
 | [], _ :: _ => by simp [Op.bytesLess]
 | _ :: _, [] => by simp [Op.bytesLess]
 | a :: x, b :: y => by
  have ih := bl_swq5035 x y
  by_cases e : a = b
  ·subst e
   simp only [Op.bytesLess, List.cons_beq_cons, BEq.rfl, Bool.true_and, UInt8.lt_irrefl, decide_false, Bool.false_or]
   exact ih
  ·have e' : ¬ b = a := fun h => e h.symm
   have h1 : (a == b) = false := by simpa using e
   have h2 : (b == a) = false := by simpa using e'
   simp only [Op.bytesLess, List.cons_beq_cons, h1, h2, Bool.false_and, Bool.or_false]
   by_cases l : a < b
   ·have : ¬ b < a := fun h => UInt8.lt_asymm h l
    simp [l, this]
   ·have : b < a := UInt8.lt_of_le_of_ne (UInt8.not_lt.1 l) e'
    simp [l, this]
theorem bl_leqq5035 (t : TypeId) (a b : ByteArray) : binOp .leq t (.string a) (.string b) = pure (.bool (!(Op.bytesLess b.toList a.toList))) := by simp only [binOp, Op.stringOp, bl_swq5035]
theorem bl_gtrq5035 (t : TypeId) (a b : ByteArray) : binOp .gtr t (.string a) (.string b) = pure (.bool (Op.bytesLess b.toList a.toList)) := by simp only [binOp, Op.stringOp, bl_swq5035, Bool.not_not]
theorem bl_geqq5035 (t : TypeId) (a b : ByteArray) : binOp .geq t (.string a) (.string b) = pure (.bool (!(Op.bytesLess a.toList b.toList))) := by simp only [binOp, Op.stringOp]
attribute [local go_sem] bl_leqq5035 bl_gtrq5035 bl_geqq5035
attribute [local go_sem] max2_int min2_int max_two min_two max_three min_three max_four min_four   -- for this text's walks alone
set_option linter.unusedVariables false
set_option linter.unusedSimpArgs false

/-! ### impl_DirPut: function 42 -/
def impl_DirPut.l0 : Nat → List (S71) → Int → ByteArray → Int → Int → Int → Int → Option ((List (S71)))
 | 0, _, _, _, _, _, _, _ => none
 | k + 1, x5, x6, x362000, x362001, x362002, x362003, x362004 => if x6 < (x5.length : Int) then (if 0 ≤ x6 then (if ((Op.bytesLess x362000.toList (((rd_T71 x5 x6).f0).toList)) = true) then (if x6 ≤ (x5.length : Int) then ((impl_copyDir.f (x5.take (x6 : Int).toNat)).bind fun t370 => ((some (([(⟨x362000, x362001, x362002, x362003, x362004⟩ : S71)] : List (S71)) : List (S71))).bind fun y373 => (if t370.length + y373.length < 2932031007402 then ((some (t370 ++ y373 : List (S71))).bind fun y376 => ((some (x5.drop (x6 : Int).toNat : List (S71))).bind fun y379 => (if y376.length + y379.length < 2932031007402 then (some (y376 ++ y379)) else (none)))) else (none)))) else (none)) else (impl_DirPut.l0 k x5 (wrap64 (x6 + 1)) x362000 x362001 x362002 x362003 x362004)) else (none)) else (if 0 ≤ x6 then (if x6 ≤ (x5.length : Int) then ((impl_copyDir.f (x5.take (x6 : Int).toNat)).bind fun t390 => ((some (([(⟨x362000, x362001, x362002, x362003, x362004⟩ : S71)] : List (S71)) : List (S71))).bind fun y393 => (if t390.length + y393.length < 2932031007402 then ((some (t390 ++ y393 : List (S71))).bind fun y396 => ((some (x5.drop (x6 : Int).toNat : List (S71))).bind fun y399 => (if y396.length + y399.length < 2932031007402 then (some (y396 ++ y399)) else (none)))) else (none)))) else (none)) else (none))
def impl_DirPut.f (k : Nat) (l0 : List (S71)) (a1_0 : ByteArray) (a1_1 : Int) (a1_2 : Int) (a1_3 : Int) (a1_4 : Int) : Option ((List (S71))) := (impl_DirDrop.f k l0 a1_0).bind fun t362 => (impl_DirPut.l0 k t362 0 a1_0 a1_1 a1_2 a1_3 a1_4)
def impl_DirPut.T3 : Bool × List (List Nat × List Nat) := (true, [([], []), ([], []), ([1], [1]), ([0, 2], [0, 2]), ([3], [3]), ([4], [4]), ([4], [4]), ([5, 6, 4], [4, 5, 6]), ([7, 4], [4, 7]), ([8, 4], [4, 8]), ([4], [4]), ([10, 4], [4, 10]), ([9, 11, 4], [4, 9, 11]), ([4, 12], [4, 12])])
def impl_DirPut.B3 : List Nat := [0, 0, 2, 7, 15, 31, 31, 127, 255, 511, 31, 1055, 4095, 8191]
theorem impl_DirPut.tab3 : rtab .any (opsOf Try.f42 3) = impl_DirPut.T3 := by kernel_rfl
theorem impl_DirPut.bits3 : waitsOk impl_DirPut.T3.2 impl_DirPut.B3 = true := by kernel_rfl
def impl_DirPut.T5 : Bool × List (List Nat × List Nat) := (true, [([], []), ([], []), ([0, 1], [0, 1]), ([2], [2]), ([], []), ([4], [4]), ([3, 5, 3], [3, 5]), ([], []), ([], []), ([7, 8], [7, 8]), ([6, 9, 6], [6, 9]), ([10, 10, 0, 1, 2, 3, 4, 5, 6, 7, 8, 9, 10], [10])])
def impl_DirPut.B5 : List Nat := [0, 0, 3, 7, 0, 16, 63, 0, 0, 384, 1023, 2047]
theorem impl_DirPut.tab5 : rtab .any (opsOf Try.f42 5) = impl_DirPut.T5 := by kernel_rfl
theorem impl_DirPut.bits5 : waitsOk impl_DirPut.T5.2 impl_DirPut.B5 = true := by kernel_rfl
set_option maxHeartbeats 80000000 in
set_option maxRecDepth 100000 in
theorem impl_DirPut.calls (k : Nat) (A0 : Option Addr) (c0 : Nat) (l0 : List (S71)) (a1_0 : ByteArray) (a1_1 : Int) (a1_2 : Int) (a1_3 : Int) (a1_4 : Int) (r : List (S71)) (w : World) (hr0 : Kd.C k71 w A0 l0.length l0) (hc0 : l0.length ≤ c0) (h : impl_DirPut.f k l0 a1_0 a1_1 a1_2 a1_3 a1_4 = some r) :
  Calls Try.prog 42 #[.slice A0 l0.length c0, .agg #[.string a1_0, .int .i64 a1_1, .int .i64 a1_2, .int .i64 a1_3, .int .i64 a1_4]] w fun e w' => ∃ v0_ : Value, e = .returned (v0_) ∧ Kd.R k71 71 w' w.heap.size (fun _ => True) v0_ r ∧ Below w.heap.size w w' := by
 have hu71 := Try.underlying71
 have HR0 := Aside0.mk hr0
 have HC0 := Aside0.mk hc0
 clear hr0 hc0
 have HB := Aside0.mk (Below.refl w.heap.size w)
 unfold impl_DirPut.f at h; have H := h
 clear h
 replace H := Option.bind_eq_some_iff.mp H
 obtain ⟨t362, A30, H⟩ := H
 have A3 := Aside0.mk A30
 clear A30
 have H' := Aside0.mk H
 clear H
 go_enter Try.func42, Try.ntmps42
 go_wp2_with (first | ((with_reducible refine gate_dst (N := 3) rfl ?_); refine box_event ?hg (N := 3) ?hd (cs := #[.string a1_0, .int .i64 a1_1, .int .i64 a1_2, .int .i64 a1_3, .int .i64 a1_4]) (t := 71) ?hr ?_; (case hd => rfl); (case hg => rfl); (case hr => first | (go_simp; done) | (go_simp; rfl)); intro gb361 hg w4 hbox hb; have BK361 := Aside0.mk (hbox); have GE361 := ge_ hg (hb_ HB); replace HB := bs_ HB hb; clear hb hbox hg; obtain ⟨hcz5_0, hcz5_1, hcz5_2, hcz5_3, hcz5_4, hfz5_0, hfz5_1, hfz5_2, hfz5_3, hfz5_4⟩ := bc5_ BK361) | ((with_reducible refine gate_callee (f := 41) rfl ?_); refine goesL_ (some 10) rfl rfl Try.func41 (by kernel_rfl) rfl #[.slice A0 l0.length c0, .string a1_0] rfl ar_ ?_; (with_reducible refine (impl_DirDrop.calls k _ _ l0 a1_0 t362 _ ?side1 ?side2 A3.out).mono ?_); (case side1 => repeat (first | exact (Kd.C_below HR0.out HB.out) | (with_reducible refine Kd.C_alloc ?_ _) | (with_reducible refine Kd.C_drewN ?_ _) | (with_reducible refine Kd.C_drew ?_))); (case side2 => exact HC0.out); rintro e w6 ⟨v363, rfl, ho0, hb⟩; refine ⟨_, rfl, ?_⟩; have HO364 := Aside0.mk (Kd.R_lower (Kd.R_newB ho0 (g := gb361) (o := .cells #[.string a1_0, .int .i64 a1_1, .int .i64 a1_2, .int .i64 a1_3, .int .i64 a1_4] 71 (0, 0)) (bk_ BK361)) (below_size (hs_ HB GE361))); replace BK361 := bb_ BK361 hb; replace HB := bt_ HB GE361 hb; (try clear hb); (try clear hb2); (try clear hk); (try clear hi); (try clear ho0)))
 go_loopg [6] k (fun kq v6 w' => ∃ (x6_1 : Int), v6 = .int .i64 x6_1 ∧ Aside0 (impl_DirPut.l0 kq t362 x6_1 a1_0 a1_1 a1_2 a1_3 a1_4 = some r) ∧ Aside0 (kq ≤ k) ∧ Aside0 (Kd.R k71 71 w' w.heap.size (fun k_ => k_ ≠ gb361) v363 t362) ∧ Aside0 (w'.heap[gb361]? = some (.cells #[.string a1_0, .int .i64 a1_1, .int .i64 a1_2, .int .i64 a1_3, .int .i64 a1_4] 71 (0, 0))) ∧ Aside0 (Below w.heap.size w w'))
 case atStart => exact ⟨(0), rs_, H', ⟨Nat.le_refl _⟩, ⟨by (with_reducible repeat (first | apply Kd.R_alloc | apply Kd.R_drewN | apply Kd.R_drew)); exact Kd.R_mono HO364.out (fun _ hk => hk.2)⟩, ⟨bk_ BK361⟩, ⟨hs_ HB GE361⟩⟩
 case round =>
  clear H'
  (try clear hcz5_0 hcz5_1 hcz5_2 hcz5_3 hcz5_4 hfz5_0 hfz5_1 hfz5_2 hfz5_3 hfz5_4)
  obtain ⟨x6_1, rfl, HA, HK1, HO_5, BK361, HB⟩ := hrel
  cases gk with
  | zero => exact absurd HA.out (by simp [impl_DirPut.l0])
  | succ k1 =>
   have H := HA.out
   clear HA
   simp only [impl_DirPut.l0] at H
   by_cases c7 : x6_1 < (t362.length : Int)
   ·rw [if_pos c7] at H
    have c7b0 : decide (x6_1 < (t362.length : Int)) = true := decide_eq_true c7
    clear c7
    by_cases c8 : 0 ≤ x6_1
    ·rw [if_pos c8] at H
     have c8b0 : decide (0 ≤ x6_1) = true := decide_eq_true c8
     clear c8
     by_cases c9 : ((Op.bytesLess a1_0.toList (((rd_T71 t362 x6_1).f0).toList)) = true)
     ·rw [if_pos c9] at H
      have c9b0 : (Op.bytesLess a1_0.toList (((rd_T71 t362 x6_1).f0).toList)) = true := c9
      clear c9
      have c10b0 := eq_true (of_decide_eq_true as_ : 0 ≤ x6_1)
      by_cases c11 : x6_1 ≤ (t362.length : Int)
      ·rw [if_pos c11] at H
       have c11b0 := eq_true c11
       have c11b1 : decide (x6_1 ≤ (t362.length : Int)) = true := decide_eq_true c11
       clear c11
       obtain ⟨y366, hy366⟩ : ∃ y_ : List (S71), y_ = (t362.take (x6_1 : Int).toNat) := ⟨_, rfl⟩
       rw [← hy366] at H
       have Ny366 := Aside0.mk hy366
       clear hy366
       replace H := Option.bind_eq_some_iff.mp H
       obtain ⟨t370, A120, H⟩ := H
       have A12 := Aside0.mk A120
       clear A120
       obtain ⟨y373, hy373, H⟩ := ov_ H
       have Ny373 := Aside0.mk hy373
       clear hy373
       by_cases c13 : t370.length + y373.length < 2932031007402
       ·rw [if_pos c13] at H
        have LMc13 := Aside0.mk c13
        clear c13
        obtain ⟨y376, hy376, H⟩ := ov_ H
        have Ny376 := Aside0.mk hy376
        clear hy376
        have c14b0 := eq_true (of_decide_eq_true as_ : 0 ≤ x6_1)
        have c15b0 := eq_true (of_decide_eq_true as_ : x6_1 ≤ (t362.length : Int))
        obtain ⟨y379, hy379, H⟩ := ov_ H
        have Ny379 := Aside0.mk hy379
        clear hy379
        by_cases c16 : y376.length + y379.length < 2932031007402
        ·rw [if_pos c16] at H
         have LMc16 := Aside0.mk c16
         clear c16
         obtain ⟨y383, hy383⟩ : ∃ y_ : List (S71), y_ = (y376 ++ y379) := ⟨_, rfl⟩
         rw [← hy383] at H
         have Ny383 := Aside0.mk hy383
         clear hy383
         obtain rfl := Option.some.inj H
         try go_wp2
         replace HO_5 := rd_ HO_5
         replace BK361 := bd_ BK361
         replace HB := hd_ HB
         obtain ⟨Ao18, co18, eo18⟩ := Kd.R_slice HO_5.out
         (first | subst eo18 | (injection eo18 with f1_ f2_ f3_; have f4_ := f1_.symm; have f5_ := f3_.symm; clear f1_ f2_ f3_; subst f4_; subst f5_))
         have p365 : 0 ≤ (x6_1 : Int) := of_decide_eq_true as_
         have q365 : x6_1 < (t362.length : Int) := of_decide_eq_true as_
         obtain ⟨ad365, e365, hx365_0, hx365_1, hx365_2, hx365_3, hx365_4⟩ := at_T71 (Kd.R_reads' HO_5.out).2.2 x6_1 p365 q365
         cases e365
         replace p365 := eq_true p365
         replace q365 := eq_true q365
         refine start_ (n := 14) (S := k5_ gb361 (.string a1_0) (.int .i64 a1_1) (.int .i64 a1_2) (.int .i64 a1_3) (.int .i64 a1_4) (e5e_ (ad365.add ((x6_1).toNat * 5)) (.string ((rd_T71 t362 x6_1).f0)) (.int .i64 ((rd_T71 t362 x6_1).f1)) (.int .i64 ((rd_T71 t362 x6_1).f2)) (.int .i64 ((rd_T71 t362 x6_1).f3)) (.int .i64 ((rd_T71 t362 x6_1).f4)))) (ds := []) (on_ 0 14) (by kernel_rfl) rfl rfl (p5_ BK361 (q5e_ hx365_0 hx365_1 hx365_2 hx365_3 hx365_4)) (fun hHeld => ?_); refine with_tabW impl_DirPut.tab3 impl_DirPut.bits3 (fun HT_ HW_ => ?_)
         generalize wr.drew = w17 at HO_5 BK361 HB hx365_0 hx365_1 hx365_2 hx365_3 hx365_4 hHeld ⊢
         refine pv_' 0 11 (on_ 1 13) rfl rfl HT_ ?_
         refine pv_' 1 12 (on_ 2 12) rfl rfl HT_ ?_
         refine pv_' 2 13 (on_ 3 11) rfl rfl HT_ ?_
         refine pv_' 3 14 (on_ 4 10) rfl rfl HT_ ?_
         refine pv_' 4 15 (on_ 5 9) rfl rfl HT_ ?_
         refine pv_' 5 16 (on_ 6 8) rfl rfl HT_ ?_
         refine pv_' 6 17 (on_ 7 7) rfl rfl HT_ ?_
         refine pv_' 7 18 (on_ 8 6) rfl rfl HT_ ?_
         refine pv_' 8 19 (on_ 9 5) rfl rfl HT_ ?_
         refine pv_' 10 21 #[i',i',i',i',i',i',i',i',i',o',i',o',o',o'] rfl rfl HT_ ?_
         refine take_ (i := 9) (N := some 20) (v := ?_) (a' := ?_) (on_ 11 3) rfl rfl (take_ofW HT_.out HW_.out (by kernel_rfl)) (fun _ _ _ h => h) (Or.inl ⟨by rfl, ?_⟩) hHeld ?_ ?_
         rotate_left
         ·rintro w' ⟨s0, s1, s2, s3, s4, s5, s6, s7, s8, s9⟩
          go_simp
          with_reducible rfl
         rotate_left
         ·simp only [Act.put, la_, lz_, ls_, i64_w, i32_w]
          rfl
         refine take_ (i := 11) (N := some 22) (v := ?_) (a' := ?_) (on_ 12 2) rfl rfl (take_ofW HT_.out HW_.out (by kernel_rfl)) (fun _ _ _ h => h) (Or.inl ⟨by rfl, ?_⟩) hHeld ?_ ?_
         rotate_left
         ·rintro w' ⟨s0, s1, s2, s3, s4, s5, s6, s7, s8, s9⟩
          go_simp
          with_reducible rfl
         rotate_left
         ·simp only [Act.put, la_, lz_, ls_, i64_w, i32_w]
          rfl
         refine pv_' 12 23 (on_ 13 1) rfl rfl HT_ ?_
         refine pv_' 13 24 (on_ 14 0) rfl rfl HT_ ?_
         refine done_ (done_of HT_.out (by kernel_rfl)) ?_
         try go_wp2
         replace HO_5 := rd_ HO_5
         replace BK361 := bd_ BK361
         replace HB := hd_ HB
         have q20 : (x6_1 : Int) ≤ ((t362.length : Int) : Int) := of_decide_eq_true as_
         obtain ⟨i020, hi020, _, hsz20, _⟩ := info_parts info71
         have hroom20 : t362.length ≤ co18 := (Kd.R_reads' HO_5.out).2.1
         have hC20 : Kd.C k71 _ (some ad365) t362.length t362 := (Kd.R_reads' HO_5.out).2.2
         have hcut20 := cut_to (P := Try.prog) 28 71 .i64 Try.underlying28 hi020 (some ad365) t362.length co18 x6_1 (of_decide_eq_true as_) q20 hroom20
         have hr20 := Kd.C_take (m := (x6_1 : Int).toNat) hC20 (by omega)
         have hy20 : y366.length = (x6_1 : Int).toNat := (by rw [Ny366.out, List.length_take]; omega)
         rw [← Ny366.out] at hr20
         rw [← hy20] at hcut20
         have HR369 := Aside0.mk hr20
         have HC369 := Aside0.mk (show y366.length ≤ co18 from by omega)
         clear hr20 hC20 hroom20 hi020 hsz20
         have KY20 := Aside0.mk hy20
         clear hy20
         have KL20 := Aside0.mk (show (x6_1 : Int).toNat ≤ t362.length from by omega)
         replace q20 := eq_true q20
         have q21 : (x6_1 : Int) ≤ ((t362.length : Int) : Int) := of_decide_eq_true as_
         obtain ⟨i021, hi021, _, hsz21, _⟩ := info_parts info71
         have hroom21 : t362.length ≤ co18 := (Kd.R_reads' HO_5.out).2.1
         have hC21 : Kd.C k71 _ (some ad365) t362.length t362 := (Kd.R_reads' HO_5.out).2.2
         have q021 : (0 : Int) ≤ (x6_1 : Int) := of_decide_eq_true as_
         have hcut21 := cut_from (P := Try.prog) 28 71 .i64 Try.underlying28 hi021 5 hsz21 (some ad365) t362.length co18 x6_1 q021 q21
         have hr21 := Kd.C_drop (m := (x6_1 : Int).toNat) (c := co18) hC21 (by omega) hroom21
         obtain ⟨A21, hA21⟩ : ∃ A1, A1 = (if co18 = (x6_1 : Int).toNat then (some ad365) else ((some ad365) : Option Addr).map (·.add ((x6_1 : Int).toNat * 5))) := ⟨_, rfl⟩
         obtain ⟨c21, hc21⟩ : ∃ c1, c1 = co18 - (x6_1 : Int).toNat := ⟨_, rfl⟩
         have hy21 : y379.length = t362.length - (x6_1 : Int).toNat := (by rw [Ny379.out, List.length_drop] <;> omega)
         rw [show (t362).drop (x6_1 : Int).toNat = y379 from Ny379.out.symm] at hr21
         replace hr21 : Kd.C k71 _ A21 y379.length y379 := (by rw [hA21]; exact hr21)
         rw [← hy21, ← hA21, ← hc21] at hcut21
         have HR382 := Aside0.mk hr21
         have HC382 := Aside0.mk (show y379.length ≤ c21 from by rw [hy21, hc21]; exact Nat.sub_le_sub_right hroom21 _)
         clear hr21 hC21 hroom21 hi021 hsz21 hc21
         have KY21 := Aside0.mk hy21
         have KA21 := Aside0.mk hA21
         clear hy21 hA21
         have KL21 := Aside0.mk (show (x6_1 : Int).toNat ≤ t362.length from by omega)
         replace q21 := eq_true q21
         refine start_ (n := 12) (S := k5e_ gb361 (.string a1_0) (.int .i64 a1_1) (.int .i64 a1_2) (.int .i64 a1_3) (.int .i64 a1_4)) (ds := []) (on_ 0 12) (by kernel_rfl) rfl rfl (p5e_ BK361) (fun hHeld => ?_); refine with_tabW impl_DirPut.tab5 impl_DirPut.bits5 (fun HT_ HW_ => ?_)
         generalize w17.drew = w19 at HO_5 BK361 HB HR369 HR382 hHeld ⊢
         refine pv_' 0 27 (on_ 1 11) rfl rfl HT_ ?_
         refine pv_' 1 28 (on_ 2 10) rfl rfl HT_ ?_
         refine pv_' 2 29 (on_ 3 9) rfl rfl HT_ ?_
         refine pv_' 7 34 #[i',i',i',o',o',o',o',i',o',o',o',o'] rfl rfl HT_ ?_
         refine pv_' 8 35 #[i',i',i',o',o',o',o',i',i',o',o',o'] rfl rfl HT_ ?_
         refine pv_' 9 36 #[i',i',i',o',o',o',o',i',i',i',o',o'] rfl rfl HT_ ?_
         refine take_ (i := 4) (N := some 31) (v := ?_) (a' := ?_) #[i',i',i',o',i',o',o',i',i',i',o',o'] rfl rfl (take_ofW HT_.out HW_.out (by kernel_rfl)) (fun _ _ _ h => h) (Or.inl ⟨by rfl, ?_⟩) hHeld ?_ ?_
         rotate_left
         ·rintro w' ⟨s0, s1, s2, s3, s4⟩
          go_simp
          with_reducible rfl
         rotate_left
         ·simp only [Act.put, la_, lz_, ls_, i64_w, i32_w]
          rfl
         refine join_ (σ := Value × Value) 3 #[i',i',i',i',i',i',o',i',i',i',o',o'] (fun s_ => [(30, s_.1), (32, s_.2)]) (fun s_ w' => (w'.cell? ⟨gb361, 0, none⟩ = some (.string a1_0) ∧ w'.cell? ⟨gb361, 1, none⟩ = some (.int .i64 a1_1) ∧ w'.cell? ⟨gb361, 2, none⟩ = some (.int .i64 a1_2) ∧ w'.cell? ⟨gb361, 3, none⟩ = some (.int .i64 a1_3) ∧ w'.cell? ⟨gb361, 4, none⟩ = some (.int .i64 a1_4)) ∧ (Kd.R k71 71 w' w.heap.size (fun k_ => some k_ ≠ (s_.2 : Value).ownBlock ∧ some k_ ≠ (.slice (some ad365) t362.length co18 : Value).ownBlock ∧ k_ ≠ gb361) s_.1 t370) ∧ (Kd.R k71 71 w' w.heap.size (fun k_ => some k_ ≠ (s_.1 : Value).ownBlock ∧ some k_ ≠ (.slice (some ad365) t362.length co18 : Value).ownBlock ∧ k_ ≠ gb361) s_.2 y373) ∧ (Kd.R k71 71 w' w.heap.size (fun k_ => some k_ ≠ (s_.1 : Value).ownBlock ∧ some k_ ≠ (s_.2 : Value).ownBlock ∧ k_ ≠ gb361) (.slice (some ad365) t362.length co18) t362) ∧ (w'.heap[gb361]? = some (.cells #[.string a1_0, .int .i64 a1_1, .int .i64 a1_2, .int .i64 a1_3, .int .i64 a1_4] 71 (0, 0))) ∧ (Below w.heap.size w w')) ?_ ?_
         rotate_left
         ·intro hCont
          refine two_ (i := 3) (j := 5) (Ni := some 30) (Nj := some 32) #[i',i',i',i',i',o',o',i',i',i',o',o'] #[i',i',i',o',i',i',o',i',i',i',o',o'] rfl rfl rfl rfl (two_of HT_.out (by kernel_rfl)) (by decide) (by decide) (fun K hK => ?_) (fun K hK => ?_)
          ·skip
           refine goes_ Try.func23 (by kernel_rfl) rfl #[.slice (some ad365) y366.length co18] (by rfl) rfl rfl ar_ ?_
           with_reducible refine (impl_copyDir.calls _ _ y366 t370 _ ?side1 ?side2 A12.out).mono ?_
           (case side1 => repeat (first | exact (by repeat (first | (with_reducible exact HR369.out) | (with_reducible refine Kd.C_alloc ?_ _) | (with_reducible refine Kd.C_drewN ?_ _) | (with_reducible refine Kd.C_drew ?_) | exact HR369.out)) | (with_reducible refine Kd.C_alloc ?_ _) | (with_reducible refine Kd.C_drewN ?_ _) | (with_reducible refine Kd.C_drew ?_)))
           (case side2 => exact HC369.out)
           rintro e w22 ⟨v371, rfl, ho0, hb⟩
           refine ⟨_, rfl, ?_⟩
           have HO372 := Aside0.mk (Kd.R_lower (Kd.R_newB (Kd.R_new' ho0 (Kd.R_lt (rr_ HO_5))) (g := gb361) (o := .cells #[.string a1_0, .int .i64 a1_1, .int .i64 a1_2, .int .i64 a1_3, .int .i64 a1_4] 71 (0, 0)) (bk_ BK361)) (below_size (hs_ HB GE361)))
           replace HO_5 := Aside0.mk (Kd.R_elder' (rr_ HO_5) (Kd.R_base ho0) hb)
           replace BK361 := bb_ BK361 hb
           replace HR369 := Aside0.mk (Kd.C_below (by repeat (first | (with_reducible exact HR369.out) | (with_reducible refine Kd.C_alloc ?_ _) | (with_reducible refine Kd.C_drewN ?_ _) | (with_reducible refine Kd.C_drew ?_) | exact HR369.out)) hb)
           replace HR382 := Aside0.mk (Kd.C_below (by repeat (first | (with_reducible exact HR382.out) | (with_reducible refine Kd.C_alloc ?_ _) | (with_reducible refine Kd.C_drewN ?_ _) | (with_reducible refine Kd.C_drew ?_) | exact HR382.out)) hb)
           replace HB := bt_ HB GE361 hb
           (try clear hb)
           (try clear hb2)
           (try clear hk)
           (try clear hi)
           (try clear ho0)
           refine hK.out _ _ (p5e_ BK361) (fun hHeld => ?_)
           clear hK K
           refine norm_ (a' := ?_) ?_ ?_
           rotate_left
           ·show Act.put _ (some 30) _ = _
            simp only [Act.put, la_, lz_, ls_, i64_w, i32_w]
            rfl
           refine one_ (i := 5) (N := some 32) #[i',i',i',i',i',i',o',i',i',i',o',o'] rfl rfl (one_of HT_.out (by kernel_rfl)) (by decide) (fun K hK => ?_)
           refine Kd.R_lit_step k71 _ 71 ?hg (N := 32) ?hd (xs := ([(⟨a1_0, a1_1, a1_2, a1_3, a1_4⟩ : S71)] : List (S71))) (inner := [.string a1_0, .int .i64 a1_1, .int .i64 a1_2, .int .i64 a1_3, .int .i64 a1_4]) (ok := fun _ => True) (okp := fun _ => True) ?hr ?hp (fun _ hk => hk) trivial (Below.refl _ _) (Nat.le_refl _) (by simp) ?_; (case hd => rfl); (case hg => rfl); (case hr => first | (go_simp; done) | (go_simp; rfl)); (case hp => exact (Reps.c5 (show Kd.M k71 _ _ _ (⟨a1_0, a1_1, a1_2, a1_3, a1_4⟩ : S71) [.string a1_0, .int .i64 a1_1, .int .i64 a1_2, .int .i64 a1_3, .int .i64 a1_4] from (k71_mkM _ _ _ (⟨a1_0, a1_1, a1_2, a1_3, a1_4⟩ : S71) )) (Reps.none _ _)))
           intro v374 w23 ho24 hb hg_ hnew_
           clear hg_ hnew_
           (first | rw [← Ny373.out] at ho24 | (simp only [Int.reduceToNat] at ho24; rw [← Ny373.out] at ho24))
           have HO375 := Aside0.mk (Kd.R_lower (Kd.R_newB (Kd.R_new' (Kd.R_new' ho24 (Kd.R_lt (rr_ HO_5))) (Kd.R_lt (rr_ HO372))) (g := gb361) (o := .cells #[.string a1_0, .int .i64 a1_1, .int .i64 a1_2, .int .i64 a1_3, .int .i64 a1_4] 71 (0, 0)) (bk_ BK361)) (below_size (hs_ HB GE361)))
           replace HO_5 := Aside0.mk (Kd.R_elder' (rr_ HO_5) (Kd.R_base ho24) hb)
           replace HO372 := Aside0.mk (Kd.R_elder' (rr_ HO372) (Kd.R_base ho24) hb)
           replace BK361 := bb_ BK361 hb
           replace HR369 := Aside0.mk (Kd.C_below (by repeat (first | (with_reducible exact HR369.out) | (with_reducible refine Kd.C_alloc ?_ _) | (with_reducible refine Kd.C_drewN ?_ _) | (with_reducible refine Kd.C_drew ?_) | exact HR369.out)) hb)
           replace HR382 := Aside0.mk (Kd.C_below (by repeat (first | (with_reducible exact HR382.out) | (with_reducible refine Kd.C_alloc ?_ _) | (with_reducible refine Kd.C_drewN ?_ _) | (with_reducible refine Kd.C_drew ?_) | exact HR382.out)) hb)
           replace HB := bt_ HB GE361 hb
           clear hb ho24
           refine hK.out _ _ (p5e_ BK361) (fun hHeld => ?_)
           clear hK K
           refine norm_ (a' := ?_) ?_ ?_
           rotate_left
           ·show Act.put _ (some 32) _ = _
            simp only [Act.put, la_, lz_, ls_, i64_w, i32_w]
            rfl
           exact norm_ (by simp only [putAll, Act.put, la_, lz_, ls_]) (hCont (v371, v374) _ ⟨hHeld, (by (with_reducible repeat (first | apply Kd.R_alloc | apply Kd.R_drewN | apply Kd.R_drew)); exact Kd.R_mono HO372.out (fun _ hk => ⟨hk.2, ⟨hk.1.1.2, hk.1.2⟩⟩)), (by (with_reducible repeat (first | apply Kd.R_alloc | apply Kd.R_drewN | apply Kd.R_drew)); exact Kd.R_mono HO375.out (fun _ hk => ⟨hk.1.2, ⟨hk.1.1.2, hk.2⟩⟩)), (by (with_reducible repeat (first | apply Kd.R_alloc | apply Kd.R_drewN | apply Kd.R_drew)); exact Kd.R_mono HO_5.out (fun _ hk => ⟨hk.1.2, ⟨hk.2, hk.1.1⟩⟩)), (bk_ BK361), (hs_ HB GE361)⟩)
          ·skip
           refine Kd.R_lit_step k71 _ 71 ?hg (N := 32) ?hd (xs := ([(⟨a1_0, a1_1, a1_2, a1_3, a1_4⟩ : S71)] : List (S71))) (inner := [.string a1_0, .int .i64 a1_1, .int .i64 a1_2, .int .i64 a1_3, .int .i64 a1_4]) (ok := fun _ => True) (okp := fun _ => True) ?hr ?hp (fun _ hk => hk) trivial (Below.refl _ _) (Nat.le_refl _) (by simp) ?_; (case hd => rfl); (case hg => rfl); (case hr => first | (go_simp; done) | (go_simp; rfl)); (case hp => exact (Reps.c5 (show Kd.M k71 _ _ _ (⟨a1_0, a1_1, a1_2, a1_3, a1_4⟩ : S71) [.string a1_0, .int .i64 a1_1, .int .i64 a1_2, .int .i64 a1_3, .int .i64 a1_4] from (k71_mkM _ _ _ (⟨a1_0, a1_1, a1_2, a1_3, a1_4⟩ : S71) )) (Reps.none _ _)))
           intro v374 w22 ho23 hb hg_ hnew_
           clear hg_ hnew_
           (first | rw [← Ny373.out] at ho23 | (simp only [Int.reduceToNat] at ho23; rw [← Ny373.out] at ho23))
           have HO375 := Aside0.mk (Kd.R_lower (Kd.R_newB (Kd.R_new' ho23 (Kd.R_lt (rr_ HO_5))) (g := gb361) (o := .cells #[.string a1_0, .int .i64 a1_1, .int .i64 a1_2, .int .i64 a1_3, .int .i64 a1_4] 71 (0, 0)) (bk_ BK361)) (below_size (hs_ HB GE361)))
           replace HO_5 := Aside0.mk (Kd.R_elder' (rr_ HO_5) (Kd.R_base ho23) hb)
           replace BK361 := bb_ BK361 hb
           replace HR369 := Aside0.mk (Kd.C_below (by repeat (first | (with_reducible exact HR369.out) | (with_reducible refine Kd.C_alloc ?_ _) | (with_reducible refine Kd.C_drewN ?_ _) | (with_reducible refine Kd.C_drew ?_) | exact HR369.out)) hb)
           replace HR382 := Aside0.mk (Kd.C_below (by repeat (first | (with_reducible exact HR382.out) | (with_reducible refine Kd.C_alloc ?_ _) | (with_reducible refine Kd.C_drewN ?_ _) | (with_reducible refine Kd.C_drew ?_) | exact HR382.out)) hb)
           replace HB := bt_ HB GE361 hb
           clear hb ho23
           refine hK.out _ _ (p5e_ BK361) (fun hHeld => ?_)
           clear hK K
           refine norm_ (a' := ?_) ?_ ?_
           rotate_left
           ·show Act.put _ (some 32) _ = _
            simp only [Act.put, la_, lz_, ls_, i64_w, i32_w]
            rfl
           refine one_ (i := 3) (N := some 30) #[i',i',i',i',i',i',o',i',i',i',o',o'] rfl rfl (one_of HT_.out (by kernel_rfl)) (by decide) (fun K hK => ?_)
           refine goes_ Try.func23 (by kernel_rfl) rfl #[.slice (some ad365) y366.length co18] (by rfl) rfl rfl ar_ ?_
           with_reducible refine (impl_copyDir.calls _ _ y366 t370 _ ?side1 ?side2 A12.out).mono ?_
           (case side1 => repeat (first | exact (by repeat (first | (with_reducible exact HR369.out) | (with_reducible refine Kd.C_alloc ?_ _) | (with_reducible refine Kd.C_drewN ?_ _) | (with_reducible refine Kd.C_drew ?_) | exact HR369.out)) | (with_reducible refine Kd.C_alloc ?_ _) | (with_reducible refine Kd.C_drewN ?_ _) | (with_reducible refine Kd.C_drew ?_)))
           (case side2 => exact HC369.out)
           rintro e w24 ⟨v371, rfl, ho0, hb⟩
           refine ⟨_, rfl, ?_⟩
           have HO372 := Aside0.mk (Kd.R_lower (Kd.R_newB (Kd.R_new' (Kd.R_new' ho0 (Kd.R_lt (rr_ HO_5))) (Kd.R_lt (rr_ HO375))) (g := gb361) (o := .cells #[.string a1_0, .int .i64 a1_1, .int .i64 a1_2, .int .i64 a1_3, .int .i64 a1_4] 71 (0, 0)) (bk_ BK361)) (below_size (hs_ HB GE361)))
           replace HO_5 := Aside0.mk (Kd.R_elder' (rr_ HO_5) (Kd.R_base ho0) hb)
           replace HO375 := Aside0.mk (Kd.R_elder' (rr_ HO375) (Kd.R_base ho0) hb)
           replace BK361 := bb_ BK361 hb
           replace HR369 := Aside0.mk (Kd.C_below (by repeat (first | (with_reducible exact HR369.out) | (with_reducible refine Kd.C_alloc ?_ _) | (with_reducible refine Kd.C_drewN ?_ _) | (with_reducible refine Kd.C_drew ?_) | exact HR369.out)) hb)
           replace HR382 := Aside0.mk (Kd.C_below (by repeat (first | (with_reducible exact HR382.out) | (with_reducible refine Kd.C_alloc ?_ _) | (with_reducible refine Kd.C_drewN ?_ _) | (with_reducible refine Kd.C_drew ?_) | exact HR382.out)) hb)
           replace HB := bt_ HB GE361 hb
           (try clear hb)
           (try clear hb2)
           (try clear hk)
           (try clear hi)
           (try clear ho0)
           refine hK.out _ _ (p5e_ BK361) (fun hHeld => ?_)
           clear hK K
           refine norm_ (a' := ?_) ?_ ?_
           rotate_left
           ·show Act.put _ (some 30) _ = _
            simp only [Act.put, la_, lz_, ls_, i64_w, i32_w]
            rfl
           exact norm_ (by simp only [putAll, Act.put, la_, lz_, ls_]) (hCont (v371, v374) _ ⟨hHeld, (by (with_reducible repeat (first | apply Kd.R_alloc | apply Kd.R_drewN | apply Kd.R_drew)); exact Kd.R_mono HO372.out (fun _ hk => ⟨hk.1.2, ⟨hk.1.1.2, hk.2⟩⟩)), (by (with_reducible repeat (first | apply Kd.R_alloc | apply Kd.R_drewN | apply Kd.R_drew)); exact Kd.R_mono HO375.out (fun _ hk => ⟨hk.2, ⟨hk.1.1.2, hk.1.2⟩⟩)), (by (with_reducible repeat (first | apply Kd.R_alloc | apply Kd.R_drewN | apply Kd.R_drew)); exact Kd.R_mono HO_5.out (fun _ hk => ⟨hk.2, ⟨hk.1.2, hk.1.1⟩⟩)), (bk_ BK361), (hs_ HB GE361)⟩)
         rintro ⟨v371, v374⟩ w25 ⟨hS_, h0_, h1_, h2_, h3_, h4_⟩
         have n0_ : Aside0 (Kd.R k71 71 w25 w.heap.size (fun k_ => some k_ ≠ (v374 : Value).ownBlock ∧ some k_ ≠ (.slice (some ad365) t362.length co18 : Value).ownBlock ∧ k_ ≠ gb361) v371 t370) := ⟨h0_⟩
         have n1_ : Aside0 (Kd.R k71 71 w25 w.heap.size (fun k_ => some k_ ≠ (v371 : Value).ownBlock ∧ some k_ ≠ (.slice (some ad365) t362.length co18 : Value).ownBlock ∧ k_ ≠ gb361) v374 y373) := ⟨h1_⟩
         have n2_ : Aside0 (Kd.R k71 71 w25 w.heap.size (fun k_ => some k_ ≠ (v371 : Value).ownBlock ∧ some k_ ≠ (v374 : Value).ownBlock ∧ k_ ≠ gb361) (.slice (some ad365) t362.length co18) t362) := ⟨h2_⟩
         have n3_ : Aside0 (w25.heap[gb361]? = some (.cells #[.string a1_0, .int .i64 a1_1, .int .i64 a1_2, .int .i64 a1_3, .int .i64 a1_4] 71 (0, 0))) := ⟨h3_⟩
         have n4_ : Aside0 (Below w.heap.size w w25) := ⟨h4_⟩
         clear HO_5
         clear BK361
         clear HB
         clear h0_ h1_ h2_ h3_ h4_
         have HO372 := n0_
         have HO375 := n1_
         have HO_5 := n2_
         have BK361 := n3_
         have HB := n4_
         clear n0_ n1_ n2_ n3_ n4_
         have hHeld : w25.cell? ⟨gb361, 0, none⟩ = some (.string a1_0) ∧ w25.cell? ⟨gb361, 1, none⟩ = some (.int .i64 a1_1) ∧ w25.cell? ⟨gb361, 2, none⟩ = some (.int .i64 a1_2) ∧ w25.cell? ⟨gb361, 3, none⟩ = some (.int .i64 a1_3) ∧ w25.cell? ⟨gb361, 4, none⟩ = some (.int .i64 a1_4) := hS_
         (try clear HR369)
         have HR369 := Aside0.mk (show Kd.C k71 w25 (some ad365) y366.length y366 from by rw [Ny366.out]; exact Kd.C_take (m := (x6_1 : Int).toNat) ((Kd.R_reads' HO_5.out).2.2) KL20.out)
         (try clear HR382)
         have HR382 := Aside0.mk (show Kd.C k71 w25 A21 y379.length y379 from by rw [Ny379.out, KA21.out]; exact Kd.C_drop (m := (x6_1 : Int).toNat) (c := co18) ((Kd.R_reads' HO_5.out).2.2) KL21.out ((Kd.R_reads' HO_5.out).2.1))
         obtain ⟨Ao27, co27, eo27⟩ := Kd.R_slice HO375.out
         (first | subst eo27 | (injection eo27 with f1_ f2_ f3_; have f4_ := f1_.symm; have f5_ := f3_.symm; clear f1_ f2_ f3_; subst f4_; subst f5_))
         refine norm_ (a' := ?_) ?_ ?_
         rotate_left
         ·simp only [putAll, Act.put, la_, lz_, ls_]
          rfl
         refine one_ (i := 6) (N := some 33) (on_ 10 2) rfl rfl (one_of HT_.out (by kernel_rfl)) (by decide) (fun K hK => ?_)
         refine Kd.R_append_rows_step k71 (w0 := w) w.heap.size (by rfl) (.tmp 30) (.tmp 32) 28 71 (.agg #[(.string ⟨#[]⟩), (.int .i64 0), (.int .i64 0), (.int .i64 0), (.int .i64 0)]) 48 rfl Try.underlying28 info71 rfl (by decide) (by omega) v371 t370 y373 _ _ _ (fun k_ => some k_ ≠ (.slice (some ad365) t362.length co18 : Value).ownBlock ∧ some k_ ≠ (.slice Ao27 y373.length co27 : Value).ownBlock ∧ k_ ≠ gb361) (fun _ => False) rfl rfl ?aO ?aR (fun _ _ h => h) (fun _ h => h.elim) ?aF ?aB ?aS ?aL ?_
         (case aR => repeat (first | exact (Kd.R_reads' HO375.out).2.2 | (with_reducible refine Kd.C_alloc ?_ _) | (with_reducible refine Kd.C_drewN ?_ _) | (with_reducible refine Kd.C_drew ?_)))
         (case aB => exact (hs_ HB GE361))
         (case aF => exact (fun k_ hk => ⟨Kd.fresh' (Kd.R_lt (rr_ HO_5)) k_ hk, Kd.fresh' (Kd.R_lt (rr_ HO375)) k_ hk, Kd.freshB (g := gb361) (o := .cells #[.string a1_0, .int .i64 a1_1, .int .i64 a1_2, .int .i64 a1_3, .int .i64 a1_4] 71 (0, 0)) (bk_ BK361) k_ hk⟩))
         (case aO => exact (by (with_reducible repeat (first | apply Kd.R_alloc | apply Kd.R_drewN | apply Kd.R_drew)); exact Kd.R_mono HO372.out (fun _ hk => ⟨hk.2.1, ⟨hk.1, hk.2.2⟩⟩)))
         (case aS => exact (below_size (hs_ HB GE361)))
         (case aL => have := LMc13.out; omega)
         intro v377 w26 ho hb hg hat
         rw [← Ny376.out] at ho
         replace BK361 := bg_ BK361 hg (Kd.R_away HO372.out (fun _ hk => hk.2.2))
         replace HO375 := Aside0.mk (Kd.R_after (ok := (fun k_ => some k_ ≠ (.slice (some ad365) t362.length co18 : Value).ownBlock ∧ k_ ≠ gb361)) (by (with_reducible repeat (first | apply Kd.R_alloc | apply Kd.R_drewN | apply Kd.R_drew)); exact Kd.R_mono HO375.out (fun _ hk => ⟨⟨hk.2.1, hk.2.2⟩, hk.1⟩)) hg hat)
         replace HB := Aside0.mk (hb)
         replace HR369 := Aside0.mk ((show Kd.C k71 w26 (some ad365) y366.length y366 from by rw [Ny366.out]; exact Kd.C_take (m := (x6_1 : Int).toNat) ((Kd.R_reads' (Kd.R_after (ok := (fun k_ => some k_ ≠ (.slice Ao27 y373.length co27 : Value).ownBlock ∧ k_ ≠ gb361)) (by (with_reducible repeat (first | apply Kd.R_alloc | apply Kd.R_drewN | apply Kd.R_drew)); exact Kd.R_mono HO_5.out (fun _ hk => ⟨⟨hk.2.1, hk.2.2⟩, hk.1⟩)) hg hat)).2.2) KL20.out))
         replace HR382 := Aside0.mk ((show Kd.C k71 w26 A21 y379.length y379 from by rw [Ny379.out, KA21.out]; exact Kd.C_drop (m := (x6_1 : Int).toNat) (c := co18) ((Kd.R_reads' (Kd.R_after (ok := (fun k_ => some k_ ≠ (.slice Ao27 y373.length co27 : Value).ownBlock ∧ k_ ≠ gb361)) (by (with_reducible repeat (first | apply Kd.R_alloc | apply Kd.R_drewN | apply Kd.R_drew)); exact Kd.R_mono HO_5.out (fun _ hk => ⟨⟨hk.2.1, hk.2.2⟩, hk.1⟩)) hg hat)).2.2) KL21.out ((Kd.R_reads' (Kd.R_after (ok := (fun k_ => some k_ ≠ (.slice Ao27 y373.length co27 : Value).ownBlock ∧ k_ ≠ gb361)) (by (with_reducible repeat (first | apply Kd.R_alloc | apply Kd.R_drewN | apply Kd.R_drew)); exact Kd.R_mono HO_5.out (fun _ hk => ⟨⟨hk.2.1, hk.2.2⟩, hk.1⟩)) hg hat)).2.1)))
         replace HO_5 := Aside0.mk (Kd.R_after (ok := (fun k_ => some k_ ≠ (.slice Ao27 y373.length co27 : Value).ownBlock ∧ k_ ≠ gb361)) (by (with_reducible repeat (first | apply Kd.R_alloc | apply Kd.R_drewN | apply Kd.R_drew)); exact Kd.R_mono HO_5.out (fun _ hk => ⟨⟨hk.2.1, hk.2.2⟩, hk.1⟩)) hg hat)
         have HO378 := Aside0.mk (ho)
         clear HO372
         clear ho hb hg hat
         refine hK.out _ _ (p5e_ BK361) (fun hHeld => ?_)
         clear hK K
         refine norm_ (a' := ?_) ?_ ?_
         rotate_left
         ·show Act.put _ (some 33) _ = _
          simp only [Act.put, la_, lz_, ls_, i64_w, i32_w]
          rfl
         refine one_ (i := 10) (N := some 37) (on_ 11 1) rfl rfl (one_of HT_.out (by kernel_rfl)) (by decide) (fun K hK => ?_)
         refine Kd.R_append_rows_step k71 (w0 := w) w.heap.size (by rfl) (.tmp 33) (.tmp 36) 28 71 (.agg #[(.string ⟨#[]⟩), (.int .i64 0), (.int .i64 0), (.int .i64 0), (.int .i64 0)]) 48 rfl Try.underlying28 info71 rfl (by decide) (by omega) v377 y376 y379 _ _ _ (fun k_ => some k_ ≠ (.slice (some ad365) t362.length co18 : Value).ownBlock ∧ some k_ ≠ (.slice Ao27 y373.length co27 : Value).ownBlock ∧ k_ ≠ gb361) (fun _ => False) rfl rfl ?aO ?aR (fun _ _ h => h) (fun _ h => h.elim) ?aF ?aB ?aS ?aL ?_
         (case aR => repeat (first | exact (by repeat (first | (with_reducible exact HR382.out) | (with_reducible refine Kd.C_alloc ?_ _) | (with_reducible refine Kd.C_drewN ?_ _) | (with_reducible refine Kd.C_drew ?_) | exact HR382.out)) | (with_reducible refine Kd.C_alloc ?_ _) | (with_reducible refine Kd.C_drewN ?_ _) | (with_reducible refine Kd.C_drew ?_)))
         (case aB => exact (hs_ HB GE361))
         (case aF => exact (fun k_ hk => ⟨Kd.fresh' (Kd.R_lt (rr_ HO_5)) k_ hk, Kd.fresh' (Kd.R_lt (rr_ HO375)) k_ hk, Kd.freshB (g := gb361) (o := .cells #[.string a1_0, .int .i64 a1_1, .int .i64 a1_2, .int .i64 a1_3, .int .i64 a1_4] 71 (0, 0)) (bk_ BK361) k_ hk⟩))
         (case aO => exact (rr_ HO378))
         (case aS => exact (below_size (hs_ HB GE361)))
         (case aL => have := LMc16.out; omega)
         intro v384 w28 ho hb hg hat
         rw [← Ny383.out] at ho
         replace BK361 := bg_ BK361 hg (Kd.R_away HO378.out (fun _ hk => hk.2.2))
         replace HO375 := Aside0.mk (Kd.R_after (ok := (fun k_ => some k_ ≠ (.slice (some ad365) t362.length co18 : Value).ownBlock ∧ k_ ≠ gb361)) (rr_ HO375) hg hat)
         replace HB := Aside0.mk (hb)
         replace HR369 := Aside0.mk ((show Kd.C k71 w28 (some ad365) y366.length y366 from by rw [Ny366.out]; exact Kd.C_take (m := (x6_1 : Int).toNat) ((Kd.R_reads' (Kd.R_after (ok := (fun k_ => some k_ ≠ (.slice Ao27 y373.length co27 : Value).ownBlock ∧ k_ ≠ gb361)) (rr_ HO_5) hg hat)).2.2) KL20.out))
         replace HR382 := Aside0.mk ((show Kd.C k71 w28 A21 y379.length y379 from by rw [Ny379.out, KA21.out]; exact Kd.C_drop (m := (x6_1 : Int).toNat) (c := co18) ((Kd.R_reads' (Kd.R_after (ok := (fun k_ => some k_ ≠ (.slice Ao27 y373.length co27 : Value).ownBlock ∧ k_ ≠ gb361)) (rr_ HO_5) hg hat)).2.2) KL21.out ((Kd.R_reads' (Kd.R_after (ok := (fun k_ => some k_ ≠ (.slice Ao27 y373.length co27 : Value).ownBlock ∧ k_ ≠ gb361)) (rr_ HO_5) hg hat)).2.1)))
         replace HO_5 := Aside0.mk (Kd.R_after (ok := (fun k_ => some k_ ≠ (.slice Ao27 y373.length co27 : Value).ownBlock ∧ k_ ≠ gb361)) (rr_ HO_5) hg hat)
         have HO385 := Aside0.mk (ho)
         clear HO378
         clear ho hb hg hat
         refine hK.out _ _ (p5e_ BK361) (fun hHeld => ?_)
         clear hK K
         refine norm_ (a' := ?_) ?_ ?_
         rotate_left
         ·show Act.put _ (some 37) _ = _
          simp only [Act.put, la_, lz_, ls_, i64_w, i32_w]
          rfl
         refine pv_' 11 4 (on_ 12 0) rfl rfl HT_ ?_
         refine done_ (done_of HT_.out (by kernel_rfl)) ?_
         try go_wp2
         go_ret
         exact ⟨_, by first | rfl | (simp [errW_none, errW_some] <;> rfl) | (simp [*, errW_none, errW_some] <;> rfl), by (with_reducible repeat (first | apply Kd.R_alloc | apply Kd.R_drewN | apply Kd.R_drew)); exact Kd.R_mono HO385.out (fun _ hk => trivial), hs_ HB GE361⟩
        ·rw [if_neg c16] at H
         exact absurd H (by simp)
       ·rw [if_neg c13] at H
        exact absurd H (by simp)
      ·rw [if_neg c11] at H
       exact absurd H (by simp)
     ·rw [if_neg c9] at H
      have c9b0 : (Op.bytesLess a1_0.toList (((rd_T71 t362 x6_1).f0).toList)) = false := by simpa using c9
      clear c9
      have H' := Aside0.mk H
      clear H
      try go_wp2
      replace HO_5 := rd_ HO_5
      replace BK361 := bd_ BK361
      replace HB := hd_ HB
      obtain ⟨Ao30, co30, eo30⟩ := Kd.R_slice HO_5.out
      (first | subst eo30 | (injection eo30 with f1_ f2_ f3_; have f4_ := f1_.symm; have f5_ := f3_.symm; clear f1_ f2_ f3_; subst f4_; subst f5_))
      have p365 : 0 ≤ (x6_1 : Int) := of_decide_eq_true as_
      have q365 : x6_1 < (t362.length : Int) := of_decide_eq_true as_
      obtain ⟨ad365, e365, hx365_0, hx365_1, hx365_2, hx365_3, hx365_4⟩ := at_T71 (Kd.R_reads' HO_5.out).2.2 x6_1 p365 q365
      cases e365
      replace p365 := eq_true p365
      replace q365 := eq_true q365
      refine start_ (n := 14) (S := k5_ gb361 (.string a1_0) (.int .i64 a1_1) (.int .i64 a1_2) (.int .i64 a1_3) (.int .i64 a1_4) (e5e_ (ad365.add ((x6_1).toNat * 5)) (.string ((rd_T71 t362 x6_1).f0)) (.int .i64 ((rd_T71 t362 x6_1).f1)) (.int .i64 ((rd_T71 t362 x6_1).f2)) (.int .i64 ((rd_T71 t362 x6_1).f3)) (.int .i64 ((rd_T71 t362 x6_1).f4)))) (ds := []) (on_ 0 14) (by kernel_rfl) rfl rfl (p5_ BK361 (q5e_ hx365_0 hx365_1 hx365_2 hx365_3 hx365_4)) (fun hHeld => ?_); refine with_tabW impl_DirPut.tab3 impl_DirPut.bits3 (fun HT_ HW_ => ?_)
      generalize wr.drew = w29 at HO_5 BK361 HB hx365_0 hx365_1 hx365_2 hx365_3 hx365_4 hHeld ⊢
      refine pv_' 0 11 (on_ 1 13) rfl rfl HT_ ?_
      refine pv_' 1 12 (on_ 2 12) rfl rfl HT_ ?_
      refine pv_' 2 13 (on_ 3 11) rfl rfl HT_ ?_
      refine pv_' 3 14 (on_ 4 10) rfl rfl HT_ ?_
      refine pv_' 4 15 (on_ 5 9) rfl rfl HT_ ?_
      refine pv_' 5 16 (on_ 6 8) rfl rfl HT_ ?_
      refine pv_' 6 17 (on_ 7 7) rfl rfl HT_ ?_
      refine pv_' 7 18 (on_ 8 6) rfl rfl HT_ ?_
      refine pv_' 8 19 (on_ 9 5) rfl rfl HT_ ?_
      refine pv_' 10 21 #[i',i',i',i',i',i',i',i',i',o',i',o',o',o'] rfl rfl HT_ ?_
      refine take_ (i := 9) (N := some 20) (v := ?_) (a' := ?_) (on_ 11 3) rfl rfl (take_ofW HT_.out HW_.out (by kernel_rfl)) (fun _ _ _ h => h) (Or.inl ⟨by rfl, ?_⟩) hHeld ?_ ?_
      rotate_left
      ·rintro w' ⟨s0, s1, s2, s3, s4, s5, s6, s7, s8, s9⟩
       go_simp
       with_reducible rfl
      rotate_left
      ·simp only [Act.put, la_, lz_, ls_, i64_w, i32_w]
       rfl
      refine take_ (i := 11) (N := some 22) (v := ?_) (a' := ?_) (on_ 12 2) rfl rfl (take_ofW HT_.out HW_.out (by kernel_rfl)) (fun _ _ _ h => h) (Or.inl ⟨by rfl, ?_⟩) hHeld ?_ ?_
      rotate_left
      ·rintro w' ⟨s0, s1, s2, s3, s4, s5, s6, s7, s8, s9⟩
       go_simp
       with_reducible rfl
      rotate_left
      ·simp only [Act.put, la_, lz_, ls_, i64_w, i32_w]
       rfl
      refine pv_' 12 23 (on_ 13 1) rfl rfl HT_ ?_
      refine pv_' 13 24 (on_ 14 0) rfl rfl HT_ ?_
      refine done_ (done_of HT_.out (by kernel_rfl)) ?_
      try go_wp2
      go_roundg k1
      case measure => have := HK1.out; first | exact this | exact Nat.le_of_succ_le this | exact Nat.le_refl _ | omega
      case rel => exact ⟨(wrap64 (x6_1 + 1)), rs_, H', ⟨by have := HK1.out; first | exact this | exact Nat.le_of_succ_le this | exact Nat.le_refl _ | omega⟩, ⟨rr_ HO_5⟩, ⟨bk_ BK361⟩, ⟨hs_ HB GE361⟩⟩
    ·rw [if_neg c8] at H
     exact absurd H (by simp)
   ·rw [if_neg c7] at H
    have c7b0 : decide (x6_1 < (t362.length : Int)) = false := decide_eq_false c7
    clear c7
    by_cases c31 : 0 ≤ x6_1
    ·rw [if_pos c31] at H
     have c31b0 := eq_true c31
     have c31b1 : decide (0 ≤ x6_1) = true := decide_eq_true c31
     clear c31
     by_cases c32 : x6_1 ≤ (t362.length : Int)
     ·rw [if_pos c32] at H
      have c32b0 := eq_true c32
      have c32b1 : decide (x6_1 ≤ (t362.length : Int)) = true := decide_eq_true c32
      clear c32
      obtain ⟨y386, hy386⟩ : ∃ y_ : List (S71), y_ = (t362.take (x6_1 : Int).toNat) := ⟨_, rfl⟩
      rw [← hy386] at H
      have Ny386 := Aside0.mk hy386
      clear hy386
      replace H := Option.bind_eq_some_iff.mp H
      obtain ⟨t390, A330, H⟩ := H
      have A33 := Aside0.mk A330
      clear A330
      obtain ⟨y393, hy393, H⟩ := ov_ H
      have Ny393 := Aside0.mk hy393
      clear hy393
      by_cases c34 : t390.length + y393.length < 2932031007402
      ·rw [if_pos c34] at H
       have LMc34 := Aside0.mk c34
       clear c34
       obtain ⟨y396, hy396, H⟩ := ov_ H
       have Ny396 := Aside0.mk hy396
       clear hy396
       have c35b0 := eq_true (of_decide_eq_true as_ : 0 ≤ x6_1)
       have c36b0 := eq_true (of_decide_eq_true as_ : x6_1 ≤ (t362.length : Int))
       obtain ⟨y399, hy399, H⟩ := ov_ H
       have Ny399 := Aside0.mk hy399
       clear hy399
       by_cases c37 : y396.length + y399.length < 2932031007402
       ·rw [if_pos c37] at H
        have LMc37 := Aside0.mk c37
        clear c37
        obtain ⟨y403, hy403⟩ : ∃ y_ : List (S71), y_ = (y396 ++ y399) := ⟨_, rfl⟩
        rw [← hy403] at H
        have Ny403 := Aside0.mk hy403
        clear hy403
        obtain rfl := Option.some.inj H
        try go_wp2
        replace HO_5 := rd_ HO_5
        replace BK361 := bd_ BK361
        replace HB := hd_ HB
        obtain ⟨Ao39, co39, eo39⟩ := Kd.R_slice HO_5.out
        (first | subst eo39 | (injection eo39 with f1_ f2_ f3_; have f4_ := f1_.symm; have f5_ := f3_.symm; clear f1_ f2_ f3_; subst f4_; subst f5_))
        refine start_ (n := 14) (S := fun w' => True) (ds := []) (on_ 0 14) (by kernel_rfl) rfl rfl trivial (fun hHeld => ?_); refine with_tabW impl_DirPut.tab3 impl_DirPut.bits3 (fun HT_ HW_ => ?_)
        generalize wr.drew = w38 at HO_5 BK361 HB hHeld ⊢
        refine pv_' 0 11 (on_ 1 13) rfl rfl HT_ ?_
        refine pv_' 1 12 (on_ 2 12) rfl rfl HT_ ?_
        refine pv_' 2 13 (on_ 3 11) rfl rfl HT_ ?_
        refine pv_' 3 14 (on_ 4 10) rfl rfl HT_ ?_
        refine pv_' 4 15 (on_ 5 9) rfl rfl HT_ ?_
        refine pun_' 5 16 (on_ 6 8) rfl rfl HT_ ?_
        refine pun_' 6 17 (on_ 7 7) rfl rfl HT_ ?_
        refine pun_' 7 18 (on_ 8 6) rfl rfl HT_ ?_
        refine pun_' 8 19 (on_ 9 5) rfl rfl HT_ ?_
        refine pun_' 9 20 (on_ 10 4) rfl rfl HT_ ?_
        refine pun_' 10 21 (on_ 11 3) rfl rfl HT_ ?_
        refine pun_' 11 22 (on_ 12 2) rfl rfl HT_ ?_
        refine pun_' 12 23 (on_ 13 1) rfl rfl HT_ ?_
        refine pv_' 13 24 (on_ 14 0) rfl rfl HT_ ?_
        refine done_ (done_of HT_.out (by kernel_rfl)) ?_
        try go_wp2
        replace HO_5 := rd_ HO_5
        replace BK361 := bd_ BK361
        replace HB := hd_ HB
        have q41 : (x6_1 : Int) ≤ ((t362.length : Int) : Int) := of_decide_eq_true as_
        obtain ⟨i041, hi041, _, hsz41, _⟩ := info_parts info71
        have hroom41 : t362.length ≤ co39 := (Kd.R_reads' HO_5.out).2.1
        have hC41 : Kd.C k71 _ Ao39 t362.length t362 := (Kd.R_reads' HO_5.out).2.2
        have hcut41 := cut_to (P := Try.prog) 28 71 .i64 Try.underlying28 hi041 Ao39 t362.length co39 x6_1 (of_decide_eq_true as_) q41 hroom41
        have hr41 := Kd.C_take (m := (x6_1 : Int).toNat) hC41 (by omega)
        have hy41 : y386.length = (x6_1 : Int).toNat := (by rw [Ny386.out, List.length_take]; omega)
        rw [← Ny386.out] at hr41
        rw [← hy41] at hcut41
        have HR389 := Aside0.mk hr41
        have HC389 := Aside0.mk (show y386.length ≤ co39 from by omega)
        clear hr41 hC41 hroom41 hi041 hsz41
        have KY41 := Aside0.mk hy41
        clear hy41
        have KL41 := Aside0.mk (show (x6_1 : Int).toNat ≤ t362.length from by omega)
        replace q41 := eq_true q41
        have q42 : (x6_1 : Int) ≤ ((t362.length : Int) : Int) := of_decide_eq_true as_
        obtain ⟨i042, hi042, _, hsz42, _⟩ := info_parts info71
        have hroom42 : t362.length ≤ co39 := (Kd.R_reads' HO_5.out).2.1
        have hC42 : Kd.C k71 _ Ao39 t362.length t362 := (Kd.R_reads' HO_5.out).2.2
        have q042 : (0 : Int) ≤ (x6_1 : Int) := of_decide_eq_true as_
        have hcut42 := cut_from (P := Try.prog) 28 71 .i64 Try.underlying28 hi042 5 hsz42 Ao39 t362.length co39 x6_1 q042 q42
        have hr42 := Kd.C_drop (m := (x6_1 : Int).toNat) (c := co39) hC42 (by omega) hroom42
        obtain ⟨A42, hA42⟩ : ∃ A1, A1 = (if co39 = (x6_1 : Int).toNat then Ao39 else (Ao39 : Option Addr).map (·.add ((x6_1 : Int).toNat * 5))) := ⟨_, rfl⟩
        obtain ⟨c42, hc42⟩ : ∃ c1, c1 = co39 - (x6_1 : Int).toNat := ⟨_, rfl⟩
        have hy42 : y399.length = t362.length - (x6_1 : Int).toNat := (by rw [Ny399.out, List.length_drop] <;> omega)
        rw [show (t362).drop (x6_1 : Int).toNat = y399 from Ny399.out.symm] at hr42
        replace hr42 : Kd.C k71 _ A42 y399.length y399 := (by rw [hA42]; exact hr42)
        rw [← hy42, ← hA42, ← hc42] at hcut42
        have HR402 := Aside0.mk hr42
        have HC402 := Aside0.mk (show y399.length ≤ c42 from by rw [hy42, hc42]; exact Nat.sub_le_sub_right hroom42 _)
        clear hr42 hC42 hroom42 hi042 hsz42 hc42
        have KY42 := Aside0.mk hy42
        have KA42 := Aside0.mk hA42
        clear hy42 hA42
        have KL42 := Aside0.mk (show (x6_1 : Int).toNat ≤ t362.length from by omega)
        replace q42 := eq_true q42
        refine start_ (n := 12) (S := k5e_ gb361 (.string a1_0) (.int .i64 a1_1) (.int .i64 a1_2) (.int .i64 a1_3) (.int .i64 a1_4)) (ds := []) (on_ 0 12) (by kernel_rfl) rfl rfl (p5e_ BK361) (fun hHeld => ?_); refine with_tabW impl_DirPut.tab5 impl_DirPut.bits5 (fun HT_ HW_ => ?_)
        generalize w38.drew = w40 at HO_5 BK361 HB HR389 HR402 hHeld ⊢
        refine pv_' 0 27 (on_ 1 11) rfl rfl HT_ ?_
        refine pv_' 1 28 (on_ 2 10) rfl rfl HT_ ?_
        refine pv_' 2 29 (on_ 3 9) rfl rfl HT_ ?_
        refine pv_' 7 34 #[i',i',i',o',o',o',o',i',o',o',o',o'] rfl rfl HT_ ?_
        refine pv_' 8 35 #[i',i',i',o',o',o',o',i',i',o',o',o'] rfl rfl HT_ ?_
        refine pv_' 9 36 #[i',i',i',o',o',o',o',i',i',i',o',o'] rfl rfl HT_ ?_
        refine take_ (i := 4) (N := some 31) (v := ?_) (a' := ?_) #[i',i',i',o',i',o',o',i',i',i',o',o'] rfl rfl (take_ofW HT_.out HW_.out (by kernel_rfl)) (fun _ _ _ h => h) (Or.inl ⟨by rfl, ?_⟩) hHeld ?_ ?_
        rotate_left
        ·rintro w' ⟨s0, s1, s2, s3, s4⟩
         go_simp
         with_reducible rfl
        rotate_left
        ·simp only [Act.put, la_, lz_, ls_, i64_w, i32_w]
         rfl
        refine join_ (σ := Value × Value) 3 #[i',i',i',i',i',i',o',i',i',i',o',o'] (fun s_ => [(30, s_.1), (32, s_.2)]) (fun s_ w' => (w'.cell? ⟨gb361, 0, none⟩ = some (.string a1_0) ∧ w'.cell? ⟨gb361, 1, none⟩ = some (.int .i64 a1_1) ∧ w'.cell? ⟨gb361, 2, none⟩ = some (.int .i64 a1_2) ∧ w'.cell? ⟨gb361, 3, none⟩ = some (.int .i64 a1_3) ∧ w'.cell? ⟨gb361, 4, none⟩ = some (.int .i64 a1_4)) ∧ (Kd.R k71 71 w' w.heap.size (fun k_ => some k_ ≠ (s_.2 : Value).ownBlock ∧ some k_ ≠ (.slice Ao39 t362.length co39 : Value).ownBlock ∧ k_ ≠ gb361) s_.1 t390) ∧ (Kd.R k71 71 w' w.heap.size (fun k_ => some k_ ≠ (s_.1 : Value).ownBlock ∧ some k_ ≠ (.slice Ao39 t362.length co39 : Value).ownBlock ∧ k_ ≠ gb361) s_.2 y393) ∧ (Kd.R k71 71 w' w.heap.size (fun k_ => some k_ ≠ (s_.1 : Value).ownBlock ∧ some k_ ≠ (s_.2 : Value).ownBlock ∧ k_ ≠ gb361) (.slice Ao39 t362.length co39) t362) ∧ (w'.heap[gb361]? = some (.cells #[.string a1_0, .int .i64 a1_1, .int .i64 a1_2, .int .i64 a1_3, .int .i64 a1_4] 71 (0, 0))) ∧ (Below w.heap.size w w')) ?_ ?_
        rotate_left
        ·intro hCont
         refine two_ (i := 3) (j := 5) (Ni := some 30) (Nj := some 32) #[i',i',i',i',i',o',o',i',i',i',o',o'] #[i',i',i',o',i',i',o',i',i',i',o',o'] rfl rfl rfl rfl (two_of HT_.out (by kernel_rfl)) (by decide) (by decide) (fun K hK => ?_) (fun K hK => ?_)
         ·skip
          refine goes_ Try.func23 (by kernel_rfl) rfl #[.slice Ao39 y386.length co39] (by rfl) rfl rfl ar_ ?_
          with_reducible refine (impl_copyDir.calls _ _ y386 t390 _ ?side1 ?side2 A33.out).mono ?_
          (case side1 => repeat (first | exact (by repeat (first | (with_reducible exact HR389.out) | (with_reducible refine Kd.C_alloc ?_ _) | (with_reducible refine Kd.C_drewN ?_ _) | (with_reducible refine Kd.C_drew ?_) | exact HR389.out)) | (with_reducible refine Kd.C_alloc ?_ _) | (with_reducible refine Kd.C_drewN ?_ _) | (with_reducible refine Kd.C_drew ?_)))
          (case side2 => exact HC389.out)
          rintro e w43 ⟨v391, rfl, ho0, hb⟩
          refine ⟨_, rfl, ?_⟩
          have HO392 := Aside0.mk (Kd.R_lower (Kd.R_newB (Kd.R_new' ho0 (Kd.R_lt (rr_ HO_5))) (g := gb361) (o := .cells #[.string a1_0, .int .i64 a1_1, .int .i64 a1_2, .int .i64 a1_3, .int .i64 a1_4] 71 (0, 0)) (bk_ BK361)) (below_size (hs_ HB GE361)))
          replace HO_5 := Aside0.mk (Kd.R_elder' (rr_ HO_5) (Kd.R_base ho0) hb)
          replace BK361 := bb_ BK361 hb
          replace HR389 := Aside0.mk (Kd.C_below (by repeat (first | (with_reducible exact HR389.out) | (with_reducible refine Kd.C_alloc ?_ _) | (with_reducible refine Kd.C_drewN ?_ _) | (with_reducible refine Kd.C_drew ?_) | exact HR389.out)) hb)
          replace HR402 := Aside0.mk (Kd.C_below (by repeat (first | (with_reducible exact HR402.out) | (with_reducible refine Kd.C_alloc ?_ _) | (with_reducible refine Kd.C_drewN ?_ _) | (with_reducible refine Kd.C_drew ?_) | exact HR402.out)) hb)
          replace HB := bt_ HB GE361 hb
          (try clear hb)
          (try clear hb2)
          (try clear hk)
          (try clear hi)
          (try clear ho0)
          refine hK.out _ _ (p5e_ BK361) (fun hHeld => ?_)
          clear hK K
          refine norm_ (a' := ?_) ?_ ?_
          rotate_left
          ·show Act.put _ (some 30) _ = _
           simp only [Act.put, la_, lz_, ls_, i64_w, i32_w]
           rfl
          refine one_ (i := 5) (N := some 32) #[i',i',i',i',i',i',o',i',i',i',o',o'] rfl rfl (one_of HT_.out (by kernel_rfl)) (by decide) (fun K hK => ?_)
          refine Kd.R_lit_step k71 _ 71 ?hg (N := 32) ?hd (xs := ([(⟨a1_0, a1_1, a1_2, a1_3, a1_4⟩ : S71)] : List (S71))) (inner := [.string a1_0, .int .i64 a1_1, .int .i64 a1_2, .int .i64 a1_3, .int .i64 a1_4]) (ok := fun _ => True) (okp := fun _ => True) ?hr ?hp (fun _ hk => hk) trivial (Below.refl _ _) (Nat.le_refl _) (by simp) ?_; (case hd => rfl); (case hg => rfl); (case hr => first | (go_simp; done) | (go_simp; rfl)); (case hp => exact (Reps.c5 (show Kd.M k71 _ _ _ (⟨a1_0, a1_1, a1_2, a1_3, a1_4⟩ : S71) [.string a1_0, .int .i64 a1_1, .int .i64 a1_2, .int .i64 a1_3, .int .i64 a1_4] from (k71_mkM _ _ _ (⟨a1_0, a1_1, a1_2, a1_3, a1_4⟩ : S71) )) (Reps.none _ _)))
          intro v394 w44 ho45 hb hg_ hnew_
          clear hg_ hnew_
          (first | rw [← Ny393.out] at ho45 | (simp only [Int.reduceToNat] at ho45; rw [← Ny393.out] at ho45))
          have HO395 := Aside0.mk (Kd.R_lower (Kd.R_newB (Kd.R_new' (Kd.R_new' ho45 (Kd.R_lt (rr_ HO_5))) (Kd.R_lt (rr_ HO392))) (g := gb361) (o := .cells #[.string a1_0, .int .i64 a1_1, .int .i64 a1_2, .int .i64 a1_3, .int .i64 a1_4] 71 (0, 0)) (bk_ BK361)) (below_size (hs_ HB GE361)))
          replace HO_5 := Aside0.mk (Kd.R_elder' (rr_ HO_5) (Kd.R_base ho45) hb)
          replace HO392 := Aside0.mk (Kd.R_elder' (rr_ HO392) (Kd.R_base ho45) hb)
          replace BK361 := bb_ BK361 hb
          replace HR389 := Aside0.mk (Kd.C_below (by repeat (first | (with_reducible exact HR389.out) | (with_reducible refine Kd.C_alloc ?_ _) | (with_reducible refine Kd.C_drewN ?_ _) | (with_reducible refine Kd.C_drew ?_) | exact HR389.out)) hb)
          replace HR402 := Aside0.mk (Kd.C_below (by repeat (first | (with_reducible exact HR402.out) | (with_reducible refine Kd.C_alloc ?_ _) | (with_reducible refine Kd.C_drewN ?_ _) | (with_reducible refine Kd.C_drew ?_) | exact HR402.out)) hb)
          replace HB := bt_ HB GE361 hb
          clear hb ho45
          refine hK.out _ _ (p5e_ BK361) (fun hHeld => ?_)
          clear hK K
          refine norm_ (a' := ?_) ?_ ?_
          rotate_left
          ·show Act.put _ (some 32) _ = _
           simp only [Act.put, la_, lz_, ls_, i64_w, i32_w]
           rfl
          exact norm_ (by simp only [putAll, Act.put, la_, lz_, ls_]) (hCont (v391, v394) _ ⟨hHeld, (by (with_reducible repeat (first | apply Kd.R_alloc | apply Kd.R_drewN | apply Kd.R_drew)); exact Kd.R_mono HO392.out (fun _ hk => ⟨hk.2, ⟨hk.1.1.2, hk.1.2⟩⟩)), (by (with_reducible repeat (first | apply Kd.R_alloc | apply Kd.R_drewN | apply Kd.R_drew)); exact Kd.R_mono HO395.out (fun _ hk => ⟨hk.1.2, ⟨hk.1.1.2, hk.2⟩⟩)), (by (with_reducible repeat (first | apply Kd.R_alloc | apply Kd.R_drewN | apply Kd.R_drew)); exact Kd.R_mono HO_5.out (fun _ hk => ⟨hk.1.2, ⟨hk.2, hk.1.1⟩⟩)), (bk_ BK361), (hs_ HB GE361)⟩)
         ·skip
          refine Kd.R_lit_step k71 _ 71 ?hg (N := 32) ?hd (xs := ([(⟨a1_0, a1_1, a1_2, a1_3, a1_4⟩ : S71)] : List (S71))) (inner := [.string a1_0, .int .i64 a1_1, .int .i64 a1_2, .int .i64 a1_3, .int .i64 a1_4]) (ok := fun _ => True) (okp := fun _ => True) ?hr ?hp (fun _ hk => hk) trivial (Below.refl _ _) (Nat.le_refl _) (by simp) ?_; (case hd => rfl); (case hg => rfl); (case hr => first | (go_simp; done) | (go_simp; rfl)); (case hp => exact (Reps.c5 (show Kd.M k71 _ _ _ (⟨a1_0, a1_1, a1_2, a1_3, a1_4⟩ : S71) [.string a1_0, .int .i64 a1_1, .int .i64 a1_2, .int .i64 a1_3, .int .i64 a1_4] from (k71_mkM _ _ _ (⟨a1_0, a1_1, a1_2, a1_3, a1_4⟩ : S71) )) (Reps.none _ _)))
          intro v394 w43 ho44 hb hg_ hnew_
          clear hg_ hnew_
          (first | rw [← Ny393.out] at ho44 | (simp only [Int.reduceToNat] at ho44; rw [← Ny393.out] at ho44))
          have HO395 := Aside0.mk (Kd.R_lower (Kd.R_newB (Kd.R_new' ho44 (Kd.R_lt (rr_ HO_5))) (g := gb361) (o := .cells #[.string a1_0, .int .i64 a1_1, .int .i64 a1_2, .int .i64 a1_3, .int .i64 a1_4] 71 (0, 0)) (bk_ BK361)) (below_size (hs_ HB GE361)))
          replace HO_5 := Aside0.mk (Kd.R_elder' (rr_ HO_5) (Kd.R_base ho44) hb)
          replace BK361 := bb_ BK361 hb
          replace HR389 := Aside0.mk (Kd.C_below (by repeat (first | (with_reducible exact HR389.out) | (with_reducible refine Kd.C_alloc ?_ _) | (with_reducible refine Kd.C_drewN ?_ _) | (with_reducible refine Kd.C_drew ?_) | exact HR389.out)) hb)
          replace HR402 := Aside0.mk (Kd.C_below (by repeat (first | (with_reducible exact HR402.out) | (with_reducible refine Kd.C_alloc ?_ _) | (with_reducible refine Kd.C_drewN ?_ _) | (with_reducible refine Kd.C_drew ?_) | exact HR402.out)) hb)
          replace HB := bt_ HB GE361 hb
          clear hb ho44
          refine hK.out _ _ (p5e_ BK361) (fun hHeld => ?_)
          clear hK K
          refine norm_ (a' := ?_) ?_ ?_
          rotate_left
          ·show Act.put _ (some 32) _ = _
           simp only [Act.put, la_, lz_, ls_, i64_w, i32_w]
           rfl
          refine one_ (i := 3) (N := some 30) #[i',i',i',i',i',i',o',i',i',i',o',o'] rfl rfl (one_of HT_.out (by kernel_rfl)) (by decide) (fun K hK => ?_)
          refine goes_ Try.func23 (by kernel_rfl) rfl #[.slice Ao39 y386.length co39] (by rfl) rfl rfl ar_ ?_
          with_reducible refine (impl_copyDir.calls _ _ y386 t390 _ ?side1 ?side2 A33.out).mono ?_
          (case side1 => repeat (first | exact (by repeat (first | (with_reducible exact HR389.out) | (with_reducible refine Kd.C_alloc ?_ _) | (with_reducible refine Kd.C_drewN ?_ _) | (with_reducible refine Kd.C_drew ?_) | exact HR389.out)) | (with_reducible refine Kd.C_alloc ?_ _) | (with_reducible refine Kd.C_drewN ?_ _) | (with_reducible refine Kd.C_drew ?_)))
          (case side2 => exact HC389.out)
          rintro e w45 ⟨v391, rfl, ho0, hb⟩
          refine ⟨_, rfl, ?_⟩
          have HO392 := Aside0.mk (Kd.R_lower (Kd.R_newB (Kd.R_new' (Kd.R_new' ho0 (Kd.R_lt (rr_ HO_5))) (Kd.R_lt (rr_ HO395))) (g := gb361) (o := .cells #[.string a1_0, .int .i64 a1_1, .int .i64 a1_2, .int .i64 a1_3, .int .i64 a1_4] 71 (0, 0)) (bk_ BK361)) (below_size (hs_ HB GE361)))
          replace HO_5 := Aside0.mk (Kd.R_elder' (rr_ HO_5) (Kd.R_base ho0) hb)
          replace HO395 := Aside0.mk (Kd.R_elder' (rr_ HO395) (Kd.R_base ho0) hb)
          replace BK361 := bb_ BK361 hb
          replace HR389 := Aside0.mk (Kd.C_below (by repeat (first | (with_reducible exact HR389.out) | (with_reducible refine Kd.C_alloc ?_ _) | (with_reducible refine Kd.C_drewN ?_ _) | (with_reducible refine Kd.C_drew ?_) | exact HR389.out)) hb)
          replace HR402 := Aside0.mk (Kd.C_below (by repeat (first | (with_reducible exact HR402.out) | (with_reducible refine Kd.C_alloc ?_ _) | (with_reducible refine Kd.C_drewN ?_ _) | (with_reducible refine Kd.C_drew ?_) | exact HR402.out)) hb)
          replace HB := bt_ HB GE361 hb
          (try clear hb)
          (try clear hb2)
          (try clear hk)
          (try clear hi)
          (try clear ho0)
          refine hK.out _ _ (p5e_ BK361) (fun hHeld => ?_)
          clear hK K
          refine norm_ (a' := ?_) ?_ ?_
          rotate_left
          ·show Act.put _ (some 30) _ = _
           simp only [Act.put, la_, lz_, ls_, i64_w, i32_w]
           rfl
          exact norm_ (by simp only [putAll, Act.put, la_, lz_, ls_]) (hCont (v391, v394) _ ⟨hHeld, (by (with_reducible repeat (first | apply Kd.R_alloc | apply Kd.R_drewN | apply Kd.R_drew)); exact Kd.R_mono HO392.out (fun _ hk => ⟨hk.1.2, ⟨hk.1.1.2, hk.2⟩⟩)), (by (with_reducible repeat (first | apply Kd.R_alloc | apply Kd.R_drewN | apply Kd.R_drew)); exact Kd.R_mono HO395.out (fun _ hk => ⟨hk.2, ⟨hk.1.1.2, hk.1.2⟩⟩)), (by (with_reducible repeat (first | apply Kd.R_alloc | apply Kd.R_drewN | apply Kd.R_drew)); exact Kd.R_mono HO_5.out (fun _ hk => ⟨hk.2, ⟨hk.1.2, hk.1.1⟩⟩)), (bk_ BK361), (hs_ HB GE361)⟩)
        rintro ⟨v391, v394⟩ w46 ⟨hS_, h0_, h1_, h2_, h3_, h4_⟩
        have n0_ : Aside0 (Kd.R k71 71 w46 w.heap.size (fun k_ => some k_ ≠ (v394 : Value).ownBlock ∧ some k_ ≠ (.slice Ao39 t362.length co39 : Value).ownBlock ∧ k_ ≠ gb361) v391 t390) := ⟨h0_⟩
        have n1_ : Aside0 (Kd.R k71 71 w46 w.heap.size (fun k_ => some k_ ≠ (v391 : Value).ownBlock ∧ some k_ ≠ (.slice Ao39 t362.length co39 : Value).ownBlock ∧ k_ ≠ gb361) v394 y393) := ⟨h1_⟩
        have n2_ : Aside0 (Kd.R k71 71 w46 w.heap.size (fun k_ => some k_ ≠ (v391 : Value).ownBlock ∧ some k_ ≠ (v394 : Value).ownBlock ∧ k_ ≠ gb361) (.slice Ao39 t362.length co39) t362) := ⟨h2_⟩
        have n3_ : Aside0 (w46.heap[gb361]? = some (.cells #[.string a1_0, .int .i64 a1_1, .int .i64 a1_2, .int .i64 a1_3, .int .i64 a1_4] 71 (0, 0))) := ⟨h3_⟩
        have n4_ : Aside0 (Below w.heap.size w w46) := ⟨h4_⟩
        clear HO_5
        clear BK361
        clear HB
        clear h0_ h1_ h2_ h3_ h4_
        have HO392 := n0_
        have HO395 := n1_
        have HO_5 := n2_
        have BK361 := n3_
        have HB := n4_
        clear n0_ n1_ n2_ n3_ n4_
        have hHeld : w46.cell? ⟨gb361, 0, none⟩ = some (.string a1_0) ∧ w46.cell? ⟨gb361, 1, none⟩ = some (.int .i64 a1_1) ∧ w46.cell? ⟨gb361, 2, none⟩ = some (.int .i64 a1_2) ∧ w46.cell? ⟨gb361, 3, none⟩ = some (.int .i64 a1_3) ∧ w46.cell? ⟨gb361, 4, none⟩ = some (.int .i64 a1_4) := hS_
        (try clear HR389)
        have HR389 := Aside0.mk (show Kd.C k71 w46 Ao39 y386.length y386 from by rw [Ny386.out]; exact Kd.C_take (m := (x6_1 : Int).toNat) ((Kd.R_reads' HO_5.out).2.2) KL41.out)
        (try clear HR402)
        have HR402 := Aside0.mk (show Kd.C k71 w46 A42 y399.length y399 from by rw [Ny399.out, KA42.out]; exact Kd.C_drop (m := (x6_1 : Int).toNat) (c := co39) ((Kd.R_reads' HO_5.out).2.2) KL42.out ((Kd.R_reads' HO_5.out).2.1))
        obtain ⟨Ao48, co48, eo48⟩ := Kd.R_slice HO395.out
        (first | subst eo48 | (injection eo48 with f1_ f2_ f3_; have f4_ := f1_.symm; have f5_ := f3_.symm; clear f1_ f2_ f3_; subst f4_; subst f5_))
        refine norm_ (a' := ?_) ?_ ?_
        rotate_left
        ·simp only [putAll, Act.put, la_, lz_, ls_]
         rfl
        refine one_ (i := 6) (N := some 33) (on_ 10 2) rfl rfl (one_of HT_.out (by kernel_rfl)) (by decide) (fun K hK => ?_)
        refine Kd.R_append_rows_step k71 (w0 := w) w.heap.size (by rfl) (.tmp 30) (.tmp 32) 28 71 (.agg #[(.string ⟨#[]⟩), (.int .i64 0), (.int .i64 0), (.int .i64 0), (.int .i64 0)]) 48 rfl Try.underlying28 info71 rfl (by decide) (by omega) v391 t390 y393 _ _ _ (fun k_ => some k_ ≠ (.slice Ao39 t362.length co39 : Value).ownBlock ∧ some k_ ≠ (.slice Ao48 y393.length co48 : Value).ownBlock ∧ k_ ≠ gb361) (fun _ => False) rfl rfl ?aO ?aR (fun _ _ h => h) (fun _ h => h.elim) ?aF ?aB ?aS ?aL ?_
        (case aR => repeat (first | exact (Kd.R_reads' HO395.out).2.2 | (with_reducible refine Kd.C_alloc ?_ _) | (with_reducible refine Kd.C_drewN ?_ _) | (with_reducible refine Kd.C_drew ?_)))
        (case aB => exact (hs_ HB GE361))
        (case aF => exact (fun k_ hk => ⟨Kd.fresh' (Kd.R_lt (rr_ HO_5)) k_ hk, Kd.fresh' (Kd.R_lt (rr_ HO395)) k_ hk, Kd.freshB (g := gb361) (o := .cells #[.string a1_0, .int .i64 a1_1, .int .i64 a1_2, .int .i64 a1_3, .int .i64 a1_4] 71 (0, 0)) (bk_ BK361) k_ hk⟩))
        (case aO => exact (by (with_reducible repeat (first | apply Kd.R_alloc | apply Kd.R_drewN | apply Kd.R_drew)); exact Kd.R_mono HO392.out (fun _ hk => ⟨hk.2.1, ⟨hk.1, hk.2.2⟩⟩)))
        (case aS => exact (below_size (hs_ HB GE361)))
        (case aL => have := LMc34.out; omega)
        intro v397 w47 ho hb hg hat
        rw [← Ny396.out] at ho
        replace BK361 := bg_ BK361 hg (Kd.R_away HO392.out (fun _ hk => hk.2.2))
        replace HO395 := Aside0.mk (Kd.R_after (ok := (fun k_ => some k_ ≠ (.slice Ao39 t362.length co39 : Value).ownBlock ∧ k_ ≠ gb361)) (by (with_reducible repeat (first | apply Kd.R_alloc | apply Kd.R_drewN | apply Kd.R_drew)); exact Kd.R_mono HO395.out (fun _ hk => ⟨⟨hk.2.1, hk.2.2⟩, hk.1⟩)) hg hat)
        replace HB := Aside0.mk (hb)
        replace HR389 := Aside0.mk ((show Kd.C k71 w47 Ao39 y386.length y386 from by rw [Ny386.out]; exact Kd.C_take (m := (x6_1 : Int).toNat) ((Kd.R_reads' (Kd.R_after (ok := (fun k_ => some k_ ≠ (.slice Ao48 y393.length co48 : Value).ownBlock ∧ k_ ≠ gb361)) (by (with_reducible repeat (first | apply Kd.R_alloc | apply Kd.R_drewN | apply Kd.R_drew)); exact Kd.R_mono HO_5.out (fun _ hk => ⟨⟨hk.2.1, hk.2.2⟩, hk.1⟩)) hg hat)).2.2) KL41.out))
        replace HR402 := Aside0.mk ((show Kd.C k71 w47 A42 y399.length y399 from by rw [Ny399.out, KA42.out]; exact Kd.C_drop (m := (x6_1 : Int).toNat) (c := co39) ((Kd.R_reads' (Kd.R_after (ok := (fun k_ => some k_ ≠ (.slice Ao48 y393.length co48 : Value).ownBlock ∧ k_ ≠ gb361)) (by (with_reducible repeat (first | apply Kd.R_alloc | apply Kd.R_drewN | apply Kd.R_drew)); exact Kd.R_mono HO_5.out (fun _ hk => ⟨⟨hk.2.1, hk.2.2⟩, hk.1⟩)) hg hat)).2.2) KL42.out ((Kd.R_reads' (Kd.R_after (ok := (fun k_ => some k_ ≠ (.slice Ao48 y393.length co48 : Value).ownBlock ∧ k_ ≠ gb361)) (by (with_reducible repeat (first | apply Kd.R_alloc | apply Kd.R_drewN | apply Kd.R_drew)); exact Kd.R_mono HO_5.out (fun _ hk => ⟨⟨hk.2.1, hk.2.2⟩, hk.1⟩)) hg hat)).2.1)))
        replace HO_5 := Aside0.mk (Kd.R_after (ok := (fun k_ => some k_ ≠ (.slice Ao48 y393.length co48 : Value).ownBlock ∧ k_ ≠ gb361)) (by (with_reducible repeat (first | apply Kd.R_alloc | apply Kd.R_drewN | apply Kd.R_drew)); exact Kd.R_mono HO_5.out (fun _ hk => ⟨⟨hk.2.1, hk.2.2⟩, hk.1⟩)) hg hat)
        have HO398 := Aside0.mk (ho)
        clear HO392
        clear ho hb hg hat
        refine hK.out _ _ (p5e_ BK361) (fun hHeld => ?_)
        clear hK K
        refine norm_ (a' := ?_) ?_ ?_
        rotate_left
        ·show Act.put _ (some 33) _ = _
         simp only [Act.put, la_, lz_, ls_, i64_w, i32_w]
         rfl
        refine one_ (i := 10) (N := some 37) (on_ 11 1) rfl rfl (one_of HT_.out (by kernel_rfl)) (by decide) (fun K hK => ?_)
        refine Kd.R_append_rows_step k71 (w0 := w) w.heap.size (by rfl) (.tmp 33) (.tmp 36) 28 71 (.agg #[(.string ⟨#[]⟩), (.int .i64 0), (.int .i64 0), (.int .i64 0), (.int .i64 0)]) 48 rfl Try.underlying28 info71 rfl (by decide) (by omega) v397 y396 y399 _ _ _ (fun k_ => some k_ ≠ (.slice Ao39 t362.length co39 : Value).ownBlock ∧ some k_ ≠ (.slice Ao48 y393.length co48 : Value).ownBlock ∧ k_ ≠ gb361) (fun _ => False) rfl rfl ?aO ?aR (fun _ _ h => h) (fun _ h => h.elim) ?aF ?aB ?aS ?aL ?_
        (case aR => repeat (first | exact (by repeat (first | (with_reducible exact HR402.out) | (with_reducible refine Kd.C_alloc ?_ _) | (with_reducible refine Kd.C_drewN ?_ _) | (with_reducible refine Kd.C_drew ?_) | exact HR402.out)) | (with_reducible refine Kd.C_alloc ?_ _) | (with_reducible refine Kd.C_drewN ?_ _) | (with_reducible refine Kd.C_drew ?_)))
        (case aB => exact (hs_ HB GE361))
        (case aF => exact (fun k_ hk => ⟨Kd.fresh' (Kd.R_lt (rr_ HO_5)) k_ hk, Kd.fresh' (Kd.R_lt (rr_ HO395)) k_ hk, Kd.freshB (g := gb361) (o := .cells #[.string a1_0, .int .i64 a1_1, .int .i64 a1_2, .int .i64 a1_3, .int .i64 a1_4] 71 (0, 0)) (bk_ BK361) k_ hk⟩))
        (case aO => exact (rr_ HO398))
        (case aS => exact (below_size (hs_ HB GE361)))
        (case aL => have := LMc37.out; omega)
        intro v404 w49 ho hb hg hat
        rw [← Ny403.out] at ho
        replace BK361 := bg_ BK361 hg (Kd.R_away HO398.out (fun _ hk => hk.2.2))
        replace HO395 := Aside0.mk (Kd.R_after (ok := (fun k_ => some k_ ≠ (.slice Ao39 t362.length co39 : Value).ownBlock ∧ k_ ≠ gb361)) (rr_ HO395) hg hat)
        replace HB := Aside0.mk (hb)
        replace HR389 := Aside0.mk ((show Kd.C k71 w49 Ao39 y386.length y386 from by rw [Ny386.out]; exact Kd.C_take (m := (x6_1 : Int).toNat) ((Kd.R_reads' (Kd.R_after (ok := (fun k_ => some k_ ≠ (.slice Ao48 y393.length co48 : Value).ownBlock ∧ k_ ≠ gb361)) (rr_ HO_5) hg hat)).2.2) KL41.out))
        replace HR402 := Aside0.mk ((show Kd.C k71 w49 A42 y399.length y399 from by rw [Ny399.out, KA42.out]; exact Kd.C_drop (m := (x6_1 : Int).toNat) (c := co39) ((Kd.R_reads' (Kd.R_after (ok := (fun k_ => some k_ ≠ (.slice Ao48 y393.length co48 : Value).ownBlock ∧ k_ ≠ gb361)) (rr_ HO_5) hg hat)).2.2) KL42.out ((Kd.R_reads' (Kd.R_after (ok := (fun k_ => some k_ ≠ (.slice Ao48 y393.length co48 : Value).ownBlock ∧ k_ ≠ gb361)) (rr_ HO_5) hg hat)).2.1)))
        replace HO_5 := Aside0.mk (Kd.R_after (ok := (fun k_ => some k_ ≠ (.slice Ao48 y393.length co48 : Value).ownBlock ∧ k_ ≠ gb361)) (rr_ HO_5) hg hat)
        have HO405 := Aside0.mk (ho)
        clear HO398
        clear ho hb hg hat
        refine hK.out _ _ (p5e_ BK361) (fun hHeld => ?_)
        clear hK K
        refine norm_ (a' := ?_) ?_ ?_
        rotate_left
        ·show Act.put _ (some 37) _ = _
         simp only [Act.put, la_, lz_, ls_, i64_w, i32_w]
         rfl
        refine pv_' 11 4 (on_ 12 0) rfl rfl HT_ ?_
        refine done_ (done_of HT_.out (by kernel_rfl)) ?_
        try go_wp2
        go_ret
        exact ⟨_, by first | rfl | (simp [errW_none, errW_some] <;> rfl) | (simp [*, errW_none, errW_some] <;> rfl), by (with_reducible repeat (first | apply Kd.R_alloc | apply Kd.R_drewN | apply Kd.R_drew)); exact Kd.R_mono HO405.out (fun _ hk => trivial), hs_ HB GE361⟩
       ·rw [if_neg c37] at H
        exact absurd H (by simp)
      ·rw [if_neg c34] at H
       exact absurd H (by simp)
     ·rw [if_neg c32] at H
      exact absurd H (by simp)
    ·rw [if_neg c31] at H
     exact absurd H (by simp)

end Go.Proofs.Ytcnmdjibogojnaa.PFnExactRegroup
