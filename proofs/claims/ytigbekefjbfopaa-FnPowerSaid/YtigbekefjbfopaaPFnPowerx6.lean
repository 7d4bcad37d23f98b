-- Laid by a program of this session, a copy of the kit's printer with additions (wip/patch_print.py): myhead. Lean checks it.
import Derived.Test.YtigbekefjbfopaaPFnPowerx0
import Derived.Test.YtigbekefjbfopaaPFnPowerx5
namespace Go.Proofs.Ytigbekefjbfopaa.PFnPower
open Go.RowKit Go.Proofs.YtigbekefjbfopaaW.PrintWords Go.Proofs.YtigbekefjbfopaaW.PrintLast Go.Proofs.YtigbekefjbfopaaW.PrintMore
theorem bl_swq78243 : ∀ x y : List UInt8, (Op.bytesLess x y || x == y) = !(Op.bytesLess y x)
 | [], [] => by simp [Op.bytesLess]
 | [], _ :: _ => by simp [Op.bytesLess]
 | _ :: _, [] => by simp [Op.bytesLess]
 | a :: x, b :: y => by
  have ih := bl_swq78243 x y
  by_cases e : a = b
  ·subst e
   simp only [Op.bytesLess, List.cons_beq_cons, BEq.rfl, Bool.true_and, UInt8.lt_irrefl, decide_false, Bool.false_or]
   exact ih
  ·have e' : ¬ b = a := fun h => e h.symm
   have h1 : (a == b) = false := by simpa using e
   have h2 : (b == a) = false := by simpa using e'
   simp only [Op.bytesLess, List.cons_beq_cons, h1, h2, Bool.false_and, Bool.or_false]
   by_cases l : a < b
   ·have : ¬ b < a := fun h => UInt8.lt_asymm h l
    simp [l, this]
   ·have : b < a := UInt8.lt_of_le_of_ne (UInt8.not_lt.1 l) e'
    simp [l, this]
theorem bl_leqq78243 (t : TypeId) (a b : ByteArray) : binOp .leq t (.string a) (.string b) = pure (.bool (!(Op.bytesLess b.toList a.toList))) := by simp only [binOp, Op.stringOp, bl_swq78243]
theorem bl_gtrq78243 (t : TypeId) (a b : ByteArray) : binOp .gtr t (.string a) (.string b) = pure (.bool (Op.bytesLess b.toList a.toList)) := by simp only [binOp, Op.stringOp, bl_swq78243, Bool.not_not]
theorem bl_geqq78243 (t : TypeId) (a b : ByteArray) : binOp .geq t (.string a) (.string b) = pure (.bool (!(Op.bytesLess a.toList b.toList))) := by simp only [binOp, Op.stringOp]
attribute [local go_sem] bl_leqq78243 bl_gtrq78243 bl_geqq78243
attribute [local go_sem] max2_int min2_int max_two min_two max_three min_three max_four min_four   -- for this text's walks alone
set_option linter.unusedVariables false
set_option linter.unusedSimpArgs false

/-! ### spec_DiskOk: function 18 -/
mutual
def spec_DiskOk.j0 : Nat → Bool → List (S45) → Int → Int → Bool → Option (Bool)
 | 0, _, _, _, _, _ => none
 | k + 1, x26, x171000, x171001, x171002, x171003 => if x26 = true then (some false) else (spec_DiskOk.l0 k 0 x171000 x171001 x171002 x171003)
def spec_DiskOk.l0 : Nat → Int → List (S45) → Int → Int → Bool → Option (Bool)
 | 0, _, _, _, _, _ => none
 | k + 1, x3, x171000, x171001, x171002, x171003 => if x3 < (x171000.length : Int) then (if 0 ≤ x3 then ((spec_NameOk.f k ((rd_T45 x171000 x3).f0)).bind fun t175 => (if t175 = true then ((spec_l1In.f ((rd_T45 x171000 x3).f2) 0 (((rd_T45 x171000 x3).f1).size : Int)).bind fun t178 => (if t178 = true then (if x3 > 0 then (if 0 ≤ (wrap64 (x3 - 1)) then (if (wrap64 (x3 - 1)) < (x171000.length : Int) then (spec_DiskOk.j2 k x3 (!(Op.bytesLess (((rd_T45 x171000 (wrap64 (x3 - 1))).f0).toList) (((rd_T45 x171000 x3).f0).toList))) x171000 x171001 x171002 x171003) else (none)) else (none)) else (spec_DiskOk.j2 k x3 false x171000 x171001 x171002 x171003)) else (spec_DiskOk.j2 k x3 true x171000 x171001 x171002 x171003))) else (spec_DiskOk.j2 k x3 true x171000 x171001 x171002 x171003))) else (none)) else (some true)
def spec_DiskOk.j2 : Nat → Int → Bool → List (S45) → Int → Int → Bool → Option (Bool)
 | 0, _, _, _, _, _, _ => none
 | k + 1, x3, x78, x171000, x171001, x171002, x171003 => if x78 = true then (some false) else (spec_DiskOk.l0 k (wrap64 (x3 + 1)) x171000 x171001 x171002 x171003)
end
def spec_DiskOk.f (k : Nat) (l0_0 : List (S45)) (a0_1 : Int) (a0_2 : Int) (a0_3 : Bool) : Option (Bool) := if (l0_0.length : Int) > 130 then (spec_DiskOk.j0 k true l0_0 a0_1 a0_2 a0_3) else ((spec_l1In.f a0_1 0 100000).bind fun t171 => (if t171 = true then ((spec_l1In.f a0_2 (-1) 100000).bind fun t172 => (if t172 = true then ((spec_l3Used.f k l0_0 a0_1 a0_2 a0_3).bind fun t173 => (spec_DiskOk.j0 k (decide (t173 > a0_1)) l0_0 a0_1 a0_2 a0_3)) else (spec_DiskOk.j0 k true l0_0 a0_1 a0_2 a0_3))) else (spec_DiskOk.j0 k true l0_0 a0_1 a0_2 a0_3)))
theorem spec_DiskOk.mono_l : ∀ k, (∀ y0 y1 y2 y3 y4, LeO (spec_DiskOk.j0 k y0 y1 y2 y3 y4) (spec_DiskOk.j0 (k + 1) y0 y1 y2 y3 y4)) ∧ (∀ y0 y1 y2 y3 y4, LeO (spec_DiskOk.l0 k y0 y1 y2 y3 y4) (spec_DiskOk.l0 (k + 1) y0 y1 y2 y3 y4)) ∧ (∀ y0 y1 y2 y3 y4 y5, LeO (spec_DiskOk.j2 k y0 y1 y2 y3 y4 y5) (spec_DiskOk.j2 (k + 1) y0 y1 y2 y3 y4 y5))
 | 0 => ⟨fun _ _ _ _ _ r h => by simp [spec_DiskOk.j0] at h, fun _ _ _ _ _ r h => by simp [spec_DiskOk.l0] at h, fun _ _ _ _ _ _ r h => by simp [spec_DiskOk.j2] at h⟩
 | k + 1 => by
  obtain ⟨ih0, ih1, ih2⟩ := spec_DiskOk.mono_l k
  refine ⟨?_, ?_, ?_⟩
  ·intro y0 y1 y2 y3 y4
   unfold spec_DiskOk.j0
   repeat' first | (with_reducible first | exact ih0 .. | exact ih1 .. | exact ih2 .. | exact spec_NameOk.mono .. | exact spec_l3Used.mono .. | exact LeO.refl .. | exact LeO.none .. | refine LeO.ite ?_ ?_ | refine LeO.bind ?_ (fun _ => ?_)) | exact ih0 .. | exact ih1 .. | exact ih2 .. | exact spec_NameOk.mono .. | exact spec_l3Used.mono .. | exact LeO.none .. | refine LeO.ite ?_ ?_ | refine LeO.bind ?_ (fun _ => ?_)
  ·intro y0 y1 y2 y3 y4
   unfold spec_DiskOk.l0
   repeat' first | (with_reducible first | exact ih0 .. | exact ih1 .. | exact ih2 .. | exact spec_NameOk.mono .. | exact spec_l3Used.mono .. | exact LeO.refl .. | exact LeO.none .. | refine LeO.ite ?_ ?_ | refine LeO.bind ?_ (fun _ => ?_)) | exact ih0 .. | exact ih1 .. | exact ih2 .. | exact spec_NameOk.mono .. | exact spec_l3Used.mono .. | exact LeO.none .. | refine LeO.ite ?_ ?_ | refine LeO.bind ?_ (fun _ => ?_)
  ·intro y0 y1 y2 y3 y4 y5
   unfold spec_DiskOk.j2
   repeat' first | (with_reducible first | exact ih0 .. | exact ih1 .. | exact ih2 .. | exact spec_NameOk.mono .. | exact spec_l3Used.mono .. | exact LeO.refl .. | exact LeO.none .. | refine LeO.ite ?_ ?_ | refine LeO.bind ?_ (fun _ => ?_)) | exact ih0 .. | exact ih1 .. | exact ih2 .. | exact spec_NameOk.mono .. | exact spec_l3Used.mono .. | exact LeO.none .. | refine LeO.ite ?_ ?_ | refine LeO.bind ?_ (fun _ => ?_)
theorem spec_DiskOk.mono : ∀ a0 a1 a2 a3 k, LeO (spec_DiskOk.f k a0 a1 a2 a3) (spec_DiskOk.f (k + 1) a0 a1 a2 a3) := by
 intro a0 a1 a2 a3 k
 obtain ⟨ih0, ih1, ih2⟩ := spec_DiskOk.mono_l k
 unfold spec_DiskOk.f
 repeat' first | (with_reducible first | exact ih0 .. | exact ih1 .. | exact ih2 .. | exact spec_NameOk.mono .. | exact spec_l3Used.mono .. | exact LeO.refl .. | exact LeO.none .. | refine LeO.ite ?_ ?_ | refine LeO.bind ?_ (fun _ => ?_)) | exact ih0 .. | exact ih1 .. | exact ih2 .. | exact spec_NameOk.mono .. | exact spec_l3Used.mono .. | exact LeO.none .. | refine LeO.ite ?_ ?_ | refine LeO.bind ?_ (fun _ => ?_)
def spec_DiskOk.T1 : Bool × List (List Nat × List Nat) := (true, [([], []), ([0], [0]), ([1], [1]), ([2], [2]), ([3], [3]), ([4], [4]), ([5, 4], [4, 5]), ([6, 4, 4], [4, 6]), ([7, 4], [4, 7]), ([4, 8], [4, 8]), ([9, 7], [9]), ([10], [10]), ([11, 10], [10, 11]), ([12, 10, 10], [10, 12]), ([13, 10], [10, 13]), ([10, 14], [10, 14]), ([15, 13], [15]), ([16], [16]), ([17, 16, 16], [16, 17]), ([16], [16]), ([19, 16], [16, 19]), ([18, 20, 16], [16, 18, 20]), ([16, 21], [16, 21])])
def spec_DiskOk.B1 : List Nat := [0, 1, 3, 7, 15, 31, 63, 127, 255, 511, 1023, 2047, 4095, 8191, 16383, 32767, 65535, 131071, 262143, 131071, 655359, 2097151, 4194303]
theorem spec_DiskOk.tab1 : rtab .any (opsOf Try.f18 1) = spec_DiskOk.T1 := by kernel_rfl
theorem spec_DiskOk.bits1 : waitsOk spec_DiskOk.T1.2 spec_DiskOk.B1 = true := by kernel_rfl
def spec_DiskOk.T6 : Bool × List (List Nat × List Nat) := (true, [([], []), ([0], [0]), ([], []), ([1, 2], [1, 2]), ([3], [3]), ([4], [4]), ([5], [5]), ([6], [6]), ([7, 6], [7]), ([8], [8]), ([9, 8], [8, 9]), ([8], [8]), ([10, 11, 8], [8, 10, 11]), ([12, 8], [8, 12]), ([13, 8], [8, 13]), ([8], [8]), ([15, 8], [8, 15]), ([8], [8]), ([16, 17, 8], [8, 16, 17]), ([18, 8], [8, 18]), ([19, 8], [8, 19]), ([20, 8], [8, 20]), ([14, 21, 8, 8], [8, 14, 21]), ([22, 8], [8, 22]), ([8, 23], [8, 23]), ([24, 22], [24]), ([25], [25]), ([26, 25], [25, 26]), ([27, 25, 25], [25, 27]), ([28], [28]), ([29, 28], [28, 29]), ([28], [28]), ([30, 31, 28], [28, 30, 31]), ([32, 28], [28, 32]), ([33, 28], [28, 33]), ([28], [28]), ([35, 28], [28, 35]), ([28], [28]), ([37, 28], [28, 37]), ([36, 38, 28], [28, 36, 38]), ([39, 28], [28, 39]), ([40, 28], [28, 40]), ([34, 41, 28], [28, 34, 41]), ([28, 42, 25], [25, 28, 42]), ([25, 43], [25, 43])])
def spec_DiskOk.B6 : List Nat := [0, 1, 0, 7, 15, 31, 63, 127, 255, 511, 1023, 511, 4095, 8191, 16383, 511, 33279, 511, 229887, 492031, 1016319, 2064895, 4194303, 8388607, 16777215, 33554431, 67108863, 134217727, 268435455, 536870911, 1073741823, 536870911, 4294967295, 8589934591, 17179869183, 536870911, 34896609279, 536870911, 137975824383, 515932946431, 1065688760319, 2165200388095, 4398046511103, 8796093022207, 17592186044415]
theorem spec_DiskOk.tab6 : rtab .any (opsOf Try.f18 6) = spec_DiskOk.T6 := by kernel_rfl
theorem spec_DiskOk.bits6 : waitsOk spec_DiskOk.T6.2 spec_DiskOk.B6 = true := by kernel_rfl
set_option maxHeartbeats 80000000 in
set_option maxRecDepth 100000 in
theorem spec_DiskOk.calls (k : Nat) (A0_0 : Option Addr) (c0_0 : Nat) (l0_0 : List (S45)) (a0_1 : Int) (a0_2 : Int) (a0_3 : Bool) (r : Bool) (w : World) (hr0_0 : Kd.C k45 w A0_0 l0_0.length l0_0) (hc0_0 : l0_0.length ≤ c0_0) (h : spec_DiskOk.f k l0_0 a0_1 a0_2 a0_3 = some r) :
  Calls Try.prog 18 #[.agg #[.slice A0_0 l0_0.length c0_0, .int .i64 a0_1, .int .i64 a0_2, .bool a0_3]] w fun e w' => e = .returned (.bool r) ∧ Below w.heap.size w w' := by
 have hu29 := Try.underlying29
 have HR0_0 := Aside0.mk hr0_0
 have HC0_0 := Aside0.mk hc0_0
 clear hr0_0 hc0_0
 have HB := Aside0.mk (Below.refl w.heap.size w)
 have H : (if (l0_0.length : Int) > 130 then (spec_DiskOk.j0 k true l0_0 a0_1 a0_2 a0_3) else ((spec_l1In.f a0_1 0 100000).bind fun t171 => (if t171 = true then ((spec_l1In.f a0_2 (-1) 100000).bind fun t172 => (if t172 = true then ((spec_l3Used.f k l0_0 a0_1 a0_2 a0_3).bind fun t173 => (spec_DiskOk.j0 k (decide (t173 > a0_1)) l0_0 a0_1 a0_2 a0_3)) else (spec_DiskOk.j0 k true l0_0 a0_1 a0_2 a0_3))) else (spec_DiskOk.j0 k true l0_0 a0_1 a0_2 a0_3)))) = some r := h
 clear h
 have HC2 := Aside0.mk H
 clear H
 go_enter Try.func18, Try.ntmps18
 go_upto_region 1 with (first | ((with_reducible refine gate_dst (N := 1) rfl ?_); (try (refine gate_guard (by rfl) ?_; dsimp only)); refine box_event ?hg (N := 1) ?hd (cs := #[.slice A0_0 l0_0.length c0_0, .int .i64 a0_1, .int .i64 a0_2, .bool a0_3]) (t := 29) ?hr ?_; (case hd => rfl); (case hg => rfl); (case hr => first | (go_simp; done) | (go_simp; rfl)); intro gb170 hg w3 hbox hb; have BK170 := Aside0.mk (hbox); have GW170 := ge_ hg (hb_ HB); have GE170 := ge_ hg (hb_ HB); replace HB := bs_ HB hb; clear hb hbox hg))
 (try simp only [Act.put, la_, lz_, ls_])
 go_cut [26] (fun v26 wc => ∃ (kq : Nat) (x26_1 : Bool), v26 = .bool x26_1 ∧ Aside0 (spec_DiskOk.j0 kq x26_1 l0_0 a0_1 a0_2 a0_3 = some r) ∧ Aside0 (kq ≤ k) ∧ Aside0 (wc.heap[gb170]? = some (.cells #[(.slice A0_0 l0_0.length c0_0), .int .i64 a0_1, .int .i64 a0_2, .bool a0_3] 29 (0, 0))) ∧ Aside0 (Below w.heap.size w wc))
 case first =>
  have H := HC2.out
  clear HC2
  by_cases c4 : (l0_0.length : Int) > 130
  ·rw [if_pos c4] at H
   have c4b0 : decide (130 < (l0_0.length : Int)) = true := decide_eq_true c4
   have c4b1 : decide (130 < l0_0.length) = true := decide_eq_true (by omega)
   clear c4
   (first | rw [c4b0] | (simp only [i64_w, i32_w]; rw [c4b0]) | skip)
   have H' := Aside0.mk H
   clear H
   try go_wp2
   replace BK170 := bd_ BK170
   replace HB := hd_ HB
   refine start_ (n := 23) (S := k4e_ gb170 (.slice A0_0 l0_0.length c0_0) (.int .i64 a0_1) (.int .i64 a0_2) (.bool a0_3)) (ds := []) (on_ 0 23) (by kernel_rfl) rfl rfl (p4e_ BK170) (fun hHeld => ?_); refine with_tabW spec_DiskOk.tab1 spec_DiskOk.bits1 (fun HT_ HW_ => ?_)
   generalize w3.drew = w5 at BK170 HB hHeld ⊢
   refine pv_' 0 4 (on_ 1 22) rfl rfl HT_ ?_
   refine take_ (i := 1) (N := some 5) (v := ?_) (a' := ?_) (on_ 2 21) rfl rfl (take_ofW HT_.out HW_.out (by kernel_rfl)) (fun _ _ _ h => h) (Or.inl ⟨by rfl, ?_⟩) hHeld ?_ ?_
   rotate_left
   ·rintro w' ⟨s0, s1, s2, s3⟩
    go_simp
    with_reducible rfl
   rotate_left
   ·simp only [Act.put, la_, lz_, ls_, i64_w, i32_w]
    rfl
   refine pv_' 2 6 (on_ 3 20) rfl rfl HT_ ?_
   refine pv_' 3 7 (on_ 4 19) rfl rfl HT_ ?_
   refine pv_' 4 8 (on_ 5 18) rfl rfl HT_ ?_
   refine pun_' 5 9 (on_ 6 17) rfl rfl HT_ ?_
   refine pun_' 6 10 (on_ 7 16) rfl rfl HT_ ?_
   refine pun_' 7 11 (on_ 8 15) rfl rfl HT_ ?_
   refine pun_' 8 12 (on_ 9 14) rfl rfl HT_ ?_
   refine pv_' 9 13 (on_ 10 13) rfl rfl HT_ ?_
   refine pv_' 10 14 (on_ 11 12) rfl rfl HT_ ?_
   refine pun_' 11 15 (on_ 12 11) rfl rfl HT_ ?_
   refine pun_' 12 16 (on_ 13 10) rfl rfl HT_ ?_
   refine pun_' 13 17 (on_ 14 9) rfl rfl HT_ ?_
   refine pun_' 14 18 (on_ 15 8) rfl rfl HT_ ?_
   refine pv_' 15 19 (on_ 16 7) rfl rfl HT_ ?_
   refine pv_' 16 20 (on_ 17 6) rfl rfl HT_ ?_
   refine pun_' 17 21 (on_ 18 5) rfl rfl HT_ ?_
   refine pun_' 18 22 (on_ 19 4) rfl rfl HT_ ?_
   refine pun_' 19 23 (on_ 20 3) rfl rfl HT_ ?_
   refine pun_' 20 24 (on_ 21 2) rfl rfl HT_ ?_
   refine pun_' 21 25 (on_ 22 1) rfl rfl HT_ ?_
   refine pv_' 22 26 (on_ 23 0) rfl rfl HT_ ?_
   refine done_ (done_of HT_.out (by kernel_rfl)) ?_
   try go_wp2
   go_meet
   case rel => exact ⟨_, (true), rs_, H', ⟨by first | exact Nat.le_refl _ | exact Nat.le_of_succ_le this | omega⟩, ⟨bk_ BK170⟩, ⟨hs_ HB GE170⟩⟩
  ·rw [if_neg c4] at H
   have c4b0 : decide (130 < (l0_0.length : Int)) = false := decide_eq_false c4
   have c4b1 : decide (130 < l0_0.length) = false := decide_eq_false (by omega)
   clear c4
   (first | rw [c4b0] | (simp only [i64_w, i32_w]; rw [c4b0]) | skip)
   replace H := Option.bind_eq_some_iff.mp H
   obtain ⟨t171, A60, H⟩ := H
   replace H : (if t171 = true then ((spec_l1In.f a0_2 (-1) 100000).bind fun t172 => (if t172 = true then ((spec_l3Used.f k l0_0 a0_1 a0_2 a0_3).bind fun t173 => (spec_DiskOk.j0 k (decide (t173 > a0_1)) l0_0 a0_1 a0_2 a0_3)) else (spec_DiskOk.j0 k true l0_0 a0_1 a0_2 a0_3))) else (spec_DiskOk.j0 k true l0_0 a0_1 a0_2 a0_3)) = some r := H
   have A6 := Aside0.mk A60
   clear A60
   by_cases c7 : t171 = true
   ·subst c7
    have H1 : ((spec_l1In.f a0_2 (-1) 100000).bind fun t172 => (if t172 = true then ((spec_l3Used.f k l0_0 a0_1 a0_2 a0_3).bind fun t173 => (spec_DiskOk.j0 k (decide (t173 > a0_1)) l0_0 a0_1 a0_2 a0_3)) else (spec_DiskOk.j0 k true l0_0 a0_1 a0_2 a0_3))) = some r := by rw [if_pos rfl] at H; exact H
    clear H
    have H := H1
    clear H1
    replace H := Option.bind_eq_some_iff.mp H
    obtain ⟨t172, A80, H⟩ := H
    replace H : (if t172 = true then ((spec_l3Used.f k l0_0 a0_1 a0_2 a0_3).bind fun t173 => (spec_DiskOk.j0 k (decide (t173 > a0_1)) l0_0 a0_1 a0_2 a0_3)) else (spec_DiskOk.j0 k true l0_0 a0_1 a0_2 a0_3)) = some r := H
    have A8 := Aside0.mk A80
    clear A80
    by_cases c9 : t172 = true
    ·subst c9
     have H1 : ((spec_l3Used.f k l0_0 a0_1 a0_2 a0_3).bind fun t173 => (spec_DiskOk.j0 k (decide (t173 > a0_1)) l0_0 a0_1 a0_2 a0_3)) = some r := by rw [if_pos rfl] at H; exact H
     clear H
     have H := H1
     clear H1
     replace H := Option.bind_eq_some_iff.mp H
     obtain ⟨t173, A100, H⟩ := H
     replace H : (spec_DiskOk.j0 k (decide (t173 > a0_1)) l0_0 a0_1 a0_2 a0_3) = some r := H
     have A10 := Aside0.mk A100
     clear A100
     have H' := Aside0.mk H
     clear H
     try go_wp2
     replace BK170 := bd_ BK170
     replace HB := hd_ HB
     refine start_ (n := 23) (S := k4e_ gb170 (.slice A0_0 l0_0.length c0_0) (.int .i64 a0_1) (.int .i64 a0_2) (.bool a0_3)) (ds := []) (on_ 0 23) (by kernel_rfl) rfl rfl (p4e_ BK170) (fun hHeld => ?_); refine with_tabW spec_DiskOk.tab1 spec_DiskOk.bits1 (fun HT_ HW_ => ?_)
     generalize w3.drew = w11 at BK170 HB hHeld ⊢
     refine pv_' 0 4 (on_ 1 22) rfl rfl HT_ ?_
     refine take_ (i := 1) (N := some 5) (v := ?_) (a' := ?_) (on_ 2 21) rfl rfl (take_ofW HT_.out HW_.out (by kernel_rfl)) (fun _ _ _ h => h) (Or.inl ⟨by rfl, ?_⟩) hHeld ?_ ?_
     rotate_left
     ·rintro w' ⟨s0, s1, s2, s3⟩
      go_simp
      with_reducible rfl
     rotate_left
     ·simp only [Act.put, la_, lz_, ls_, i64_w, i32_w]
      rfl
     refine pv_' 2 6 (on_ 3 20) rfl rfl HT_ ?_
     refine pv_' 3 7 (on_ 4 19) rfl rfl HT_ ?_
     refine pv_' 4 8 (on_ 5 18) rfl rfl HT_ ?_
     refine pv_' 5 9 (on_ 6 17) rfl rfl HT_ ?_
     refine take_ (i := 6) (N := some 10) (v := ?_) (a' := ?_) (on_ 7 16) rfl rfl (take_ofW HT_.out HW_.out (by kernel_rfl)) (fun _ _ _ h => h) (Or.inl ⟨by rfl, ?_⟩) hHeld ?_ ?_
     rotate_left
     ·rintro w' ⟨s0, s1, s2, s3⟩
      go_simp
      with_reducible rfl
     rotate_left
     ·simp only [Act.put, la_, lz_, ls_, i64_w, i32_w]
      rfl
     refine one_ (i := 7) (N := some 11) (on_ 8 15) rfl rfl (one_of HT_.out (by kernel_rfl)) (by decide) (fun K hK => ?_)
     refine goes_ Try.func46 (by kernel_rfl) rfl #[.int .i64 a0_1, .int .i64 0, .int .i64 100000] (by rfl) rfl rfl ar_ ?_
     with_reducible refine (spec_l1In.calls a0_1 0 100000 true _ A6.out).mono ?_
     rintro e w' ⟨rfl, ⟨nd, rfl⟩⟩
     refine ⟨_, rfl, ?_⟩
     refine hK.out _ _ (p4e_ BK170) (fun hHeld => ?_)
     clear hK K
     refine norm_ (a' := ?_) ?_ ?_
     rotate_left
     ·show Act.put _ (some 11) _ = _
      simp only [Act.put, la_, lz_, ls_, i64_w, i32_w]
      rfl
     refine pv_' 8 12 (on_ 9 14) rfl rfl HT_ ?_
     refine pv_' 9 13 (on_ 10 13) rfl rfl HT_ ?_
     refine pv_' 10 14 (on_ 11 12) rfl rfl HT_ ?_
     refine pv_' 11 15 (on_ 12 11) rfl rfl HT_ ?_
     refine take_ (i := 12) (N := some 16) (v := ?_) (a' := ?_) (on_ 13 10) rfl rfl (take_ofW HT_.out HW_.out (by kernel_rfl)) (fun _ _ _ h => h) (Or.inl ⟨by rfl, ?_⟩) hHeld ?_ ?_
     rotate_left
     ·rintro w' ⟨s0, s1, s2, s3⟩
      go_simp
      with_reducible rfl
     rotate_left
     ·simp only [Act.put, la_, lz_, ls_, i64_w, i32_w]
      rfl
     refine one_ (i := 13) (N := some 17) (on_ 14 9) rfl rfl (one_of HT_.out (by kernel_rfl)) (by decide) (fun K hK => ?_)
     refine goes_ Try.func46 (by kernel_rfl) rfl #[.int .i64 a0_2, .int .i64 (-1), .int .i64 100000] (by rfl) rfl rfl ar_ ?_
     with_reducible refine (spec_l1In.calls a0_2 (-1) 100000 true _ A8.out).mono ?_
     rintro e w' ⟨rfl, ⟨nd, rfl⟩⟩
     refine ⟨_, rfl, ?_⟩
     refine hK.out _ _ (p4e_ BK170) (fun hHeld => ?_)
     clear hK K
     refine norm_ (a' := ?_) ?_ ?_
     rotate_left
     ·show Act.put _ (some 17) _ = _
      simp only [Act.put, la_, lz_, ls_, i64_w, i32_w]
      rfl
     refine pv_' 14 18 (on_ 15 8) rfl rfl HT_ ?_
     refine pv_' 15 19 (on_ 16 7) rfl rfl HT_ ?_
     refine pv_' 16 20 (on_ 17 6) rfl rfl HT_ ?_
     refine pv_' 19 23 #[i',i',i',i',i',i',i',i',i',i',i',i',i',i',i',i',i',o',o',i',o',o',o'] rfl rfl HT_ ?_
     refine take_ (i := 17) (N := some 21) (v := ?_) (a' := ?_) #[i',i',i',i',i',i',i',i',i',i',i',i',i',i',i',i',i',i',o',i',o',o',o'] rfl rfl (take_ofW HT_.out HW_.out (by kernel_rfl)) (fun _ _ _ h => h) (Or.inl ⟨by rfl, ?_⟩) hHeld ?_ ?_
     rotate_left
     ·rintro w' ⟨s0, s1, s2, s3⟩
      go_simp
      with_reducible rfl
     rotate_left
     ·simp only [Act.put, la_, lz_, ls_, i64_w, i32_w]
      rfl
     refine take_ (i := 20) (N := some 24) (v := ?_) (a' := ?_) #[i',i',i',i',i',i',i',i',i',i',i',i',i',i',i',i',i',i',o',i',i',o',o'] rfl rfl (take_ofW HT_.out HW_.out (by kernel_rfl)) (fun _ _ _ h => h) (Or.inl ⟨by rfl, ?_⟩) hHeld ?_ ?_
     rotate_left
     ·rintro w' ⟨s0, s1, s2, s3⟩
      go_simp
      with_reducible rfl
     rotate_left
     ·simp only [Act.put, la_, lz_, ls_, i64_w, i32_w]
      rfl
     refine one_ (i := 18) (N := some 22) (on_ 21 2) rfl rfl (one_of HT_.out (by kernel_rfl)) (by decide) (fun K hK => ?_)
     refine goes_ Try.func47 (by kernel_rfl) rfl #[.agg #[.slice A0_0 l0_0.length c0_0, .int .i64 a0_1, .int .i64 a0_2, .bool a0_3]] (by rfl) rfl rfl ar_ ?_
     with_reducible refine (spec_l3Used.calls k _ _ l0_0 a0_1 a0_2 a0_3 t173 _ ?side1 ?side2 A10.out).mono ?_
     (case side1 => repeat (first | exact (Kd.C_below HR0_0.out (hs_ HB GE170)) | (with_reducible refine Kd.C_alloc ?_ _) | (with_reducible refine Kd.C_drewN ?_ _) | (with_reducible refine Kd.C_drew ?_)))
     (case side2 => exact HC0_0.out)
     rintro e w12 ⟨rfl, hb⟩
     refine ⟨_, rfl, ?_⟩
     replace BK170 := bb_ BK170 hb
     replace HB := bt_ HB GE170 hb
     (try clear hb)
     (try clear hb2)
     (try clear hk)
     (try clear hi)
     refine hK.out _ _ (p4e_ BK170) (fun hHeld => ?_)
     clear hK K
     refine norm_ (a' := ?_) ?_ ?_
     rotate_left
     ·show Act.put _ (some 22) _ = _
      simp only [Act.put, la_, lz_, ls_, i64_w, i32_w]
      rfl
     refine pv_' 21 25 (on_ 22 1) rfl rfl HT_ ?_
     refine pv_' 22 26 (on_ 23 0) rfl rfl HT_ ?_
     refine done_ (done_of HT_.out (by kernel_rfl)) ?_
     try go_wp2
     go_meet
     case rel => exact ⟨_, (decide (t173 > a0_1)), rs_, H', ⟨by first | exact Nat.le_refl _ | exact Nat.le_of_succ_le this | omega⟩, ⟨bk_ BK170⟩, ⟨hs_ HB GE170⟩⟩
    ·replace c9 := Bool.eq_false_iff.mpr c9
     subst c9
     have H1 : (spec_DiskOk.j0 k true l0_0 a0_1 a0_2 a0_3) = some r := by rw [if_neg (show ¬ (false = true) by decide)] at H; exact H
     clear H
     have H := H1
     clear H1
     have H' := Aside0.mk H
     clear H
     try go_wp2
     replace BK170 := bd_ BK170
     replace HB := hd_ HB
     refine start_ (n := 23) (S := k4e_ gb170 (.slice A0_0 l0_0.length c0_0) (.int .i64 a0_1) (.int .i64 a0_2) (.bool a0_3)) (ds := []) (on_ 0 23) (by kernel_rfl) rfl rfl (p4e_ BK170) (fun hHeld => ?_); refine with_tabW spec_DiskOk.tab1 spec_DiskOk.bits1 (fun HT_ HW_ => ?_)
     generalize w3.drew = w13 at BK170 HB hHeld ⊢
     refine pv_' 0 4 (on_ 1 22) rfl rfl HT_ ?_
     refine take_ (i := 1) (N := some 5) (v := ?_) (a' := ?_) (on_ 2 21) rfl rfl (take_ofW HT_.out HW_.out (by kernel_rfl)) (fun _ _ _ h => h) (Or.inl ⟨by rfl, ?_⟩) hHeld ?_ ?_
     rotate_left
     ·rintro w' ⟨s0, s1, s2, s3⟩
      go_simp
      with_reducible rfl
     rotate_left
     ·simp only [Act.put, la_, lz_, ls_, i64_w, i32_w]
      rfl
     refine pv_' 2 6 (on_ 3 20) rfl rfl HT_ ?_
     refine pv_' 3 7 (on_ 4 19) rfl rfl HT_ ?_
     refine pv_' 4 8 (on_ 5 18) rfl rfl HT_ ?_
     refine pv_' 5 9 (on_ 6 17) rfl rfl HT_ ?_
     refine take_ (i := 6) (N := some 10) (v := ?_) (a' := ?_) (on_ 7 16) rfl rfl (take_ofW HT_.out HW_.out (by kernel_rfl)) (fun _ _ _ h => h) (Or.inl ⟨by rfl, ?_⟩) hHeld ?_ ?_
     rotate_left
     ·rintro w' ⟨s0, s1, s2, s3⟩
      go_simp
      with_reducible rfl
     rotate_left
     ·simp only [Act.put, la_, lz_, ls_, i64_w, i32_w]
      rfl
     refine one_ (i := 7) (N := some 11) (on_ 8 15) rfl rfl (one_of HT_.out (by kernel_rfl)) (by decide) (fun K hK => ?_)
     refine goes_ Try.func46 (by kernel_rfl) rfl #[.int .i64 a0_1, .int .i64 0, .int .i64 100000] (by rfl) rfl rfl ar_ ?_
     with_reducible refine (spec_l1In.calls a0_1 0 100000 true _ A6.out).mono ?_
     rintro e w' ⟨rfl, ⟨nd, rfl⟩⟩
     refine ⟨_, rfl, ?_⟩
     refine hK.out _ _ (p4e_ BK170) (fun hHeld => ?_)
     clear hK K
     refine norm_ (a' := ?_) ?_ ?_
     rotate_left
     ·show Act.put _ (some 11) _ = _
      simp only [Act.put, la_, lz_, ls_, i64_w, i32_w]
      rfl
     refine pv_' 8 12 (on_ 9 14) rfl rfl HT_ ?_
     refine pv_' 9 13 (on_ 10 13) rfl rfl HT_ ?_
     refine pv_' 10 14 (on_ 11 12) rfl rfl HT_ ?_
     refine pv_' 11 15 (on_ 12 11) rfl rfl HT_ ?_
     refine take_ (i := 12) (N := some 16) (v := ?_) (a' := ?_) (on_ 13 10) rfl rfl (take_ofW HT_.out HW_.out (by kernel_rfl)) (fun _ _ _ h => h) (Or.inl ⟨by rfl, ?_⟩) hHeld ?_ ?_
     rotate_left
     ·rintro w' ⟨s0, s1, s2, s3⟩
      go_simp
      with_reducible rfl
     rotate_left
     ·simp only [Act.put, la_, lz_, ls_, i64_w, i32_w]
      rfl
     refine one_ (i := 13) (N := some 17) (on_ 14 9) rfl rfl (one_of HT_.out (by kernel_rfl)) (by decide) (fun K hK => ?_)
     refine goes_ Try.func46 (by kernel_rfl) rfl #[.int .i64 a0_2, .int .i64 (-1), .int .i64 100000] (by rfl) rfl rfl ar_ ?_
     with_reducible refine (spec_l1In.calls a0_2 (-1) 100000 false _ A8.out).mono ?_
     rintro e w' ⟨rfl, ⟨nd, rfl⟩⟩
     refine ⟨_, rfl, ?_⟩
     refine hK.out _ _ (p4e_ BK170) (fun hHeld => ?_)
     clear hK K
     refine norm_ (a' := ?_) ?_ ?_
     rotate_left
     ·show Act.put _ (some 17) _ = _
      simp only [Act.put, la_, lz_, ls_, i64_w, i32_w]
      rfl
     refine pv_' 14 18 (on_ 15 8) rfl rfl HT_ ?_
     refine pv_' 15 19 (on_ 16 7) rfl rfl HT_ ?_
     refine pv_' 16 20 (on_ 17 6) rfl rfl HT_ ?_
     refine pun_' 17 21 (on_ 18 5) rfl rfl HT_ ?_
     refine pun_' 18 22 (on_ 19 4) rfl rfl HT_ ?_
     refine pun_' 19 23 (on_ 20 3) rfl rfl HT_ ?_
     refine pun_' 20 24 (on_ 21 2) rfl rfl HT_ ?_
     refine pun_' 21 25 (on_ 22 1) rfl rfl HT_ ?_
     refine pv_' 22 26 (on_ 23 0) rfl rfl HT_ ?_
     refine done_ (done_of HT_.out (by kernel_rfl)) ?_
     try go_wp2
     go_meet
     case rel => exact ⟨_, (true), rs_, H', ⟨by first | exact Nat.le_refl _ | exact Nat.le_of_succ_le this | omega⟩, ⟨bk_ BK170⟩, ⟨hs_ HB GE170⟩⟩
   ·replace c7 := Bool.eq_false_iff.mpr c7
    subst c7
    have H1 : (spec_DiskOk.j0 k true l0_0 a0_1 a0_2 a0_3) = some r := by rw [if_neg (show ¬ (false = true) by decide)] at H; exact H
    clear H
    have H := H1
    clear H1
    have H' := Aside0.mk H
    clear H
    try go_wp2
    replace BK170 := bd_ BK170
    replace HB := hd_ HB
    refine start_ (n := 23) (S := k4e_ gb170 (.slice A0_0 l0_0.length c0_0) (.int .i64 a0_1) (.int .i64 a0_2) (.bool a0_3)) (ds := []) (on_ 0 23) (by kernel_rfl) rfl rfl (p4e_ BK170) (fun hHeld => ?_); refine with_tabW spec_DiskOk.tab1 spec_DiskOk.bits1 (fun HT_ HW_ => ?_)
    generalize w3.drew = w14 at BK170 HB hHeld ⊢
    refine pv_' 0 4 (on_ 1 22) rfl rfl HT_ ?_
    refine take_ (i := 1) (N := some 5) (v := ?_) (a' := ?_) (on_ 2 21) rfl rfl (take_ofW HT_.out HW_.out (by kernel_rfl)) (fun _ _ _ h => h) (Or.inl ⟨by rfl, ?_⟩) hHeld ?_ ?_
    rotate_left
    ·rintro w' ⟨s0, s1, s2, s3⟩
     go_simp
     with_reducible rfl
    rotate_left
    ·simp only [Act.put, la_, lz_, ls_, i64_w, i32_w]
     rfl
    refine pv_' 2 6 (on_ 3 20) rfl rfl HT_ ?_
    refine pv_' 3 7 (on_ 4 19) rfl rfl HT_ ?_
    refine pv_' 4 8 (on_ 5 18) rfl rfl HT_ ?_
    refine pv_' 5 9 (on_ 6 17) rfl rfl HT_ ?_
    refine take_ (i := 6) (N := some 10) (v := ?_) (a' := ?_) (on_ 7 16) rfl rfl (take_ofW HT_.out HW_.out (by kernel_rfl)) (fun _ _ _ h => h) (Or.inl ⟨by rfl, ?_⟩) hHeld ?_ ?_
    rotate_left
    ·rintro w' ⟨s0, s1, s2, s3⟩
     go_simp
     with_reducible rfl
    rotate_left
    ·simp only [Act.put, la_, lz_, ls_, i64_w, i32_w]
     rfl
    refine one_ (i := 7) (N := some 11) (on_ 8 15) rfl rfl (one_of HT_.out (by kernel_rfl)) (by decide) (fun K hK => ?_)
    refine goes_ Try.func46 (by kernel_rfl) rfl #[.int .i64 a0_1, .int .i64 0, .int .i64 100000] (by rfl) rfl rfl ar_ ?_
    with_reducible refine (spec_l1In.calls a0_1 0 100000 false _ A6.out).mono ?_
    rintro e w' ⟨rfl, ⟨nd, rfl⟩⟩
    refine ⟨_, rfl, ?_⟩
    refine hK.out _ _ (p4e_ BK170) (fun hHeld => ?_)
    clear hK K
    refine norm_ (a' := ?_) ?_ ?_
    rotate_left
    ·show Act.put _ (some 11) _ = _
     simp only [Act.put, la_, lz_, ls_, i64_w, i32_w]
     rfl
    refine pv_' 8 12 (on_ 9 14) rfl rfl HT_ ?_
    refine pv_' 9 13 (on_ 10 13) rfl rfl HT_ ?_
    refine pv_' 10 14 (on_ 11 12) rfl rfl HT_ ?_
    refine pun_' 11 15 (on_ 12 11) rfl rfl HT_ ?_
    refine pun_' 12 16 (on_ 13 10) rfl rfl HT_ ?_
    refine pun_' 13 17 (on_ 14 9) rfl rfl HT_ ?_
    refine pun_' 14 18 (on_ 15 8) rfl rfl HT_ ?_
    refine pv_' 15 19 (on_ 16 7) rfl rfl HT_ ?_
    refine pv_' 16 20 (on_ 17 6) rfl rfl HT_ ?_
    refine pun_' 17 21 (on_ 18 5) rfl rfl HT_ ?_
    refine pun_' 18 22 (on_ 19 4) rfl rfl HT_ ?_
    refine pun_' 19 23 (on_ 20 3) rfl rfl HT_ ?_
    refine pun_' 20 24 (on_ 21 2) rfl rfl HT_ ?_
    refine pun_' 21 25 (on_ 22 1) rfl rfl HT_ ?_
    refine pv_' 22 26 (on_ 23 0) rfl rfl HT_ ?_
    refine done_ (done_of HT_.out (by kernel_rfl)) ?_
    try go_wp2
    go_meet
    case rel => exact ⟨_, (true), rs_, H', ⟨by first | exact Nat.le_refl _ | exact Nat.le_of_succ_le this | omega⟩, ⟨bk_ BK170⟩, ⟨hs_ HB GE170⟩⟩
 case rest =>
  clear HC2
  try clear p2
  try clear c4
  try clear c7
  try clear c9
  obtain ⟨kq, x26_1, rfl, HA, HJ1, BK170, HB⟩ := hcut
  cases kq with
  | zero => exact absurd HA.out (by simp [spec_DiskOk.j0])
  | succ kj1 =>
   have H := HA.out
   clear HA
   simp only [spec_DiskOk.j0] at H
   by_cases c15 : x26_1 = true
   ·subst c15
    have H1 : (some false) = some r := by rw [if_pos rfl] at H; exact H
    clear H
    have H := H1
    clear H1
    obtain rfl := Option.some.inj H
    go_wp2
    go_ret
    exact ⟨re_, hs_ HB GE170⟩
   ·replace c15 := Bool.eq_false_iff.mpr c15
    subst c15
    have H1 : (spec_DiskOk.l0 kj1 0 l0_0 a0_1 a0_2 a0_3) = some r := by rw [if_neg (show ¬ (false = true) by decide)] at H; exact H
    clear H
    have H := H1
    clear H1
    have H' := Aside0.mk H
    clear H
    go_wp2
    go_loopg [3] kj1 (fun kq v3 w' => ∃ (x3_2 : Int), v3 = .int .i64 x3_2 ∧ Aside0 (spec_DiskOk.l0 kq x3_2 l0_0 a0_1 a0_2 a0_3 = some r) ∧ Aside0 (kq ≤ kj1) ∧ Aside0 (w'.heap[gb170]? = some (.cells #[(.slice A0_0 l0_0.length c0_0), .int .i64 a0_1, .int .i64 a0_2, .bool a0_3] 29 (0, 0))) ∧ Aside0 (Below w.heap.size w w'))
    case atStart => exact ⟨(0), rs_, H', ⟨Nat.le_refl _⟩, ⟨bk_ BK170⟩, ⟨hs_ HB GE170⟩⟩
    case round =>
     clear H'
     try clear c1
     try clear p2
     try clear c4
     try clear c7
     try clear c9
     try clear c15
     try clear p2
     obtain ⟨x3_2, rfl, HA, HK2, BK170, HB⟩ := hrel
     cases gk with
     | zero => exact absurd HA.out (by simp [spec_DiskOk.l0])
     | succ k2 =>
      have H := HA.out
      clear HA
      simp only [spec_DiskOk.l0] at H
      by_cases c16 : x3_2 < (l0_0.length : Int)
      ·rw [if_pos c16] at H
       have c16b0 : decide (x3_2 < (l0_0.length : Int)) = true := decide_eq_true c16
       clear c16
       have HC17 := Aside0.mk H
       clear H
       obtain ⟨hcz18_0, hcz18_1, hcz18_2, hcz18_3, hfz18_0, hfz18_1, hfz18_2, hfz18_3⟩ := bc4_ BK170
       go_upto_region 6 with (fail)
       go_cut [78] (fun v78 wc => ∃ (kq : Nat) (x78_16 : Bool), v78 = .bool x78_16 ∧ Aside0 (spec_DiskOk.j2 kq x3_2 x78_16 l0_0 a0_1 a0_2 a0_3 = some r) ∧ Aside0 (kq ≤ k2) ∧ Aside0 (wc.heap[gb170]? = some (.cells #[(.slice A0_0 l0_0.length c0_0), .int .i64 a0_1, .int .i64 a0_2, .bool a0_3] 29 (0, 0))) ∧ Aside0 (Below w.heap.size w wc))
       case first =>
        have H := HC17.out
        clear HC17
        by_cases c19 : 0 ≤ x3_2
        ·rw [if_pos c19] at H
         have c19b0 : decide (0 ≤ x3_2) = true := decide_eq_true c19
         clear c19
         (first | rw [c19b0] | (simp only [i64_w, i32_w]; rw [c19b0]) | skip)
         replace H := Option.bind_eq_some_iff.mp H
         obtain ⟨t175, A200, H⟩ := H
         replace H : (if t175 = true then ((spec_l1In.f ((rd_T45 l0_0 x3_2).f2) 0 (((rd_T45 l0_0 x3_2).f1).size : Int)).bind fun t178 => (if t178 = true then (if x3_2 > 0 then (if 0 ≤ (wrap64 (x3_2 - 1)) then (if (wrap64 (x3_2 - 1)) < (l0_0.length : Int) then (spec_DiskOk.j2 k2 x3_2 (!(Op.bytesLess (((rd_T45 l0_0 (wrap64 (x3_2 - 1))).f0).toList) (((rd_T45 l0_0 x3_2).f0).toList))) l0_0 a0_1 a0_2 a0_3) else (none)) else (none)) else (spec_DiskOk.j2 k2 x3_2 false l0_0 a0_1 a0_2 a0_3)) else (spec_DiskOk.j2 k2 x3_2 true l0_0 a0_1 a0_2 a0_3))) else (spec_DiskOk.j2 k2 x3_2 true l0_0 a0_1 a0_2 a0_3)) = some r := H
         have A20 := Aside0.mk A200
         clear A200
         by_cases c21 : t175 = true
         ·subst c21
          have H1 : ((spec_l1In.f ((rd_T45 l0_0 x3_2).f2) 0 (((rd_T45 l0_0 x3_2).f1).size : Int)).bind fun t178 => (if t178 = true then (if x3_2 > 0 then (if 0 ≤ (wrap64 (x3_2 - 1)) then (if (wrap64 (x3_2 - 1)) < (l0_0.length : Int) then (spec_DiskOk.j2 k2 x3_2 (!(Op.bytesLess (((rd_T45 l0_0 (wrap64 (x3_2 - 1))).f0).toList) (((rd_T45 l0_0 x3_2).f0).toList))) l0_0 a0_1 a0_2 a0_3) else (none)) else (none)) else (spec_DiskOk.j2 k2 x3_2 false l0_0 a0_1 a0_2 a0_3)) else (spec_DiskOk.j2 k2 x3_2 true l0_0 a0_1 a0_2 a0_3))) = some r := by rw [if_pos rfl] at H; exact H
          clear H
          have H := H1
          clear H1
          replace H := Option.bind_eq_some_iff.mp H
          obtain ⟨t178, A220, H⟩ := H
          replace H : (if t178 = true then (if x3_2 > 0 then (if 0 ≤ (wrap64 (x3_2 - 1)) then (if (wrap64 (x3_2 - 1)) < (l0_0.length : Int) then (spec_DiskOk.j2 k2 x3_2 (!(Op.bytesLess (((rd_T45 l0_0 (wrap64 (x3_2 - 1))).f0).toList) (((rd_T45 l0_0 x3_2).f0).toList))) l0_0 a0_1 a0_2 a0_3) else (none)) else (none)) else (spec_DiskOk.j2 k2 x3_2 false l0_0 a0_1 a0_2 a0_3)) else (spec_DiskOk.j2 k2 x3_2 true l0_0 a0_1 a0_2 a0_3)) = some r := H
          have A22 := Aside0.mk A220
          clear A220
          by_cases c23 : t178 = true
          ·subst c23
           have H1 : (if x3_2 > 0 then (if 0 ≤ (wrap64 (x3_2 - 1)) then (if (wrap64 (x3_2 - 1)) < (l0_0.length : Int) then (spec_DiskOk.j2 k2 x3_2 (!(Op.bytesLess (((rd_T45 l0_0 (wrap64 (x3_2 - 1))).f0).toList) (((rd_T45 l0_0 x3_2).f0).toList))) l0_0 a0_1 a0_2 a0_3) else (none)) else (none)) else (spec_DiskOk.j2 k2 x3_2 false l0_0 a0_1 a0_2 a0_3)) = some r := by rw [if_pos rfl] at H; exact H
           clear H
           have H := H1
           clear H1
           by_cases c24 : x3_2 > 0
           ·rw [if_pos c24] at H
            have c24b0 : decide (0 < x3_2) = true := decide_eq_true c24
            clear c24
            obtain ⟨ji25, hji25⟩ : ∃ j_ : Int, (wrap64 (x3_2 - 1)) = j_ := ⟨_, rfl⟩
            replace H : (if 0 ≤ (ji25) then (if (ji25) < (l0_0.length : Int) then (spec_DiskOk.j2 k2 x3_2 (!(Op.bytesLess (((rd_T45 l0_0 (ji25)).f0).toList) (((rd_T45 l0_0 x3_2).f0).toList))) l0_0 a0_1 a0_2 a0_3) else (none)) else (none)) = some r := by first | (rw [hji25] at H; exact H) | (simp only [hji25] at H ⊢; exact H)
            (try rw [hji25] at A20)
            (try rw [hji25] at A22)
            have hji25w : (IntKind.i64.wrap (x3_2 - 1)) = ji25 := (i64_w _).trans hji25
            by_cases c26 : 0 ≤ (ji25)
            ·rw [if_pos c26] at H
             have c26b0 : decide (0 ≤ (ji25)) = true := decide_eq_true c26
             clear c26
             by_cases c27 : (ji25) < (l0_0.length : Int)
             ·rw [if_pos c27] at H
              have c27b0 : decide ((ji25) < (l0_0.length : Int)) = true := decide_eq_true c27
              clear c27
              have H' := Aside0.mk H
              clear H
              try go_wp2
              replace BK170 := bd_ BK170
              replace HB := hd_ HB
              have p174 : 0 ≤ (x3_2 : Int) := of_decide_eq_true as_
              have q174 : x3_2 < (l0_0.length : Int) := of_decide_eq_true as_
              obtain ⟨ad174, e174, hx174_0, hx174_1, hx174_2⟩ := at_T45 HR0_0.out x3_2 p174 q174
              have hw174_2 := hx174_2
              have hw174_1 := hx174_1
              have hw174_0 := hx174_0
              cases e174
              (try replace hx174_0 := cb_ HB hx174_0)
              (try replace hx174_1 := cb_ HB hx174_1)
              (try replace hx174_2 := cb_ HB hx174_2)
              replace p174 := eq_true p174
              replace q174 := eq_true q174
              have p176 : 0 ≤ (x3_2 : Int) := of_decide_eq_true as_
              have q176 : x3_2 < (l0_0.length : Int) := of_decide_eq_true as_
              obtain ⟨ad176, e176, hx176_0, hx176_1, hx176_2⟩ := at_T45 HR0_0.out x3_2 p176 q176
              have hw176_2 := hx176_2
              have hw176_1 := hx176_1
              have hw176_0 := hx176_0
              obtain rfl : ad174 = ad176 := (by injection e176)
              (try replace hx176_0 := cb_ HB hx176_0)
              (try replace hx176_1 := cb_ HB hx176_1)
              (try replace hx176_2 := cb_ HB hx176_2)
              replace p176 := eq_true p176
              replace q176 := eq_true q176
              have p177 : 0 ≤ (x3_2 : Int) := of_decide_eq_true as_
              have q177 : x3_2 < (l0_0.length : Int) := of_decide_eq_true as_
              obtain ⟨ad177, e177, hx177_0, hx177_1, hx177_2⟩ := at_T45 HR0_0.out x3_2 p177 q177
              have hw177_2 := hx177_2
              have hw177_1 := hx177_1
              have hw177_0 := hx177_0
              obtain rfl : ad174 = ad177 := (by injection e177)
              (try replace hx177_0 := cb_ HB hx177_0)
              (try replace hx177_1 := cb_ HB hx177_1)
              (try replace hx177_2 := cb_ HB hx177_2)
              replace p177 := eq_true p177
              replace q177 := eq_true q177
              have p179 : 0 ≤ (x3_2 : Int) := of_decide_eq_true as_
              have q179 : x3_2 < (l0_0.length : Int) := of_decide_eq_true as_
              obtain ⟨ad179, e179, hx179_0, hx179_1, hx179_2⟩ := at_T45 HR0_0.out x3_2 p179 q179
              have hw179_2 := hx179_2
              have hw179_1 := hx179_1
              have hw179_0 := hx179_0
              obtain rfl : ad174 = ad179 := (by injection e179)
              (try replace hx179_0 := cb_ HB hx179_0)
              (try replace hx179_1 := cb_ HB hx179_1)
              (try replace hx179_2 := cb_ HB hx179_2)
              replace p179 := eq_true p179
              replace q179 := eq_true q179
              have p180 : 0 ≤ ((ji25) : Int) := of_decide_eq_true as_
              have q180 : (ji25) < (l0_0.length : Int) := of_decide_eq_true as_
              obtain ⟨ad180, e180, hx180_0, hx180_1, hx180_2⟩ := at_T45 HR0_0.out (ji25) p180 q180
              have hw180_2 := hx180_2
              have hw180_1 := hx180_1
              have hw180_0 := hx180_0
              obtain rfl : ad174 = ad180 := (by injection e180)
              (try replace hx180_0 := cb_ HB hx180_0)
              (try replace hx180_1 := cb_ HB hx180_1)
              (try replace hx180_2 := cb_ HB hx180_2)
              replace p180 := eq_true p180
              replace q180 := eq_true q180
              refine start_ (n := 45) (S := k4_ gb170 (.slice (some ad174) l0_0.length c0_0) (.int .i64 a0_1) (.int .i64 a0_2) (.bool a0_3) (e3_ (ad174.add ((x3_2).toNat * 3)) (.string ((rd_T45 l0_0 x3_2).f0)) (.string ((rd_T45 l0_0 x3_2).f1)) (.int .i64 ((rd_T45 l0_0 x3_2).f2)) (e3_ (ad174.add ((x3_2).toNat * 3)) (.string ((rd_T45 l0_0 x3_2).f0)) (.string ((rd_T45 l0_0 x3_2).f1)) (.int .i64 ((rd_T45 l0_0 x3_2).f2)) (e3_ (ad174.add ((x3_2).toNat * 3)) (.string ((rd_T45 l0_0 x3_2).f0)) (.string ((rd_T45 l0_0 x3_2).f1)) (.int .i64 ((rd_T45 l0_0 x3_2).f2)) (e3_ (ad174.add ((x3_2).toNat * 3)) (.string ((rd_T45 l0_0 x3_2).f0)) (.string ((rd_T45 l0_0 x3_2).f1)) (.int .i64 ((rd_T45 l0_0 x3_2).f2)) (e3e_ (ad174.add (((ji25)).toNat * 3)) (.string ((rd_T45 l0_0 (ji25)).f0)) (.string ((rd_T45 l0_0 (ji25)).f1)) (.int .i64 ((rd_T45 l0_0 (ji25)).f2)))))))) (ds := []) (on_ 0 45) (by kernel_rfl) rfl rfl (p4_ BK170 (q3_ (cb_ HB hw174_0 :) (cb_ HB hw174_1 :) (cb_ HB hw174_2 :) (q3_ (cb_ HB hw176_0 :) (cb_ HB hw176_1 :) (cb_ HB hw176_2 :) (q3_ (cb_ HB hw177_0 :) (cb_ HB hw177_1 :) (cb_ HB hw177_2 :) (q3_ (cb_ HB hw179_0 :) (cb_ HB hw179_1 :) (cb_ HB hw179_2 :) (q3e_ (cb_ HB hw180_0 :) (cb_ HB hw180_1 :) (cb_ HB hw180_2 :))))))) (fun hHeld => ?_); refine with_tabW spec_DiskOk.tab6 spec_DiskOk.bits6 (fun HT_ HW_ => ?_)
              generalize wr.drew = w28 at BK170 HB hx174_0 hx174_1 hx174_2 hx176_0 hx176_1 hx176_2 hx177_0 hx177_1 hx177_2 hx179_0 hx179_1 hx179_2 hx180_0 hx180_1 hx180_2 hHeld ⊢
              refine pv_' 0 34 (on_ 1 44) rfl rfl HT_ ?_
              refine pv_' 2 36 #[i',o',i',o',o',o',o',o',o',o',o',o',o',o',o',o',o',o',o',o',o',o',o',o',o',o',o',o',o',o',o',o',o',o',o',o',o',o',o',o',o',o',o',o',o'] rfl rfl HT_ ?_
              refine take_ (i := 1) (N := some 35) (v := ?_) (a' := ?_) (on_ 3 42) rfl rfl (take_ofW HT_.out HW_.out (by kernel_rfl)) (fun _ _ _ h => h) (Or.inl ⟨by rfl, ?_⟩) hHeld ?_ ?_
              rotate_left
              ·rintro w' ⟨s0, s1, s2, s3, s4, s5, s6, s7, s8, s9, s10, s11, s12, s13, s14, s15, s16, s17, s18⟩
               go_simp
               with_reducible rfl
              rotate_left
              ·simp only [Act.put, la_, lz_, ls_, i64_w, i32_w]
               rfl
              refine pv_' 3 37 (on_ 4 41) rfl rfl HT_ ?_
              refine pv_' 4 38 (on_ 5 40) rfl rfl HT_ ?_
              refine take_ (i := 5) (N := some 39) (v := ?_) (a' := ?_) (on_ 6 39) rfl rfl (take_ofW HT_.out HW_.out (by kernel_rfl)) (fun _ _ _ h => h) (Or.inl ⟨by rfl, ?_⟩) hHeld ?_ ?_
              rotate_left
              ·rintro w' ⟨s0, s1, s2, s3, s4, s5, s6, s7, s8, s9, s10, s11, s12, s13, s14, s15, s16, s17, s18⟩
               go_simp
               with_reducible rfl
              rotate_left
              ·simp only [Act.put, la_, lz_, ls_, i64_w, i32_w]
               rfl
              refine one_ (i := 6) (N := some 40) (on_ 7 38) rfl rfl (one_of HT_.out (by kernel_rfl)) (by decide) (fun K hK => ?_)
              refine goes_ Try.func48 (by kernel_rfl) rfl #[.string ((rd_T45 l0_0 x3_2).f0)] (by rfl) rfl rfl ar_ ?_
              with_reducible refine (spec_NameOk.calls k2 ((rd_T45 l0_0 x3_2).f0) true _ A20.out).mono ?_
              rintro e w' ⟨rfl, ⟨nd, rfl⟩⟩
              refine ⟨_, rfl, ?_⟩
              refine hK.out _ _ (p4_ BK170 (q3_ (cb_ HB hw174_0 :) (cb_ HB hw174_1 :) (cb_ HB hw174_2 :) (q3_ (cb_ HB hw176_0 :) (cb_ HB hw176_1 :) (cb_ HB hw176_2 :) (q3_ (cb_ HB hw177_0 :) (cb_ HB hw177_1 :) (cb_ HB hw177_2 :) (q3_ (cb_ HB hw179_0 :) (cb_ HB hw179_1 :) (cb_ HB hw179_2 :) (q3e_ (cb_ HB hw180_0 :) (cb_ HB hw180_1 :) (cb_ HB hw180_2 :))))))) (fun hHeld => ?_)
              clear hK K
              refine norm_ (a' := ?_) ?_ ?_
              rotate_left
              ·show Act.put _ (some 40) _ = _
               simp only [Act.put, la_, lz_, ls_, i64_w, i32_w]
               rfl
              refine pv_' 7 41 (on_ 8 37) rfl rfl HT_ ?_
              refine pv_' 8 42 (on_ 9 36) rfl rfl HT_ ?_
              refine pv_' 9 43 (on_ 10 35) rfl rfl HT_ ?_
              refine pv_' 11 45 #[i',i',i',i',i',i',i',i',i',i',o',i',o',o',o',o',o',o',o',o',o',o',o',o',o',o',o',o',o',o',o',o',o',o',o',o',o',o',o',o',o',o',o',o',o'] rfl rfl HT_ ?_
              refine pv_' 15 49 #[i',i',i',i',i',i',i',i',i',i',o',i',o',o',o',i',o',o',o',o',o',o',o',o',o',o',o',o',o',o',o',o',o',o',o',o',o',o',o',o',o',o',o',o',o'] rfl rfl HT_ ?_
              refine pv_' 17 51 #[i',i',i',i',i',i',i',i',i',i',o',i',o',o',o',i',o',i',o',o',o',o',o',o',o',o',o',o',o',o',o',o',o',o',o',o',o',o',o',o',o',o',o',o',o'] rfl rfl HT_ ?_
              refine take_ (i := 10) (N := some 44) (v := ?_) (a' := ?_) #[i',i',i',i',i',i',i',i',i',i',i',i',o',o',o',i',o',i',o',o',o',o',o',o',o',o',o',o',o',o',o',o',o',o',o',o',o',o',o',o',o',o',o',o',o'] rfl rfl (take_ofW HT_.out HW_.out (by kernel_rfl)) (fun _ _ _ h => h) (Or.inl ⟨by rfl, ?_⟩) hHeld ?_ ?_
              rotate_left
              ·rintro w' ⟨s0, s1, s2, s3, s4, s5, s6, s7, s8, s9, s10, s11, s12, s13, s14, s15, s16, s17, s18⟩
               go_simp
               with_reducible rfl
              rotate_left
              ·simp only [Act.put, la_, lz_, ls_, i64_w, i32_w]
               rfl
              refine pv_' 12 46 #[i',i',i',i',i',i',i',i',i',i',i',i',i',o',o',i',o',i',o',o',o',o',o',o',o',o',o',o',o',o',o',o',o',o',o',o',o',o',o',o',o',o',o',o',o'] rfl rfl HT_ ?_
              refine pv_' 13 47 #[i',i',i',i',i',i',i',i',i',i',i',i',i',i',o',i',o',i',o',o',o',o',o',o',o',o',o',o',o',o',o',o',o',o',o',o',o',o',o',o',o',o',o',o',o'] rfl rfl HT_ ?_
              refine take_ (i := 14) (N := some 48) (v := ?_) (a' := ?_) #[i',i',i',i',i',i',i',i',i',i',i',i',i',i',i',i',o',i',o',o',o',o',o',o',o',o',o',o',o',o',o',o',o',o',o',o',o',o',o',o',o',o',o',o',o'] rfl rfl (take_ofW HT_.out HW_.out (by kernel_rfl)) (fun _ _ _ h => h) (Or.inl ⟨by rfl, ?_⟩) hHeld ?_ ?_
              rotate_left
              ·rintro w' ⟨s0, s1, s2, s3, s4, s5, s6, s7, s8, s9, s10, s11, s12, s13, s14, s15, s16, s17, s18⟩
               go_simp
               with_reducible rfl
              rotate_left
              ·simp only [Act.put, la_, lz_, ls_, i64_w, i32_w]
               rfl
              refine take_ (i := 16) (N := some 50) (v := ?_) (a' := ?_) (on_ 18 27) rfl rfl (take_ofW HT_.out HW_.out (by kernel_rfl)) (fun _ _ _ h => h) (Or.inl ⟨by rfl, ?_⟩) hHeld ?_ ?_
              rotate_left
              ·rintro w' ⟨s0, s1, s2, s3, s4, s5, s6, s7, s8, s9, s10, s11, s12, s13, s14, s15, s16, s17, s18⟩
               go_simp
               with_reducible rfl
              rotate_left
              ·simp only [Act.put, la_, lz_, ls_, i64_w, i32_w]
               rfl
              refine pv_' 18 52 (on_ 19 26) rfl rfl HT_ ?_
              refine pv_' 19 53 (on_ 20 25) rfl rfl HT_ ?_
              refine take_ (i := 20) (N := some 54) (v := ?_) (a' := ?_) (on_ 21 24) rfl rfl (take_ofW HT_.out HW_.out (by kernel_rfl)) (fun _ _ _ h => h) (Or.inl ⟨by rfl, ?_⟩) hHeld ?_ ?_
              rotate_left
              ·rintro w' ⟨s0, s1, s2, s3, s4, s5, s6, s7, s8, s9, s10, s11, s12, s13, s14, s15, s16, s17, s18⟩
               go_simp
               with_reducible rfl
              rotate_left
              ·simp only [Act.put, la_, lz_, ls_, i64_w, i32_w]
               rfl
              refine pv_' 21 55 (on_ 22 23) rfl rfl HT_ ?_
              refine one_ (i := 22) (N := some 56) (on_ 23 22) rfl rfl (one_of HT_.out (by kernel_rfl)) (by decide) (fun K hK => ?_)
              refine goes_ Try.func46 (by kernel_rfl) rfl #[.int .i64 ((rd_T45 l0_0 x3_2).f2), .int .i64 0, .int .i64 (((rd_T45 l0_0 x3_2).f1).size : Int)] (by rfl) rfl rfl ar_ ?_
              with_reducible refine (spec_l1In.calls ((rd_T45 l0_0 x3_2).f2) 0 (((rd_T45 l0_0 x3_2).f1).size : Int) true _ A22.out).mono ?_
              rintro e w' ⟨rfl, ⟨nd, rfl⟩⟩
              refine ⟨_, rfl, ?_⟩
              refine hK.out _ _ (p4_ BK170 (q3_ (cb_ HB hw174_0 :) (cb_ HB hw174_1 :) (cb_ HB hw174_2 :) (q3_ (cb_ HB hw176_0 :) (cb_ HB hw176_1 :) (cb_ HB hw176_2 :) (q3_ (cb_ HB hw177_0 :) (cb_ HB hw177_1 :) (cb_ HB hw177_2 :) (q3_ (cb_ HB hw179_0 :) (cb_ HB hw179_1 :) (cb_ HB hw179_2 :) (q3e_ (cb_ HB hw180_0 :) (cb_ HB hw180_1 :) (cb_ HB hw180_2 :))))))) (fun hHeld => ?_)
              clear hK K
              refine norm_ (a' := ?_) ?_ ?_
              rotate_left
              ·show Act.put _ (some 56) _ = _
               simp only [Act.put, la_, lz_, ls_, i64_w, i32_w]
               rfl
              refine pv_' 23 57 (on_ 24 21) rfl rfl HT_ ?_
              refine pv_' 24 58 (on_ 25 20) rfl rfl HT_ ?_
              refine pv_' 25 59 (on_ 26 19) rfl rfl HT_ ?_
              refine pv_' 26 60 (on_ 27 18) rfl rfl HT_ ?_
              refine pv_' 27 61 (on_ 28 17) rfl rfl HT_ ?_
              refine pv_' 28 62 (on_ 29 16) rfl rfl HT_ ?_
              refine pv_' 29 63 (on_ 30 15) rfl rfl HT_ ?_
              refine pv_' 31 65 #[i',i',i',i',i',i',i',i',i',i',i',i',i',i',i',i',i',i',i',i',i',i',i',i',i',i',i',i',i',i',o',i',o',o',o',o',o',o',o',o',o',o',o',o',o'] rfl rfl HT_ ?_
              refine pv_' 35 69 #[i',i',i',i',i',i',i',i',i',i',i',i',i',i',i',i',i',i',i',i',i',i',i',i',i',i',i',i',i',i',o',i',o',o',o',i',o',o',o',o',o',o',o',o',o'] rfl rfl HT_ ?_
              refine pv_' 37 71 #[i',i',i',i',i',i',i',i',i',i',i',i',i',i',i',i',i',i',i',i',i',i',i',i',i',i',i',i',i',i',o',i',o',o',o',i',o',i',o',o',o',o',o',o',o'] rfl rfl HT_ ?_
              refine pv_' 38 72 #[i',i',i',i',i',i',i',i',i',i',i',i',i',i',i',i',i',i',i',i',i',i',i',i',i',i',i',i',i',i',o',i',o',o',o',i',o',i',i',o',o',o',o',o',o'] rfl rfl HT_ ?_
              refine take_ (i := 30) (N := some 64) (v := ?_) (a' := ?_) #[i',i',i',i',i',i',i',i',i',i',i',i',i',i',i',i',i',i',i',i',i',i',i',i',i',i',i',i',i',i',i',i',o',o',o',i',o',i',i',o',o',o',o',o',o'] rfl rfl (take_ofW HT_.out HW_.out (by kernel_rfl)) (fun _ _ _ h => h) (Or.inl ⟨by rfl, ?_⟩) hHeld ?_ ?_
              rotate_left
              ·rintro w' ⟨s0, s1, s2, s3, s4, s5, s6, s7, s8, s9, s10, s11, s12, s13, s14, s15, s16, s17, s18⟩
               go_simp
               with_reducible rfl
              rotate_left
              ·simp only [Act.put, la_, lz_, ls_, i64_w, i32_w]
               rfl
              refine pv_' 32 66 #[i',i',i',i',i',i',i',i',i',i',i',i',i',i',i',i',i',i',i',i',i',i',i',i',i',i',i',i',i',i',i',i',i',o',o',i',o',i',i',o',o',o',o',o',o'] rfl rfl HT_ ?_
              refine pv_' 33 67 #[i',i',i',i',i',i',i',i',i',i',i',i',i',i',i',i',i',i',i',i',i',i',i',i',i',i',i',i',i',i',i',i',i',i',o',i',o',i',i',o',o',o',o',o',o'] rfl rfl HT_ ?_
              refine take_ (i := 34) (N := some 68) (v := ?_) (a' := ?_) #[i',i',i',i',i',i',i',i',i',i',i',i',i',i',i',i',i',i',i',i',i',i',i',i',i',i',i',i',i',i',i',i',i',i',i',i',o',i',i',o',o',o',o',o',o'] rfl rfl (take_ofW HT_.out HW_.out (by kernel_rfl)) (fun _ _ _ h => h) (Or.inl ⟨by rfl, ?_⟩) hHeld ?_ ?_
              rotate_left
              ·rintro w' ⟨s0, s1, s2, s3, s4, s5, s6, s7, s8, s9, s10, s11, s12, s13, s14, s15, s16, s17, s18⟩
               go_simp
               with_reducible rfl
              rotate_left
              ·simp only [Act.put, la_, lz_, ls_, i64_w, i32_w]
               rfl
              refine take_ (i := 36) (N := some 70) (v := ?_) (a' := ?_) (on_ 39 6) rfl rfl (take_ofW HT_.out HW_.out (by kernel_rfl)) (fun _ _ _ h => h) (Or.inl ⟨by rfl, ?_⟩) hHeld ?_ ?_
              rotate_left
              ·rintro w' ⟨s0, s1, s2, s3, s4, s5, s6, s7, s8, s9, s10, s11, s12, s13, s14, s15, s16, s17, s18⟩
               go_simp
               with_reducible rfl
              rotate_left
              ·simp only [Act.put, la_, lz_, ls_, i64_w, i32_w]
               rfl
              refine pv_' 39 73 (on_ 40 5) rfl rfl HT_ ?_
              refine pv_' 40 74 (on_ 41 4) rfl rfl HT_ ?_
              refine take_ (i := 41) (N := some 75) (v := ?_) (a' := ?_) (on_ 42 3) rfl rfl (take_ofW HT_.out HW_.out (by kernel_rfl)) (fun _ _ _ h => h) (Or.inl ⟨by rfl, ?_⟩) hHeld ?_ ?_
              rotate_left
              ·rintro w' ⟨s0, s1, s2, s3, s4, s5, s6, s7, s8, s9, s10, s11, s12, s13, s14, s15, s16, s17, s18⟩
               go_simp
               with_reducible rfl
              rotate_left
              ·simp only [Act.put, la_, lz_, ls_, i64_w, i32_w]
               rfl
              refine pv_' 42 76 (on_ 43 2) rfl rfl HT_ ?_
              refine pv_' 43 77 (on_ 44 1) rfl rfl HT_ ?_
              refine pv_' 44 78 (on_ 45 0) rfl rfl HT_ ?_
              refine done_ (done_of HT_.out (by kernel_rfl)) ?_
              have Nji25_ := Aside0.mk hji25
              clear hji25
              (try clear hji25w)
              try go_wp2
              have hji25 := Nji25_.out
              clear Nji25_
              (try have hji25w := (i64_w _).trans hji25)
              go_meet
              case rel => exact ⟨_, (!(Op.bytesLess (((rd_T45 l0_0 (ji25)).f0).toList) (((rd_T45 l0_0 x3_2).f0).toList))), (by first | rfl | (simp; done) | (simp only [← hji25] <;> (first | rfl | simp)) | (simp [*]; done)), (by first | exact H' | (simp only [hji25]; exact H')), ⟨by have := HJ1.out; have := HK2.out; first | exact Nat.le_refl _ | exact Nat.le_of_succ_le this | omega⟩, ⟨bk_ BK170⟩, ⟨hs_ HB GE170⟩⟩
             ·rw [if_neg c27] at H
              exact absurd H (by simp)
            ·rw [if_neg c26] at H
             exact absurd H (by simp)
           ·rw [if_neg c24] at H
            have c24b0 : decide (0 < x3_2) = false := decide_eq_false c24
            clear c24
            have H' := Aside0.mk H
            clear H
            try go_wp2
            replace BK170 := bd_ BK170
            replace HB := hd_ HB
            have p174 : 0 ≤ (x3_2 : Int) := of_decide_eq_true as_
            have q174 : x3_2 < (l0_0.length : Int) := of_decide_eq_true as_
            obtain ⟨ad174, e174, hx174_0, hx174_1, hx174_2⟩ := at_T45 HR0_0.out x3_2 p174 q174
            have hw174_2 := hx174_2
            have hw174_1 := hx174_1
            have hw174_0 := hx174_0
            cases e174
            (try replace hx174_0 := cb_ HB hx174_0)
            (try replace hx174_1 := cb_ HB hx174_1)
            (try replace hx174_2 := cb_ HB hx174_2)
            replace p174 := eq_true p174
            replace q174 := eq_true q174
            have p176 : 0 ≤ (x3_2 : Int) := of_decide_eq_true as_
            have q176 : x3_2 < (l0_0.length : Int) := of_decide_eq_true as_
            obtain ⟨ad176, e176, hx176_0, hx176_1, hx176_2⟩ := at_T45 HR0_0.out x3_2 p176 q176
            have hw176_2 := hx176_2
            have hw176_1 := hx176_1
            have hw176_0 := hx176_0
            obtain rfl : ad174 = ad176 := (by injection e176)
            (try replace hx176_0 := cb_ HB hx176_0)
            (try replace hx176_1 := cb_ HB hx176_1)
            (try replace hx176_2 := cb_ HB hx176_2)
            replace p176 := eq_true p176
            replace q176 := eq_true q176
            have p177 : 0 ≤ (x3_2 : Int) := of_decide_eq_true as_
            have q177 : x3_2 < (l0_0.length : Int) := of_decide_eq_true as_
            obtain ⟨ad177, e177, hx177_0, hx177_1, hx177_2⟩ := at_T45 HR0_0.out x3_2 p177 q177
            have hw177_2 := hx177_2
            have hw177_1 := hx177_1
            have hw177_0 := hx177_0
            obtain rfl : ad174 = ad177 := (by injection e177)
            (try replace hx177_0 := cb_ HB hx177_0)
            (try replace hx177_1 := cb_ HB hx177_1)
            (try replace hx177_2 := cb_ HB hx177_2)
            replace p177 := eq_true p177
            replace q177 := eq_true q177
            refine start_ (n := 45) (S := k4_ gb170 (.slice (some ad174) l0_0.length c0_0) (.int .i64 a0_1) (.int .i64 a0_2) (.bool a0_3) (e3_ (ad174.add ((x3_2).toNat * 3)) (.string ((rd_T45 l0_0 x3_2).f0)) (.string ((rd_T45 l0_0 x3_2).f1)) (.int .i64 ((rd_T45 l0_0 x3_2).f2)) (e3_ (ad174.add ((x3_2).toNat * 3)) (.string ((rd_T45 l0_0 x3_2).f0)) (.string ((rd_T45 l0_0 x3_2).f1)) (.int .i64 ((rd_T45 l0_0 x3_2).f2)) (e3e_ (ad174.add ((x3_2).toNat * 3)) (.string ((rd_T45 l0_0 x3_2).f0)) (.string ((rd_T45 l0_0 x3_2).f1)) (.int .i64 ((rd_T45 l0_0 x3_2).f2)))))) (ds := []) (on_ 0 45) (by kernel_rfl) rfl rfl (p4_ BK170 (q3_ (cb_ HB hw174_0 :) (cb_ HB hw174_1 :) (cb_ HB hw174_2 :) (q3_ (cb_ HB hw176_0 :) (cb_ HB hw176_1 :) (cb_ HB hw176_2 :) (q3e_ (cb_ HB hw177_0 :) (cb_ HB hw177_1 :) (cb_ HB hw177_2 :))))) (fun hHeld => ?_); refine with_tabW spec_DiskOk.tab6 spec_DiskOk.bits6 (fun HT_ HW_ => ?_)
            generalize wr.drew = w29 at BK170 HB hx174_0 hx174_1 hx174_2 hx176_0 hx176_1 hx176_2 hx177_0 hx177_1 hx177_2 hHeld ⊢
            refine pv_' 0 34 (on_ 1 44) rfl rfl HT_ ?_
            refine pv_' 2 36 #[i',o',i',o',o',o',o',o',o',o',o',o',o',o',o',o',o',o',o',o',o',o',o',o',o',o',o',o',o',o',o',o',o',o',o',o',o',o',o',o',o',o',o',o',o'] rfl rfl HT_ ?_
            refine take_ (i := 1) (N := some 35) (v := ?_) (a' := ?_) (on_ 3 42) rfl rfl (take_ofW HT_.out HW_.out (by kernel_rfl)) (fun _ _ _ h => h) (Or.inl ⟨by rfl, ?_⟩) hHeld ?_ ?_
            rotate_left
            ·rintro w' ⟨s0, s1, s2, s3, s4, s5, s6, s7, s8, s9, s10, s11, s12⟩
             go_simp
             with_reducible rfl
            rotate_left
            ·simp only [Act.put, la_, lz_, ls_, i64_w, i32_w]
             rfl
            refine pv_' 3 37 (on_ 4 41) rfl rfl HT_ ?_
            refine pv_' 4 38 (on_ 5 40) rfl rfl HT_ ?_
            refine take_ (i := 5) (N := some 39) (v := ?_) (a' := ?_) (on_ 6 39) rfl rfl (take_ofW HT_.out HW_.out (by kernel_rfl)) (fun _ _ _ h => h) (Or.inl ⟨by rfl, ?_⟩) hHeld ?_ ?_
            rotate_left
            ·rintro w' ⟨s0, s1, s2, s3, s4, s5, s6, s7, s8, s9, s10, s11, s12⟩
             go_simp
             with_reducible rfl
            rotate_left
            ·simp only [Act.put, la_, lz_, ls_, i64_w, i32_w]
             rfl
            refine one_ (i := 6) (N := some 40) (on_ 7 38) rfl rfl (one_of HT_.out (by kernel_rfl)) (by decide) (fun K hK => ?_)
            refine goes_ Try.func48 (by kernel_rfl) rfl #[.string ((rd_T45 l0_0 x3_2).f0)] (by rfl) rfl rfl ar_ ?_
            with_reducible refine (spec_NameOk.calls k2 ((rd_T45 l0_0 x3_2).f0) true _ A20.out).mono ?_
            rintro e w' ⟨rfl, ⟨nd, rfl⟩⟩
            refine ⟨_, rfl, ?_⟩
            refine hK.out _ _ (p4_ BK170 (q3_ (cb_ HB hw174_0 :) (cb_ HB hw174_1 :) (cb_ HB hw174_2 :) (q3_ (cb_ HB hw176_0 :) (cb_ HB hw176_1 :) (cb_ HB hw176_2 :) (q3e_ (cb_ HB hw177_0 :) (cb_ HB hw177_1 :) (cb_ HB hw177_2 :))))) (fun hHeld => ?_)
            clear hK K
            refine norm_ (a' := ?_) ?_ ?_
            rotate_left
            ·show Act.put _ (some 40) _ = _
             simp only [Act.put, la_, lz_, ls_, i64_w, i32_w]
             rfl
            refine pv_' 7 41 (on_ 8 37) rfl rfl HT_ ?_
            refine pv_' 8 42 (on_ 9 36) rfl rfl HT_ ?_
            refine pv_' 9 43 (on_ 10 35) rfl rfl HT_ ?_
            refine pv_' 11 45 #[i',i',i',i',i',i',i',i',i',i',o',i',o',o',o',o',o',o',o',o',o',o',o',o',o',o',o',o',o',o',o',o',o',o',o',o',o',o',o',o',o',o',o',o',o'] rfl rfl HT_ ?_
            refine pv_' 15 49 #[i',i',i',i',i',i',i',i',i',i',o',i',o',o',o',i',o',o',o',o',o',o',o',o',o',o',o',o',o',o',o',o',o',o',o',o',o',o',o',o',o',o',o',o',o'] rfl rfl HT_ ?_
            refine pv_' 17 51 #[i',i',i',i',i',i',i',i',i',i',o',i',o',o',o',i',o',i',o',o',o',o',o',o',o',o',o',o',o',o',o',o',o',o',o',o',o',o',o',o',o',o',o',o',o'] rfl rfl HT_ ?_
            refine take_ (i := 10) (N := some 44) (v := ?_) (a' := ?_) #[i',i',i',i',i',i',i',i',i',i',i',i',o',o',o',i',o',i',o',o',o',o',o',o',o',o',o',o',o',o',o',o',o',o',o',o',o',o',o',o',o',o',o',o',o'] rfl rfl (take_ofW HT_.out HW_.out (by kernel_rfl)) (fun _ _ _ h => h) (Or.inl ⟨by rfl, ?_⟩) hHeld ?_ ?_
            rotate_left
            ·rintro w' ⟨s0, s1, s2, s3, s4, s5, s6, s7, s8, s9, s10, s11, s12⟩
             go_simp
             with_reducible rfl
            rotate_left
            ·simp only [Act.put, la_, lz_, ls_, i64_w, i32_w]
             rfl
            refine pv_' 12 46 #[i',i',i',i',i',i',i',i',i',i',i',i',i',o',o',i',o',i',o',o',o',o',o',o',o',o',o',o',o',o',o',o',o',o',o',o',o',o',o',o',o',o',o',o',o'] rfl rfl HT_ ?_
            refine pv_' 13 47 #[i',i',i',i',i',i',i',i',i',i',i',i',i',i',o',i',o',i',o',o',o',o',o',o',o',o',o',o',o',o',o',o',o',o',o',o',o',o',o',o',o',o',o',o',o'] rfl rfl HT_ ?_
            refine take_ (i := 14) (N := some 48) (v := ?_) (a' := ?_) #[i',i',i',i',i',i',i',i',i',i',i',i',i',i',i',i',o',i',o',o',o',o',o',o',o',o',o',o',o',o',o',o',o',o',o',o',o',o',o',o',o',o',o',o',o'] rfl rfl (take_ofW HT_.out HW_.out (by kernel_rfl)) (fun _ _ _ h => h) (Or.inl ⟨by rfl, ?_⟩) hHeld ?_ ?_
            rotate_left
            ·rintro w' ⟨s0, s1, s2, s3, s4, s5, s6, s7, s8, s9, s10, s11, s12⟩
             go_simp
             with_reducible rfl
            rotate_left
            ·simp only [Act.put, la_, lz_, ls_, i64_w, i32_w]
             rfl
            refine take_ (i := 16) (N := some 50) (v := ?_) (a' := ?_) (on_ 18 27) rfl rfl (take_ofW HT_.out HW_.out (by kernel_rfl)) (fun _ _ _ h => h) (Or.inl ⟨by rfl, ?_⟩) hHeld ?_ ?_
            rotate_left
            ·rintro w' ⟨s0, s1, s2, s3, s4, s5, s6, s7, s8, s9, s10, s11, s12⟩
             go_simp
             with_reducible rfl
            rotate_left
            ·simp only [Act.put, la_, lz_, ls_, i64_w, i32_w]
             rfl
            refine pv_' 18 52 (on_ 19 26) rfl rfl HT_ ?_
            refine pv_' 19 53 (on_ 20 25) rfl rfl HT_ ?_
            refine take_ (i := 20) (N := some 54) (v := ?_) (a' := ?_) (on_ 21 24) rfl rfl (take_ofW HT_.out HW_.out (by kernel_rfl)) (fun _ _ _ h => h) (Or.inl ⟨by rfl, ?_⟩) hHeld ?_ ?_
            rotate_left
            ·rintro w' ⟨s0, s1, s2, s3, s4, s5, s6, s7, s8, s9, s10, s11, s12⟩
             go_simp
             with_reducible rfl
            rotate_left
            ·simp only [Act.put, la_, lz_, ls_, i64_w, i32_w]
             rfl
            refine pv_' 21 55 (on_ 22 23) rfl rfl HT_ ?_
            refine one_ (i := 22) (N := some 56) (on_ 23 22) rfl rfl (one_of HT_.out (by kernel_rfl)) (by decide) (fun K hK => ?_)
            refine goes_ Try.func46 (by kernel_rfl) rfl #[.int .i64 ((rd_T45 l0_0 x3_2).f2), .int .i64 0, .int .i64 (((rd_T45 l0_0 x3_2).f1).size : Int)] (by rfl) rfl rfl ar_ ?_
            with_reducible refine (spec_l1In.calls ((rd_T45 l0_0 x3_2).f2) 0 (((rd_T45 l0_0 x3_2).f1).size : Int) true _ A22.out).mono ?_
            rintro e w' ⟨rfl, ⟨nd, rfl⟩⟩
            refine ⟨_, rfl, ?_⟩
            refine hK.out _ _ (p4_ BK170 (q3_ (cb_ HB hw174_0 :) (cb_ HB hw174_1 :) (cb_ HB hw174_2 :) (q3_ (cb_ HB hw176_0 :) (cb_ HB hw176_1 :) (cb_ HB hw176_2 :) (q3e_ (cb_ HB hw177_0 :) (cb_ HB hw177_1 :) (cb_ HB hw177_2 :))))) (fun hHeld => ?_)
            clear hK K
            refine norm_ (a' := ?_) ?_ ?_
            rotate_left
            ·show Act.put _ (some 56) _ = _
             simp only [Act.put, la_, lz_, ls_, i64_w, i32_w]
             rfl
            refine pv_' 23 57 (on_ 24 21) rfl rfl HT_ ?_
            refine pv_' 24 58 (on_ 25 20) rfl rfl HT_ ?_
            refine pv_' 25 59 (on_ 26 19) rfl rfl HT_ ?_
            refine pv_' 26 60 (on_ 27 18) rfl rfl HT_ ?_
            refine pv_' 27 61 (on_ 28 17) rfl rfl HT_ ?_
            refine pv_' 28 62 (on_ 29 16) rfl rfl HT_ ?_
            refine pun_' 29 63 (on_ 30 15) rfl rfl HT_ ?_
            refine pun_' 30 64 (on_ 31 14) rfl rfl HT_ ?_
            refine pun_' 31 65 (on_ 32 13) rfl rfl HT_ ?_
            refine pun_' 32 66 (on_ 33 12) rfl rfl HT_ ?_
            refine pun_' 33 67 (on_ 34 11) rfl rfl HT_ ?_
            refine pun_' 34 68 (on_ 35 10) rfl rfl HT_ ?_
            refine pun_' 35 69 (on_ 36 9) rfl rfl HT_ ?_
            refine pun_' 36 70 (on_ 37 8) rfl rfl HT_ ?_
            refine pun_' 37 71 (on_ 38 7) rfl rfl HT_ ?_
            refine pun_' 38 72 (on_ 39 6) rfl rfl HT_ ?_
            refine pun_' 39 73 (on_ 40 5) rfl rfl HT_ ?_
            refine pun_' 40 74 (on_ 41 4) rfl rfl HT_ ?_
            refine pun_' 41 75 (on_ 42 3) rfl rfl HT_ ?_
            refine pun_' 42 76 (on_ 43 2) rfl rfl HT_ ?_
            refine pv_' 43 77 (on_ 44 1) rfl rfl HT_ ?_
            refine pv_' 44 78 (on_ 45 0) rfl rfl HT_ ?_
            refine done_ (done_of HT_.out (by kernel_rfl)) ?_
            try go_wp2
            go_meet
            case rel => exact ⟨_, (false), rs_, (by first | exact H' | (simp only [hji25]; exact H')), ⟨by have := HJ1.out; have := HK2.out; first | exact Nat.le_refl _ | exact Nat.le_of_succ_le this | omega⟩, ⟨bk_ BK170⟩, ⟨hs_ HB GE170⟩⟩
          ·replace c23 := Bool.eq_false_iff.mpr c23
           subst c23
           have H1 : (spec_DiskOk.j2 k2 x3_2 true l0_0 a0_1 a0_2 a0_3) = some r := by rw [if_neg (show ¬ (false = true) by decide)] at H; exact H
           clear H
           have H := H1
           clear H1
           have H' := Aside0.mk H
           clear H
           try go_wp2
           replace BK170 := bd_ BK170
           replace HB := hd_ HB
           have p174 : 0 ≤ (x3_2 : Int) := of_decide_eq_true as_
           have q174 : x3_2 < (l0_0.length : Int) := of_decide_eq_true as_
           obtain ⟨ad174, e174, hx174_0, hx174_1, hx174_2⟩ := at_T45 HR0_0.out x3_2 p174 q174
           have hw174_2 := hx174_2
           have hw174_1 := hx174_1
           have hw174_0 := hx174_0
           cases e174
           (try replace hx174_0 := cb_ HB hx174_0)
           (try replace hx174_1 := cb_ HB hx174_1)
           (try replace hx174_2 := cb_ HB hx174_2)
           replace p174 := eq_true p174
           replace q174 := eq_true q174
           have p176 : 0 ≤ (x3_2 : Int) := of_decide_eq_true as_
           have q176 : x3_2 < (l0_0.length : Int) := of_decide_eq_true as_
           obtain ⟨ad176, e176, hx176_0, hx176_1, hx176_2⟩ := at_T45 HR0_0.out x3_2 p176 q176
           have hw176_2 := hx176_2
           have hw176_1 := hx176_1
           have hw176_0 := hx176_0
           obtain rfl : ad174 = ad176 := (by injection e176)
           (try replace hx176_0 := cb_ HB hx176_0)
           (try replace hx176_1 := cb_ HB hx176_1)
           (try replace hx176_2 := cb_ HB hx176_2)
           replace p176 := eq_true p176
           replace q176 := eq_true q176
           have p177 : 0 ≤ (x3_2 : Int) := of_decide_eq_true as_
           have q177 : x3_2 < (l0_0.length : Int) := of_decide_eq_true as_
           obtain ⟨ad177, e177, hx177_0, hx177_1, hx177_2⟩ := at_T45 HR0_0.out x3_2 p177 q177
           have hw177_2 := hx177_2
           have hw177_1 := hx177_1
           have hw177_0 := hx177_0
           obtain rfl : ad174 = ad177 := (by injection e177)
           (try replace hx177_0 := cb_ HB hx177_0)
           (try replace hx177_1 := cb_ HB hx177_1)
           (try replace hx177_2 := cb_ HB hx177_2)
           replace p177 := eq_true p177
           replace q177 := eq_true q177
           refine start_ (n := 45) (S := k4_ gb170 (.slice (some ad174) l0_0.length c0_0) (.int .i64 a0_1) (.int .i64 a0_2) (.bool a0_3) (e3_ (ad174.add ((x3_2).toNat * 3)) (.string ((rd_T45 l0_0 x3_2).f0)) (.string ((rd_T45 l0_0 x3_2).f1)) (.int .i64 ((rd_T45 l0_0 x3_2).f2)) (e3_ (ad174.add ((x3_2).toNat * 3)) (.string ((rd_T45 l0_0 x3_2).f0)) (.string ((rd_T45 l0_0 x3_2).f1)) (.int .i64 ((rd_T45 l0_0 x3_2).f2)) (e3e_ (ad174.add ((x3_2).toNat * 3)) (.string ((rd_T45 l0_0 x3_2).f0)) (.string ((rd_T45 l0_0 x3_2).f1)) (.int .i64 ((rd_T45 l0_0 x3_2).f2)))))) (ds := []) (on_ 0 45) (by kernel_rfl) rfl rfl (p4_ BK170 (q3_ (cb_ HB hw174_0 :) (cb_ HB hw174_1 :) (cb_ HB hw174_2 :) (q3_ (cb_ HB hw176_0 :) (cb_ HB hw176_1 :) (cb_ HB hw176_2 :) (q3e_ (cb_ HB hw177_0 :) (cb_ HB hw177_1 :) (cb_ HB hw177_2 :))))) (fun hHeld => ?_); refine with_tabW spec_DiskOk.tab6 spec_DiskOk.bits6 (fun HT_ HW_ => ?_)
           generalize wr.drew = w30 at BK170 HB hx174_0 hx174_1 hx174_2 hx176_0 hx176_1 hx176_2 hx177_0 hx177_1 hx177_2 hHeld ⊢
           refine pv_' 0 34 (on_ 1 44) rfl rfl HT_ ?_
           refine pv_' 2 36 #[i',o',i',o',o',o',o',o',o',o',o',o',o',o',o',o',o',o',o',o',o',o',o',o',o',o',o',o',o',o',o',o',o',o',o',o',o',o',o',o',o',o',o',o',o'] rfl rfl HT_ ?_
           refine take_ (i := 1) (N := some 35) (v := ?_) (a' := ?_) (on_ 3 42) rfl rfl (take_ofW HT_.out HW_.out (by kernel_rfl)) (fun _ _ _ h => h) (Or.inl ⟨by rfl, ?_⟩) hHeld ?_ ?_
           rotate_left
           ·rintro w' ⟨s0, s1, s2, s3, s4, s5, s6, s7, s8, s9, s10, s11, s12⟩
            go_simp
            with_reducible rfl
           rotate_left
           ·simp only [Act.put, la_, lz_, ls_, i64_w, i32_w]
            rfl
           refine pv_' 3 37 (on_ 4 41) rfl rfl HT_ ?_
           refine pv_' 4 38 (on_ 5 40) rfl rfl HT_ ?_
           refine take_ (i := 5) (N := some 39) (v := ?_) (a' := ?_) (on_ 6 39) rfl rfl (take_ofW HT_.out HW_.out (by kernel_rfl)) (fun _ _ _ h => h) (Or.inl ⟨by rfl, ?_⟩) hHeld ?_ ?_
           rotate_left
           ·rintro w' ⟨s0, s1, s2, s3, s4, s5, s6, s7, s8, s9, s10, s11, s12⟩
            go_simp
            with_reducible rfl
           rotate_left
           ·simp only [Act.put, la_, lz_, ls_, i64_w, i32_w]
            rfl
           refine one_ (i := 6) (N := some 40) (on_ 7 38) rfl rfl (one_of HT_.out (by kernel_rfl)) (by decide) (fun K hK => ?_)
           refine goes_ Try.func48 (by kernel_rfl) rfl #[.string ((rd_T45 l0_0 x3_2).f0)] (by rfl) rfl rfl ar_ ?_
           with_reducible refine (spec_NameOk.calls k2 ((rd_T45 l0_0 x3_2).f0) true _ A20.out).mono ?_
           rintro e w' ⟨rfl, ⟨nd, rfl⟩⟩
           refine ⟨_, rfl, ?_⟩
           refine hK.out _ _ (p4_ BK170 (q3_ (cb_ HB hw174_0 :) (cb_ HB hw174_1 :) (cb_ HB hw174_2 :) (q3_ (cb_ HB hw176_0 :) (cb_ HB hw176_1 :) (cb_ HB hw176_2 :) (q3e_ (cb_ HB hw177_0 :) (cb_ HB hw177_1 :) (cb_ HB hw177_2 :))))) (fun hHeld => ?_)
           clear hK K
           refine norm_ (a' := ?_) ?_ ?_
           rotate_left
           ·show Act.put _ (some 40) _ = _
            simp only [Act.put, la_, lz_, ls_, i64_w, i32_w]
            rfl
           refine pv_' 7 41 (on_ 8 37) rfl rfl HT_ ?_
           refine pv_' 8 42 (on_ 9 36) rfl rfl HT_ ?_
           refine pv_' 9 43 (on_ 10 35) rfl rfl HT_ ?_
           refine pv_' 11 45 #[i',i',i',i',i',i',i',i',i',i',o',i',o',o',o',o',o',o',o',o',o',o',o',o',o',o',o',o',o',o',o',o',o',o',o',o',o',o',o',o',o',o',o',o',o'] rfl rfl HT_ ?_
           refine pv_' 15 49 #[i',i',i',i',i',i',i',i',i',i',o',i',o',o',o',i',o',o',o',o',o',o',o',o',o',o',o',o',o',o',o',o',o',o',o',o',o',o',o',o',o',o',o',o',o'] rfl rfl HT_ ?_
           refine pv_' 17 51 #[i',i',i',i',i',i',i',i',i',i',o',i',o',o',o',i',o',i',o',o',o',o',o',o',o',o',o',o',o',o',o',o',o',o',o',o',o',o',o',o',o',o',o',o',o'] rfl rfl HT_ ?_
           refine take_ (i := 10) (N := some 44) (v := ?_) (a' := ?_) #[i',i',i',i',i',i',i',i',i',i',i',i',o',o',o',i',o',i',o',o',o',o',o',o',o',o',o',o',o',o',o',o',o',o',o',o',o',o',o',o',o',o',o',o',o'] rfl rfl (take_ofW HT_.out HW_.out (by kernel_rfl)) (fun _ _ _ h => h) (Or.inl ⟨by rfl, ?_⟩) hHeld ?_ ?_
           rotate_left
           ·rintro w' ⟨s0, s1, s2, s3, s4, s5, s6, s7, s8, s9, s10, s11, s12⟩
            go_simp
            with_reducible rfl
           rotate_left
           ·simp only [Act.put, la_, lz_, ls_, i64_w, i32_w]
            rfl
           refine pv_' 12 46 #[i',i',i',i',i',i',i',i',i',i',i',i',i',o',o',i',o',i',o',o',o',o',o',o',o',o',o',o',o',o',o',o',o',o',o',o',o',o',o',o',o',o',o',o',o'] rfl rfl HT_ ?_
           refine pv_' 13 47 #[i',i',i',i',i',i',i',i',i',i',i',i',i',i',o',i',o',i',o',o',o',o',o',o',o',o',o',o',o',o',o',o',o',o',o',o',o',o',o',o',o',o',o',o',o'] rfl rfl HT_ ?_
           refine take_ (i := 14) (N := some 48) (v := ?_) (a' := ?_) #[i',i',i',i',i',i',i',i',i',i',i',i',i',i',i',i',o',i',o',o',o',o',o',o',o',o',o',o',o',o',o',o',o',o',o',o',o',o',o',o',o',o',o',o',o'] rfl rfl (take_ofW HT_.out HW_.out (by kernel_rfl)) (fun _ _ _ h => h) (Or.inl ⟨by rfl, ?_⟩) hHeld ?_ ?_
           rotate_left
           ·rintro w' ⟨s0, s1, s2, s3, s4, s5, s6, s7, s8, s9, s10, s11, s12⟩
            go_simp
            with_reducible rfl
           rotate_left
           ·simp only [Act.put, la_, lz_, ls_, i64_w, i32_w]
            rfl
           refine take_ (i := 16) (N := some 50) (v := ?_) (a' := ?_) (on_ 18 27) rfl rfl (take_ofW HT_.out HW_.out (by kernel_rfl)) (fun _ _ _ h => h) (Or.inl ⟨by rfl, ?_⟩) hHeld ?_ ?_
           rotate_left
           ·rintro w' ⟨s0, s1, s2, s3, s4, s5, s6, s7, s8, s9, s10, s11, s12⟩
            go_simp
            with_reducible rfl
           rotate_left
           ·simp only [Act.put, la_, lz_, ls_, i64_w, i32_w]
            rfl
           refine pv_' 18 52 (on_ 19 26) rfl rfl HT_ ?_
           refine pv_' 19 53 (on_ 20 25) rfl rfl HT_ ?_
           refine take_ (i := 20) (N := some 54) (v := ?_) (a' := ?_) (on_ 21 24) rfl rfl (take_ofW HT_.out HW_.out (by kernel_rfl)) (fun _ _ _ h => h) (Or.inl ⟨by rfl, ?_⟩) hHeld ?_ ?_
           rotate_left
           ·rintro w' ⟨s0, s1, s2, s3, s4, s5, s6, s7, s8, s9, s10, s11, s12⟩
            go_simp
            with_reducible rfl
           rotate_left
           ·simp only [Act.put, la_, lz_, ls_, i64_w, i32_w]
            rfl
           refine pv_' 21 55 (on_ 22 23) rfl rfl HT_ ?_
           refine one_ (i := 22) (N := some 56) (on_ 23 22) rfl rfl (one_of HT_.out (by kernel_rfl)) (by decide) (fun K hK => ?_)
           refine goes_ Try.func46 (by kernel_rfl) rfl #[.int .i64 ((rd_T45 l0_0 x3_2).f2), .int .i64 0, .int .i64 (((rd_T45 l0_0 x3_2).f1).size : Int)] (by rfl) rfl rfl ar_ ?_
           with_reducible refine (spec_l1In.calls ((rd_T45 l0_0 x3_2).f2) 0 (((rd_T45 l0_0 x3_2).f1).size : Int) false _ A22.out).mono ?_
           rintro e w' ⟨rfl, ⟨nd, rfl⟩⟩
           refine ⟨_, rfl, ?_⟩
           refine hK.out _ _ (p4_ BK170 (q3_ (cb_ HB hw174_0 :) (cb_ HB hw174_1 :) (cb_ HB hw174_2 :) (q3_ (cb_ HB hw176_0 :) (cb_ HB hw176_1 :) (cb_ HB hw176_2 :) (q3e_ (cb_ HB hw177_0 :) (cb_ HB hw177_1 :) (cb_ HB hw177_2 :))))) (fun hHeld => ?_)
           clear hK K
           refine norm_ (a' := ?_) ?_ ?_
           rotate_left
           ·show Act.put _ (some 56) _ = _
            simp only [Act.put, la_, lz_, ls_, i64_w, i32_w]
            rfl
           refine pv_' 23 57 (on_ 24 21) rfl rfl HT_ ?_
           refine pv_' 24 58 (on_ 25 20) rfl rfl HT_ ?_
           refine pv_' 25 59 (on_ 26 19) rfl rfl HT_ ?_
           refine pun_' 26 60 (on_ 27 18) rfl rfl HT_ ?_
           refine pun_' 27 61 (on_ 28 17) rfl rfl HT_ ?_
           refine pun_' 28 62 (on_ 29 16) rfl rfl HT_ ?_
           refine pun_' 29 63 (on_ 30 15) rfl rfl HT_ ?_
           refine pun_' 30 64 (on_ 31 14) rfl rfl HT_ ?_
           refine pun_' 31 65 (on_ 32 13) rfl rfl HT_ ?_
           refine pun_' 32 66 (on_ 33 12) rfl rfl HT_ ?_
           refine pun_' 33 67 (on_ 34 11) rfl rfl HT_ ?_
           refine pun_' 34 68 (on_ 35 10) rfl rfl HT_ ?_
           refine pun_' 35 69 (on_ 36 9) rfl rfl HT_ ?_
           refine pun_' 36 70 (on_ 37 8) rfl rfl HT_ ?_
           refine pun_' 37 71 (on_ 38 7) rfl rfl HT_ ?_
           refine pun_' 38 72 (on_ 39 6) rfl rfl HT_ ?_
           refine pun_' 39 73 (on_ 40 5) rfl rfl HT_ ?_
           refine pun_' 40 74 (on_ 41 4) rfl rfl HT_ ?_
           refine pun_' 41 75 (on_ 42 3) rfl rfl HT_ ?_
           refine pun_' 42 76 (on_ 43 2) rfl rfl HT_ ?_
           refine pun_' 43 77 (on_ 44 1) rfl rfl HT_ ?_
           refine pv_' 44 78 (on_ 45 0) rfl rfl HT_ ?_
           refine done_ (done_of HT_.out (by kernel_rfl)) ?_
           try go_wp2
           go_meet
           case rel => exact ⟨_, (true), rs_, H', ⟨by have := HJ1.out; have := HK2.out; first | exact Nat.le_refl _ | exact Nat.le_of_succ_le this | omega⟩, ⟨bk_ BK170⟩, ⟨hs_ HB GE170⟩⟩
         ·replace c21 := Bool.eq_false_iff.mpr c21
          subst c21
          have H1 : (spec_DiskOk.j2 k2 x3_2 true l0_0 a0_1 a0_2 a0_3) = some r := by rw [if_neg (show ¬ (false = true) by decide)] at H; exact H
          clear H
          have H := H1
          clear H1
          have H' := Aside0.mk H
          clear H
          try go_wp2
          replace BK170 := bd_ BK170
          replace HB := hd_ HB
          have p174 : 0 ≤ (x3_2 : Int) := of_decide_eq_true as_
          have q174 : x3_2 < (l0_0.length : Int) := of_decide_eq_true as_
          obtain ⟨ad174, e174, hx174_0, hx174_1, hx174_2⟩ := at_T45 HR0_0.out x3_2 p174 q174
          have hw174_2 := hx174_2
          have hw174_1 := hx174_1
          have hw174_0 := hx174_0
          cases e174
          (try replace hx174_0 := cb_ HB hx174_0)
          (try replace hx174_1 := cb_ HB hx174_1)
          (try replace hx174_2 := cb_ HB hx174_2)
          replace p174 := eq_true p174
          replace q174 := eq_true q174
          refine start_ (n := 45) (S := k4_ gb170 (.slice (some ad174) l0_0.length c0_0) (.int .i64 a0_1) (.int .i64 a0_2) (.bool a0_3) (e3e_ (ad174.add ((x3_2).toNat * 3)) (.string ((rd_T45 l0_0 x3_2).f0)) (.string ((rd_T45 l0_0 x3_2).f1)) (.int .i64 ((rd_T45 l0_0 x3_2).f2)))) (ds := []) (on_ 0 45) (by kernel_rfl) rfl rfl (p4_ BK170 (q3e_ (cb_ HB hw174_0 :) (cb_ HB hw174_1 :) (cb_ HB hw174_2 :))) (fun hHeld => ?_); refine with_tabW spec_DiskOk.tab6 spec_DiskOk.bits6 (fun HT_ HW_ => ?_)
          generalize wr.drew = w31 at BK170 HB hx174_0 hx174_1 hx174_2 hHeld ⊢
          refine pv_' 0 34 (on_ 1 44) rfl rfl HT_ ?_
          refine pv_' 2 36 #[i',o',i',o',o',o',o',o',o',o',o',o',o',o',o',o',o',o',o',o',o',o',o',o',o',o',o',o',o',o',o',o',o',o',o',o',o',o',o',o',o',o',o',o',o'] rfl rfl HT_ ?_
          refine take_ (i := 1) (N := some 35) (v := ?_) (a' := ?_) (on_ 3 42) rfl rfl (take_ofW HT_.out HW_.out (by kernel_rfl)) (fun _ _ _ h => h) (Or.inl ⟨by rfl, ?_⟩) hHeld ?_ ?_
          rotate_left
          ·rintro w' ⟨s0, s1, s2, s3, s4, s5, s6⟩
           go_simp
           with_reducible rfl
          rotate_left
          ·simp only [Act.put, la_, lz_, ls_, i64_w, i32_w]
           rfl
          refine pv_' 3 37 (on_ 4 41) rfl rfl HT_ ?_
          refine pv_' 4 38 (on_ 5 40) rfl rfl HT_ ?_
          refine take_ (i := 5) (N := some 39) (v := ?_) (a' := ?_) (on_ 6 39) rfl rfl (take_ofW HT_.out HW_.out (by kernel_rfl)) (fun _ _ _ h => h) (Or.inl ⟨by rfl, ?_⟩) hHeld ?_ ?_
          rotate_left
          ·rintro w' ⟨s0, s1, s2, s3, s4, s5, s6⟩
           go_simp
           with_reducible rfl
          rotate_left
          ·simp only [Act.put, la_, lz_, ls_, i64_w, i32_w]
           rfl
          refine one_ (i := 6) (N := some 40) (on_ 7 38) rfl rfl (one_of HT_.out (by kernel_rfl)) (by decide) (fun K hK => ?_)
          refine goes_ Try.func48 (by kernel_rfl) rfl #[.string ((rd_T45 l0_0 x3_2).f0)] (by rfl) rfl rfl ar_ ?_
          with_reducible refine (spec_NameOk.calls k2 ((rd_T45 l0_0 x3_2).f0) false _ A20.out).mono ?_
          rintro e w' ⟨rfl, ⟨nd, rfl⟩⟩
          refine ⟨_, rfl, ?_⟩
          refine hK.out _ _ (p4_ BK170 (q3e_ (cb_ HB hw174_0 :) (cb_ HB hw174_1 :) (cb_ HB hw174_2 :))) (fun hHeld => ?_)
          clear hK K
          refine norm_ (a' := ?_) ?_ ?_
          rotate_left
          ·show Act.put _ (some 40) _ = _
           simp only [Act.put, la_, lz_, ls_, i64_w, i32_w]
           rfl
          refine pv_' 7 41 (on_ 8 37) rfl rfl HT_ ?_
          refine pv_' 8 42 (on_ 9 36) rfl rfl HT_ ?_
          refine pun_' 9 43 (on_ 10 35) rfl rfl HT_ ?_
          refine pun_' 10 44 (on_ 11 34) rfl rfl HT_ ?_
          refine pun_' 11 45 (on_ 12 33) rfl rfl HT_ ?_
          refine pun_' 12 46 (on_ 13 32) rfl rfl HT_ ?_
          refine pun_' 13 47 (on_ 14 31) rfl rfl HT_ ?_
          refine pun_' 14 48 (on_ 15 30) rfl rfl HT_ ?_
          refine pun_' 15 49 (on_ 16 29) rfl rfl HT_ ?_
          refine pun_' 16 50 (on_ 17 28) rfl rfl HT_ ?_
          refine pun_' 17 51 (on_ 18 27) rfl rfl HT_ ?_
          refine pun_' 18 52 (on_ 19 26) rfl rfl HT_ ?_
          refine pun_' 19 53 (on_ 20 25) rfl rfl HT_ ?_
          refine pun_' 20 54 (on_ 21 24) rfl rfl HT_ ?_
          refine pun_' 21 55 (on_ 22 23) rfl rfl HT_ ?_
          refine pun_' 22 56 (on_ 23 22) rfl rfl HT_ ?_
          refine pun_' 23 57 (on_ 24 21) rfl rfl HT_ ?_
          refine pv_' 24 58 (on_ 25 20) rfl rfl HT_ ?_
          refine pv_' 25 59 (on_ 26 19) rfl rfl HT_ ?_
          refine pun_' 26 60 (on_ 27 18) rfl rfl HT_ ?_
          refine pun_' 27 61 (on_ 28 17) rfl rfl HT_ ?_
          refine pun_' 28 62 (on_ 29 16) rfl rfl HT_ ?_
          refine pun_' 29 63 (on_ 30 15) rfl rfl HT_ ?_
          refine pun_' 30 64 (on_ 31 14) rfl rfl HT_ ?_
          refine pun_' 31 65 (on_ 32 13) rfl rfl HT_ ?_
          refine pun_' 32 66 (on_ 33 12) rfl rfl HT_ ?_
          refine pun_' 33 67 (on_ 34 11) rfl rfl HT_ ?_
          refine pun_' 34 68 (on_ 35 10) rfl rfl HT_ ?_
          refine pun_' 35 69 (on_ 36 9) rfl rfl HT_ ?_
          refine pun_' 36 70 (on_ 37 8) rfl rfl HT_ ?_
          refine pun_' 37 71 (on_ 38 7) rfl rfl HT_ ?_
          refine pun_' 38 72 (on_ 39 6) rfl rfl HT_ ?_
          refine pun_' 39 73 (on_ 40 5) rfl rfl HT_ ?_
          refine pun_' 40 74 (on_ 41 4) rfl rfl HT_ ?_
          refine pun_' 41 75 (on_ 42 3) rfl rfl HT_ ?_
          refine pun_' 42 76 (on_ 43 2) rfl rfl HT_ ?_
          refine pun_' 43 77 (on_ 44 1) rfl rfl HT_ ?_
          refine pv_' 44 78 (on_ 45 0) rfl rfl HT_ ?_
          refine done_ (done_of HT_.out (by kernel_rfl)) ?_
          try go_wp2
          go_meet
          case rel => exact ⟨_, (true), rs_, H', ⟨by have := HJ1.out; have := HK2.out; first | exact Nat.le_refl _ | exact Nat.le_of_succ_le this | omega⟩, ⟨bk_ BK170⟩, ⟨hs_ HB GE170⟩⟩
        ·rw [if_neg c19] at H
         exact absurd H (by simp)
       case rest =>
        clear HC17
        try clear c1
        try clear p1
        try clear q1
        try clear hx1
        try clear c2
        try clear p2
        try clear c4
        try clear p17
        try clear q17
        try clear hx17
        try clear c19
        try clear c21
        try clear hx174_0
        try clear hx174_1
        try clear hx174_2
        try clear hx176_0
        try clear hx176_1
        try clear hx176_2
        try clear hx177_0
        try clear hx177_1
        try clear hx177_2
        try clear p174
        try clear p176
        try clear p177
        try clear q174
        try clear q176
        try clear q177
        obtain ⟨kq, x78_16, rfl, HA, HJ16, BK170, HB⟩ := hcut
        cases kq with
        | zero => exact absurd HA.out (by simp [spec_DiskOk.j2])
        | succ kj16 =>
         have H := HA.out
         clear HA
         simp only [spec_DiskOk.j2] at H
         by_cases c32 : x78_16 = true
         ·subst c32
          have H1 : (some false) = some r := by rw [if_pos rfl] at H; exact H
          clear H
          have H := H1
          clear H1
          obtain rfl := Option.some.inj H
          go_wp2
          go_ret
          exact ⟨re_, hs_ HB GE170⟩
         ·replace c32 := Bool.eq_false_iff.mpr c32
          subst c32
          have H1 : (spec_DiskOk.l0 kj16 (wrap64 (x3_2 + 1)) l0_0 a0_1 a0_2 a0_3) = some r := by rw [if_neg (show ¬ (false = true) by decide)] at H; exact H
          clear H
          have H := H1
          clear H1
          have H' := Aside0.mk H
          clear H
          go_wp2
          go_roundg kj16
          case measure => have := HJ1.out; have := HK2.out; have := HJ16.out; omega
          case rel => exact ⟨(wrap64 (x3_2 + 1)), rs_, H', ⟨by have := HJ1.out; have := HK2.out; have := HJ16.out; omega⟩, ⟨bk_ BK170⟩, ⟨hs_ HB GE170⟩⟩
      ·rw [if_neg c16] at H
       have c16b0 : decide (x3_2 < (l0_0.length : Int)) = false := decide_eq_false c16
       clear c16
       obtain rfl := Option.some.inj H
       obtain ⟨hcz33_0, hcz33_1, hcz33_2, hcz33_3, hfz33_0, hfz33_1, hfz33_2, hfz33_3⟩ := bc4_ BK170
       go_wp2
       go_ret
       exact ⟨re_, hs_ HB GE170⟩

end Go.Proofs.Ytigbekefjbfopaa.PFnPower
