-- Laid by a program of this session, a copy of the kit's printer with additions (wip/patch_print.py): myhead. Lean checks it.
import Derived.Test.YtjcjijkgnkifeaaPFnDirsx0
import Derived.Test.YtjcjijkgnkifeaaPFnDirsx3
namespace Go.Proofs.Ytjcjijkgnkifeaa.PFnDirs
open Go.RowKit Go.Proofs.YtjcjijkgnkifeaaW.PrintWords Go.Proofs.YtjcjijkgnkifeaaW.PrintLast Go.Proofs.YtjcjijkgnkifeaaW.PrintMore
theorem bl_swq95274 : ∀ x y : List UInt8, (Op.bytesLess x y || x == y) = !(Op.bytesLess y x)
 | [], [] => by simp [Op.bytesLess]
 | [], _ :: _ => by simp [Op.bytesLess]
 | _ :: _, [] => by simp [Op.bytesLess]
 | a :: x, b :: y => by
  have ih := bl_swq95274 x y
  by_cases e : a = b
  ·subst e
   simp only [Op.bytesLess, List.cons_beq_cons, BEq.rfl, Bool.true_and, UInt8.lt_irrefl, decide_false, Bool.false_or]
   exact ih
  ·have e' : ¬ b = a := fun h => e h.symm
   have h1 : (a == b) = false := by simpa using e
   have h2 : (b == a) = false := by simpa using e'
   simp only [Op.bytesLess, List.cons_beq_cons, h1, h2, Bool.false_and, Bool.or_false]
   by_cases l : a < b
   ·have : ¬ b < a := fun h => UInt8.lt_asymm h l
    simp [l, this]
   ·have : b < a := UInt8.lt_of_le_of_ne (UInt8.not_lt.1 l) e'
    simp [l, this]
theorem bl_leqq95274 (t : TypeId) (a b : ByteArray) : binOp .leq t (.string a) (.string b) = pure (.bool (!(Op.bytesLess b.toList a.toList))) := by simp only [binOp, Op.stringOp, bl_swq95274]
theorem bl_gtrq95274 (t : TypeId) (a b : ByteArray) : binOp .gtr t (.string a) (.string b) = pure (.bool (Op.bytesLess b.toList a.toList)) := by simp only [binOp, Op.stringOp, bl_swq95274, Bool.not_not]
theorem bl_geqq95274 (t : TypeId) (a b : ByteArray) : binOp .geq t (.string a) (.string b) = pure (.bool (!(Op.bytesLess a.toList b.toList))) := by simp only [binOp, Op.stringOp]
attribute [local go_sem] bl_leqq95274 bl_gtrq95274 bl_geqq95274
attribute [local go_sem] max2_int min2_int max_two min_two max_three min_three max_four min_four   -- for this text's walks alone
set_option linter.unusedVariables false
set_option linter.unusedSimpArgs false

/-! ### spec_DirOk: function 11 -/
mutual
def spec_DirOk.l0 : Nat → List (S29) → Int → Option (Bool)
 | 0, _, _ => none
 | k + 1, x0, x3 => if x3 < (x0.length : Int) then (if 0 ≤ x3 then ((spec_KeyOk.f ((rd_T29 x0 x3).f0)).bind fun t244 => (if t244 = true then ((spec_l1In.f ((rd_T29 x0 x3).f1) 1 100000).bind fun t245 => (if t245 = true then (if ((rd_T29 x0 x3).f2) < 0 then (spec_DirOk.j1 k x0 x3 true) else ((spec_l1In.f ((rd_T29 x0 x3).f3) 1 210).bind fun t246 => (if t246 = true then ((spec_l1In.f ((rd_T29 x0 x3).f4) 1 1000000).bind fun t247 => (if t247 = true then (if x3 > 0 then (if 0 ≤ (wrap64 (x3 - 1)) then (if (wrap64 (x3 - 1)) < (x0.length : Int) then (spec_DirOk.j1 k x0 x3 (!(Op.bytesLess (((rd_T29 x0 (wrap64 (x3 - 1))).f0).toList) (((rd_T29 x0 x3).f0).toList)))) else (none)) else (none)) else (spec_DirOk.j1 k x0 x3 false)) else (spec_DirOk.j1 k x0 x3 true))) else (spec_DirOk.j1 k x0 x3 true)))) else (spec_DirOk.j1 k x0 x3 true))) else (spec_DirOk.j1 k x0 x3 true))) else (none)) else (some true)
def spec_DirOk.j1 : Nat → List (S29) → Int → Bool → Option (Bool)
 | 0, _, _, _ => none
 | k + 1, x0, x3, x59 => if x59 = true then (some false) else (spec_DirOk.l0 k x0 (wrap64 (x3 + 1)))
end
def spec_DirOk.f (k : Nat) (l0 : List (S29)) : Option (Bool) := if (l0.length : Int) > 20 then (some false) else (spec_DirOk.l0 k l0 0)
theorem spec_DirOk.mono_l : ∀ k, (∀ y0 y1, LeO (spec_DirOk.l0 k y0 y1) (spec_DirOk.l0 (k + 1) y0 y1)) ∧ (∀ y0 y1 y2, LeO (spec_DirOk.j1 k y0 y1 y2) (spec_DirOk.j1 (k + 1) y0 y1 y2))
 | 0 => ⟨fun _ _ r h => by simp [spec_DirOk.l0] at h, fun _ _ _ r h => by simp [spec_DirOk.j1] at h⟩
 | k + 1 => by
  obtain ⟨ih0, ih1⟩ := spec_DirOk.mono_l k
  refine ⟨?_, ?_⟩
  ·intro y0 y1
   unfold spec_DirOk.l0
   repeat' first | (with_reducible first | exact ih0 .. | exact ih1 .. | exact LeO.refl .. | exact LeO.none .. | refine LeO.ite ?_ ?_ | refine LeO.bind ?_ (fun _ => ?_)) | exact ih0 .. | exact ih1 .. | exact LeO.none .. | refine LeO.ite ?_ ?_ | refine LeO.bind ?_ (fun _ => ?_)
  ·intro y0 y1 y2
   unfold spec_DirOk.j1
   repeat' first | (with_reducible first | exact ih0 .. | exact ih1 .. | exact LeO.refl .. | exact LeO.none .. | refine LeO.ite ?_ ?_ | refine LeO.bind ?_ (fun _ => ?_)) | exact ih0 .. | exact ih1 .. | exact LeO.none .. | refine LeO.ite ?_ ?_ | refine LeO.bind ?_ (fun _ => ?_)
theorem spec_DirOk.mono : ∀ a0 k, LeO (spec_DirOk.f k a0) (spec_DirOk.f (k + 1) a0) := by
 intro a0 k
 obtain ⟨ih0, ih1⟩ := spec_DirOk.mono_l k
 unfold spec_DirOk.f
 repeat' first | (with_reducible first | exact ih0 .. | exact ih1 .. | exact LeO.refl .. | exact LeO.none .. | refine LeO.ite ?_ ?_ | refine LeO.bind ?_ (fun _ => ?_)) | exact ih0 .. | exact ih1 .. | exact LeO.none .. | refine LeO.ite ?_ ?_ | refine LeO.bind ?_ (fun _ => ?_)
def spec_DirOk.T7 : Bool × List (List Nat × List Nat) := (true, [([], []), ([0], [0]), ([1], [1]), ([2], [2]), ([3, 2], [3]), ([4], [4]), ([5, 4], [4, 5]), ([6, 4, 4], [4, 6]), ([7, 4], [4, 7]), ([4, 8], [4, 8]), ([9, 7], [9]), ([10], [10]), ([11, 10], [10, 11]), ([12, 10], [10, 12]), ([10, 13], [10, 13]), ([14, 10], [14]), ([15], [15]), ([16, 15], [15, 16]), ([17, 15, 15], [15, 17]), ([18, 15], [15, 18]), ([15, 19], [15, 19]), ([20, 18], [20]), ([21], [21]), ([22, 21], [21, 22]), ([23, 21, 21], [21, 23]), ([24, 21], [21, 24]), ([21, 25], [21, 25]), ([26, 24], [26]), ([27], [27]), ([28, 27], [27, 28]), ([29, 27, 27], [27, 29]), ([30], [30]), ([31, 30], [30, 31]), ([30], [30]), ([30], [30]), ([34, 30], [30, 34]), ([33, 35, 30], [30, 33, 35]), ([36, 30], [30, 36]), ([37, 30], [30, 37]), ([32, 38, 30], [30, 32, 38]), ([30, 39, 27], [27, 30, 39]), ([27, 40], [27, 40])])
def spec_DirOk.B7 : List Nat := [0, 1, 3, 7, 15, 31, 63, 127, 255, 511, 1023, 2047, 4095, 8191, 16383, 32767, 65535, 131071, 262143, 524287, 1048575, 2097151, 4194303, 8388607, 16777215, 33554431, 67108863, 134217727, 268435455, 536870911, 1073741823, 2147483647, 4294967295, 2147483647, 2147483647, 19327352831, 62277025791, 130996502527, 268435455999, 549755813887, 1099511627775, 2199023255551]
theorem spec_DirOk.tab7 : rtab .any (opsOf Try.f11 7) = spec_DirOk.T7 := by kernel_rfl
theorem spec_DirOk.bits7 : waitsOk spec_DirOk.T7.2 spec_DirOk.B7 = true := by kernel_rfl
set_option maxHeartbeats 80000000 in
set_option maxRecDepth 100000 in
theorem spec_DirOk.calls (k : Nat) (A0 : Option Addr) (c0 : Nat) (l0 : List (S29)) (r : Bool) (w : World) (hr0 : Kd.C k29 w A0 l0.length l0) (hc0 : l0.length ≤ c0) (h : spec_DirOk.f k l0 = some r) :
  Calls Try.prog 11 #[.slice A0 l0.length c0] w fun e w' => e = .returned (.bool r) ∧ Below w.heap.size w w' := by
 have hu29 := Try.underlying29
 have HR0 := Aside0.mk hr0
 have HC0 := Aside0.mk hc0
 clear hr0 hc0
 have HB := Aside0.mk (Below.refl w.heap.size w)
 have H : (if (l0.length : Int) > 20 then (some false) else (spec_DirOk.l0 k l0 0)) = some r := h
 clear h
 by_cases c2 : (l0.length : Int) > 20
 ·rw [if_pos c2] at H
  have c2b0 : decide (20 < (l0.length : Int)) = true := decide_eq_true c2
  have c2b1 : decide (20 < l0.length) = true := decide_eq_true (by omega)
  clear c2
  obtain rfl := Option.some.inj H
  go_enter Try.func11, Try.ntmps11
  go_wp2
  go_ret
  exact ⟨re_, hb_ HB⟩
 ·rw [if_neg c2] at H
  have c2b0 : decide (20 < (l0.length : Int)) = false := decide_eq_false c2
  have c2b1 : decide (20 < l0.length) = false := decide_eq_false (by omega)
  clear c2
  have H' := Aside0.mk H
  clear H
  go_enter Try.func11, Try.ntmps11
  go_wp2
  go_loopg [3] k (fun kq v3 w' => ∃ (x3_1 : Int), v3 = .int .i64 x3_1 ∧ Aside0 (spec_DirOk.l0 kq l0 x3_1 = some r) ∧ Aside0 (kq ≤ k) ∧ Aside0 (Below w.heap.size w w'))
  case atStart => exact ⟨(0), rs_, H', ⟨Nat.le_refl _⟩, ⟨hb_ HB⟩⟩
  case round =>
   clear H'
   try clear c1
   try clear c2
   try clear c2b0
   try clear c2b1
   try clear p2
   obtain ⟨x3_1, rfl, HA, HK1, HB⟩ := hrel
   cases gk with
   | zero => exact absurd HA.out (by simp [spec_DirOk.l0])
   | succ k1 =>
    have H := HA.out
    clear HA
    simp only [spec_DirOk.l0] at H
    by_cases c3 : x3_1 < (l0.length : Int)
    ·rw [if_pos c3] at H
     have c3b0 : decide (x3_1 < (l0.length : Int)) = true := decide_eq_true c3
     clear c3
     by_cases c4 : 0 ≤ x3_1
     ·rw [if_pos c4] at H
      have c4b0 : decide (0 ≤ x3_1) = true := decide_eq_true c4
      clear c4
      have HC5 := Aside0.mk H
      clear H
      have p242 : 0 ≤ (x3_1 : Int) := of_decide_eq_true as_
      have q242 : x3_1 < (l0.length : Int) := of_decide_eq_true as_
      obtain ⟨ad242, e242, hx242_0, hx242_1, hx242_2, hx242_3, hx242_4⟩ := at_T29 HR0.out x3_1 p242 q242
      cases e242
      (try replace hx242_0 := cb_ HB hx242_0)
      (try replace hx242_1 := cb_ HB hx242_1)
      (try replace hx242_2 := cb_ HB hx242_2)
      (try replace hx242_3 := cb_ HB hx242_3)
      (try replace hx242_4 := cb_ HB hx242_4)
      replace p242 := eq_true p242
      replace q242 := eq_true q242
      go_upto_region 7 with (first | ((with_reducible refine gate_dst (N := 4) rfl ?_); refine box_event ?hg (N := 4) ?hd (cs := #[.string (⟨#[]⟩ : ByteArray), .int .i64 0, .int .i64 0, .int .i64 0, .int .i64 0]) (t := 29) ?hr ?_; (case hd => rfl); (case hg => rfl); (case hr => first | (go_simp; done) | (go_simp; rfl)); intro gb243 hg w6 hbox hb; have BK243 := Aside0.mk (hbox); have GW243 := ge_ hg (hb_ HB); have GE243 := ge_ hg (hb_ HB); replace HB := bs_ HB hb; clear hb hbox hg; obtain ⟨hcz7_0, hcz7_1, hcz7_2, hcz7_3, hcz7_4, hfz7_0, hfz7_1, hfz7_2, hfz7_3, hfz7_4⟩ := bc5_ BK243))
      (try simp only [Act.put, la_, lz_, ls_])
      go_cut [59] (fun v59 wc => ∃ (kq : Nat) (x59_4 : Bool), v59 = .bool x59_4 ∧ Aside0 (spec_DirOk.j1 kq l0 x3_1 x59_4 = some r) ∧ Aside0 (kq ≤ k1) ∧ Aside0 (wc.heap[gb243]? = some (.cells #[.string ((rd_T29 l0 x3_1).f0), .int .i64 ((rd_T29 l0 x3_1).f1), .int .i64 ((rd_T29 l0 x3_1).f2), .int .i64 ((rd_T29 l0 x3_1).f3), .int .i64 ((rd_T29 l0 x3_1).f4)] 29 (0, 0))) ∧ Aside0 (Below w.heap.size w wc))
      case first =>
       have H := HC5.out
       clear HC5
       replace H := Option.bind_eq_some_iff.mp H
       obtain ⟨t244, A80, H⟩ := H
       replace H : (if t244 = true then ((spec_l1In.f ((rd_T29 l0 x3_1).f1) 1 100000).bind fun t245 => (if t245 = true then (if ((rd_T29 l0 x3_1).f2) < 0 then (spec_DirOk.j1 k1 l0 x3_1 true) else ((spec_l1In.f ((rd_T29 l0 x3_1).f3) 1 210).bind fun t246 => (if t246 = true then ((spec_l1In.f ((rd_T29 l0 x3_1).f4) 1 1000000).bind fun t247 => (if t247 = true then (if x3_1 > 0 then (if 0 ≤ (wrap64 (x3_1 - 1)) then (if (wrap64 (x3_1 - 1)) < (l0.length : Int) then (spec_DirOk.j1 k1 l0 x3_1 (!(Op.bytesLess (((rd_T29 l0 (wrap64 (x3_1 - 1))).f0).toList) (((rd_T29 l0 x3_1).f0).toList)))) else (none)) else (none)) else (spec_DirOk.j1 k1 l0 x3_1 false)) else (spec_DirOk.j1 k1 l0 x3_1 true))) else (spec_DirOk.j1 k1 l0 x3_1 true)))) else (spec_DirOk.j1 k1 l0 x3_1 true))) else (spec_DirOk.j1 k1 l0 x3_1 true)) = some r := H
       have A8 := Aside0.mk A80
       clear A80
       by_cases c9 : t244 = true
       ·subst c9
        have H1 : ((spec_l1In.f ((rd_T29 l0 x3_1).f1) 1 100000).bind fun t245 => (if t245 = true then (if ((rd_T29 l0 x3_1).f2) < 0 then (spec_DirOk.j1 k1 l0 x3_1 true) else ((spec_l1In.f ((rd_T29 l0 x3_1).f3) 1 210).bind fun t246 => (if t246 = true then ((spec_l1In.f ((rd_T29 l0 x3_1).f4) 1 1000000).bind fun t247 => (if t247 = true then (if x3_1 > 0 then (if 0 ≤ (wrap64 (x3_1 - 1)) then (if (wrap64 (x3_1 - 1)) < (l0.length : Int) then (spec_DirOk.j1 k1 l0 x3_1 (!(Op.bytesLess (((rd_T29 l0 (wrap64 (x3_1 - 1))).f0).toList) (((rd_T29 l0 x3_1).f0).toList)))) else (none)) else (none)) else (spec_DirOk.j1 k1 l0 x3_1 false)) else (spec_DirOk.j1 k1 l0 x3_1 true))) else (spec_DirOk.j1 k1 l0 x3_1 true)))) else (spec_DirOk.j1 k1 l0 x3_1 true))) = some r := by rw [if_pos rfl] at H; exact H
        clear H
        have H := H1
        clear H1
        replace H := Option.bind_eq_some_iff.mp H
        obtain ⟨t245, A100, H⟩ := H
        replace H : (if t245 = true then (if ((rd_T29 l0 x3_1).f2) < 0 then (spec_DirOk.j1 k1 l0 x3_1 true) else ((spec_l1In.f ((rd_T29 l0 x3_1).f3) 1 210).bind fun t246 => (if t246 = true then ((spec_l1In.f ((rd_T29 l0 x3_1).f4) 1 1000000).bind fun t247 => (if t247 = true then (if x3_1 > 0 then (if 0 ≤ (wrap64 (x3_1 - 1)) then (if (wrap64 (x3_1 - 1)) < (l0.length : Int) then (spec_DirOk.j1 k1 l0 x3_1 (!(Op.bytesLess (((rd_T29 l0 (wrap64 (x3_1 - 1))).f0).toList) (((rd_T29 l0 x3_1).f0).toList)))) else (none)) else (none)) else (spec_DirOk.j1 k1 l0 x3_1 false)) else (spec_DirOk.j1 k1 l0 x3_1 true))) else (spec_DirOk.j1 k1 l0 x3_1 true)))) else (spec_DirOk.j1 k1 l0 x3_1 true)) = some r := H
        have A10 := Aside0.mk A100
        clear A100
        by_cases c11 : t245 = true
        ·subst c11
         have H1 : (if ((rd_T29 l0 x3_1).f2) < 0 then (spec_DirOk.j1 k1 l0 x3_1 true) else ((spec_l1In.f ((rd_T29 l0 x3_1).f3) 1 210).bind fun t246 => (if t246 = true then ((spec_l1In.f ((rd_T29 l0 x3_1).f4) 1 1000000).bind fun t247 => (if t247 = true then (if x3_1 > 0 then (if 0 ≤ (wrap64 (x3_1 - 1)) then (if (wrap64 (x3_1 - 1)) < (l0.length : Int) then (spec_DirOk.j1 k1 l0 x3_1 (!(Op.bytesLess (((rd_T29 l0 (wrap64 (x3_1 - 1))).f0).toList) (((rd_T29 l0 x3_1).f0).toList)))) else (none)) else (none)) else (spec_DirOk.j1 k1 l0 x3_1 false)) else (spec_DirOk.j1 k1 l0 x3_1 true))) else (spec_DirOk.j1 k1 l0 x3_1 true)))) = some r := by rw [if_pos rfl] at H; exact H
         clear H
         have H := H1
         clear H1
         by_cases c12 : ((rd_T29 l0 x3_1).f2) < 0
         ·rw [if_pos c12] at H
          have c12b0 : decide (((rd_T29 l0 x3_1).f2) < 0) = true := decide_eq_true c12
          clear c12
          (first | rw [c12b0] | (simp only [i64_w, i32_w]; rw [c12b0]) | skip)
          have H' := Aside0.mk H
          clear H
          try go_wp2
          generalize hW_ : (((((w6.setCell ⟨gb243, 0, none⟩ (.string ((rd_T29 l0 x3_1).f0))).setCell ⟨gb243, 1, none⟩ (.int .i64 ((rd_T29 l0 x3_1).f1))).setCell ⟨gb243, 2, none⟩ (.int .i64 ((rd_T29 l0 x3_1).f2))).setCell ⟨gb243, 3, none⟩ (.int .i64 ((rd_T29 l0 x3_1).f3))).setCell ⟨gb243, 4, none⟩ (.int .i64 ((rd_T29 l0 x3_1).f4))) = w13
          replace BK243 := up_ #[.string ((rd_T29 l0 x3_1).f0), .int .i64 ((rd_T29 l0 x3_1).f1), .int .i64 ((rd_T29 l0 x3_1).f2), .int .i64 ((rd_T29 l0 x3_1).f3), .int .i64 ((rd_T29 l0 x3_1).f4)] BK243 hW_
          replace HB := us_ hW_ (hs_ HB GE243)
          clear hW_
          replace BK243 := bd_ BK243
          replace HB := hd_ HB
          refine start_ (n := 42) (S := k5e_ gb243 (.string ((rd_T29 l0 x3_1).f0)) (.int .i64 ((rd_T29 l0 x3_1).f1)) (.int .i64 ((rd_T29 l0 x3_1).f2)) (.int .i64 ((rd_T29 l0 x3_1).f3)) (.int .i64 ((rd_T29 l0 x3_1).f4))) (ds := []) (on_ 0 42) (by kernel_rfl) rfl rfl (p5e_ BK243) (fun hHeld => ?_); refine with_tabW spec_DirOk.tab7 spec_DirOk.bits7 (fun HT_ HW_ => ?_)
          generalize w13.drew = w14 at BK243 HB hHeld ⊢
          refine pv_' 0 18 (on_ 1 41) rfl rfl HT_ ?_
          refine take_ (i := 1) (N := some 19) (v := ?_) (a' := ?_) (on_ 2 40) rfl rfl (take_ofW HT_.out HW_.out (by kernel_rfl)) (fun _ _ _ h => h) (Or.inl ⟨by rfl, ?_⟩) hHeld ?_ ?_
          rotate_left
          ·rintro w' ⟨s0, s1, s2, s3, s4⟩
           go_simp
           with_reducible rfl
          rotate_left
          ·simp only [Act.put, la_, lz_, ls_, i64_w, i32_w]
           rfl
          refine one_ (i := 2) (N := some 20) (on_ 3 39) rfl rfl (one_of HT_.out (by kernel_rfl)) (by decide) (fun K hK => ?_)
          refine goes_ Try.func23 (by kernel_rfl) rfl #[.string ((rd_T29 l0 x3_1).f0)] (by rfl) rfl rfl ar_ ?_
          with_reducible refine (spec_KeyOk.calls ((rd_T29 l0 x3_1).f0) true _ A8.out).mono ?_
          rintro e w' ⟨rfl, ⟨nd, rfl⟩⟩
          refine ⟨_, rfl, ?_⟩
          refine hK.out _ _ (p5e_ BK243) (fun hHeld => ?_)
          clear hK K
          refine norm_ (a' := ?_) ?_ ?_
          rotate_left
          ·show Act.put _ (some 20) _ = _
           simp only [Act.put, la_, lz_, ls_, i64_w, i32_w]
           rfl
          refine pv_' 3 21 (on_ 4 38) rfl rfl HT_ ?_
          refine pv_' 4 22 (on_ 5 37) rfl rfl HT_ ?_
          refine pv_' 5 23 (on_ 6 36) rfl rfl HT_ ?_
          refine take_ (i := 6) (N := some 24) (v := ?_) (a' := ?_) (on_ 7 35) rfl rfl (take_ofW HT_.out HW_.out (by kernel_rfl)) (fun _ _ _ h => h) (Or.inl ⟨by rfl, ?_⟩) hHeld ?_ ?_
          rotate_left
          ·rintro w' ⟨s0, s1, s2, s3, s4⟩
           go_simp
           with_reducible rfl
          rotate_left
          ·simp only [Act.put, la_, lz_, ls_, i64_w, i32_w]
           rfl
          refine one_ (i := 7) (N := some 25) (on_ 8 34) rfl rfl (one_of HT_.out (by kernel_rfl)) (by decide) (fun K hK => ?_)
          refine goes_ Try.func24 (by kernel_rfl) rfl #[.int .i64 ((rd_T29 l0 x3_1).f1), .int .i64 1, .int .i64 100000] (by rfl) rfl rfl ar_ ?_
          with_reducible refine (spec_l1In.calls ((rd_T29 l0 x3_1).f1) 1 100000 true _ A10.out).mono ?_
          rintro e w' ⟨rfl, ⟨nd, rfl⟩⟩
          refine ⟨_, rfl, ?_⟩
          refine hK.out _ _ (p5e_ BK243) (fun hHeld => ?_)
          clear hK K
          refine norm_ (a' := ?_) ?_ ?_
          rotate_left
          ·show Act.put _ (some 25) _ = _
           simp only [Act.put, la_, lz_, ls_, i64_w, i32_w]
           rfl
          refine pv_' 8 26 (on_ 9 33) rfl rfl HT_ ?_
          refine pv_' 9 27 (on_ 10 32) rfl rfl HT_ ?_
          refine pv_' 10 28 (on_ 11 31) rfl rfl HT_ ?_
          refine pv_' 11 29 (on_ 12 30) rfl rfl HT_ ?_
          refine take_ (i := 12) (N := some 30) (v := ?_) (a' := ?_) (on_ 13 29) rfl rfl (take_ofW HT_.out HW_.out (by kernel_rfl)) (fun _ _ _ h => h) (Or.inl ⟨by rfl, ?_⟩) hHeld ?_ ?_
          rotate_left
          ·rintro w' ⟨s0, s1, s2, s3, s4⟩
           go_simp
           with_reducible rfl
          rotate_left
          ·simp only [Act.put, la_, lz_, ls_, i64_w, i32_w]
           rfl
          refine pv_' 13 31 (on_ 14 28) rfl rfl HT_ ?_
          refine pv_' 14 32 (on_ 15 27) rfl rfl HT_ ?_
          refine pv_' 15 33 (on_ 16 26) rfl rfl HT_ ?_
          refine pun_' 16 34 (on_ 17 25) rfl rfl HT_ ?_
          refine pun_' 17 35 (on_ 18 24) rfl rfl HT_ ?_
          refine pun_' 18 36 (on_ 19 23) rfl rfl HT_ ?_
          refine pun_' 19 37 (on_ 20 22) rfl rfl HT_ ?_
          refine pv_' 20 38 (on_ 21 21) rfl rfl HT_ ?_
          refine pv_' 21 39 (on_ 22 20) rfl rfl HT_ ?_
          refine pun_' 22 40 (on_ 23 19) rfl rfl HT_ ?_
          refine pun_' 23 41 (on_ 24 18) rfl rfl HT_ ?_
          refine pun_' 24 42 (on_ 25 17) rfl rfl HT_ ?_
          refine pun_' 25 43 (on_ 26 16) rfl rfl HT_ ?_
          refine pv_' 26 44 (on_ 27 15) rfl rfl HT_ ?_
          refine pv_' 27 45 (on_ 28 14) rfl rfl HT_ ?_
          refine pun_' 28 46 (on_ 29 13) rfl rfl HT_ ?_
          refine pun_' 29 47 (on_ 30 12) rfl rfl HT_ ?_
          refine pun_' 30 48 (on_ 31 11) rfl rfl HT_ ?_
          refine pun_' 31 49 (on_ 32 10) rfl rfl HT_ ?_
          refine pun_' 32 50 (on_ 33 9) rfl rfl HT_ ?_
          refine pun_' 33 51 (on_ 34 8) rfl rfl HT_ ?_
          refine pun_' 34 52 (on_ 35 7) rfl rfl HT_ ?_
          refine pun_' 35 53 (on_ 36 6) rfl rfl HT_ ?_
          refine pun_' 36 54 (on_ 37 5) rfl rfl HT_ ?_
          refine pun_' 37 55 (on_ 38 4) rfl rfl HT_ ?_
          refine pun_' 38 56 (on_ 39 3) rfl rfl HT_ ?_
          refine pun_' 39 57 (on_ 40 2) rfl rfl HT_ ?_
          refine pun_' 40 58 (on_ 41 1) rfl rfl HT_ ?_
          refine pv_' 41 59 (on_ 42 0) rfl rfl HT_ ?_
          refine done_ (done_of HT_.out (by kernel_rfl)) ?_
          try go_wp2
          go_meet
          case rel => exact ⟨_, (true), rs_, H', ⟨by have := HK1.out; first | exact Nat.le_refl _ | exact Nat.le_of_succ_le this | omega⟩, ⟨bk_ BK243⟩, ⟨hs_ HB GE243⟩⟩
         ·rw [if_neg c12] at H
          have c12b0 : decide (((rd_T29 l0 x3_1).f2) < 0) = false := decide_eq_false c12
          clear c12
          (first | rw [c12b0] | (simp only [i64_w, i32_w]; rw [c12b0]) | skip)
          replace H := Option.bind_eq_some_iff.mp H
          obtain ⟨t246, A150, H⟩ := H
          replace H : (if t246 = true then ((spec_l1In.f ((rd_T29 l0 x3_1).f4) 1 1000000).bind fun t247 => (if t247 = true then (if x3_1 > 0 then (if 0 ≤ (wrap64 (x3_1 - 1)) then (if (wrap64 (x3_1 - 1)) < (l0.length : Int) then (spec_DirOk.j1 k1 l0 x3_1 (!(Op.bytesLess (((rd_T29 l0 (wrap64 (x3_1 - 1))).f0).toList) (((rd_T29 l0 x3_1).f0).toList)))) else (none)) else (none)) else (spec_DirOk.j1 k1 l0 x3_1 false)) else (spec_DirOk.j1 k1 l0 x3_1 true))) else (spec_DirOk.j1 k1 l0 x3_1 true)) = some r := H
          have A15 := Aside0.mk A150
          clear A150
          by_cases c16 : t246 = true
          ·subst c16
           have H1 : ((spec_l1In.f ((rd_T29 l0 x3_1).f4) 1 1000000).bind fun t247 => (if t247 = true then (if x3_1 > 0 then (if 0 ≤ (wrap64 (x3_1 - 1)) then (if (wrap64 (x3_1 - 1)) < (l0.length : Int) then (spec_DirOk.j1 k1 l0 x3_1 (!(Op.bytesLess (((rd_T29 l0 (wrap64 (x3_1 - 1))).f0).toList) (((rd_T29 l0 x3_1).f0).toList)))) else (none)) else (none)) else (spec_DirOk.j1 k1 l0 x3_1 false)) else (spec_DirOk.j1 k1 l0 x3_1 true))) = some r := by rw [if_pos rfl] at H; exact H
           clear H
           have H := H1
           clear H1
           replace H := Option.bind_eq_some_iff.mp H
           obtain ⟨t247, A170, H⟩ := H
           replace H : (if t247 = true then (if x3_1 > 0 then (if 0 ≤ (wrap64 (x3_1 - 1)) then (if (wrap64 (x3_1 - 1)) < (l0.length : Int) then (spec_DirOk.j1 k1 l0 x3_1 (!(Op.bytesLess (((rd_T29 l0 (wrap64 (x3_1 - 1))).f0).toList) (((rd_T29 l0 x3_1).f0).toList)))) else (none)) else (none)) else (spec_DirOk.j1 k1 l0 x3_1 false)) else (spec_DirOk.j1 k1 l0 x3_1 true)) = some r := H
           have A17 := Aside0.mk A170
           clear A170
           by_cases c18 : t247 = true
           ·subst c18
            have H1 : (if x3_1 > 0 then (if 0 ≤ (wrap64 (x3_1 - 1)) then (if (wrap64 (x3_1 - 1)) < (l0.length : Int) then (spec_DirOk.j1 k1 l0 x3_1 (!(Op.bytesLess (((rd_T29 l0 (wrap64 (x3_1 - 1))).f0).toList) (((rd_T29 l0 x3_1).f0).toList)))) else (none)) else (none)) else (spec_DirOk.j1 k1 l0 x3_1 false)) = some r := by rw [if_pos rfl] at H; exact H
            clear H
            have H := H1
            clear H1
            by_cases c19 : x3_1 > 0
            ·rw [if_pos c19] at H
             have c19b0 : decide (0 < x3_1) = true := decide_eq_true c19
             clear c19
             obtain ⟨ji20, hji20⟩ : ∃ j_ : Int, (wrap64 (x3_1 - 1)) = j_ := ⟨_, rfl⟩
             replace H : (if 0 ≤ (ji20) then (if (ji20) < (l0.length : Int) then (spec_DirOk.j1 k1 l0 x3_1 (!(Op.bytesLess (((rd_T29 l0 (ji20)).f0).toList) (((rd_T29 l0 x3_1).f0).toList)))) else (none)) else (none)) = some r := by first | (rw [hji20] at H; exact H) | (simp only [hji20] at H ⊢; exact H)
             (try rw [hji20] at A8)
             (try rw [hji20] at A10)
             (try rw [hji20] at A15)
             (try rw [hji20] at A17)
             have hji20w : (IntKind.i64.wrap (x3_1 - 1)) = ji20 := (i64_w _).trans hji20
             by_cases c21 : 0 ≤ (ji20)
             ·rw [if_pos c21] at H
              have c21b0 : decide (0 ≤ (ji20)) = true := decide_eq_true c21
              clear c21
              by_cases c22 : (ji20) < (l0.length : Int)
              ·rw [if_pos c22] at H
               have c22b0 : decide ((ji20) < (l0.length : Int)) = true := decide_eq_true c22
               clear c22
               have H' := Aside0.mk H
               clear H
               try go_wp2
               generalize hW_ : (((((w6.setCell ⟨gb243, 0, none⟩ (.string ((rd_T29 l0 x3_1).f0))).setCell ⟨gb243, 1, none⟩ (.int .i64 ((rd_T29 l0 x3_1).f1))).setCell ⟨gb243, 2, none⟩ (.int .i64 ((rd_T29 l0 x3_1).f2))).setCell ⟨gb243, 3, none⟩ (.int .i64 ((rd_T29 l0 x3_1).f3))).setCell ⟨gb243, 4, none⟩ (.int .i64 ((rd_T29 l0 x3_1).f4))) = w23
               replace BK243 := up_ #[.string ((rd_T29 l0 x3_1).f0), .int .i64 ((rd_T29 l0 x3_1).f1), .int .i64 ((rd_T29 l0 x3_1).f2), .int .i64 ((rd_T29 l0 x3_1).f3), .int .i64 ((rd_T29 l0 x3_1).f4)] BK243 hW_
               replace HB := us_ hW_ (hs_ HB GE243)
               clear hW_
               replace BK243 := bd_ BK243
               replace HB := hd_ HB
               have p248 : 0 ≤ ((ji20) : Int) := of_decide_eq_true as_
               have q248 : (ji20) < (l0.length : Int) := of_decide_eq_true as_
               obtain ⟨ad248, e248, hx248_0, hx248_1, hx248_2, hx248_3, hx248_4⟩ := at_T29 HR0.out (ji20) p248 q248
               have hw248_4 := hx248_4
               have hw248_3 := hx248_3
               have hw248_2 := hx248_2
               have hw248_1 := hx248_1
               have hw248_0 := hx248_0
               obtain rfl : ad242 = ad248 := (by injection e248)
               (try replace hx248_0 := cb_ HB hx248_0)
               (try replace hx248_1 := cb_ HB hx248_1)
               (try replace hx248_2 := cb_ HB hx248_2)
               (try replace hx248_3 := cb_ HB hx248_3)
               (try replace hx248_4 := cb_ HB hx248_4)
               replace p248 := eq_true p248
               replace q248 := eq_true q248
               refine start_ (n := 42) (S := k5_ gb243 (.string ((rd_T29 l0 x3_1).f0)) (.int .i64 ((rd_T29 l0 x3_1).f1)) (.int .i64 ((rd_T29 l0 x3_1).f2)) (.int .i64 ((rd_T29 l0 x3_1).f3)) (.int .i64 ((rd_T29 l0 x3_1).f4)) (e5e_ (ad242.add (((ji20)).toNat * 5)) (.string ((rd_T29 l0 (ji20)).f0)) (.int .i64 ((rd_T29 l0 (ji20)).f1)) (.int .i64 ((rd_T29 l0 (ji20)).f2)) (.int .i64 ((rd_T29 l0 (ji20)).f3)) (.int .i64 ((rd_T29 l0 (ji20)).f4)))) (ds := []) (on_ 0 42) (by kernel_rfl) rfl rfl (p5_ BK243 (q5e_ (cb_ HB hw248_0 :) (cb_ HB hw248_1 :) (cb_ HB hw248_2 :) (cb_ HB hw248_3 :) (cb_ HB hw248_4 :))) (fun hHeld => ?_); refine with_tabW spec_DirOk.tab7 spec_DirOk.bits7 (fun HT_ HW_ => ?_)
               generalize w23.drew = w24 at BK243 HB hx248_0 hx248_1 hx248_2 hx248_3 hx248_4 hHeld ⊢
               refine pv_' 0 18 (on_ 1 41) rfl rfl HT_ ?_
               refine take_ (i := 1) (N := some 19) (v := ?_) (a' := ?_) (on_ 2 40) rfl rfl (take_ofW HT_.out HW_.out (by kernel_rfl)) (fun _ _ _ h => h) (Or.inl ⟨by rfl, ?_⟩) hHeld ?_ ?_
               rotate_left
               ·rintro w' ⟨s0, s1, s2, s3, s4, s5, s6, s7, s8, s9⟩
                go_simp
                with_reducible rfl
               rotate_left
               ·simp only [Act.put, la_, lz_, ls_, i64_w, i32_w]
                rfl
               refine one_ (i := 2) (N := some 20) (on_ 3 39) rfl rfl (one_of HT_.out (by kernel_rfl)) (by decide) (fun K hK => ?_)
               refine goes_ Try.func23 (by kernel_rfl) rfl #[.string ((rd_T29 l0 x3_1).f0)] (by rfl) rfl rfl ar_ ?_
               with_reducible refine (spec_KeyOk.calls ((rd_T29 l0 x3_1).f0) true _ A8.out).mono ?_
               rintro e w' ⟨rfl, ⟨nd, rfl⟩⟩
               refine ⟨_, rfl, ?_⟩
               refine hK.out _ _ (p5_ BK243 (q5e_ (cb_ HB hw248_0 :) (cb_ HB hw248_1 :) (cb_ HB hw248_2 :) (cb_ HB hw248_3 :) (cb_ HB hw248_4 :))) (fun hHeld => ?_)
               clear hK K
               refine norm_ (a' := ?_) ?_ ?_
               rotate_left
               ·show Act.put _ (some 20) _ = _
                simp only [Act.put, la_, lz_, ls_, i64_w, i32_w]
                rfl
               refine pv_' 3 21 (on_ 4 38) rfl rfl HT_ ?_
               refine pv_' 4 22 (on_ 5 37) rfl rfl HT_ ?_
               refine pv_' 5 23 (on_ 6 36) rfl rfl HT_ ?_
               refine take_ (i := 6) (N := some 24) (v := ?_) (a' := ?_) (on_ 7 35) rfl rfl (take_ofW HT_.out HW_.out (by kernel_rfl)) (fun _ _ _ h => h) (Or.inl ⟨by rfl, ?_⟩) hHeld ?_ ?_
               rotate_left
               ·rintro w' ⟨s0, s1, s2, s3, s4, s5, s6, s7, s8, s9⟩
                go_simp
                with_reducible rfl
               rotate_left
               ·simp only [Act.put, la_, lz_, ls_, i64_w, i32_w]
                rfl
               refine one_ (i := 7) (N := some 25) (on_ 8 34) rfl rfl (one_of HT_.out (by kernel_rfl)) (by decide) (fun K hK => ?_)
               refine goes_ Try.func24 (by kernel_rfl) rfl #[.int .i64 ((rd_T29 l0 x3_1).f1), .int .i64 1, .int .i64 100000] (by rfl) rfl rfl ar_ ?_
               with_reducible refine (spec_l1In.calls ((rd_T29 l0 x3_1).f1) 1 100000 true _ A10.out).mono ?_
               rintro e w' ⟨rfl, ⟨nd, rfl⟩⟩
               refine ⟨_, rfl, ?_⟩
               refine hK.out _ _ (p5_ BK243 (q5e_ (cb_ HB hw248_0 :) (cb_ HB hw248_1 :) (cb_ HB hw248_2 :) (cb_ HB hw248_3 :) (cb_ HB hw248_4 :))) (fun hHeld => ?_)
               clear hK K
               refine norm_ (a' := ?_) ?_ ?_
               rotate_left
               ·show Act.put _ (some 25) _ = _
                simp only [Act.put, la_, lz_, ls_, i64_w, i32_w]
                rfl
               refine pv_' 8 26 (on_ 9 33) rfl rfl HT_ ?_
               refine pv_' 9 27 (on_ 10 32) rfl rfl HT_ ?_
               refine pv_' 10 28 (on_ 11 31) rfl rfl HT_ ?_
               refine pv_' 11 29 (on_ 12 30) rfl rfl HT_ ?_
               refine take_ (i := 12) (N := some 30) (v := ?_) (a' := ?_) (on_ 13 29) rfl rfl (take_ofW HT_.out HW_.out (by kernel_rfl)) (fun _ _ _ h => h) (Or.inl ⟨by rfl, ?_⟩) hHeld ?_ ?_
               rotate_left
               ·rintro w' ⟨s0, s1, s2, s3, s4, s5, s6, s7, s8, s9⟩
                go_simp
                with_reducible rfl
               rotate_left
               ·simp only [Act.put, la_, lz_, ls_, i64_w, i32_w]
                rfl
               refine pv_' 13 31 (on_ 14 28) rfl rfl HT_ ?_
               refine pv_' 14 32 (on_ 15 27) rfl rfl HT_ ?_
               refine pv_' 15 33 (on_ 16 26) rfl rfl HT_ ?_
               refine pv_' 16 34 (on_ 17 25) rfl rfl HT_ ?_
               refine take_ (i := 17) (N := some 35) (v := ?_) (a' := ?_) (on_ 18 24) rfl rfl (take_ofW HT_.out HW_.out (by kernel_rfl)) (fun _ _ _ h => h) (Or.inl ⟨by rfl, ?_⟩) hHeld ?_ ?_
               rotate_left
               ·rintro w' ⟨s0, s1, s2, s3, s4, s5, s6, s7, s8, s9⟩
                go_simp
                with_reducible rfl
               rotate_left
               ·simp only [Act.put, la_, lz_, ls_, i64_w, i32_w]
                rfl
               refine one_ (i := 18) (N := some 36) (on_ 19 23) rfl rfl (one_of HT_.out (by kernel_rfl)) (by decide) (fun K hK => ?_)
               refine goes_ Try.func24 (by kernel_rfl) rfl #[.int .i64 ((rd_T29 l0 x3_1).f3), .int .i64 1, .int .i64 210] (by rfl) rfl rfl ar_ ?_
               with_reducible refine (spec_l1In.calls ((rd_T29 l0 x3_1).f3) 1 210 true _ A15.out).mono ?_
               rintro e w' ⟨rfl, ⟨nd, rfl⟩⟩
               refine ⟨_, rfl, ?_⟩
               refine hK.out _ _ (p5_ BK243 (q5e_ (cb_ HB hw248_0 :) (cb_ HB hw248_1 :) (cb_ HB hw248_2 :) (cb_ HB hw248_3 :) (cb_ HB hw248_4 :))) (fun hHeld => ?_)
               clear hK K
               refine norm_ (a' := ?_) ?_ ?_
               rotate_left
               ·show Act.put _ (some 36) _ = _
                simp only [Act.put, la_, lz_, ls_, i64_w, i32_w]
                rfl
               refine pv_' 19 37 (on_ 20 22) rfl rfl HT_ ?_
               refine pv_' 20 38 (on_ 21 21) rfl rfl HT_ ?_
               refine pv_' 21 39 (on_ 22 20) rfl rfl HT_ ?_
               refine pv_' 22 40 (on_ 23 19) rfl rfl HT_ ?_
               refine take_ (i := 23) (N := some 41) (v := ?_) (a' := ?_) (on_ 24 18) rfl rfl (take_ofW HT_.out HW_.out (by kernel_rfl)) (fun _ _ _ h => h) (Or.inl ⟨by rfl, ?_⟩) hHeld ?_ ?_
               rotate_left
               ·rintro w' ⟨s0, s1, s2, s3, s4, s5, s6, s7, s8, s9⟩
                go_simp
                with_reducible rfl
               rotate_left
               ·simp only [Act.put, la_, lz_, ls_, i64_w, i32_w]
                rfl
               refine one_ (i := 24) (N := some 42) (on_ 25 17) rfl rfl (one_of HT_.out (by kernel_rfl)) (by decide) (fun K hK => ?_)
               refine goes_ Try.func24 (by kernel_rfl) rfl #[.int .i64 ((rd_T29 l0 x3_1).f4), .int .i64 1, .int .i64 1000000] (by rfl) rfl rfl ar_ ?_
               with_reducible refine (spec_l1In.calls ((rd_T29 l0 x3_1).f4) 1 1000000 true _ A17.out).mono ?_
               rintro e w' ⟨rfl, ⟨nd, rfl⟩⟩
               refine ⟨_, rfl, ?_⟩
               refine hK.out _ _ (p5_ BK243 (q5e_ (cb_ HB hw248_0 :) (cb_ HB hw248_1 :) (cb_ HB hw248_2 :) (cb_ HB hw248_3 :) (cb_ HB hw248_4 :))) (fun hHeld => ?_)
               clear hK K
               refine norm_ (a' := ?_) ?_ ?_
               rotate_left
               ·show Act.put _ (some 42) _ = _
                simp only [Act.put, la_, lz_, ls_, i64_w, i32_w]
                rfl
               refine pv_' 25 43 (on_ 26 16) rfl rfl HT_ ?_
               refine pv_' 26 44 (on_ 27 15) rfl rfl HT_ ?_
               refine pv_' 27 45 (on_ 28 14) rfl rfl HT_ ?_
               refine pv_' 28 46 (on_ 29 13) rfl rfl HT_ ?_
               refine pv_' 29 47 (on_ 30 12) rfl rfl HT_ ?_
               refine pv_' 30 48 (on_ 31 11) rfl rfl HT_ ?_
               refine pv_' 31 49 (on_ 32 10) rfl rfl HT_ ?_
               refine pv_' 33 51 #[i',i',i',i',i',i',i',i',i',i',i',i',i',i',i',i',i',i',i',i',i',i',i',i',i',i',i',i',i',i',i',i',o',i',o',o',o',o',o',o',o',o'] rfl rfl HT_ ?_
               refine pv_' 34 52 #[i',i',i',i',i',i',i',i',i',i',i',i',i',i',i',i',i',i',i',i',i',i',i',i',i',i',i',i',i',i',i',i',o',i',i',o',o',o',o',o',o',o'] rfl rfl HT_ ?_
               refine pv_' 35 53 #[i',i',i',i',i',i',i',i',i',i',i',i',i',i',i',i',i',i',i',i',i',i',i',i',i',i',i',i',i',i',i',i',o',i',i',i',o',o',o',o',o',o'] rfl rfl HT_ ?_
               refine pv_' 36 54 #[i',i',i',i',i',i',i',i',i',i',i',i',i',i',i',i',i',i',i',i',i',i',i',i',i',i',i',i',i',i',i',i',o',i',i',i',i',o',o',o',o',o'] rfl rfl HT_ ?_
               refine pv_' 37 55 #[i',i',i',i',i',i',i',i',i',i',i',i',i',i',i',i',i',i',i',i',i',i',i',i',i',i',i',i',i',i',i',i',o',i',i',i',i',i',o',o',o',o'] rfl rfl HT_ ?_
               refine take_ (i := 32) (N := some 50) (v := ?_) (a' := ?_) (on_ 38 4) rfl rfl (take_ofW HT_.out HW_.out (by kernel_rfl)) (fun _ _ _ h => h) (Or.inl ⟨by rfl, ?_⟩) hHeld ?_ ?_
               rotate_left
               ·rintro w' ⟨s0, s1, s2, s3, s4, s5, s6, s7, s8, s9⟩
                go_simp
                with_reducible rfl
               rotate_left
               ·simp only [Act.put, la_, lz_, ls_, i64_w, i32_w]
                rfl
               refine take_ (i := 38) (N := some 56) (v := ?_) (a' := ?_) (on_ 39 3) rfl rfl (take_ofW HT_.out HW_.out (by kernel_rfl)) (fun _ _ _ h => h) (Or.inl ⟨by rfl, ?_⟩) hHeld ?_ ?_
               rotate_left
               ·rintro w' ⟨s0, s1, s2, s3, s4, s5, s6, s7, s8, s9⟩
                go_simp
                with_reducible rfl
               rotate_left
               ·simp only [Act.put, la_, lz_, ls_, i64_w, i32_w]
                rfl
               refine pv_' 39 57 (on_ 40 2) rfl rfl HT_ ?_
               refine pv_' 40 58 (on_ 41 1) rfl rfl HT_ ?_
               refine pv_' 41 59 (on_ 42 0) rfl rfl HT_ ?_
               refine done_ (done_of HT_.out (by kernel_rfl)) ?_
               have Nji20_ := Aside0.mk hji20
               clear hji20
               (try clear hji20w)
               try go_wp2
               have hji20 := Nji20_.out
               clear Nji20_
               (try have hji20w := (i64_w _).trans hji20)
               go_meet
               case rel => exact ⟨_, (!(Op.bytesLess (((rd_T29 l0 (ji20)).f0).toList) (((rd_T29 l0 x3_1).f0).toList))), (by first | rfl | (simp; done) | (simp only [← hji20] <;> (first | rfl | simp)) | (simp [*]; done)), (by first | exact H' | (simp only [hji20]; exact H')), ⟨by have := HK1.out; first | exact Nat.le_refl _ | exact Nat.le_of_succ_le this | omega⟩, ⟨bk_ BK243⟩, ⟨hs_ HB GE243⟩⟩
              ·rw [if_neg c22] at H
               exact absurd H (by simp)
             ·rw [if_neg c21] at H
              exact absurd H (by simp)
            ·rw [if_neg c19] at H
             have c19b0 : decide (0 < x3_1) = false := decide_eq_false c19
             clear c19
             have H' := Aside0.mk H
             clear H
             try go_wp2
             generalize hW_ : (((((w6.setCell ⟨gb243, 0, none⟩ (.string ((rd_T29 l0 x3_1).f0))).setCell ⟨gb243, 1, none⟩ (.int .i64 ((rd_T29 l0 x3_1).f1))).setCell ⟨gb243, 2, none⟩ (.int .i64 ((rd_T29 l0 x3_1).f2))).setCell ⟨gb243, 3, none⟩ (.int .i64 ((rd_T29 l0 x3_1).f3))).setCell ⟨gb243, 4, none⟩ (.int .i64 ((rd_T29 l0 x3_1).f4))) = w25
             replace BK243 := up_ #[.string ((rd_T29 l0 x3_1).f0), .int .i64 ((rd_T29 l0 x3_1).f1), .int .i64 ((rd_T29 l0 x3_1).f2), .int .i64 ((rd_T29 l0 x3_1).f3), .int .i64 ((rd_T29 l0 x3_1).f4)] BK243 hW_
             replace HB := us_ hW_ (hs_ HB GE243)
             clear hW_
             replace BK243 := bd_ BK243
             replace HB := hd_ HB
             refine start_ (n := 42) (S := k5e_ gb243 (.string ((rd_T29 l0 x3_1).f0)) (.int .i64 ((rd_T29 l0 x3_1).f1)) (.int .i64 ((rd_T29 l0 x3_1).f2)) (.int .i64 ((rd_T29 l0 x3_1).f3)) (.int .i64 ((rd_T29 l0 x3_1).f4))) (ds := []) (on_ 0 42) (by kernel_rfl) rfl rfl (p5e_ BK243) (fun hHeld => ?_); refine with_tabW spec_DirOk.tab7 spec_DirOk.bits7 (fun HT_ HW_ => ?_)
             generalize w25.drew = w26 at BK243 HB hHeld ⊢
             refine pv_' 0 18 (on_ 1 41) rfl rfl HT_ ?_
             refine take_ (i := 1) (N := some 19) (v := ?_) (a' := ?_) (on_ 2 40) rfl rfl (take_ofW HT_.out HW_.out (by kernel_rfl)) (fun _ _ _ h => h) (Or.inl ⟨by rfl, ?_⟩) hHeld ?_ ?_
             rotate_left
             ·rintro w' ⟨s0, s1, s2, s3, s4⟩
              go_simp
              with_reducible rfl
             rotate_left
             ·simp only [Act.put, la_, lz_, ls_, i64_w, i32_w]
              rfl
             refine one_ (i := 2) (N := some 20) (on_ 3 39) rfl rfl (one_of HT_.out (by kernel_rfl)) (by decide) (fun K hK => ?_)
             refine goes_ Try.func23 (by kernel_rfl) rfl #[.string ((rd_T29 l0 x3_1).f0)] (by rfl) rfl rfl ar_ ?_
             with_reducible refine (spec_KeyOk.calls ((rd_T29 l0 x3_1).f0) true _ A8.out).mono ?_
             rintro e w' ⟨rfl, ⟨nd, rfl⟩⟩
             refine ⟨_, rfl, ?_⟩
             refine hK.out _ _ (p5e_ BK243) (fun hHeld => ?_)
             clear hK K
             refine norm_ (a' := ?_) ?_ ?_
             rotate_left
             ·show Act.put _ (some 20) _ = _
              simp only [Act.put, la_, lz_, ls_, i64_w, i32_w]
              rfl
             refine pv_' 3 21 (on_ 4 38) rfl rfl HT_ ?_
             refine pv_' 4 22 (on_ 5 37) rfl rfl HT_ ?_
             refine pv_' 5 23 (on_ 6 36) rfl rfl HT_ ?_
             refine take_ (i := 6) (N := some 24) (v := ?_) (a' := ?_) (on_ 7 35) rfl rfl (take_ofW HT_.out HW_.out (by kernel_rfl)) (fun _ _ _ h => h) (Or.inl ⟨by rfl, ?_⟩) hHeld ?_ ?_
             rotate_left
             ·rintro w' ⟨s0, s1, s2, s3, s4⟩
              go_simp
              with_reducible rfl
             rotate_left
             ·simp only [Act.put, la_, lz_, ls_, i64_w, i32_w]
              rfl
             refine one_ (i := 7) (N := some 25) (on_ 8 34) rfl rfl (one_of HT_.out (by kernel_rfl)) (by decide) (fun K hK => ?_)
             refine goes_ Try.func24 (by kernel_rfl) rfl #[.int .i64 ((rd_T29 l0 x3_1).f1), .int .i64 1, .int .i64 100000] (by rfl) rfl rfl ar_ ?_
             with_reducible refine (spec_l1In.calls ((rd_T29 l0 x3_1).f1) 1 100000 true _ A10.out).mono ?_
             rintro e w' ⟨rfl, ⟨nd, rfl⟩⟩
             refine ⟨_, rfl, ?_⟩
             refine hK.out _ _ (p5e_ BK243) (fun hHeld => ?_)
             clear hK K
             refine norm_ (a' := ?_) ?_ ?_
             rotate_left
             ·show Act.put _ (some 25) _ = _
              simp only [Act.put, la_, lz_, ls_, i64_w, i32_w]
              rfl
             refine pv_' 8 26 (on_ 9 33) rfl rfl HT_ ?_
             refine pv_' 9 27 (on_ 10 32) rfl rfl HT_ ?_
             refine pv_' 10 28 (on_ 11 31) rfl rfl HT_ ?_
             refine pv_' 11 29 (on_ 12 30) rfl rfl HT_ ?_
             refine take_ (i := 12) (N := some 30) (v := ?_) (a' := ?_) (on_ 13 29) rfl rfl (take_ofW HT_.out HW_.out (by kernel_rfl)) (fun _ _ _ h => h) (Or.inl ⟨by rfl, ?_⟩) hHeld ?_ ?_
             rotate_left
             ·rintro w' ⟨s0, s1, s2, s3, s4⟩
              go_simp
              with_reducible rfl
             rotate_left
             ·simp only [Act.put, la_, lz_, ls_, i64_w, i32_w]
              rfl
             refine pv_' 13 31 (on_ 14 28) rfl rfl HT_ ?_
             refine pv_' 14 32 (on_ 15 27) rfl rfl HT_ ?_
             refine pv_' 15 33 (on_ 16 26) rfl rfl HT_ ?_
             refine pv_' 16 34 (on_ 17 25) rfl rfl HT_ ?_
             refine take_ (i := 17) (N := some 35) (v := ?_) (a' := ?_) (on_ 18 24) rfl rfl (take_ofW HT_.out HW_.out (by kernel_rfl)) (fun _ _ _ h => h) (Or.inl ⟨by rfl, ?_⟩) hHeld ?_ ?_
             rotate_left
             ·rintro w' ⟨s0, s1, s2, s3, s4⟩
              go_simp
              with_reducible rfl
             rotate_left
             ·simp only [Act.put, la_, lz_, ls_, i64_w, i32_w]
              rfl
             refine one_ (i := 18) (N := some 36) (on_ 19 23) rfl rfl (one_of HT_.out (by kernel_rfl)) (by decide) (fun K hK => ?_)
             refine goes_ Try.func24 (by kernel_rfl) rfl #[.int .i64 ((rd_T29 l0 x3_1).f3), .int .i64 1, .int .i64 210] (by rfl) rfl rfl ar_ ?_
             with_reducible refine (spec_l1In.calls ((rd_T29 l0 x3_1).f3) 1 210 true _ A15.out).mono ?_
             rintro e w' ⟨rfl, ⟨nd, rfl⟩⟩
             refine ⟨_, rfl, ?_⟩
             refine hK.out _ _ (p5e_ BK243) (fun hHeld => ?_)
             clear hK K
             refine norm_ (a' := ?_) ?_ ?_
             rotate_left
             ·show Act.put _ (some 36) _ = _
              simp only [Act.put, la_, lz_, ls_, i64_w, i32_w]
              rfl
             refine pv_' 19 37 (on_ 20 22) rfl rfl HT_ ?_
             refine pv_' 20 38 (on_ 21 21) rfl rfl HT_ ?_
             refine pv_' 21 39 (on_ 22 20) rfl rfl HT_ ?_
             refine pv_' 22 40 (on_ 23 19) rfl rfl HT_ ?_
             refine take_ (i := 23) (N := some 41) (v := ?_) (a' := ?_) (on_ 24 18) rfl rfl (take_ofW HT_.out HW_.out (by kernel_rfl)) (fun _ _ _ h => h) (Or.inl ⟨by rfl, ?_⟩) hHeld ?_ ?_
             rotate_left
             ·rintro w' ⟨s0, s1, s2, s3, s4⟩
              go_simp
              with_reducible rfl
             rotate_left
             ·simp only [Act.put, la_, lz_, ls_, i64_w, i32_w]
              rfl
             refine one_ (i := 24) (N := some 42) (on_ 25 17) rfl rfl (one_of HT_.out (by kernel_rfl)) (by decide) (fun K hK => ?_)
             refine goes_ Try.func24 (by kernel_rfl) rfl #[.int .i64 ((rd_T29 l0 x3_1).f4), .int .i64 1, .int .i64 1000000] (by rfl) rfl rfl ar_ ?_
             with_reducible refine (spec_l1In.calls ((rd_T29 l0 x3_1).f4) 1 1000000 true _ A17.out).mono ?_
             rintro e w' ⟨rfl, ⟨nd, rfl⟩⟩
             refine ⟨_, rfl, ?_⟩
             refine hK.out _ _ (p5e_ BK243) (fun hHeld => ?_)
             clear hK K
             refine norm_ (a' := ?_) ?_ ?_
             rotate_left
             ·show Act.put _ (some 42) _ = _
              simp only [Act.put, la_, lz_, ls_, i64_w, i32_w]
              rfl
             refine pv_' 25 43 (on_ 26 16) rfl rfl HT_ ?_
             refine pv_' 26 44 (on_ 27 15) rfl rfl HT_ ?_
             refine pv_' 27 45 (on_ 28 14) rfl rfl HT_ ?_
             refine pv_' 28 46 (on_ 29 13) rfl rfl HT_ ?_
             refine pv_' 29 47 (on_ 30 12) rfl rfl HT_ ?_
             refine pv_' 30 48 (on_ 31 11) rfl rfl HT_ ?_
             refine pun_' 31 49 (on_ 32 10) rfl rfl HT_ ?_
             refine pun_' 32 50 (on_ 33 9) rfl rfl HT_ ?_
             refine pun_' 33 51 (on_ 34 8) rfl rfl HT_ ?_
             refine pun_' 34 52 (on_ 35 7) rfl rfl HT_ ?_
             refine pun_' 35 53 (on_ 36 6) rfl rfl HT_ ?_
             refine pun_' 36 54 (on_ 37 5) rfl rfl HT_ ?_
             refine pun_' 37 55 (on_ 38 4) rfl rfl HT_ ?_
             refine pun_' 38 56 (on_ 39 3) rfl rfl HT_ ?_
             refine pun_' 39 57 (on_ 40 2) rfl rfl HT_ ?_
             refine pv_' 40 58 (on_ 41 1) rfl rfl HT_ ?_
             refine pv_' 41 59 (on_ 42 0) rfl rfl HT_ ?_
             refine done_ (done_of HT_.out (by kernel_rfl)) ?_
             try go_wp2
             go_meet
             case rel => exact ⟨_, (false), rs_, (by first | exact H' | (simp only [hji20]; exact H')), ⟨by have := HK1.out; first | exact Nat.le_refl _ | exact Nat.le_of_succ_le this | omega⟩, ⟨bk_ BK243⟩, ⟨hs_ HB GE243⟩⟩
           ·replace c18 := Bool.eq_false_iff.mpr c18
            subst c18
            have H1 : (spec_DirOk.j1 k1 l0 x3_1 true) = some r := by rw [if_neg (show ¬ (false = true) by decide)] at H; exact H
            clear H
            have H := H1
            clear H1
            have H' := Aside0.mk H
            clear H
            try go_wp2
            generalize hW_ : (((((w6.setCell ⟨gb243, 0, none⟩ (.string ((rd_T29 l0 x3_1).f0))).setCell ⟨gb243, 1, none⟩ (.int .i64 ((rd_T29 l0 x3_1).f1))).setCell ⟨gb243, 2, none⟩ (.int .i64 ((rd_T29 l0 x3_1).f2))).setCell ⟨gb243, 3, none⟩ (.int .i64 ((rd_T29 l0 x3_1).f3))).setCell ⟨gb243, 4, none⟩ (.int .i64 ((rd_T29 l0 x3_1).f4))) = w27
            replace BK243 := up_ #[.string ((rd_T29 l0 x3_1).f0), .int .i64 ((rd_T29 l0 x3_1).f1), .int .i64 ((rd_T29 l0 x3_1).f2), .int .i64 ((rd_T29 l0 x3_1).f3), .int .i64 ((rd_T29 l0 x3_1).f4)] BK243 hW_
            replace HB := us_ hW_ (hs_ HB GE243)
            clear hW_
            replace BK243 := bd_ BK243
            replace HB := hd_ HB
            refine start_ (n := 42) (S := k5e_ gb243 (.string ((rd_T29 l0 x3_1).f0)) (.int .i64 ((rd_T29 l0 x3_1).f1)) (.int .i64 ((rd_T29 l0 x3_1).f2)) (.int .i64 ((rd_T29 l0 x3_1).f3)) (.int .i64 ((rd_T29 l0 x3_1).f4))) (ds := []) (on_ 0 42) (by kernel_rfl) rfl rfl (p5e_ BK243) (fun hHeld => ?_); refine with_tabW spec_DirOk.tab7 spec_DirOk.bits7 (fun HT_ HW_ => ?_)
            generalize w27.drew = w28 at BK243 HB hHeld ⊢
            refine pv_' 0 18 (on_ 1 41) rfl rfl HT_ ?_
            refine take_ (i := 1) (N := some 19) (v := ?_) (a' := ?_) (on_ 2 40) rfl rfl (take_ofW HT_.out HW_.out (by kernel_rfl)) (fun _ _ _ h => h) (Or.inl ⟨by rfl, ?_⟩) hHeld ?_ ?_
            rotate_left
            ·rintro w' ⟨s0, s1, s2, s3, s4⟩
             go_simp
             with_reducible rfl
            rotate_left
            ·simp only [Act.put, la_, lz_, ls_, i64_w, i32_w]
             rfl
            refine one_ (i := 2) (N := some 20) (on_ 3 39) rfl rfl (one_of HT_.out (by kernel_rfl)) (by decide) (fun K hK => ?_)
            refine goes_ Try.func23 (by kernel_rfl) rfl #[.string ((rd_T29 l0 x3_1).f0)] (by rfl) rfl rfl ar_ ?_
            with_reducible refine (spec_KeyOk.calls ((rd_T29 l0 x3_1).f0) true _ A8.out).mono ?_
            rintro e w' ⟨rfl, ⟨nd, rfl⟩⟩
            refine ⟨_, rfl, ?_⟩
            refine hK.out _ _ (p5e_ BK243) (fun hHeld => ?_)
            clear hK K
            refine norm_ (a' := ?_) ?_ ?_
            rotate_left
            ·show Act.put _ (some 20) _ = _
             simp only [Act.put, la_, lz_, ls_, i64_w, i32_w]
             rfl
            refine pv_' 3 21 (on_ 4 38) rfl rfl HT_ ?_
            refine pv_' 4 22 (on_ 5 37) rfl rfl HT_ ?_
            refine pv_' 5 23 (on_ 6 36) rfl rfl HT_ ?_
            refine take_ (i := 6) (N := some 24) (v := ?_) (a' := ?_) (on_ 7 35) rfl rfl (take_ofW HT_.out HW_.out (by kernel_rfl)) (fun _ _ _ h => h) (Or.inl ⟨by rfl, ?_⟩) hHeld ?_ ?_
            rotate_left
            ·rintro w' ⟨s0, s1, s2, s3, s4⟩
             go_simp
             with_reducible rfl
            rotate_left
            ·simp only [Act.put, la_, lz_, ls_, i64_w, i32_w]
             rfl
            refine one_ (i := 7) (N := some 25) (on_ 8 34) rfl rfl (one_of HT_.out (by kernel_rfl)) (by decide) (fun K hK => ?_)
            refine goes_ Try.func24 (by kernel_rfl) rfl #[.int .i64 ((rd_T29 l0 x3_1).f1), .int .i64 1, .int .i64 100000] (by rfl) rfl rfl ar_ ?_
            with_reducible refine (spec_l1In.calls ((rd_T29 l0 x3_1).f1) 1 100000 true _ A10.out).mono ?_
            rintro e w' ⟨rfl, ⟨nd, rfl⟩⟩
            refine ⟨_, rfl, ?_⟩
            refine hK.out _ _ (p5e_ BK243) (fun hHeld => ?_)
            clear hK K
            refine norm_ (a' := ?_) ?_ ?_
            rotate_left
            ·show Act.put _ (some 25) _ = _
             simp only [Act.put, la_, lz_, ls_, i64_w, i32_w]
             rfl
            refine pv_' 8 26 (on_ 9 33) rfl rfl HT_ ?_
            refine pv_' 9 27 (on_ 10 32) rfl rfl HT_ ?_
            refine pv_' 10 28 (on_ 11 31) rfl rfl HT_ ?_
            refine pv_' 11 29 (on_ 12 30) rfl rfl HT_ ?_
            refine take_ (i := 12) (N := some 30) (v := ?_) (a' := ?_) (on_ 13 29) rfl rfl (take_ofW HT_.out HW_.out (by kernel_rfl)) (fun _ _ _ h => h) (Or.inl ⟨by rfl, ?_⟩) hHeld ?_ ?_
            rotate_left
            ·rintro w' ⟨s0, s1, s2, s3, s4⟩
             go_simp
             with_reducible rfl
            rotate_left
            ·simp only [Act.put, la_, lz_, ls_, i64_w, i32_w]
             rfl
            refine pv_' 13 31 (on_ 14 28) rfl rfl HT_ ?_
            refine pv_' 14 32 (on_ 15 27) rfl rfl HT_ ?_
            refine pv_' 15 33 (on_ 16 26) rfl rfl HT_ ?_
            refine pv_' 16 34 (on_ 17 25) rfl rfl HT_ ?_
            refine take_ (i := 17) (N := some 35) (v := ?_) (a' := ?_) (on_ 18 24) rfl rfl (take_ofW HT_.out HW_.out (by kernel_rfl)) (fun _ _ _ h => h) (Or.inl ⟨by rfl, ?_⟩) hHeld ?_ ?_
            rotate_left
            ·rintro w' ⟨s0, s1, s2, s3, s4⟩
             go_simp
             with_reducible rfl
            rotate_left
            ·simp only [Act.put, la_, lz_, ls_, i64_w, i32_w]
             rfl
            refine one_ (i := 18) (N := some 36) (on_ 19 23) rfl rfl (one_of HT_.out (by kernel_rfl)) (by decide) (fun K hK => ?_)
            refine goes_ Try.func24 (by kernel_rfl) rfl #[.int .i64 ((rd_T29 l0 x3_1).f3), .int .i64 1, .int .i64 210] (by rfl) rfl rfl ar_ ?_
            with_reducible refine (spec_l1In.calls ((rd_T29 l0 x3_1).f3) 1 210 true _ A15.out).mono ?_
            rintro e w' ⟨rfl, ⟨nd, rfl⟩⟩
            refine ⟨_, rfl, ?_⟩
            refine hK.out _ _ (p5e_ BK243) (fun hHeld => ?_)
            clear hK K
            refine norm_ (a' := ?_) ?_ ?_
            rotate_left
            ·show Act.put _ (some 36) _ = _
             simp only [Act.put, la_, lz_, ls_, i64_w, i32_w]
             rfl
            refine pv_' 19 37 (on_ 20 22) rfl rfl HT_ ?_
            refine pv_' 20 38 (on_ 21 21) rfl rfl HT_ ?_
            refine pv_' 21 39 (on_ 22 20) rfl rfl HT_ ?_
            refine pv_' 22 40 (on_ 23 19) rfl rfl HT_ ?_
            refine take_ (i := 23) (N := some 41) (v := ?_) (a' := ?_) (on_ 24 18) rfl rfl (take_ofW HT_.out HW_.out (by kernel_rfl)) (fun _ _ _ h => h) (Or.inl ⟨by rfl, ?_⟩) hHeld ?_ ?_
            rotate_left
            ·rintro w' ⟨s0, s1, s2, s3, s4⟩
             go_simp
             with_reducible rfl
            rotate_left
            ·simp only [Act.put, la_, lz_, ls_, i64_w, i32_w]
             rfl
            refine one_ (i := 24) (N := some 42) (on_ 25 17) rfl rfl (one_of HT_.out (by kernel_rfl)) (by decide) (fun K hK => ?_)
            refine goes_ Try.func24 (by kernel_rfl) rfl #[.int .i64 ((rd_T29 l0 x3_1).f4), .int .i64 1, .int .i64 1000000] (by rfl) rfl rfl ar_ ?_
            with_reducible refine (spec_l1In.calls ((rd_T29 l0 x3_1).f4) 1 1000000 false _ A17.out).mono ?_
            rintro e w' ⟨rfl, ⟨nd, rfl⟩⟩
            refine ⟨_, rfl, ?_⟩
            refine hK.out _ _ (p5e_ BK243) (fun hHeld => ?_)
            clear hK K
            refine norm_ (a' := ?_) ?_ ?_
            rotate_left
            ·show Act.put _ (some 42) _ = _
             simp only [Act.put, la_, lz_, ls_, i64_w, i32_w]
             rfl
            refine pv_' 25 43 (on_ 26 16) rfl rfl HT_ ?_
            refine pv_' 26 44 (on_ 27 15) rfl rfl HT_ ?_
            refine pv_' 27 45 (on_ 28 14) rfl rfl HT_ ?_
            refine pun_' 28 46 (on_ 29 13) rfl rfl HT_ ?_
            refine pun_' 29 47 (on_ 30 12) rfl rfl HT_ ?_
            refine pun_' 30 48 (on_ 31 11) rfl rfl HT_ ?_
            refine pun_' 31 49 (on_ 32 10) rfl rfl HT_ ?_
            refine pun_' 32 50 (on_ 33 9) rfl rfl HT_ ?_
            refine pun_' 33 51 (on_ 34 8) rfl rfl HT_ ?_
            refine pun_' 34 52 (on_ 35 7) rfl rfl HT_ ?_
            refine pun_' 35 53 (on_ 36 6) rfl rfl HT_ ?_
            refine pun_' 36 54 (on_ 37 5) rfl rfl HT_ ?_
            refine pun_' 37 55 (on_ 38 4) rfl rfl HT_ ?_
            refine pun_' 38 56 (on_ 39 3) rfl rfl HT_ ?_
            refine pun_' 39 57 (on_ 40 2) rfl rfl HT_ ?_
            refine pun_' 40 58 (on_ 41 1) rfl rfl HT_ ?_
            refine pv_' 41 59 (on_ 42 0) rfl rfl HT_ ?_
            refine done_ (done_of HT_.out (by kernel_rfl)) ?_
            try go_wp2
            go_meet
            case rel => exact ⟨_, (true), rs_, H', ⟨by have := HK1.out; first | exact Nat.le_refl _ | exact Nat.le_of_succ_le this | omega⟩, ⟨bk_ BK243⟩, ⟨hs_ HB GE243⟩⟩
          ·replace c16 := Bool.eq_false_iff.mpr c16
           subst c16
           have H1 : (spec_DirOk.j1 k1 l0 x3_1 true) = some r := by rw [if_neg (show ¬ (false = true) by decide)] at H; exact H
           clear H
           have H := H1
           clear H1
           have H' := Aside0.mk H
           clear H
           try go_wp2
           generalize hW_ : (((((w6.setCell ⟨gb243, 0, none⟩ (.string ((rd_T29 l0 x3_1).f0))).setCell ⟨gb243, 1, none⟩ (.int .i64 ((rd_T29 l0 x3_1).f1))).setCell ⟨gb243, 2, none⟩ (.int .i64 ((rd_T29 l0 x3_1).f2))).setCell ⟨gb243, 3, none⟩ (.int .i64 ((rd_T29 l0 x3_1).f3))).setCell ⟨gb243, 4, none⟩ (.int .i64 ((rd_T29 l0 x3_1).f4))) = w29
           replace BK243 := up_ #[.string ((rd_T29 l0 x3_1).f0), .int .i64 ((rd_T29 l0 x3_1).f1), .int .i64 ((rd_T29 l0 x3_1).f2), .int .i64 ((rd_T29 l0 x3_1).f3), .int .i64 ((rd_T29 l0 x3_1).f4)] BK243 hW_
           replace HB := us_ hW_ (hs_ HB GE243)
           clear hW_
           replace BK243 := bd_ BK243
           replace HB := hd_ HB
           refine start_ (n := 42) (S := k5e_ gb243 (.string ((rd_T29 l0 x3_1).f0)) (.int .i64 ((rd_T29 l0 x3_1).f1)) (.int .i64 ((rd_T29 l0 x3_1).f2)) (.int .i64 ((rd_T29 l0 x3_1).f3)) (.int .i64 ((rd_T29 l0 x3_1).f4))) (ds := []) (on_ 0 42) (by kernel_rfl) rfl rfl (p5e_ BK243) (fun hHeld => ?_); refine with_tabW spec_DirOk.tab7 spec_DirOk.bits7 (fun HT_ HW_ => ?_)
           generalize w29.drew = w30 at BK243 HB hHeld ⊢
           refine pv_' 0 18 (on_ 1 41) rfl rfl HT_ ?_
           refine take_ (i := 1) (N := some 19) (v := ?_) (a' := ?_) (on_ 2 40) rfl rfl (take_ofW HT_.out HW_.out (by kernel_rfl)) (fun _ _ _ h => h) (Or.inl ⟨by rfl, ?_⟩) hHeld ?_ ?_
           rotate_left
           ·rintro w' ⟨s0, s1, s2, s3, s4⟩
            go_simp
            with_reducible rfl
           rotate_left
           ·simp only [Act.put, la_, lz_, ls_, i64_w, i32_w]
            rfl
           refine one_ (i := 2) (N := some 20) (on_ 3 39) rfl rfl (one_of HT_.out (by kernel_rfl)) (by decide) (fun K hK => ?_)
           refine goes_ Try.func23 (by kernel_rfl) rfl #[.string ((rd_T29 l0 x3_1).f0)] (by rfl) rfl rfl ar_ ?_
           with_reducible refine (spec_KeyOk.calls ((rd_T29 l0 x3_1).f0) true _ A8.out).mono ?_
           rintro e w' ⟨rfl, ⟨nd, rfl⟩⟩
           refine ⟨_, rfl, ?_⟩
           refine hK.out _ _ (p5e_ BK243) (fun hHeld => ?_)
           clear hK K
           refine norm_ (a' := ?_) ?_ ?_
           rotate_left
           ·show Act.put _ (some 20) _ = _
            simp only [Act.put, la_, lz_, ls_, i64_w, i32_w]
            rfl
           refine pv_' 3 21 (on_ 4 38) rfl rfl HT_ ?_
           refine pv_' 4 22 (on_ 5 37) rfl rfl HT_ ?_
           refine pv_' 5 23 (on_ 6 36) rfl rfl HT_ ?_
           refine take_ (i := 6) (N := some 24) (v := ?_) (a' := ?_) (on_ 7 35) rfl rfl (take_ofW HT_.out HW_.out (by kernel_rfl)) (fun _ _ _ h => h) (Or.inl ⟨by rfl, ?_⟩) hHeld ?_ ?_
           rotate_left
           ·rintro w' ⟨s0, s1, s2, s3, s4⟩
            go_simp
            with_reducible rfl
           rotate_left
           ·simp only [Act.put, la_, lz_, ls_, i64_w, i32_w]
            rfl
           refine one_ (i := 7) (N := some 25) (on_ 8 34) rfl rfl (one_of HT_.out (by kernel_rfl)) (by decide) (fun K hK => ?_)
           refine goes_ Try.func24 (by kernel_rfl) rfl #[.int .i64 ((rd_T29 l0 x3_1).f1), .int .i64 1, .int .i64 100000] (by rfl) rfl rfl ar_ ?_
           with_reducible refine (spec_l1In.calls ((rd_T29 l0 x3_1).f1) 1 100000 true _ A10.out).mono ?_
           rintro e w' ⟨rfl, ⟨nd, rfl⟩⟩
           refine ⟨_, rfl, ?_⟩
           refine hK.out _ _ (p5e_ BK243) (fun hHeld => ?_)
           clear hK K
           refine norm_ (a' := ?_) ?_ ?_
           rotate_left
           ·show Act.put _ (some 25) _ = _
            simp only [Act.put, la_, lz_, ls_, i64_w, i32_w]
            rfl
           refine pv_' 8 26 (on_ 9 33) rfl rfl HT_ ?_
           refine pv_' 9 27 (on_ 10 32) rfl rfl HT_ ?_
           refine pv_' 10 28 (on_ 11 31) rfl rfl HT_ ?_
           refine pv_' 11 29 (on_ 12 30) rfl rfl HT_ ?_
           refine take_ (i := 12) (N := some 30) (v := ?_) (a' := ?_) (on_ 13 29) rfl rfl (take_ofW HT_.out HW_.out (by kernel_rfl)) (fun _ _ _ h => h) (Or.inl ⟨by rfl, ?_⟩) hHeld ?_ ?_
           rotate_left
           ·rintro w' ⟨s0, s1, s2, s3, s4⟩
            go_simp
            with_reducible rfl
           rotate_left
           ·simp only [Act.put, la_, lz_, ls_, i64_w, i32_w]
            rfl
           refine pv_' 13 31 (on_ 14 28) rfl rfl HT_ ?_
           refine pv_' 14 32 (on_ 15 27) rfl rfl HT_ ?_
           refine pv_' 15 33 (on_ 16 26) rfl rfl HT_ ?_
           refine pv_' 16 34 (on_ 17 25) rfl rfl HT_ ?_
           refine take_ (i := 17) (N := some 35) (v := ?_) (a' := ?_) (on_ 18 24) rfl rfl (take_ofW HT_.out HW_.out (by kernel_rfl)) (fun _ _ _ h => h) (Or.inl ⟨by rfl, ?_⟩) hHeld ?_ ?_
           rotate_left
           ·rintro w' ⟨s0, s1, s2, s3, s4⟩
            go_simp
            with_reducible rfl
           rotate_left
           ·simp only [Act.put, la_, lz_, ls_, i64_w, i32_w]
            rfl
           refine one_ (i := 18) (N := some 36) (on_ 19 23) rfl rfl (one_of HT_.out (by kernel_rfl)) (by decide) (fun K hK => ?_)
           refine goes_ Try.func24 (by kernel_rfl) rfl #[.int .i64 ((rd_T29 l0 x3_1).f3), .int .i64 1, .int .i64 210] (by rfl) rfl rfl ar_ ?_
           with_reducible refine (spec_l1In.calls ((rd_T29 l0 x3_1).f3) 1 210 false _ A15.out).mono ?_
           rintro e w' ⟨rfl, ⟨nd, rfl⟩⟩
           refine ⟨_, rfl, ?_⟩
           refine hK.out _ _ (p5e_ BK243) (fun hHeld => ?_)
           clear hK K
           refine norm_ (a' := ?_) ?_ ?_
           rotate_left
           ·show Act.put _ (some 36) _ = _
            simp only [Act.put, la_, lz_, ls_, i64_w, i32_w]
            rfl
           refine pv_' 19 37 (on_ 20 22) rfl rfl HT_ ?_
           refine pv_' 20 38 (on_ 21 21) rfl rfl HT_ ?_
           refine pv_' 21 39 (on_ 22 20) rfl rfl HT_ ?_
           refine pun_' 22 40 (on_ 23 19) rfl rfl HT_ ?_
           refine pun_' 23 41 (on_ 24 18) rfl rfl HT_ ?_
           refine pun_' 24 42 (on_ 25 17) rfl rfl HT_ ?_
           refine pun_' 25 43 (on_ 26 16) rfl rfl HT_ ?_
           refine pv_' 26 44 (on_ 27 15) rfl rfl HT_ ?_
           refine pv_' 27 45 (on_ 28 14) rfl rfl HT_ ?_
           refine pun_' 28 46 (on_ 29 13) rfl rfl HT_ ?_
           refine pun_' 29 47 (on_ 30 12) rfl rfl HT_ ?_
           refine pun_' 30 48 (on_ 31 11) rfl rfl HT_ ?_
           refine pun_' 31 49 (on_ 32 10) rfl rfl HT_ ?_
           refine pun_' 32 50 (on_ 33 9) rfl rfl HT_ ?_
           refine pun_' 33 51 (on_ 34 8) rfl rfl HT_ ?_
           refine pun_' 34 52 (on_ 35 7) rfl rfl HT_ ?_
           refine pun_' 35 53 (on_ 36 6) rfl rfl HT_ ?_
           refine pun_' 36 54 (on_ 37 5) rfl rfl HT_ ?_
           refine pun_' 37 55 (on_ 38 4) rfl rfl HT_ ?_
           refine pun_' 38 56 (on_ 39 3) rfl rfl HT_ ?_
           refine pun_' 39 57 (on_ 40 2) rfl rfl HT_ ?_
           refine pun_' 40 58 (on_ 41 1) rfl rfl HT_ ?_
           refine pv_' 41 59 (on_ 42 0) rfl rfl HT_ ?_
           refine done_ (done_of HT_.out (by kernel_rfl)) ?_
           try go_wp2
           go_meet
           case rel => exact ⟨_, (true), rs_, H', ⟨by have := HK1.out; first | exact Nat.le_refl _ | exact Nat.le_of_succ_le this | omega⟩, ⟨bk_ BK243⟩, ⟨hs_ HB GE243⟩⟩
        ·replace c11 := Bool.eq_false_iff.mpr c11
         subst c11
         have H1 : (spec_DirOk.j1 k1 l0 x3_1 true) = some r := by rw [if_neg (show ¬ (false = true) by decide)] at H; exact H
         clear H
         have H := H1
         clear H1
         have H' := Aside0.mk H
         clear H
         try go_wp2
         generalize hW_ : (((((w6.setCell ⟨gb243, 0, none⟩ (.string ((rd_T29 l0 x3_1).f0))).setCell ⟨gb243, 1, none⟩ (.int .i64 ((rd_T29 l0 x3_1).f1))).setCell ⟨gb243, 2, none⟩ (.int .i64 ((rd_T29 l0 x3_1).f2))).setCell ⟨gb243, 3, none⟩ (.int .i64 ((rd_T29 l0 x3_1).f3))).setCell ⟨gb243, 4, none⟩ (.int .i64 ((rd_T29 l0 x3_1).f4))) = w31
         replace BK243 := up_ #[.string ((rd_T29 l0 x3_1).f0), .int .i64 ((rd_T29 l0 x3_1).f1), .int .i64 ((rd_T29 l0 x3_1).f2), .int .i64 ((rd_T29 l0 x3_1).f3), .int .i64 ((rd_T29 l0 x3_1).f4)] BK243 hW_
         replace HB := us_ hW_ (hs_ HB GE243)
         clear hW_
         replace BK243 := bd_ BK243
         replace HB := hd_ HB
         refine start_ (n := 42) (S := k5e_ gb243 (.string ((rd_T29 l0 x3_1).f0)) (.int .i64 ((rd_T29 l0 x3_1).f1)) (.int .i64 ((rd_T29 l0 x3_1).f2)) (.int .i64 ((rd_T29 l0 x3_1).f3)) (.int .i64 ((rd_T29 l0 x3_1).f4))) (ds := []) (on_ 0 42) (by kernel_rfl) rfl rfl (p5e_ BK243) (fun hHeld => ?_); refine with_tabW spec_DirOk.tab7 spec_DirOk.bits7 (fun HT_ HW_ => ?_)
         generalize w31.drew = w32 at BK243 HB hHeld ⊢
         refine pv_' 0 18 (on_ 1 41) rfl rfl HT_ ?_
         refine take_ (i := 1) (N := some 19) (v := ?_) (a' := ?_) (on_ 2 40) rfl rfl (take_ofW HT_.out HW_.out (by kernel_rfl)) (fun _ _ _ h => h) (Or.inl ⟨by rfl, ?_⟩) hHeld ?_ ?_
         rotate_left
         ·rintro w' ⟨s0, s1, s2, s3, s4⟩
          go_simp
          with_reducible rfl
         rotate_left
         ·simp only [Act.put, la_, lz_, ls_, i64_w, i32_w]
          rfl
         refine one_ (i := 2) (N := some 20) (on_ 3 39) rfl rfl (one_of HT_.out (by kernel_rfl)) (by decide) (fun K hK => ?_)
         refine goes_ Try.func23 (by kernel_rfl) rfl #[.string ((rd_T29 l0 x3_1).f0)] (by rfl) rfl rfl ar_ ?_
         with_reducible refine (spec_KeyOk.calls ((rd_T29 l0 x3_1).f0) true _ A8.out).mono ?_
         rintro e w' ⟨rfl, ⟨nd, rfl⟩⟩
         refine ⟨_, rfl, ?_⟩
         refine hK.out _ _ (p5e_ BK243) (fun hHeld => ?_)
         clear hK K
         refine norm_ (a' := ?_) ?_ ?_
         rotate_left
         ·show Act.put _ (some 20) _ = _
          simp only [Act.put, la_, lz_, ls_, i64_w, i32_w]
          rfl
         refine pv_' 3 21 (on_ 4 38) rfl rfl HT_ ?_
         refine pv_' 4 22 (on_ 5 37) rfl rfl HT_ ?_
         refine pv_' 5 23 (on_ 6 36) rfl rfl HT_ ?_
         refine take_ (i := 6) (N := some 24) (v := ?_) (a' := ?_) (on_ 7 35) rfl rfl (take_ofW HT_.out HW_.out (by kernel_rfl)) (fun _ _ _ h => h) (Or.inl ⟨by rfl, ?_⟩) hHeld ?_ ?_
         rotate_left
         ·rintro w' ⟨s0, s1, s2, s3, s4⟩
          go_simp
          with_reducible rfl
         rotate_left
         ·simp only [Act.put, la_, lz_, ls_, i64_w, i32_w]
          rfl
         refine one_ (i := 7) (N := some 25) (on_ 8 34) rfl rfl (one_of HT_.out (by kernel_rfl)) (by decide) (fun K hK => ?_)
         refine goes_ Try.func24 (by kernel_rfl) rfl #[.int .i64 ((rd_T29 l0 x3_1).f1), .int .i64 1, .int .i64 100000] (by rfl) rfl rfl ar_ ?_
         with_reducible refine (spec_l1In.calls ((rd_T29 l0 x3_1).f1) 1 100000 false _ A10.out).mono ?_
         rintro e w' ⟨rfl, ⟨nd, rfl⟩⟩
         refine ⟨_, rfl, ?_⟩
         refine hK.out _ _ (p5e_ BK243) (fun hHeld => ?_)
         clear hK K
         refine norm_ (a' := ?_) ?_ ?_
         rotate_left
         ·show Act.put _ (some 25) _ = _
          simp only [Act.put, la_, lz_, ls_, i64_w, i32_w]
          rfl
         refine pv_' 8 26 (on_ 9 33) rfl rfl HT_ ?_
         refine pv_' 9 27 (on_ 10 32) rfl rfl HT_ ?_
         refine pv_' 10 28 (on_ 11 31) rfl rfl HT_ ?_
         refine pun_' 11 29 (on_ 12 30) rfl rfl HT_ ?_
         refine pun_' 12 30 (on_ 13 29) rfl rfl HT_ ?_
         refine pun_' 13 31 (on_ 14 28) rfl rfl HT_ ?_
         refine pv_' 14 32 (on_ 15 27) rfl rfl HT_ ?_
         refine pv_' 15 33 (on_ 16 26) rfl rfl HT_ ?_
         refine pun_' 16 34 (on_ 17 25) rfl rfl HT_ ?_
         refine pun_' 17 35 (on_ 18 24) rfl rfl HT_ ?_
         refine pun_' 18 36 (on_ 19 23) rfl rfl HT_ ?_
         refine pun_' 19 37 (on_ 20 22) rfl rfl HT_ ?_
         refine pv_' 20 38 (on_ 21 21) rfl rfl HT_ ?_
         refine pv_' 21 39 (on_ 22 20) rfl rfl HT_ ?_
         refine pun_' 22 40 (on_ 23 19) rfl rfl HT_ ?_
         refine pun_' 23 41 (on_ 24 18) rfl rfl HT_ ?_
         refine pun_' 24 42 (on_ 25 17) rfl rfl HT_ ?_
         refine pun_' 25 43 (on_ 26 16) rfl rfl HT_ ?_
         refine pv_' 26 44 (on_ 27 15) rfl rfl HT_ ?_
         refine pv_' 27 45 (on_ 28 14) rfl rfl HT_ ?_
         refine pun_' 28 46 (on_ 29 13) rfl rfl HT_ ?_
         refine pun_' 29 47 (on_ 30 12) rfl rfl HT_ ?_
         refine pun_' 30 48 (on_ 31 11) rfl rfl HT_ ?_
         refine pun_' 31 49 (on_ 32 10) rfl rfl HT_ ?_
         refine pun_' 32 50 (on_ 33 9) rfl rfl HT_ ?_
         refine pun_' 33 51 (on_ 34 8) rfl rfl HT_ ?_
         refine pun_' 34 52 (on_ 35 7) rfl rfl HT_ ?_
         refine pun_' 35 53 (on_ 36 6) rfl rfl HT_ ?_
         refine pun_' 36 54 (on_ 37 5) rfl rfl HT_ ?_
         refine pun_' 37 55 (on_ 38 4) rfl rfl HT_ ?_
         refine pun_' 38 56 (on_ 39 3) rfl rfl HT_ ?_
         refine pun_' 39 57 (on_ 40 2) rfl rfl HT_ ?_
         refine pun_' 40 58 (on_ 41 1) rfl rfl HT_ ?_
         refine pv_' 41 59 (on_ 42 0) rfl rfl HT_ ?_
         refine done_ (done_of HT_.out (by kernel_rfl)) ?_
         try go_wp2
         go_meet
         case rel => exact ⟨_, (true), rs_, H', ⟨by have := HK1.out; first | exact Nat.le_refl _ | exact Nat.le_of_succ_le this | omega⟩, ⟨bk_ BK243⟩, ⟨hs_ HB GE243⟩⟩
       ·replace c9 := Bool.eq_false_iff.mpr c9
        subst c9
        have H1 : (spec_DirOk.j1 k1 l0 x3_1 true) = some r := by rw [if_neg (show ¬ (false = true) by decide)] at H; exact H
        clear H
        have H := H1
        clear H1
        have H' := Aside0.mk H
        clear H
        try go_wp2
        generalize hW_ : (((((w6.setCell ⟨gb243, 0, none⟩ (.string ((rd_T29 l0 x3_1).f0))).setCell ⟨gb243, 1, none⟩ (.int .i64 ((rd_T29 l0 x3_1).f1))).setCell ⟨gb243, 2, none⟩ (.int .i64 ((rd_T29 l0 x3_1).f2))).setCell ⟨gb243, 3, none⟩ (.int .i64 ((rd_T29 l0 x3_1).f3))).setCell ⟨gb243, 4, none⟩ (.int .i64 ((rd_T29 l0 x3_1).f4))) = w33
        replace BK243 := up_ #[.string ((rd_T29 l0 x3_1).f0), .int .i64 ((rd_T29 l0 x3_1).f1), .int .i64 ((rd_T29 l0 x3_1).f2), .int .i64 ((rd_T29 l0 x3_1).f3), .int .i64 ((rd_T29 l0 x3_1).f4)] BK243 hW_
        replace HB := us_ hW_ (hs_ HB GE243)
        clear hW_
        replace BK243 := bd_ BK243
        replace HB := hd_ HB
        refine start_ (n := 42) (S := k5e_ gb243 (.string ((rd_T29 l0 x3_1).f0)) (.int .i64 ((rd_T29 l0 x3_1).f1)) (.int .i64 ((rd_T29 l0 x3_1).f2)) (.int .i64 ((rd_T29 l0 x3_1).f3)) (.int .i64 ((rd_T29 l0 x3_1).f4))) (ds := []) (on_ 0 42) (by kernel_rfl) rfl rfl (p5e_ BK243) (fun hHeld => ?_); refine with_tabW spec_DirOk.tab7 spec_DirOk.bits7 (fun HT_ HW_ => ?_)
        generalize w33.drew = w34 at BK243 HB hHeld ⊢
        refine pv_' 0 18 (on_ 1 41) rfl rfl HT_ ?_
        refine take_ (i := 1) (N := some 19) (v := ?_) (a' := ?_) (on_ 2 40) rfl rfl (take_ofW HT_.out HW_.out (by kernel_rfl)) (fun _ _ _ h => h) (Or.inl ⟨by rfl, ?_⟩) hHeld ?_ ?_
        rotate_left
        ·rintro w' ⟨s0, s1, s2, s3, s4⟩
         go_simp
         with_reducible rfl
        rotate_left
        ·simp only [Act.put, la_, lz_, ls_, i64_w, i32_w]
         rfl
        refine one_ (i := 2) (N := some 20) (on_ 3 39) rfl rfl (one_of HT_.out (by kernel_rfl)) (by decide) (fun K hK => ?_)
        refine goes_ Try.func23 (by kernel_rfl) rfl #[.string ((rd_T29 l0 x3_1).f0)] (by rfl) rfl rfl ar_ ?_
        with_reducible refine (spec_KeyOk.calls ((rd_T29 l0 x3_1).f0) false _ A8.out).mono ?_
        rintro e w' ⟨rfl, ⟨nd, rfl⟩⟩
        refine ⟨_, rfl, ?_⟩
        refine hK.out _ _ (p5e_ BK243) (fun hHeld => ?_)
        clear hK K
        refine norm_ (a' := ?_) ?_ ?_
        rotate_left
        ·show Act.put _ (some 20) _ = _
         simp only [Act.put, la_, lz_, ls_, i64_w, i32_w]
         rfl
        refine pv_' 3 21 (on_ 4 38) rfl rfl HT_ ?_
        refine pv_' 4 22 (on_ 5 37) rfl rfl HT_ ?_
        refine pun_' 5 23 (on_ 6 36) rfl rfl HT_ ?_
        refine pun_' 6 24 (on_ 7 35) rfl rfl HT_ ?_
        refine pun_' 7 25 (on_ 8 34) rfl rfl HT_ ?_
        refine pun_' 8 26 (on_ 9 33) rfl rfl HT_ ?_
        refine pv_' 9 27 (on_ 10 32) rfl rfl HT_ ?_
        refine pv_' 10 28 (on_ 11 31) rfl rfl HT_ ?_
        refine pun_' 11 29 (on_ 12 30) rfl rfl HT_ ?_
        refine pun_' 12 30 (on_ 13 29) rfl rfl HT_ ?_
        refine pun_' 13 31 (on_ 14 28) rfl rfl HT_ ?_
        refine pv_' 14 32 (on_ 15 27) rfl rfl HT_ ?_
        refine pv_' 15 33 (on_ 16 26) rfl rfl HT_ ?_
        refine pun_' 16 34 (on_ 17 25) rfl rfl HT_ ?_
        refine pun_' 17 35 (on_ 18 24) rfl rfl HT_ ?_
        refine pun_' 18 36 (on_ 19 23) rfl rfl HT_ ?_
        refine pun_' 19 37 (on_ 20 22) rfl rfl HT_ ?_
        refine pv_' 20 38 (on_ 21 21) rfl rfl HT_ ?_
        refine pv_' 21 39 (on_ 22 20) rfl rfl HT_ ?_
        refine pun_' 22 40 (on_ 23 19) rfl rfl HT_ ?_
        refine pun_' 23 41 (on_ 24 18) rfl rfl HT_ ?_
        refine pun_' 24 42 (on_ 25 17) rfl rfl HT_ ?_
        refine pun_' 25 43 (on_ 26 16) rfl rfl HT_ ?_
        refine pv_' 26 44 (on_ 27 15) rfl rfl HT_ ?_
        refine pv_' 27 45 (on_ 28 14) rfl rfl HT_ ?_
        refine pun_' 28 46 (on_ 29 13) rfl rfl HT_ ?_
        refine pun_' 29 47 (on_ 30 12) rfl rfl HT_ ?_
        refine pun_' 30 48 (on_ 31 11) rfl rfl HT_ ?_
        refine pun_' 31 49 (on_ 32 10) rfl rfl HT_ ?_
        refine pun_' 32 50 (on_ 33 9) rfl rfl HT_ ?_
        refine pun_' 33 51 (on_ 34 8) rfl rfl HT_ ?_
        refine pun_' 34 52 (on_ 35 7) rfl rfl HT_ ?_
        refine pun_' 35 53 (on_ 36 6) rfl rfl HT_ ?_
        refine pun_' 36 54 (on_ 37 5) rfl rfl HT_ ?_
        refine pun_' 37 55 (on_ 38 4) rfl rfl HT_ ?_
        refine pun_' 38 56 (on_ 39 3) rfl rfl HT_ ?_
        refine pun_' 39 57 (on_ 40 2) rfl rfl HT_ ?_
        refine pun_' 40 58 (on_ 41 1) rfl rfl HT_ ?_
        refine pv_' 41 59 (on_ 42 0) rfl rfl HT_ ?_
        refine done_ (done_of HT_.out (by kernel_rfl)) ?_
        try go_wp2
        go_meet
        case rel => exact ⟨_, (true), rs_, H', ⟨by have := HK1.out; first | exact Nat.le_refl _ | exact Nat.le_of_succ_le this | omega⟩, ⟨bk_ BK243⟩, ⟨hs_ HB GE243⟩⟩
      case rest =>
       clear HC5
       try clear c1
       try clear c2
       try clear p2
       try clear c9
       try clear c11
       try clear c23
       try clear c24
       obtain ⟨kq, x59_4, rfl, HA, HJ4, BK243, HB⟩ := hcut
       cases kq with
       | zero => exact absurd HA.out (by simp [spec_DirOk.j1])
       | succ kj4 =>
        have H := HA.out
        clear HA
        simp only [spec_DirOk.j1] at H
        by_cases c35 : x59_4 = true
        ·subst c35
         have H1 : (some false) = some r := by rw [if_pos rfl] at H; exact H
         clear H
         have H := H1
         clear H1
         obtain rfl := Option.some.inj H
         go_wp2
         go_ret
         exact ⟨re_, hs_ HB GE243⟩
        ·replace c35 := Bool.eq_false_iff.mpr c35
         subst c35
         have H1 : (spec_DirOk.l0 kj4 l0 (wrap64 (x3_1 + 1))) = some r := by rw [if_neg (show ¬ (false = true) by decide)] at H; exact H
         clear H
         have H := H1
         clear H1
         have H' := Aside0.mk H
         clear H
         go_wp2
         go_roundg kj4
         case measure => have := HK1.out; have := HJ4.out; omega
         case rel => exact ⟨(wrap64 (x3_1 + 1)), rs_, H', ⟨by have := HK1.out; have := HJ4.out; omega⟩, ⟨hs_ HB GE243⟩⟩
     ·rw [if_neg c4] at H
      exact absurd H (by simp)
    ·rw [if_neg c3] at H
     have c3b0 : decide (x3_1 < (l0.length : Int)) = false := decide_eq_false c3
     clear c3
     obtain rfl := Option.some.inj H
     go_wp2
     go_ret
     exact ⟨re_, hb_ HB⟩

end Go.Proofs.Ytjcjijkgnkifeaa.PFnDirs
