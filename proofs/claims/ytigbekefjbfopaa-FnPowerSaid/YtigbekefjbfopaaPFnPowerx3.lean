-- Laid by a program of this session, a copy of the kit's printer with additions (wip/patch_print.py): myhead. Lean checks it.
import Derived.Test.YtigbekefjbfopaaPFnPowerx0
import Derived.Test.YtigbekefjbfopaaPFnPowerx2
namespace Go.Proofs.Ytigbekefjbfopaa.PFnPower
open Go.RowKit Go.Proofs.YtigbekefjbfopaaW.PrintWords Go.Proofs.YtigbekefjbfopaaW.PrintLast Go.Proofs.YtigbekefjbfopaaW.PrintMore
theorem bl_swq97269 : ∀ x y : List UInt8, (Op.bytesLess x y || x == y) = !(Op.bytesLess y x)
 | [], [] => by simp [Op.bytesLess]
 | [], _ :: _ => by simp [Op.bytesLess]
 | _ :: _, [] => by simp [Op.bytesLess]
 | a :: x, b :: y => by
  have ih := bl_swq97269 x y
  by_cases e : a = b
  ·subst e
   simp only [Op.bytesLess, List.cons_beq_cons, BEq.rfl, Bool.true_and, UInt8.lt_irrefl, decide_false, Bool.false_or]
   exact ih
  ·have e' : ¬ b = a := fun h => e h.symm
   have h1 : (a == b) = false := by simpa using e
   have h2 : (b == a) = false := by simpa using e'
   simp only [Op.bytesLess, List.cons_beq_cons, h1, h2, Bool.false_and, Bool.or_false]
   by_cases l : a < b
   ·have : ¬ b < a := fun h => UInt8.lt_asymm h l
    simp [l, this]
   ·have : b < a := UInt8.lt_of_le_of_ne (UInt8.not_lt.1 l) e'
    simp [l, this]
theorem bl_leqq97269 (t : TypeId) (a b : ByteArray) : binOp .leq t (.string a) (.string b) = pure (.bool (!(Op.bytesLess b.toList a.toList))) := by simp only [binOp, Op.stringOp, bl_swq97269]
theorem bl_gtrq97269 (t : TypeId) (a b : ByteArray) : binOp .gtr t (.string a) (.string b) = pure (.bool (Op.bytesLess b.toList a.toList)) := by simp only [binOp, Op.stringOp, bl_swq97269, Bool.not_not]
theorem bl_geqq97269 (t : TypeId) (a b : ByteArray) : binOp .geq t (.string a) (.string b) = pure (.bool (!(Op.bytesLess a.toList b.toList))) := by simp only [binOp, Op.stringOp]
attribute [local go_sem] bl_leqq97269 bl_gtrq97269 bl_geqq97269
attribute [local go_sem] max2_int min2_int max_two min_two max_three min_three max_four min_four   -- for this text's walks alone
set_option linter.unusedVariables false
set_option linter.unusedSimpArgs false

/-! ### impl_DiskOk: function 39 -/
mutual
def impl_DiskOk.j0 : Nat → Bool → List (S45) → Int → Int → Bool → Option (Bool)
 | 0, _, _, _, _, _ => none
 | k + 1, x21, x108000, x108001, x108002, x108003 => if x21 = true then (some false) else (impl_DiskOk.l0 k 0 x108000 (x108000.length : Int) 0 x108000 x108001 x108002 x108003)
def impl_DiskOk.l0 : Nat → Int → List (S45) → Int → Int → List (S45) → Int → Int → Bool → Option (Bool)
 | 0, _, _, _, _, _, _, _, _ => none
 | k + 1, x3, x23, x24, x25, x108000, x108001, x108002, x108003 => if x25 < x24 then (if 0 ≤ x25 then (if x25 < (x23.length : Int) then ((impl_NameOk.f k ((rd_T45 x23 x25).f0)).bind fun t112 => (if t112 = true then ((impl_in.f ((rd_T45 x23 x25).f2) 0 (((rd_T45 x23 x25).f1).size : Int)).bind fun t113 => (if t113 = true then (if x25 > 0 then (if 0 ≤ (wrap64 (x25 - 1)) then (if (wrap64 (x25 - 1)) < (x108000.length : Int) then (impl_DiskOk.j2 k x3 x23 x24 x25 (!(Op.bytesLess (((rd_T45 x108000 (wrap64 (x25 - 1))).f0).toList) (((rd_T45 x23 x25).f0).toList))) x108000 x108001 x108002 x108003 ((rd_T45 x23 x25).f0) ((rd_T45 x23 x25).f1) ((rd_T45 x23 x25).f2)) else (none)) else (none)) else (impl_DiskOk.j2 k x3 x23 x24 x25 false x108000 x108001 x108002 x108003 ((rd_T45 x23 x25).f0) ((rd_T45 x23 x25).f1) ((rd_T45 x23 x25).f2))) else (impl_DiskOk.j2 k x3 x23 x24 x25 true x108000 x108001 x108002 x108003 ((rd_T45 x23 x25).f0) ((rd_T45 x23 x25).f1) ((rd_T45 x23 x25).f2)))) else (impl_DiskOk.j2 k x3 x23 x24 x25 true x108000 x108001 x108002 x108003 ((rd_T45 x23 x25).f0) ((rd_T45 x23 x25).f1) ((rd_T45 x23 x25).f2)))) else (none)) else (none)) else (some (decide (x3 ≤ x108001)))
def impl_DiskOk.j2 : Nat → Int → List (S45) → Int → Int → Bool → List (S45) → Int → Int → Bool → ByteArray → ByteArray → Int → Option (Bool)
 | 0, _, _, _, _, _, _, _, _, _, _, _, _ => none
 | k + 1, x3, x23, x24, x25, x58, x108000, x108001, x108002, x108003, x112000, x112001, x112002 => if x58 = true then (some false) else (impl_DiskOk.l0 k (wrap64 (x3 + (x112001.size : Int))) x23 x24 (wrap64 (x25 + 1)) x108000 x108001 x108002 x108003)
end
def impl_DiskOk.f (k : Nat) (l0_0 : List (S45)) (a0_1 : Int) (a0_2 : Int) (a0_3 : Bool) : Option (Bool) := if (l0_0.length : Int) > 130 then (impl_DiskOk.j0 k true l0_0 a0_1 a0_2 a0_3) else ((impl_in.f a0_1 0 100000).bind fun t108 => (if t108 = true then ((impl_in.f a0_2 (-1) 100000).bind fun t109 => (impl_DiskOk.j0 k (!t109) l0_0 a0_1 a0_2 a0_3)) else (impl_DiskOk.j0 k true l0_0 a0_1 a0_2 a0_3)))
theorem impl_DiskOk.mono_l : ∀ k, (∀ y0 y1 y2 y3 y4, LeO (impl_DiskOk.j0 k y0 y1 y2 y3 y4) (impl_DiskOk.j0 (k + 1) y0 y1 y2 y3 y4)) ∧ (∀ y0 y1 y2 y3 y4 y5 y6 y7, LeO (impl_DiskOk.l0 k y0 y1 y2 y3 y4 y5 y6 y7) (impl_DiskOk.l0 (k + 1) y0 y1 y2 y3 y4 y5 y6 y7)) ∧ (∀ y0 y1 y2 y3 y4 y5 y6 y7 y8 y9 y10 y11, LeO (impl_DiskOk.j2 k y0 y1 y2 y3 y4 y5 y6 y7 y8 y9 y10 y11) (impl_DiskOk.j2 (k + 1) y0 y1 y2 y3 y4 y5 y6 y7 y8 y9 y10 y11))
 | 0 => ⟨fun _ _ _ _ _ r h => by simp [impl_DiskOk.j0] at h, fun _ _ _ _ _ _ _ _ r h => by simp [impl_DiskOk.l0] at h, fun _ _ _ _ _ _ _ _ _ _ _ _ r h => by simp [impl_DiskOk.j2] at h⟩
 | k + 1 => by
  obtain ⟨ih0, ih1, ih2⟩ := impl_DiskOk.mono_l k
  refine ⟨?_, ?_, ?_⟩
  ·intro y0 y1 y2 y3 y4
   unfold impl_DiskOk.j0
   repeat' first | (with_reducible first | exact ih0 .. | exact ih1 .. | exact ih2 .. | exact impl_NameOk.mono .. | exact LeO.refl .. | exact LeO.none .. | refine LeO.ite ?_ ?_ | refine LeO.bind ?_ (fun _ => ?_)) | exact ih0 .. | exact ih1 .. | exact ih2 .. | exact impl_NameOk.mono .. | exact LeO.none .. | refine LeO.ite ?_ ?_ | refine LeO.bind ?_ (fun _ => ?_)
  ·intro y0 y1 y2 y3 y4 y5 y6 y7
   unfold impl_DiskOk.l0
   repeat' first | (with_reducible first | exact ih0 .. | exact ih1 .. | exact ih2 .. | exact impl_NameOk.mono .. | exact LeO.refl .. | exact LeO.none .. | refine LeO.ite ?_ ?_ | refine LeO.bind ?_ (fun _ => ?_)) | exact ih0 .. | exact ih1 .. | exact ih2 .. | exact impl_NameOk.mono .. | exact LeO.none .. | refine LeO.ite ?_ ?_ | refine LeO.bind ?_ (fun _ => ?_)
  ·intro y0 y1 y2 y3 y4 y5 y6 y7 y8 y9 y10 y11
   unfold impl_DiskOk.j2
   repeat' first | (with_reducible first | exact ih0 .. | exact ih1 .. | exact ih2 .. | exact impl_NameOk.mono .. | exact LeO.refl .. | exact LeO.none .. | refine LeO.ite ?_ ?_ | refine LeO.bind ?_ (fun _ => ?_)) | exact ih0 .. | exact ih1 .. | exact ih2 .. | exact impl_NameOk.mono .. | exact LeO.none .. | refine LeO.ite ?_ ?_ | refine LeO.bind ?_ (fun _ => ?_)
theorem impl_DiskOk.mono : ∀ a0 a1 a2 a3 k, LeO (impl_DiskOk.f k a0 a1 a2 a3) (impl_DiskOk.f (k + 1) a0 a1 a2 a3) := by
 intro a0 a1 a2 a3 k
 obtain ⟨ih0, ih1, ih2⟩ := impl_DiskOk.mono_l k
 unfold impl_DiskOk.f
 repeat' first | (with_reducible first | exact ih0 .. | exact ih1 .. | exact ih2 .. | exact impl_NameOk.mono .. | exact LeO.refl .. | exact LeO.none .. | refine LeO.ite ?_ ?_ | refine LeO.bind ?_ (fun _ => ?_)) | exact ih0 .. | exact ih1 .. | exact ih2 .. | exact impl_NameOk.mono .. | exact LeO.none .. | refine LeO.ite ?_ ?_ | refine LeO.bind ?_ (fun _ => ?_)
def impl_DiskOk.T7 : Bool × List (List Nat × List Nat) := (true, [([], []), ([0], [0]), ([1], [1]), ([2], [2]), ([3, 2], [3]), ([4], [4]), ([5, 4], [4, 5]), ([4], [4]), ([7, 4], [4, 7]), ([8, 4], [4, 8]), ([6, 9, 4, 4], [4, 6, 9]), ([10, 4], [4, 10]), ([4, 11], [4, 11]), ([12, 10], [12]), ([13], [13]), ([14, 13], [13, 14]), ([15, 13, 13], [13, 15]), ([16], [16]), ([17, 16], [16, 17]), ([16], [16]), ([19, 16], [16, 19]), ([18, 20, 16], [16, 18, 20]), ([21, 16], [16, 21]), ([22, 16], [16, 22]), ([16], [16]), ([24, 16], [16, 24]), ([23, 25, 16], [16, 23, 25]), ([16, 26, 13], [13, 16, 26]), ([13, 27], [13, 27])])
def impl_DiskOk.B7 : List Nat := [0, 1, 3, 7, 15, 31, 63, 31, 159, 415, 1023, 2047, 4095, 8191, 16383, 32767, 65535, 131071, 262143, 131071, 655359, 2097151, 4194303, 8388607, 131071, 16908287, 67108863, 134217727, 268435455]
theorem impl_DiskOk.tab7 : rtab .any (opsOf Try.f39 7) = impl_DiskOk.T7 := by kernel_rfl
theorem impl_DiskOk.bits7 : waitsOk impl_DiskOk.T7.2 impl_DiskOk.B7 = true := by kernel_rfl
set_option maxHeartbeats 80000000 in
set_option maxRecDepth 100000 in
theorem impl_DiskOk.calls (k : Nat) (A0_0 : Option Addr) (c0_0 : Nat) (l0_0 : List (S45)) (a0_1 : Int) (a0_2 : Int) (a0_3 : Bool) (r : Bool) (w : World) (hr0_0 : Kd.C k45 w A0_0 l0_0.length l0_0) (hc0_0 : l0_0.length ≤ c0_0) (h : impl_DiskOk.f k l0_0 a0_1 a0_2 a0_3 = some r) :
  Calls Try.prog 39 #[.agg #[.slice A0_0 l0_0.length c0_0, .int .i64 a0_1, .int .i64 a0_2, .bool a0_3]] w fun e w' => e = .returned (.bool r) ∧ Below w.heap.size w w' := by
 have hu29 := Try.underlying29
 have hu45 := Try.underlying45
 have HR0_0 := Aside0.mk hr0_0
 have HC0_0 := Aside0.mk hc0_0
 clear hr0_0 hc0_0
 have HB := Aside0.mk (Below.refl w.heap.size w)
 have H : (if (l0_0.length : Int) > 130 then (impl_DiskOk.j0 k true l0_0 a0_1 a0_2 a0_3) else ((impl_in.f a0_1 0 100000).bind fun t108 => (if t108 = true then ((impl_in.f a0_2 (-1) 100000).bind fun t109 => (impl_DiskOk.j0 k (!t109) l0_0 a0_1 a0_2 a0_3)) else (impl_DiskOk.j0 k true l0_0 a0_1 a0_2 a0_3)))) = some r := h
 clear h
 have HC2 := Aside0.mk H
 clear H
 go_enter Try.func39, Try.ntmps39
 go_upto_region 1 with (first | ((with_reducible refine gate_dst (N := 1) rfl ?_); (try (refine gate_guard (by rfl) ?_; dsimp only)); refine box_event ?hg (N := 1) ?hd (cs := #[.slice A0_0 l0_0.length c0_0, .int .i64 a0_1, .int .i64 a0_2, .bool a0_3]) (t := 29) ?hr ?_; (case hd => rfl); (case hg => rfl); (case hr => first | (go_simp; done) | (go_simp; rfl)); intro gb107 hg w3 hbox hb; have BK107 := Aside0.mk (hbox); have GW107 := ge_ hg (hb_ HB); have GE107 := ge_ hg (hb_ HB); replace HB := bs_ HB hb; clear hb hbox hg))
 (try simp only [Act.put, la_, lz_, ls_])
 go_cut [21] (fun v21 wc => ∃ (kq : Nat) (x21_1 : Bool), v21 = .bool x21_1 ∧ Aside0 (impl_DiskOk.j0 kq x21_1 l0_0 a0_1 a0_2 a0_3 = some r) ∧ Aside0 (kq ≤ k) ∧ Aside0 (wc.heap[gb107]? = some (.cells #[(.slice A0_0 l0_0.length c0_0), .int .i64 a0_1, .int .i64 a0_2, .bool a0_3] 29 (0, 0))) ∧ Aside0 (Below w.heap.size w wc))
 case first =>
  have H := HC2.out
  clear HC2
  by_cases c4 : (l0_0.length : Int) > 130
  ·rw [if_pos c4] at H
   have c4b0 : decide (130 < (l0_0.length : Int)) = true := decide_eq_true c4
   have c4b1 : decide (130 < l0_0.length) = true := decide_eq_true (by omega)
   clear c4
   (first | rw [c4b0] | (simp only [i64_w, i32_w]; rw [c4b0]) | skip)
   have H' := Aside0.mk H
   clear H
   obtain ⟨hcz5_0, hcz5_1, hcz5_2, hcz5_3, hfz5_0, hfz5_1, hfz5_2, hfz5_3⟩ := bc4_ BK107
   go_wp2
   go_meet
   case rel => exact ⟨_, (true), rs_, H', ⟨by first | exact Nat.le_refl _ | exact Nat.le_of_succ_le this | omega⟩, ⟨bk_ BK107⟩, ⟨hs_ HB GE107⟩⟩
  ·rw [if_neg c4] at H
   have c4b0 : decide (130 < (l0_0.length : Int)) = false := decide_eq_false c4
   have c4b1 : decide (130 < l0_0.length) = false := decide_eq_false (by omega)
   clear c4
   (first | rw [c4b0] | (simp only [i64_w, i32_w]; rw [c4b0]) | skip)
   replace H := Option.bind_eq_some_iff.mp H
   obtain ⟨t108, A60, H⟩ := H
   replace H : (if t108 = true then ((impl_in.f a0_2 (-1) 100000).bind fun t109 => (impl_DiskOk.j0 k (!t109) l0_0 a0_1 a0_2 a0_3)) else (impl_DiskOk.j0 k true l0_0 a0_1 a0_2 a0_3)) = some r := H
   have A6 := Aside0.mk A60
   clear A60
   by_cases c7 : t108 = true
   ·subst c7
    have H1 : ((impl_in.f a0_2 (-1) 100000).bind fun t109 => (impl_DiskOk.j0 k (!t109) l0_0 a0_1 a0_2 a0_3)) = some r := by rw [if_pos rfl] at H; exact H
    clear H
    have H := H1
    clear H1
    replace H := Option.bind_eq_some_iff.mp H
    obtain ⟨t109, A80, H⟩ := H
    replace H : (impl_DiskOk.j0 k (!t109) l0_0 a0_1 a0_2 a0_3) = some r := H
    have A8 := Aside0.mk A80
    clear A80
    have H' := Aside0.mk H
    clear H
    obtain ⟨hcz9_0, hcz9_1, hcz9_2, hcz9_3, hfz9_0, hfz9_1, hfz9_2, hfz9_3⟩ := bc4_ BK107
    go_wp2_with (first | (go_at_call 69; (with_reducible refine (impl_in.calls a0_1 0 100000 true _ A6.out).mono ?_); rintro e w' ⟨rfl, ⟨nd, rfl⟩⟩) | (go_at_call 69; (with_reducible refine (impl_in.calls a0_2 (-1) 100000 t109 _ A8.out).mono ?_); rintro e w' ⟨rfl, ⟨nd, rfl⟩⟩))
    go_meet
    case rel => exact ⟨_, (!t109), rs_, H', ⟨by first | exact Nat.le_refl _ | exact Nat.le_of_succ_le this | omega⟩, ⟨bk_ BK107⟩, ⟨hs_ HB GE107⟩⟩
   ·replace c7 := Bool.eq_false_iff.mpr c7
    subst c7
    have H1 : (impl_DiskOk.j0 k true l0_0 a0_1 a0_2 a0_3) = some r := by rw [if_neg (show ¬ (false = true) by decide)] at H; exact H
    clear H
    have H := H1
    clear H1
    have H' := Aside0.mk H
    clear H
    obtain ⟨hcz10_0, hcz10_1, hcz10_2, hcz10_3, hfz10_0, hfz10_1, hfz10_2, hfz10_3⟩ := bc4_ BK107
    go_wp2_with (first | (go_at_call 69; (with_reducible refine (impl_in.calls a0_1 0 100000 false _ A6.out).mono ?_); rintro e w' ⟨rfl, ⟨nd, rfl⟩⟩))
    go_meet
    case rel => exact ⟨_, (true), rs_, H', ⟨by first | exact Nat.le_refl _ | exact Nat.le_of_succ_le this | omega⟩, ⟨bk_ BK107⟩, ⟨hs_ HB GE107⟩⟩
 case rest =>
  clear HC2
  try clear p2
  try clear c3
  try clear c4
  try clear c4b0
  try clear c4b1
  try clear c7
  try clear hcz10_0 hcz10_1 hcz10_2 hcz10_3 hfz10_0 hfz10_1 hfz10_2 hfz10_3
  try clear hcz5_0 hcz5_1 hcz5_2 hcz5_3 hfz5_0 hfz5_1 hfz5_2 hfz5_3
  try clear hcz9_0 hcz9_1 hcz9_2 hcz9_3 hfz9_0 hfz9_1 hfz9_2 hfz9_3
  obtain ⟨kq, x21_1, rfl, HA, HJ1, BK107, HB⟩ := hcut
  cases kq with
  | zero => exact absurd HA.out (by simp [impl_DiskOk.j0])
  | succ kj1 =>
   have H := HA.out
   clear HA
   simp only [impl_DiskOk.j0] at H
   by_cases c11 : x21_1 = true
   ·subst c11
    have H1 : (some false) = some r := by rw [if_pos rfl] at H; exact H
    clear H
    have H := H1
    clear H1
    obtain rfl := Option.some.inj H
    go_wp2
    go_ret
    exact ⟨re_, hs_ HB GE107⟩
   ·replace c11 := Bool.eq_false_iff.mpr c11
    subst c11
    have H1 : (impl_DiskOk.l0 kj1 0 l0_0 (l0_0.length : Int) 0 l0_0 a0_1 a0_2 a0_3) = some r := by rw [if_neg (show ¬ (false = true) by decide)] at H; exact H
    clear H
    have H := H1
    clear H1
    have H' := Aside0.mk H
    clear H
    obtain ⟨hcz12_0, hcz12_1, hcz12_2, hcz12_3, hfz12_0, hfz12_1, hfz12_2, hfz12_3⟩ := bc4_ BK107
    go_wp2
    go_loopg [3, 25] kj1 (fun kq v3 v25 w' => ∃ (x3_2 : Int) (x25_2 : Int), v3 = .int .i64 x3_2 ∧ v25 = .int .i64 x25_2 ∧ Aside0 (impl_DiskOk.l0 kq x3_2 l0_0 (l0_0.length : Int) x25_2 l0_0 a0_1 a0_2 a0_3 = some r) ∧ Aside0 (kq ≤ kj1) ∧ Aside0 (w'.heap[gb107]? = some (.cells #[(.slice A0_0 l0_0.length c0_0), .int .i64 a0_1, .int .i64 a0_2, .bool a0_3] 29 (0, 0))) ∧ Aside0 (Below w.heap.size w w'))
    case atStart => exact ⟨(0), (0), rs_, rs_, H', ⟨Nat.le_refl _⟩, ⟨bk_ BK107⟩, ⟨hs_ HB GE107⟩⟩
    case round =>
     clear H'
     try clear c1
     try clear p2
     try clear c3
     try clear c4
     try clear c4b0
     try clear c4b1
     try clear c7
     try clear c11
     try clear hcz10_0 hcz10_1 hcz10_2 hcz10_3 hfz10_0 hfz10_1 hfz10_2 hfz10_3
     try clear hcz12_0 hcz12_1 hcz12_2 hcz12_3 hfz12_0 hfz12_1 hfz12_2 hfz12_3
     try clear hcz5_0 hcz5_1 hcz5_2 hcz5_3 hfz5_0 hfz5_1 hfz5_2 hfz5_3
     try clear hcz9_0 hcz9_1 hcz9_2 hcz9_3 hfz9_0 hfz9_1 hfz9_2 hfz9_3
     try clear p2
     obtain ⟨x3_2, x25_2, rfl, rfl, HA, HK2, BK107, HB⟩ := hrel
     cases gk with
     | zero => exact absurd HA.out (by simp [impl_DiskOk.l0])
     | succ k2 =>
      have H := HA.out
      clear HA
      simp only [impl_DiskOk.l0] at H
      by_cases c13 : x25_2 < (l0_0.length : Int)
      ·rw [if_pos c13] at H
       have c13b0 : decide (x25_2 < (l0_0.length : Int)) = true := decide_eq_true c13
       clear c13
       by_cases c14 : 0 ≤ x25_2
       ·rw [if_pos c14] at H
        have c14b0 : decide (0 ≤ x25_2) = true := decide_eq_true c14
        clear c14
        by_cases c15 : x25_2 < (l0_0.length : Int)
        ·rw [if_pos c15] at H
         have c15b0 : decide (x25_2 < (l0_0.length : Int)) = true := decide_eq_true c15
         clear c15
         have HC16 := Aside0.mk H
         clear H
         have p110 : 0 ≤ (x25_2 : Int) := of_decide_eq_true as_
         have q110 : x25_2 < (l0_0.length : Int) := of_decide_eq_true as_
         obtain ⟨ad110, e110, hx110_0, hx110_1, hx110_2⟩ := at_T45 HR0_0.out x25_2 p110 q110
         cases e110
         (try replace hx110_0 := cb_ HB hx110_0)
         (try replace hx110_1 := cb_ HB hx110_1)
         (try replace hx110_2 := cb_ HB hx110_2)
         replace p110 := eq_true p110
         replace q110 := eq_true q110
         go_upto_region 7 with (first | ((with_reducible refine gate_dst (N := 5) rfl ?_); (try (refine gate_guard (by rfl) ?_; dsimp only)); refine box_event ?hg (N := 5) ?hd (cs := #[.string (⟨#[]⟩ : ByteArray), .string (⟨#[]⟩ : ByteArray), .int .i64 0]) (t := 45) ?hr ?_; (case hd => rfl); (case hg => rfl); (case hr => first | (go_simp; done) | (go_simp; rfl)); intro gb111 hg w17 hbox hb; have BK111 := Aside0.mk (hbox); have GW111 := ge_ hg (hs_ HB GE107); have GE111 := ge_ hg (hs_ HB GE107); replace HB := bt_ HB GE107 hb; have NB107_111 := nl_ BK107 hg; have NB111_107 := ng_ BK107 hg; replace BK107 := bb_ BK107 hb; clear hb hbox hg; have hnb18 := NB111_107.out; have hnc18 := NB107_111.out; obtain ⟨hcz19_0, hcz19_1, hcz19_2, hfz19_0, hfz19_1, hfz19_2⟩ := bc3_ BK111))
         (try simp only [Act.put, la_, lz_, ls_])
         go_cut [58] (fun v58 wc => ∃ (kq : Nat) (x58_15 : Bool), v58 = .bool x58_15 ∧ Aside0 (impl_DiskOk.j2 kq x3_2 l0_0 (l0_0.length : Int) x25_2 x58_15 l0_0 a0_1 a0_2 a0_3 ((rd_T45 l0_0 x25_2).f0) ((rd_T45 l0_0 x25_2).f1) ((rd_T45 l0_0 x25_2).f2) = some r) ∧ Aside0 (kq ≤ k2) ∧ Aside0 (wc.heap[gb107]? = some (.cells #[(.slice (some ad110) l0_0.length c0_0), .int .i64 a0_1, .int .i64 a0_2, .bool a0_3] 29 (0, 0))) ∧ Aside0 (wc.heap[gb111]? = some (.cells #[.string ((rd_T45 l0_0 x25_2).f0), .string ((rd_T45 l0_0 x25_2).f1), .int .i64 ((rd_T45 l0_0 x25_2).f2)] 45 (0, 0))) ∧ Aside0 (Below w.heap.size w wc))
         case first =>
          have H := HC16.out
          clear HC16
          replace H := Option.bind_eq_some_iff.mp H
          obtain ⟨t112, A200, H⟩ := H
          replace H : (if t112 = true then ((impl_in.f ((rd_T45 l0_0 x25_2).f2) 0 (((rd_T45 l0_0 x25_2).f1).size : Int)).bind fun t113 => (if t113 = true then (if x25_2 > 0 then (if 0 ≤ (wrap64 (x25_2 - 1)) then (if (wrap64 (x25_2 - 1)) < (l0_0.length : Int) then (impl_DiskOk.j2 k2 x3_2 l0_0 (l0_0.length : Int) x25_2 (!(Op.bytesLess (((rd_T45 l0_0 (wrap64 (x25_2 - 1))).f0).toList) (((rd_T45 l0_0 x25_2).f0).toList))) l0_0 a0_1 a0_2 a0_3 ((rd_T45 l0_0 x25_2).f0) ((rd_T45 l0_0 x25_2).f1) ((rd_T45 l0_0 x25_2).f2)) else (none)) else (none)) else (impl_DiskOk.j2 k2 x3_2 l0_0 (l0_0.length : Int) x25_2 false l0_0 a0_1 a0_2 a0_3 ((rd_T45 l0_0 x25_2).f0) ((rd_T45 l0_0 x25_2).f1) ((rd_T45 l0_0 x25_2).f2))) else (impl_DiskOk.j2 k2 x3_2 l0_0 (l0_0.length : Int) x25_2 true l0_0 a0_1 a0_2 a0_3 ((rd_T45 l0_0 x25_2).f0) ((rd_T45 l0_0 x25_2).f1) ((rd_T45 l0_0 x25_2).f2)))) else (impl_DiskOk.j2 k2 x3_2 l0_0 (l0_0.length : Int) x25_2 true l0_0 a0_1 a0_2 a0_3 ((rd_T45 l0_0 x25_2).f0) ((rd_T45 l0_0 x25_2).f1) ((rd_T45 l0_0 x25_2).f2))) = some r := H
          have A20 := Aside0.mk A200
          clear A200
          by_cases c21 : t112 = true
          ·subst c21
           have H1 : ((impl_in.f ((rd_T45 l0_0 x25_2).f2) 0 (((rd_T45 l0_0 x25_2).f1).size : Int)).bind fun t113 => (if t113 = true then (if x25_2 > 0 then (if 0 ≤ (wrap64 (x25_2 - 1)) then (if (wrap64 (x25_2 - 1)) < (l0_0.length : Int) then (impl_DiskOk.j2 k2 x3_2 l0_0 (l0_0.length : Int) x25_2 (!(Op.bytesLess (((rd_T45 l0_0 (wrap64 (x25_2 - 1))).f0).toList) (((rd_T45 l0_0 x25_2).f0).toList))) l0_0 a0_1 a0_2 a0_3 ((rd_T45 l0_0 x25_2).f0) ((rd_T45 l0_0 x25_2).f1) ((rd_T45 l0_0 x25_2).f2)) else (none)) else (none)) else (impl_DiskOk.j2 k2 x3_2 l0_0 (l0_0.length : Int) x25_2 false l0_0 a0_1 a0_2 a0_3 ((rd_T45 l0_0 x25_2).f0) ((rd_T45 l0_0 x25_2).f1) ((rd_T45 l0_0 x25_2).f2))) else (impl_DiskOk.j2 k2 x3_2 l0_0 (l0_0.length : Int) x25_2 true l0_0 a0_1 a0_2 a0_3 ((rd_T45 l0_0 x25_2).f0) ((rd_T45 l0_0 x25_2).f1) ((rd_T45 l0_0 x25_2).f2)))) = some r := by rw [if_pos rfl] at H; exact H
           clear H
           have H := H1
           clear H1
           replace H := Option.bind_eq_some_iff.mp H
           obtain ⟨t113, A220, H⟩ := H
           replace H : (if t113 = true then (if x25_2 > 0 then (if 0 ≤ (wrap64 (x25_2 - 1)) then (if (wrap64 (x25_2 - 1)) < (l0_0.length : Int) then (impl_DiskOk.j2 k2 x3_2 l0_0 (l0_0.length : Int) x25_2 (!(Op.bytesLess (((rd_T45 l0_0 (wrap64 (x25_2 - 1))).f0).toList) (((rd_T45 l0_0 x25_2).f0).toList))) l0_0 a0_1 a0_2 a0_3 ((rd_T45 l0_0 x25_2).f0) ((rd_T45 l0_0 x25_2).f1) ((rd_T45 l0_0 x25_2).f2)) else (none)) else (none)) else (impl_DiskOk.j2 k2 x3_2 l0_0 (l0_0.length : Int) x25_2 false l0_0 a0_1 a0_2 a0_3 ((rd_T45 l0_0 x25_2).f0) ((rd_T45 l0_0 x25_2).f1) ((rd_T45 l0_0 x25_2).f2))) else (impl_DiskOk.j2 k2 x3_2 l0_0 (l0_0.length : Int) x25_2 true l0_0 a0_1 a0_2 a0_3 ((rd_T45 l0_0 x25_2).f0) ((rd_T45 l0_0 x25_2).f1) ((rd_T45 l0_0 x25_2).f2))) = some r := H
           have A22 := Aside0.mk A220
           clear A220
           by_cases c23 : t113 = true
           ·subst c23
            have H1 : (if x25_2 > 0 then (if 0 ≤ (wrap64 (x25_2 - 1)) then (if (wrap64 (x25_2 - 1)) < (l0_0.length : Int) then (impl_DiskOk.j2 k2 x3_2 l0_0 (l0_0.length : Int) x25_2 (!(Op.bytesLess (((rd_T45 l0_0 (wrap64 (x25_2 - 1))).f0).toList) (((rd_T45 l0_0 x25_2).f0).toList))) l0_0 a0_1 a0_2 a0_3 ((rd_T45 l0_0 x25_2).f0) ((rd_T45 l0_0 x25_2).f1) ((rd_T45 l0_0 x25_2).f2)) else (none)) else (none)) else (impl_DiskOk.j2 k2 x3_2 l0_0 (l0_0.length : Int) x25_2 false l0_0 a0_1 a0_2 a0_3 ((rd_T45 l0_0 x25_2).f0) ((rd_T45 l0_0 x25_2).f1) ((rd_T45 l0_0 x25_2).f2))) = some r := by rw [if_pos rfl] at H; exact H
            clear H
            have H := H1
            clear H1
            by_cases c24 : x25_2 > 0
            ·rw [if_pos c24] at H
             have c24b0 : decide (0 < x25_2) = true := decide_eq_true c24
             clear c24
             (first | rw [c24b0] | (simp only [i64_w, i32_w]; rw [c24b0]) | skip)
             obtain ⟨ji25, hji25⟩ : ∃ j_ : Int, (wrap64 (x25_2 - 1)) = j_ := ⟨_, rfl⟩
             replace H : (if 0 ≤ (ji25) then (if (ji25) < (l0_0.length : Int) then (impl_DiskOk.j2 k2 x3_2 l0_0 (l0_0.length : Int) x25_2 (!(Op.bytesLess (((rd_T45 l0_0 (ji25)).f0).toList) (((rd_T45 l0_0 x25_2).f0).toList))) l0_0 a0_1 a0_2 a0_3 ((rd_T45 l0_0 x25_2).f0) ((rd_T45 l0_0 x25_2).f1) ((rd_T45 l0_0 x25_2).f2)) else (none)) else (none)) = some r := by first | (rw [hji25] at H; exact H) | (simp only [hji25] at H ⊢; exact H)
             (try rw [hji25] at A20)
             (try rw [hji25] at A22)
             have hji25w : (IntKind.i64.wrap (x25_2 - 1)) = ji25 := (i64_w _).trans hji25
             by_cases c26 : 0 ≤ (ji25)
             ·rw [if_pos c26] at H
              have c26b0 : decide (0 ≤ (ji25)) = true := decide_eq_true c26
              clear c26
              by_cases c27 : (ji25) < (l0_0.length : Int)
              ·rw [if_pos c27] at H
               have c27b0 : decide ((ji25) < (l0_0.length : Int)) = true := decide_eq_true c27
               clear c27
               have H' := Aside0.mk H
               clear H
               try go_wp2
               generalize hW_ : (((w17.setCell ⟨gb111, 0, none⟩ (.string ((rd_T45 l0_0 x25_2).f0))).setCell ⟨gb111, 1, none⟩ (.string ((rd_T45 l0_0 x25_2).f1))).setCell ⟨gb111, 2, none⟩ (.int .i64 ((rd_T45 l0_0 x25_2).f2))) = w28
               replace BK107 := uf_ BK107 NB107_111 hW_
               replace BK111 := up_ #[.string ((rd_T45 l0_0 x25_2).f0), .string ((rd_T45 l0_0 x25_2).f1), .int .i64 ((rd_T45 l0_0 x25_2).f2)] BK111 hW_
               replace HB := us_ hW_ (hu_ HB GE107 GE111)
               clear hW_
               replace BK107 := bd_ BK107
               replace BK111 := bd_ BK111
               replace HB := hd_ HB
               have p114 : 0 ≤ ((ji25) : Int) := of_decide_eq_true as_
               have q114 : (ji25) < (l0_0.length : Int) := of_decide_eq_true as_
               obtain ⟨ad114, e114, hx114_0, hx114_1, hx114_2⟩ := at_T45 HR0_0.out (ji25) p114 q114
               have hw114_2 := hx114_2
               have hw114_1 := hx114_1
               have hw114_0 := hx114_0
               obtain rfl : ad110 = ad114 := (by injection e114)
               (try replace hx114_0 := cb_ HB hx114_0)
               (try replace hx114_1 := cb_ HB hx114_1)
               (try replace hx114_2 := cb_ HB hx114_2)
               replace p114 := eq_true p114
               replace q114 := eq_true q114
               refine start_ (n := 29) (S := k3_ gb111 (.string ((rd_T45 l0_0 x25_2).f0)) (.string ((rd_T45 l0_0 x25_2).f1)) (.int .i64 ((rd_T45 l0_0 x25_2).f2)) (k4_ gb107 (.slice (some ad110) l0_0.length c0_0) (.int .i64 a0_1) (.int .i64 a0_2) (.bool a0_3) (e3e_ (ad110.add (((ji25)).toNat * 3)) (.string ((rd_T45 l0_0 (ji25)).f0)) (.string ((rd_T45 l0_0 (ji25)).f1)) (.int .i64 ((rd_T45 l0_0 (ji25)).f2))))) (ds := []) (on_ 0 29) (by kernel_rfl) rfl rfl (p3_ BK111 (p4_ BK107 (q3e_ (cb_ HB hw114_0 :) (cb_ HB hw114_1 :) (cb_ HB hw114_2 :)))) (fun hHeld => ?_); refine with_tabW impl_DiskOk.tab7 impl_DiskOk.bits7 (fun HT_ HW_ => ?_)
               generalize w28.drew = w29 at BK107 BK111 HB hx114_0 hx114_1 hx114_2 hHeld ⊢
               refine pv_' 0 30 (on_ 1 28) rfl rfl HT_ ?_
               refine take_ (i := 1) (N := some 31) (v := ?_) (a' := ?_) (on_ 2 27) rfl rfl (take_ofW HT_.out HW_.out (by kernel_rfl)) (fun _ _ _ h => h) (Or.inl ⟨by rfl, ?_⟩) hHeld ?_ ?_
               rotate_left
               ·rintro w' ⟨s0, s1, s2, s3, s4, s5, s6, s7, s8, s9⟩
                go_simp
                with_reducible rfl
               rotate_left
               ·simp only [Act.put, la_, lz_, ls_, i64_w, i32_w]
                rfl
               refine one_ (i := 2) (N := some 32) (on_ 3 26) rfl rfl (one_of HT_.out (by kernel_rfl)) (by decide) (fun K hK => ?_)
               refine goes_ Try.func70 (by kernel_rfl) rfl #[.string ((rd_T45 l0_0 x25_2).f0)] (by rfl) rfl rfl ar_ ?_
               with_reducible refine (impl_NameOk.calls k2 ((rd_T45 l0_0 x25_2).f0) true _ A20.out).mono ?_
               rintro e w' ⟨rfl, ⟨nd, rfl⟩⟩
               refine ⟨_, rfl, ?_⟩
               refine hK.out _ _ (p3_ BK111 (p4_ BK107 (q3e_ (cb_ HB hw114_0 :) (cb_ HB hw114_1 :) (cb_ HB hw114_2 :)))) (fun hHeld => ?_)
               clear hK K
               refine norm_ (a' := ?_) ?_ ?_
               rotate_left
               ·show Act.put _ (some 32) _ = _
                simp only [Act.put, la_, lz_, ls_, i64_w, i32_w]
                rfl
               refine pv_' 3 33 (on_ 4 25) rfl rfl HT_ ?_
               refine pv_' 4 34 (on_ 5 24) rfl rfl HT_ ?_
               refine pv_' 5 35 (on_ 6 23) rfl rfl HT_ ?_
               refine pv_' 7 37 #[i',i',i',i',i',i',o',i',o',o',o',o',o',o',o',o',o',o',o',o',o',o',o',o',o',o',o',o',o'] rfl rfl HT_ ?_
               refine take_ (i := 6) (N := some 36) (v := ?_) (a' := ?_) (on_ 8 21) rfl rfl (take_ofW HT_.out HW_.out (by kernel_rfl)) (fun _ _ _ h => h) (Or.inl ⟨by rfl, ?_⟩) hHeld ?_ ?_
               rotate_left
               ·rintro w' ⟨s0, s1, s2, s3, s4, s5, s6, s7, s8, s9⟩
                go_simp
                with_reducible rfl
               rotate_left
               ·simp only [Act.put, la_, lz_, ls_, i64_w, i32_w]
                rfl
               refine take_ (i := 8) (N := some 38) (v := ?_) (a' := ?_) (on_ 9 20) rfl rfl (take_ofW HT_.out HW_.out (by kernel_rfl)) (fun _ _ _ h => h) (Or.inl ⟨by rfl, ?_⟩) hHeld ?_ ?_
               rotate_left
               ·rintro w' ⟨s0, s1, s2, s3, s4, s5, s6, s7, s8, s9⟩
                go_simp
                with_reducible rfl
               rotate_left
               ·simp only [Act.put, la_, lz_, ls_, i64_w, i32_w]
                rfl
               refine pv_' 9 39 (on_ 10 19) rfl rfl HT_ ?_
               refine one_ (i := 10) (N := some 40) (on_ 11 18) rfl rfl (one_of HT_.out (by kernel_rfl)) (by decide) (fun K hK => ?_)
               refine goes_ Try.func69 (by kernel_rfl) rfl #[.int .i64 ((rd_T45 l0_0 x25_2).f2), .int .i64 0, .int .i64 (((rd_T45 l0_0 x25_2).f1).size : Int)] (by rfl) rfl rfl ar_ ?_
               with_reducible refine (impl_in.calls ((rd_T45 l0_0 x25_2).f2) 0 (((rd_T45 l0_0 x25_2).f1).size : Int) true _ A22.out).mono ?_
               rintro e w' ⟨rfl, ⟨nd, rfl⟩⟩
               refine ⟨_, rfl, ?_⟩
               refine hK.out _ _ (p3_ BK111 (p4_ BK107 (q3e_ (cb_ HB hw114_0 :) (cb_ HB hw114_1 :) (cb_ HB hw114_2 :)))) (fun hHeld => ?_)
               clear hK K
               refine norm_ (a' := ?_) ?_ ?_
               rotate_left
               ·show Act.put _ (some 40) _ = _
                simp only [Act.put, la_, lz_, ls_, i64_w, i32_w]
                rfl
               refine pv_' 11 41 (on_ 12 17) rfl rfl HT_ ?_
               refine pv_' 12 42 (on_ 13 16) rfl rfl HT_ ?_
               refine pv_' 13 43 (on_ 14 15) rfl rfl HT_ ?_
               refine pv_' 14 44 (on_ 15 14) rfl rfl HT_ ?_
               refine pv_' 15 45 (on_ 16 13) rfl rfl HT_ ?_
               refine pv_' 16 46 (on_ 17 12) rfl rfl HT_ ?_
               refine pv_' 17 47 (on_ 18 11) rfl rfl HT_ ?_
               refine pv_' 19 49 #[i',i',i',i',i',i',i',i',i',i',i',i',i',i',i',i',i',i',o',i',o',o',o',o',o',o',o',o',o'] rfl rfl HT_ ?_
               refine pv_' 20 50 #[i',i',i',i',i',i',i',i',i',i',i',i',i',i',i',i',i',i',o',i',i',o',o',o',o',o',o',o',o'] rfl rfl HT_ ?_
               refine pv_' 24 54 #[i',i',i',i',i',i',i',i',i',i',i',i',i',i',i',i',i',i',o',i',i',o',o',o',i',o',o',o',o'] rfl rfl HT_ ?_
               refine take_ (i := 18) (N := some 48) (v := ?_) (a' := ?_) #[i',i',i',i',i',i',i',i',i',i',i',i',i',i',i',i',i',i',i',i',i',o',o',o',i',o',o',o',o'] rfl rfl (take_ofW HT_.out HW_.out (by kernel_rfl)) (fun _ _ _ h => h) (Or.inl ⟨by rfl, ?_⟩) hHeld ?_ ?_
               rotate_left
               ·rintro w' ⟨s0, s1, s2, s3, s4, s5, s6, s7, s8, s9⟩
                go_simp
                with_reducible rfl
               rotate_left
               ·simp only [Act.put, la_, lz_, ls_, i64_w, i32_w]
                rfl
               refine pv_' 21 51 #[i',i',i',i',i',i',i',i',i',i',i',i',i',i',i',i',i',i',i',i',i',i',o',o',i',o',o',o',o'] rfl rfl HT_ ?_
               refine pv_' 22 52 #[i',i',i',i',i',i',i',i',i',i',i',i',i',i',i',i',i',i',i',i',i',i',i',o',i',o',o',o',o'] rfl rfl HT_ ?_
               refine take_ (i := 23) (N := some 53) (v := ?_) (a' := ?_) (on_ 25 4) rfl rfl (take_ofW HT_.out HW_.out (by kernel_rfl)) (fun _ _ _ h => h) (Or.inl ⟨by rfl, ?_⟩) hHeld ?_ ?_
               rotate_left
               ·rintro w' ⟨s0, s1, s2, s3, s4, s5, s6, s7, s8, s9⟩
                go_simp
                with_reducible rfl
               rotate_left
               ·simp only [Act.put, la_, lz_, ls_, i64_w, i32_w]
                rfl
               refine take_ (i := 25) (N := some 55) (v := ?_) (a' := ?_) (on_ 26 3) rfl rfl (take_ofW HT_.out HW_.out (by kernel_rfl)) (fun _ _ _ h => h) (Or.inl ⟨by rfl, ?_⟩) hHeld ?_ ?_
               rotate_left
               ·rintro w' ⟨s0, s1, s2, s3, s4, s5, s6, s7, s8, s9⟩
                go_simp
                with_reducible rfl
               rotate_left
               ·simp only [Act.put, la_, lz_, ls_, i64_w, i32_w]
                rfl
               refine pv_' 26 56 (on_ 27 2) rfl rfl HT_ ?_
               refine pv_' 27 57 (on_ 28 1) rfl rfl HT_ ?_
               refine pv_' 28 58 (on_ 29 0) rfl rfl HT_ ?_
               refine done_ (done_of HT_.out (by kernel_rfl)) ?_
               have Nji25_ := Aside0.mk hji25
               clear hji25
               (try clear hji25w)
               try go_wp2
               have hji25 := Nji25_.out
               clear Nji25_
               (try have hji25w := (i64_w _).trans hji25)
               go_meet
               case rel => exact ⟨_, (!(Op.bytesLess (((rd_T45 l0_0 (ji25)).f0).toList) (((rd_T45 l0_0 x25_2).f0).toList))), (by first | rfl | (simp; done) | (simp only [← hji25] <;> (first | rfl | simp)) | (simp [*]; done)), (by first | exact H' | (simp only [hji25]; exact H')), ⟨by have := HJ1.out; have := HK2.out; first | exact Nat.le_refl _ | exact Nat.le_of_succ_le this | omega⟩, ⟨bk_ BK107⟩, ⟨bk_ BK111⟩, ⟨by repeat (first | (with_reducible first | exact HB.out | apply below_alloc | apply pw_below_drewN | apply below_drew1 | refine below_set ?_ GE107.out | refine below_set ?_ GE111.out) | exact HB.out)⟩⟩
              ·rw [if_neg c27] at H
               exact absurd H (by simp)
             ·rw [if_neg c26] at H
              exact absurd H (by simp)
            ·rw [if_neg c24] at H
             have c24b0 : decide (0 < x25_2) = false := decide_eq_false c24
             clear c24
             (first | rw [c24b0] | (simp only [i64_w, i32_w]; rw [c24b0]) | skip)
             have H' := Aside0.mk H
             clear H
             try go_wp2
             generalize hW_ : (((w17.setCell ⟨gb111, 0, none⟩ (.string ((rd_T45 l0_0 x25_2).f0))).setCell ⟨gb111, 1, none⟩ (.string ((rd_T45 l0_0 x25_2).f1))).setCell ⟨gb111, 2, none⟩ (.int .i64 ((rd_T45 l0_0 x25_2).f2))) = w30
             replace BK107 := uf_ BK107 NB107_111 hW_
             replace BK111 := up_ #[.string ((rd_T45 l0_0 x25_2).f0), .string ((rd_T45 l0_0 x25_2).f1), .int .i64 ((rd_T45 l0_0 x25_2).f2)] BK111 hW_
             replace HB := us_ hW_ (hu_ HB GE107 GE111)
             clear hW_
             replace BK107 := bd_ BK107
             replace BK111 := bd_ BK111
             replace HB := hd_ HB
             refine start_ (n := 29) (S := k3e_ gb111 (.string ((rd_T45 l0_0 x25_2).f0)) (.string ((rd_T45 l0_0 x25_2).f1)) (.int .i64 ((rd_T45 l0_0 x25_2).f2))) (ds := []) (on_ 0 29) (by kernel_rfl) rfl rfl (p3e_ BK111) (fun hHeld => ?_); refine with_tabW impl_DiskOk.tab7 impl_DiskOk.bits7 (fun HT_ HW_ => ?_)
             generalize w30.drew = w31 at BK107 BK111 HB hHeld ⊢
             refine pv_' 0 30 (on_ 1 28) rfl rfl HT_ ?_
             refine take_ (i := 1) (N := some 31) (v := ?_) (a' := ?_) (on_ 2 27) rfl rfl (take_ofW HT_.out HW_.out (by kernel_rfl)) (fun _ _ _ h => h) (Or.inl ⟨by rfl, ?_⟩) hHeld ?_ ?_
             rotate_left
             ·rintro w' ⟨s0, s1, s2⟩
              go_simp
              with_reducible rfl
             rotate_left
             ·simp only [Act.put, la_, lz_, ls_, i64_w, i32_w]
              rfl
             refine one_ (i := 2) (N := some 32) (on_ 3 26) rfl rfl (one_of HT_.out (by kernel_rfl)) (by decide) (fun K hK => ?_)
             refine goes_ Try.func70 (by kernel_rfl) rfl #[.string ((rd_T45 l0_0 x25_2).f0)] (by rfl) rfl rfl ar_ ?_
             with_reducible refine (impl_NameOk.calls k2 ((rd_T45 l0_0 x25_2).f0) true _ A20.out).mono ?_
             rintro e w' ⟨rfl, ⟨nd, rfl⟩⟩
             refine ⟨_, rfl, ?_⟩
             refine hK.out _ _ (p3e_ BK111) (fun hHeld => ?_)
             clear hK K
             refine norm_ (a' := ?_) ?_ ?_
             rotate_left
             ·show Act.put _ (some 32) _ = _
              simp only [Act.put, la_, lz_, ls_, i64_w, i32_w]
              rfl
             refine pv_' 3 33 (on_ 4 25) rfl rfl HT_ ?_
             refine pv_' 4 34 (on_ 5 24) rfl rfl HT_ ?_
             refine pv_' 5 35 (on_ 6 23) rfl rfl HT_ ?_
             refine pv_' 7 37 #[i',i',i',i',i',i',o',i',o',o',o',o',o',o',o',o',o',o',o',o',o',o',o',o',o',o',o',o',o'] rfl rfl HT_ ?_
             refine take_ (i := 6) (N := some 36) (v := ?_) (a' := ?_) (on_ 8 21) rfl rfl (take_ofW HT_.out HW_.out (by kernel_rfl)) (fun _ _ _ h => h) (Or.inl ⟨by rfl, ?_⟩) hHeld ?_ ?_
             rotate_left
             ·rintro w' ⟨s0, s1, s2⟩
              go_simp
              with_reducible rfl
             rotate_left
             ·simp only [Act.put, la_, lz_, ls_, i64_w, i32_w]
              rfl
             refine take_ (i := 8) (N := some 38) (v := ?_) (a' := ?_) (on_ 9 20) rfl rfl (take_ofW HT_.out HW_.out (by kernel_rfl)) (fun _ _ _ h => h) (Or.inl ⟨by rfl, ?_⟩) hHeld ?_ ?_
             rotate_left
             ·rintro w' ⟨s0, s1, s2⟩
              go_simp
              with_reducible rfl
             rotate_left
             ·simp only [Act.put, la_, lz_, ls_, i64_w, i32_w]
              rfl
             refine pv_' 9 39 (on_ 10 19) rfl rfl HT_ ?_
             refine one_ (i := 10) (N := some 40) (on_ 11 18) rfl rfl (one_of HT_.out (by kernel_rfl)) (by decide) (fun K hK => ?_)
             refine goes_ Try.func69 (by kernel_rfl) rfl #[.int .i64 ((rd_T45 l0_0 x25_2).f2), .int .i64 0, .int .i64 (((rd_T45 l0_0 x25_2).f1).size : Int)] (by rfl) rfl rfl ar_ ?_
             with_reducible refine (impl_in.calls ((rd_T45 l0_0 x25_2).f2) 0 (((rd_T45 l0_0 x25_2).f1).size : Int) true _ A22.out).mono ?_
             rintro e w' ⟨rfl, ⟨nd, rfl⟩⟩
             refine ⟨_, rfl, ?_⟩
             refine hK.out _ _ (p3e_ BK111) (fun hHeld => ?_)
             clear hK K
             refine norm_ (a' := ?_) ?_ ?_
             rotate_left
             ·show Act.put _ (some 40) _ = _
              simp only [Act.put, la_, lz_, ls_, i64_w, i32_w]
              rfl
             refine pv_' 11 41 (on_ 12 17) rfl rfl HT_ ?_
             refine pv_' 12 42 (on_ 13 16) rfl rfl HT_ ?_
             refine pv_' 13 43 (on_ 14 15) rfl rfl HT_ ?_
             refine pv_' 14 44 (on_ 15 14) rfl rfl HT_ ?_
             refine pv_' 15 45 (on_ 16 13) rfl rfl HT_ ?_
             refine pv_' 16 46 (on_ 17 12) rfl rfl HT_ ?_
             refine pun_' 17 47 (on_ 18 11) rfl rfl HT_ ?_
             refine pun_' 18 48 (on_ 19 10) rfl rfl HT_ ?_
             refine pun_' 19 49 (on_ 20 9) rfl rfl HT_ ?_
             refine pun_' 20 50 (on_ 21 8) rfl rfl HT_ ?_
             refine pun_' 21 51 (on_ 22 7) rfl rfl HT_ ?_
             refine pun_' 22 52 (on_ 23 6) rfl rfl HT_ ?_
             refine pun_' 23 53 (on_ 24 5) rfl rfl HT_ ?_
             refine pun_' 24 54 (on_ 25 4) rfl rfl HT_ ?_
             refine pun_' 25 55 (on_ 26 3) rfl rfl HT_ ?_
             refine pun_' 26 56 (on_ 27 2) rfl rfl HT_ ?_
             refine pv_' 27 57 (on_ 28 1) rfl rfl HT_ ?_
             refine pv_' 28 58 (on_ 29 0) rfl rfl HT_ ?_
             refine done_ (done_of HT_.out (by kernel_rfl)) ?_
             try go_wp2
             go_meet
             case rel => exact ⟨_, (false), rs_, (by first | exact H' | (simp only [hji25]; exact H')), ⟨by have := HJ1.out; have := HK2.out; first | exact Nat.le_refl _ | exact Nat.le_of_succ_le this | omega⟩, ⟨bk_ BK107⟩, ⟨bk_ BK111⟩, ⟨by repeat (first | (with_reducible first | exact HB.out | apply below_alloc | apply pw_below_drewN | apply below_drew1 | refine below_set ?_ GE107.out | refine below_set ?_ GE111.out) | exact HB.out)⟩⟩
           ·replace c23 := Bool.eq_false_iff.mpr c23
            subst c23
            have H1 : (impl_DiskOk.j2 k2 x3_2 l0_0 (l0_0.length : Int) x25_2 true l0_0 a0_1 a0_2 a0_3 ((rd_T45 l0_0 x25_2).f0) ((rd_T45 l0_0 x25_2).f1) ((rd_T45 l0_0 x25_2).f2)) = some r := by rw [if_neg (show ¬ (false = true) by decide)] at H; exact H
            clear H
            have H := H1
            clear H1
            have H' := Aside0.mk H
            clear H
            try go_wp2
            generalize hW_ : (((w17.setCell ⟨gb111, 0, none⟩ (.string ((rd_T45 l0_0 x25_2).f0))).setCell ⟨gb111, 1, none⟩ (.string ((rd_T45 l0_0 x25_2).f1))).setCell ⟨gb111, 2, none⟩ (.int .i64 ((rd_T45 l0_0 x25_2).f2))) = w32
            replace BK107 := uf_ BK107 NB107_111 hW_
            replace BK111 := up_ #[.string ((rd_T45 l0_0 x25_2).f0), .string ((rd_T45 l0_0 x25_2).f1), .int .i64 ((rd_T45 l0_0 x25_2).f2)] BK111 hW_
            replace HB := us_ hW_ (hu_ HB GE107 GE111)
            clear hW_
            replace BK107 := bd_ BK107
            replace BK111 := bd_ BK111
            replace HB := hd_ HB
            refine start_ (n := 29) (S := k3e_ gb111 (.string ((rd_T45 l0_0 x25_2).f0)) (.string ((rd_T45 l0_0 x25_2).f1)) (.int .i64 ((rd_T45 l0_0 x25_2).f2))) (ds := []) (on_ 0 29) (by kernel_rfl) rfl rfl (p3e_ BK111) (fun hHeld => ?_); refine with_tabW impl_DiskOk.tab7 impl_DiskOk.bits7 (fun HT_ HW_ => ?_)
            generalize w32.drew = w33 at BK107 BK111 HB hHeld ⊢
            refine pv_' 0 30 (on_ 1 28) rfl rfl HT_ ?_
            refine take_ (i := 1) (N := some 31) (v := ?_) (a' := ?_) (on_ 2 27) rfl rfl (take_ofW HT_.out HW_.out (by kernel_rfl)) (fun _ _ _ h => h) (Or.inl ⟨by rfl, ?_⟩) hHeld ?_ ?_
            rotate_left
            ·rintro w' ⟨s0, s1, s2⟩
             go_simp
             with_reducible rfl
            rotate_left
            ·simp only [Act.put, la_, lz_, ls_, i64_w, i32_w]
             rfl
            refine one_ (i := 2) (N := some 32) (on_ 3 26) rfl rfl (one_of HT_.out (by kernel_rfl)) (by decide) (fun K hK => ?_)
            refine goes_ Try.func70 (by kernel_rfl) rfl #[.string ((rd_T45 l0_0 x25_2).f0)] (by rfl) rfl rfl ar_ ?_
            with_reducible refine (impl_NameOk.calls k2 ((rd_T45 l0_0 x25_2).f0) true _ A20.out).mono ?_
            rintro e w' ⟨rfl, ⟨nd, rfl⟩⟩
            refine ⟨_, rfl, ?_⟩
            refine hK.out _ _ (p3e_ BK111) (fun hHeld => ?_)
            clear hK K
            refine norm_ (a' := ?_) ?_ ?_
            rotate_left
            ·show Act.put _ (some 32) _ = _
             simp only [Act.put, la_, lz_, ls_, i64_w, i32_w]
             rfl
            refine pv_' 3 33 (on_ 4 25) rfl rfl HT_ ?_
            refine pv_' 4 34 (on_ 5 24) rfl rfl HT_ ?_
            refine pv_' 5 35 (on_ 6 23) rfl rfl HT_ ?_
            refine pv_' 7 37 #[i',i',i',i',i',i',o',i',o',o',o',o',o',o',o',o',o',o',o',o',o',o',o',o',o',o',o',o',o'] rfl rfl HT_ ?_
            refine take_ (i := 6) (N := some 36) (v := ?_) (a' := ?_) (on_ 8 21) rfl rfl (take_ofW HT_.out HW_.out (by kernel_rfl)) (fun _ _ _ h => h) (Or.inl ⟨by rfl, ?_⟩) hHeld ?_ ?_
            rotate_left
            ·rintro w' ⟨s0, s1, s2⟩
             go_simp
             with_reducible rfl
            rotate_left
            ·simp only [Act.put, la_, lz_, ls_, i64_w, i32_w]
             rfl
            refine take_ (i := 8) (N := some 38) (v := ?_) (a' := ?_) (on_ 9 20) rfl rfl (take_ofW HT_.out HW_.out (by kernel_rfl)) (fun _ _ _ h => h) (Or.inl ⟨by rfl, ?_⟩) hHeld ?_ ?_
            rotate_left
            ·rintro w' ⟨s0, s1, s2⟩
             go_simp
             with_reducible rfl
            rotate_left
            ·simp only [Act.put, la_, lz_, ls_, i64_w, i32_w]
             rfl
            refine pv_' 9 39 (on_ 10 19) rfl rfl HT_ ?_
            refine one_ (i := 10) (N := some 40) (on_ 11 18) rfl rfl (one_of HT_.out (by kernel_rfl)) (by decide) (fun K hK => ?_)
            refine goes_ Try.func69 (by kernel_rfl) rfl #[.int .i64 ((rd_T45 l0_0 x25_2).f2), .int .i64 0, .int .i64 (((rd_T45 l0_0 x25_2).f1).size : Int)] (by rfl) rfl rfl ar_ ?_
            with_reducible refine (impl_in.calls ((rd_T45 l0_0 x25_2).f2) 0 (((rd_T45 l0_0 x25_2).f1).size : Int) false _ A22.out).mono ?_
            rintro e w' ⟨rfl, ⟨nd, rfl⟩⟩
            refine ⟨_, rfl, ?_⟩
            refine hK.out _ _ (p3e_ BK111) (fun hHeld => ?_)
            clear hK K
            refine norm_ (a' := ?_) ?_ ?_
            rotate_left
            ·show Act.put _ (some 40) _ = _
             simp only [Act.put, la_, lz_, ls_, i64_w, i32_w]
             rfl
            refine pv_' 11 41 (on_ 12 17) rfl rfl HT_ ?_
            refine pv_' 12 42 (on_ 13 16) rfl rfl HT_ ?_
            refine pv_' 13 43 (on_ 14 15) rfl rfl HT_ ?_
            refine pun_' 14 44 (on_ 15 14) rfl rfl HT_ ?_
            refine pun_' 15 45 (on_ 16 13) rfl rfl HT_ ?_
            refine pun_' 16 46 (on_ 17 12) rfl rfl HT_ ?_
            refine pun_' 17 47 (on_ 18 11) rfl rfl HT_ ?_
            refine pun_' 18 48 (on_ 19 10) rfl rfl HT_ ?_
            refine pun_' 19 49 (on_ 20 9) rfl rfl HT_ ?_
            refine pun_' 20 50 (on_ 21 8) rfl rfl HT_ ?_
            refine pun_' 21 51 (on_ 22 7) rfl rfl HT_ ?_
            refine pun_' 22 52 (on_ 23 6) rfl rfl HT_ ?_
            refine pun_' 23 53 (on_ 24 5) rfl rfl HT_ ?_
            refine pun_' 24 54 (on_ 25 4) rfl rfl HT_ ?_
            refine pun_' 25 55 (on_ 26 3) rfl rfl HT_ ?_
            refine pun_' 26 56 (on_ 27 2) rfl rfl HT_ ?_
            refine pun_' 27 57 (on_ 28 1) rfl rfl HT_ ?_
            refine pv_' 28 58 (on_ 29 0) rfl rfl HT_ ?_
            refine done_ (done_of HT_.out (by kernel_rfl)) ?_
            try go_wp2
            go_meet
            case rel => exact ⟨_, (true), rs_, H', ⟨by have := HJ1.out; have := HK2.out; first | exact Nat.le_refl _ | exact Nat.le_of_succ_le this | omega⟩, ⟨bk_ BK107⟩, ⟨bk_ BK111⟩, ⟨by repeat (first | (with_reducible first | exact HB.out | apply below_alloc | apply pw_below_drewN | apply below_drew1 | refine below_set ?_ GE107.out | refine below_set ?_ GE111.out) | exact HB.out)⟩⟩
          ·replace c21 := Bool.eq_false_iff.mpr c21
           subst c21
           have H1 : (impl_DiskOk.j2 k2 x3_2 l0_0 (l0_0.length : Int) x25_2 true l0_0 a0_1 a0_2 a0_3 ((rd_T45 l0_0 x25_2).f0) ((rd_T45 l0_0 x25_2).f1) ((rd_T45 l0_0 x25_2).f2)) = some r := by rw [if_neg (show ¬ (false = true) by decide)] at H; exact H
           clear H
           have H := H1
           clear H1
           have H' := Aside0.mk H
           clear H
           try go_wp2
           generalize hW_ : (((w17.setCell ⟨gb111, 0, none⟩ (.string ((rd_T45 l0_0 x25_2).f0))).setCell ⟨gb111, 1, none⟩ (.string ((rd_T45 l0_0 x25_2).f1))).setCell ⟨gb111, 2, none⟩ (.int .i64 ((rd_T45 l0_0 x25_2).f2))) = w34
           replace BK107 := uf_ BK107 NB107_111 hW_
           replace BK111 := up_ #[.string ((rd_T45 l0_0 x25_2).f0), .string ((rd_T45 l0_0 x25_2).f1), .int .i64 ((rd_T45 l0_0 x25_2).f2)] BK111 hW_
           replace HB := us_ hW_ (hu_ HB GE107 GE111)
           clear hW_
           replace BK107 := bd_ BK107
           replace BK111 := bd_ BK111
           replace HB := hd_ HB
           refine start_ (n := 29) (S := k3e_ gb111 (.string ((rd_T45 l0_0 x25_2).f0)) (.string ((rd_T45 l0_0 x25_2).f1)) (.int .i64 ((rd_T45 l0_0 x25_2).f2))) (ds := []) (on_ 0 29) (by kernel_rfl) rfl rfl (p3e_ BK111) (fun hHeld => ?_); refine with_tabW impl_DiskOk.tab7 impl_DiskOk.bits7 (fun HT_ HW_ => ?_)
           generalize w34.drew = w35 at BK107 BK111 HB hHeld ⊢
           refine pv_' 0 30 (on_ 1 28) rfl rfl HT_ ?_
           refine take_ (i := 1) (N := some 31) (v := ?_) (a' := ?_) (on_ 2 27) rfl rfl (take_ofW HT_.out HW_.out (by kernel_rfl)) (fun _ _ _ h => h) (Or.inl ⟨by rfl, ?_⟩) hHeld ?_ ?_
           rotate_left
           ·rintro w' ⟨s0, s1, s2⟩
            go_simp
            with_reducible rfl
           rotate_left
           ·simp only [Act.put, la_, lz_, ls_, i64_w, i32_w]
            rfl
           refine one_ (i := 2) (N := some 32) (on_ 3 26) rfl rfl (one_of HT_.out (by kernel_rfl)) (by decide) (fun K hK => ?_)
           refine goes_ Try.func70 (by kernel_rfl) rfl #[.string ((rd_T45 l0_0 x25_2).f0)] (by rfl) rfl rfl ar_ ?_
           with_reducible refine (impl_NameOk.calls k2 ((rd_T45 l0_0 x25_2).f0) false _ A20.out).mono ?_
           rintro e w' ⟨rfl, ⟨nd, rfl⟩⟩
           refine ⟨_, rfl, ?_⟩
           refine hK.out _ _ (p3e_ BK111) (fun hHeld => ?_)
           clear hK K
           refine norm_ (a' := ?_) ?_ ?_
           rotate_left
           ·show Act.put _ (some 32) _ = _
            simp only [Act.put, la_, lz_, ls_, i64_w, i32_w]
            rfl
           refine pv_' 3 33 (on_ 4 25) rfl rfl HT_ ?_
           refine pv_' 4 34 (on_ 5 24) rfl rfl HT_ ?_
           refine pun_' 5 35 (on_ 6 23) rfl rfl HT_ ?_
           refine pun_' 6 36 (on_ 7 22) rfl rfl HT_ ?_
           refine pun_' 7 37 (on_ 8 21) rfl rfl HT_ ?_
           refine pun_' 8 38 (on_ 9 20) rfl rfl HT_ ?_
           refine pun_' 9 39 (on_ 10 19) rfl rfl HT_ ?_
           refine pun_' 10 40 (on_ 11 18) rfl rfl HT_ ?_
           refine pun_' 11 41 (on_ 12 17) rfl rfl HT_ ?_
           refine pv_' 12 42 (on_ 13 16) rfl rfl HT_ ?_
           refine pv_' 13 43 (on_ 14 15) rfl rfl HT_ ?_
           refine pun_' 14 44 (on_ 15 14) rfl rfl HT_ ?_
           refine pun_' 15 45 (on_ 16 13) rfl rfl HT_ ?_
           refine pun_' 16 46 (on_ 17 12) rfl rfl HT_ ?_
           refine pun_' 17 47 (on_ 18 11) rfl rfl HT_ ?_
           refine pun_' 18 48 (on_ 19 10) rfl rfl HT_ ?_
           refine pun_' 19 49 (on_ 20 9) rfl rfl HT_ ?_
           refine pun_' 20 50 (on_ 21 8) rfl rfl HT_ ?_
           refine pun_' 21 51 (on_ 22 7) rfl rfl HT_ ?_
           refine pun_' 22 52 (on_ 23 6) rfl rfl HT_ ?_
           refine pun_' 23 53 (on_ 24 5) rfl rfl HT_ ?_
           refine pun_' 24 54 (on_ 25 4) rfl rfl HT_ ?_
           refine pun_' 25 55 (on_ 26 3) rfl rfl HT_ ?_
           refine pun_' 26 56 (on_ 27 2) rfl rfl HT_ ?_
           refine pun_' 27 57 (on_ 28 1) rfl rfl HT_ ?_
           refine pv_' 28 58 (on_ 29 0) rfl rfl HT_ ?_
           refine done_ (done_of HT_.out (by kernel_rfl)) ?_
           try go_wp2
           go_meet
           case rel => exact ⟨_, (true), rs_, H', ⟨by have := HJ1.out; have := HK2.out; first | exact Nat.le_refl _ | exact Nat.le_of_succ_le this | omega⟩, ⟨bk_ BK107⟩, ⟨bk_ BK111⟩, ⟨by repeat (first | (with_reducible first | exact HB.out | apply below_alloc | apply pw_below_drewN | apply below_drew1 | refine below_set ?_ GE107.out | refine below_set ?_ GE111.out) | exact HB.out)⟩⟩
         case rest =>
          clear HC16
          try clear c2
          try clear p2
          try clear c6
          try clear c7
          try clear c21
          try clear c23
          obtain ⟨kq, x58_15, rfl, HA, HJ15, BK107, BK111, HB⟩ := hcut
          cases kq with
          | zero => exact absurd HA.out (by simp [impl_DiskOk.j2])
          | succ kj15 =>
           have H := HA.out
           clear HA
           simp only [impl_DiskOk.j2] at H
           by_cases c36 : x58_15 = true
           ·subst c36
            have H1 : (some false) = some r := by rw [if_pos rfl] at H; exact H
            clear H
            have H := H1
            clear H1
            obtain rfl := Option.some.inj H
            go_wp2
            go_ret
            exact ⟨re_, by repeat (first | (with_reducible first | exact HB.out | apply below_alloc | apply pw_below_drewN | apply below_drew1 | refine below_set ?_ GE107.out | refine below_set ?_ GE111.out) | exact HB.out)⟩
           ·replace c36 := Bool.eq_false_iff.mpr c36
            subst c36
            have H1 : (impl_DiskOk.l0 kj15 (wrap64 (x3_2 + (((rd_T45 l0_0 x25_2).f1).size : Int))) l0_0 (l0_0.length : Int) (wrap64 (x25_2 + 1)) l0_0 a0_1 a0_2 a0_3) = some r := by rw [if_neg (show ¬ (false = true) by decide)] at H; exact H
            clear H
            have H := H1
            clear H1
            have H' := Aside0.mk H
            clear H
            have hnb37 := NB111_107.out
            have hnc37 := NB107_111.out
            obtain ⟨hcz38_0, hcz38_1, hcz38_2, hfz38_0, hfz38_1, hfz38_2⟩ := bc3_ BK111
            go_wp2
            go_roundg kj15
            case measure => have := HJ1.out; have := HK2.out; have := HJ15.out; omega
            case rel => exact ⟨(wrap64 (x3_2 + (((rd_T45 l0_0 x25_2).f1).size : Int))), (wrap64 (x25_2 + 1)), rs_, rs_, H', ⟨by have := HJ1.out; have := HK2.out; have := HJ15.out; omega⟩, ⟨bk_ BK107⟩, ⟨by repeat (first | (with_reducible first | exact HB.out | apply below_alloc | apply pw_below_drewN | apply below_drew1 | refine below_set ?_ GE107.out | refine below_set ?_ GE111.out) | exact HB.out)⟩⟩
        ·rw [if_neg c15] at H
         exact absurd H (by simp)
       ·rw [if_neg c14] at H
        exact absurd H (by simp)
      ·rw [if_neg c13] at H
       have c13b0 : decide (x25_2 < (l0_0.length : Int)) = false := decide_eq_false c13
       clear c13
       obtain rfl := Option.some.inj H
       obtain ⟨hcz39_0, hcz39_1, hcz39_2, hcz39_3, hfz39_0, hfz39_1, hfz39_2, hfz39_3⟩ := bc4_ BK107
       go_wp2
       go_ret
       exact ⟨re_, hs_ HB GE107⟩

end Go.Proofs.Ytigbekefjbfopaa.PFnPower
