-- Laid by a program of this session, a copy of the kit's printer with additions (wip/patch_print.py): myhead. Lean checks it.
import Derived.Test.YtodmaebgogjpdaaDoorPFnExactOrphansx0
import Derived.Test.YtodmaebgogjpdaaDoorPFnExactOrphansx5
namespace Go.Proofs.YtodmaebgogjpdaaDoor.PFnExactOrphans
open Go.RowKit Go.Proofs.YtodmaebgogjpdaaDoorW.PrintWords Go.Proofs.YtodmaebgogjpdaaDoorW.PrintLast Go.Proofs.YtodmaebgogjpdaaDoorW.PrintMore
theorem bl_swq71768 : ∀ x y : List UInt8, (Op.bytesLess x y || x == y) = !(Op.bytesLess y x)
 | [], [] => by simp [Op.bytesLess]
 | [], _ :: _ => by simp [Op.bytesLess]
 | _ :: _, [] => by simp [Op.bytesLess]
 | a :: x, b :: y => by
  have ih := bl_swq71768 x y
  by_cases e : a = b
  ·subst e
   simp only [Op.bytesLess, List.cons_beq_cons, BEq.rfl, Bool.true_and, UInt8.lt_irrefl, decide_false, Bool.false_or]
   exact ih
  ·have e' : ¬ b = a := fun h => e h.symm
   have h1 : (a == b) = false := by simpa using e
   have h2 : (b == a) = false := by simpa using e'
   simp only [Op.bytesLess, List.cons_beq_cons, h1, h2, Bool.false_and, Bool.or_false]
   by_cases l : a < b
   ·have : ¬ b < a := fun h => UInt8.lt_asymm h l
    simp [l, this]
   ·have : b < a := UInt8.lt_of_le_of_ne (UInt8.not_lt.1 l) e'
    simp [l, this]
theorem bl_leqq71768 (t : TypeId) (a b : ByteArray) : binOp .leq t (.string a) (.string b) = pure (.bool (!(Op.bytesLess b.toList a.toList))) := by simp only [binOp, Op.stringOp, bl_swq71768]
theorem bl_gtrq71768 (t : TypeId) (a b : ByteArray) : binOp .gtr t (.string a) (.string b) = pure (.bool (Op.bytesLess b.toList a.toList)) := by simp only [binOp, Op.stringOp, bl_swq71768, Bool.not_not]
theorem bl_geqq71768 (t : TypeId) (a b : ByteArray) : binOp .geq t (.string a) (.string b) = pure (.bool (!(Op.bytesLess a.toList b.toList))) := by simp only [binOp, Op.stringOp]
attribute [local go_sem] bl_leqq71768 bl_gtrq71768 bl_geqq71768
attribute [local go_sem] max2_int min2_int max_two min_two max_three min_three max_four min_four   -- for this text's walks alone
set_option linter.unusedVariables false
set_option linter.unusedSimpArgs false

/-! ### impl_DiskOk: function 23 -/
mutual
def impl_DiskOk.j0 : Nat → Bool → List (S51) → Int → Int → Bool → Option (Bool)
 | 0, _, _, _, _, _ => none
 | k + 1, x21, x183000, x183001, x183002, x183003 => if x21 = true then (some false) else (impl_DiskOk.l0 k 0 x183000 (x183000.length : Int) 0 x183000 x183001 x183002 x183003)
def impl_DiskOk.l0 : Nat → Int → List (S51) → Int → Int → List (S51) → Int → Int → Bool → Option (Bool)
 | 0, _, _, _, _, _, _, _, _ => none
 | k + 1, x3, x23, x24, x25, x183000, x183001, x183002, x183003 => if x25 < x24 then (if 0 ≤ x25 then (if x25 < (x23.length : Int) then ((impl_NameOk.f k ((rd_T51 x23 x25).f0)).bind fun t187 => (if t187 = true then ((impl_in.f ((rd_T51 x23 x25).f2) 0 (((rd_T51 x23 x25).f1).size : Int)).bind fun t188 => (if t188 = true then (if x25 > 0 then (if 0 ≤ (wrap64 (x25 - 1)) then (if (wrap64 (x25 - 1)) < (x183000.length : Int) then (impl_DiskOk.j2 k x3 x23 x24 x25 (!(Op.bytesLess (((rd_T51 x183000 (wrap64 (x25 - 1))).f0).toList) (((rd_T51 x23 x25).f0).toList))) x183000 x183001 x183002 x183003 ((rd_T51 x23 x25).f0) ((rd_T51 x23 x25).f1) ((rd_T51 x23 x25).f2)) else (none)) else (none)) else (impl_DiskOk.j2 k x3 x23 x24 x25 false x183000 x183001 x183002 x183003 ((rd_T51 x23 x25).f0) ((rd_T51 x23 x25).f1) ((rd_T51 x23 x25).f2))) else (impl_DiskOk.j2 k x3 x23 x24 x25 true x183000 x183001 x183002 x183003 ((rd_T51 x23 x25).f0) ((rd_T51 x23 x25).f1) ((rd_T51 x23 x25).f2)))) else (impl_DiskOk.j2 k x3 x23 x24 x25 true x183000 x183001 x183002 x183003 ((rd_T51 x23 x25).f0) ((rd_T51 x23 x25).f1) ((rd_T51 x23 x25).f2)))) else (none)) else (none)) else (some (decide (x3 ≤ x183001)))
def impl_DiskOk.j2 : Nat → Int → List (S51) → Int → Int → Bool → List (S51) → Int → Int → Bool → ByteArray → ByteArray → Int → Option (Bool)
 | 0, _, _, _, _, _, _, _, _, _, _, _, _ => none
 | k + 1, x3, x23, x24, x25, x58, x183000, x183001, x183002, x183003, x187000, x187001, x187002 => if x58 = true then (some false) else (impl_DiskOk.l0 k (wrap64 (x3 + (x187001.size : Int))) x23 x24 (wrap64 (x25 + 1)) x183000 x183001 x183002 x183003)
end
def impl_DiskOk.f (k : Nat) (l0_0 : List (S51)) (a0_1 : Int) (a0_2 : Int) (a0_3 : Bool) : Option (Bool) := if (l0_0.length : Int) > 130 then (impl_DiskOk.j0 k true l0_0 a0_1 a0_2 a0_3) else ((impl_in.f a0_1 0 100000).bind fun t183 => (if t183 = true then ((impl_in.f a0_2 (-1) 100000).bind fun t184 => (impl_DiskOk.j0 k (!t184) l0_0 a0_1 a0_2 a0_3)) else (impl_DiskOk.j0 k true l0_0 a0_1 a0_2 a0_3)))
theorem impl_DiskOk.mono_l : ∀ k, (∀ y0 y1 y2 y3 y4, LeO (impl_DiskOk.j0 k y0 y1 y2 y3 y4) (impl_DiskOk.j0 (k + 1) y0 y1 y2 y3 y4)) ∧ (∀ y0 y1 y2 y3 y4 y5 y6 y7, LeO (impl_DiskOk.l0 k y0 y1 y2 y3 y4 y5 y6 y7) (impl_DiskOk.l0 (k + 1) y0 y1 y2 y3 y4 y5 y6 y7)) ∧ (∀ y0 y1 y2 y3 y4 y5 y6 y7 y8 y9 y10 y11, LeO (impl_DiskOk.j2 k y0 y1 y2 y3 y4 y5 y6 y7 y8 y9 y10 y11) (impl_DiskOk.j2 (k + 1) y0 y1 y2 y3 y4 y5 y6 y7 y8 y9 y10 y11))
 | 0 => ⟨fun _ _ _ _ _ r h => by simp [impl_DiskOk.j0] at h, fun _ _ _ _ _ _ _ _ r h => by simp [impl_DiskOk.l0] at h, fun _ _ _ _ _ _ _ _ _ _ _ _ r h => by simp [impl_DiskOk.j2] at h⟩
 | k + 1 => by
  obtain ⟨ih0, ih1, ih2⟩ := impl_DiskOk.mono_l k
  refine ⟨?_, ?_, ?_⟩
  ·intro y0 y1 y2 y3 y4
   unfold impl_DiskOk.j0
   repeat' first
   | (with_reducible exact ih0 _ _ _ _ _)
   | (with_reducible exact ih1 _ _ _ _ _ _ _ _)
   | (with_reducible exact ih2 _ _ _ _ _ _ _ _ _ _ _ _)
   | (with_reducible exact impl_NameOk.mono _ _)
   | (with_reducible exact LeO.refl _)
   | (with_reducible exact LeO.none _)
   | (with_reducible refine LeO.ite ?_ ?_)
   | (with_reducible refine LeO.bind ?_ (fun _ => ?_))
   | exact ih0 _ _ _ _ _
   | exact ih1 _ _ _ _ _ _ _ _
   | exact ih2 _ _ _ _ _ _ _ _ _ _ _ _
   | exact impl_NameOk.mono _ _
   | exact LeO.none _
   | refine LeO.ite ?_ ?_
   | refine LeO.bind ?_ (fun _ => ?_)
  ·intro y0 y1 y2 y3 y4 y5 y6 y7
   unfold impl_DiskOk.l0
   repeat' first
   | (with_reducible exact ih0 _ _ _ _ _)
   | (with_reducible exact ih1 _ _ _ _ _ _ _ _)
   | (with_reducible exact ih2 _ _ _ _ _ _ _ _ _ _ _ _)
   | (with_reducible exact impl_NameOk.mono _ _)
   | (with_reducible exact LeO.refl _)
   | (with_reducible exact LeO.none _)
   | (with_reducible refine LeO.ite ?_ ?_)
   | (with_reducible refine LeO.bind ?_ (fun _ => ?_))
   | exact ih0 _ _ _ _ _
   | exact ih1 _ _ _ _ _ _ _ _
   | exact ih2 _ _ _ _ _ _ _ _ _ _ _ _
   | exact impl_NameOk.mono _ _
   | exact LeO.none _
   | refine LeO.ite ?_ ?_
   | refine LeO.bind ?_ (fun _ => ?_)
  ·intro y0 y1 y2 y3 y4 y5 y6 y7 y8 y9 y10 y11
   unfold impl_DiskOk.j2
   repeat' first
   | (with_reducible exact ih0 _ _ _ _ _)
   | (with_reducible exact ih1 _ _ _ _ _ _ _ _)
   | (with_reducible exact ih2 _ _ _ _ _ _ _ _ _ _ _ _)
   | (with_reducible exact impl_NameOk.mono _ _)
   | (with_reducible exact LeO.refl _)
   | (with_reducible exact LeO.none _)
   | (with_reducible refine LeO.ite ?_ ?_)
   | (with_reducible refine LeO.bind ?_ (fun _ => ?_))
   | exact ih0 _ _ _ _ _
   | exact ih1 _ _ _ _ _ _ _ _
   | exact ih2 _ _ _ _ _ _ _ _ _ _ _ _
   | exact impl_NameOk.mono _ _
   | exact LeO.none _
   | refine LeO.ite ?_ ?_
   | refine LeO.bind ?_ (fun _ => ?_)
theorem impl_DiskOk.mono : ∀ a0 a1 a2 a3 k, LeO (impl_DiskOk.f k a0 a1 a2 a3) (impl_DiskOk.f (k + 1) a0 a1 a2 a3) := by
 intro a0 a1 a2 a3 k
 obtain ⟨ih0, ih1, ih2⟩ := impl_DiskOk.mono_l k
 unfold impl_DiskOk.f
 repeat' first
   | (with_reducible exact ih0 _ _ _ _ _)
   | (with_reducible exact ih1 _ _ _ _ _ _ _ _)
   | (with_reducible exact ih2 _ _ _ _ _ _ _ _ _ _ _ _)
   | (with_reducible exact impl_NameOk.mono _ _)
   | (with_reducible exact LeO.refl _)
   | (with_reducible exact LeO.none _)
   | (with_reducible refine LeO.ite ?_ ?_)
   | (with_reducible refine LeO.bind ?_ (fun _ => ?_))
   | exact ih0 _ _ _ _ _
   | exact ih1 _ _ _ _ _ _ _ _
   | exact ih2 _ _ _ _ _ _ _ _ _ _ _ _
   | exact impl_NameOk.mono _ _
   | exact LeO.none _
   | refine LeO.ite ?_ ?_
   | refine LeO.bind ?_ (fun _ => ?_)
def impl_DiskOk.T7 : Bool × List (List Nat × List Nat) := (true, [([], []), ([0], [0]), ([1], [1]), ([2], [2]), ([3, 2], [3]), ([4], [4]), ([5, 4], [4, 5]), ([4], [4]), ([7, 4], [4, 7]), ([8, 4], [4, 8]), ([6, 9, 4, 4], [4, 6, 9]), ([10, 4], [4, 10]), ([4, 11], [4, 11]), ([12, 10], [12]), ([13], [13]), ([14, 13], [13, 14]), ([15, 13, 13], [13, 15]), ([16], [16]), ([17, 16], [16, 17]), ([16], [16]), ([19, 16], [16, 19]), ([18, 20, 16], [16, 18, 20]), ([21, 16], [16, 21]), ([22, 16], [16, 22]), ([16], [16]), ([24, 16], [16, 24]), ([23, 25, 16], [16, 23, 25]), ([16, 26, 13], [13, 16, 26]), ([13, 27], [13, 27])])
def impl_DiskOk.B7 : List Nat := [0, 1, 3, 7, 15, 31, 63, 31, 159, 415, 1023, 2047, 4095, 8191, 16383, 32767, 65535, 131071, 262143, 131071, 655359, 2097151, 4194303, 8388607, 131071, 16908287, 67108863, 134217727, 268435455]
theorem impl_DiskOk.tab7 : rtab .any (opsOf Tryd.f23 7) = impl_DiskOk.T7 := by kernel_rfl
theorem impl_DiskOk.bits7 : waitsOk impl_DiskOk.T7.2 impl_DiskOk.B7 = true := by kernel_rfl
set_option maxHeartbeats 8000000 in
set_option maxRecDepth 100000 in
theorem impl_DiskOk.calls (k : Nat) (A0_0 : Option Addr) (c0_0 : Nat) (l0_0 : List (S51)) (a0_1 : Int) (a0_2 : Int) (a0_3 : Bool) (r : Bool) (w : World) (hr0_0 : Kd.C k51 w A0_0 l0_0.length l0_0) (hc0_0 : l0_0.length ≤ c0_0) (h : impl_DiskOk.f k l0_0 a0_1 a0_2 a0_3 = some r) :
  Calls Tryd.prog 23 #[.agg #[.slice A0_0 l0_0.length c0_0, .int .i64 a0_1, .int .i64 a0_2, .bool a0_3]] w fun e w' => e = .returned (.bool r) ∧ Below w.heap.size w w' := by
 have hu34 := Tryd.underlying34
 have hu51 := Tryd.underlying51
 have HR0_0 := Aside0.mk hr0_0
 have HC0_0 := Aside0.mk hc0_0
 clear hr0_0 hc0_0
 have HB := Aside0.mk (Below.refl w.heap.size w)
 have H : (if (l0_0.length : Int) > 130 then (impl_DiskOk.j0 k true l0_0 a0_1 a0_2 a0_3) else ((impl_in.f a0_1 0 100000).bind fun t183 => (if t183 = true then ((impl_in.f a0_2 (-1) 100000).bind fun t184 => (impl_DiskOk.j0 k (!t184) l0_0 a0_1 a0_2 a0_3)) else (impl_DiskOk.j0 k true l0_0 a0_1 a0_2 a0_3)))) = some r := h
 clear h
 have HC2 := Aside0.mk H
 clear H
 go_enter Tryd.func23, Tryd.ntmps23
 go_upto_region 1 with (first | ((with_reducible refine gate_dst (N := 1) rfl ?_); (try (refine gate_guard (by rfl) ?_; dsimp only)); refine box_event ?hg (N := 1) ?hd (cs := #[.slice A0_0 l0_0.length c0_0, .int .i64 a0_1, .int .i64 a0_2, .bool a0_3]) (t := 34) ?hr ?_; (case hd => rfl); (case hg => rfl); (case hr => first | (go_simp; done) | (go_simp; rfl)); intro gb182 hg w3 hbox hb; have n0_ := Aside0.mk (below_step (hb_ HB) hb); have n1_ := Aside0.mk (hbox); have n2_ := Aside0.mk ((by rw [hg]; exact (below_size (hb_ HB)) : w.heap.size ≤ gb182)); have n3_ := Aside0.mk ((by rw [hg]; exact (below_size (hb_ HB)) : w.heap.size ≤ gb182)); clear HB; have HB := n0_; have BK182 := n1_; have GW182 := n2_; have GE182 := n3_; clear n0_ n1_ n2_ n3_; clear hb hbox hg))
 (try simp only [Act.put, la_, lz_, ls_])
 go_cut [21] (fun v21 wc => ∃ (kq : Nat) (x21_1 : Bool), v21 = .bool x21_1 ∧ Aside0 (impl_DiskOk.j0 kq x21_1 l0_0 a0_1 a0_2 a0_3 = some r) ∧ Aside0 (kq ≤ k) ∧ Aside0 (wc.heap[gb182]? = some (.cells #[(.slice A0_0 l0_0.length c0_0), .int .i64 a0_1, .int .i64 a0_2, .bool a0_3] 34 (0, 0))) ∧ Aside0 (Below w.heap.size w wc))
 case first =>
  have H := HC2.out
  clear HC2
  by_cases c4 : (l0_0.length : Int) > 130
  ·rw [if_pos c4] at H
   have c4b0 : decide (130 < (l0_0.length : Int)) = true := decide_eq_true c4
   have c4b1 : decide (130 < l0_0.length) = true := decide_eq_true (by omega)
   clear c4
   (first | rw [c4b0] | (simp only [i64_w, i32_w]; rw [c4b0]) | skip)
   have H' := Aside0.mk H
   clear H
   have hcz5_0 : w3.cell? ⟨gb182, 0, none⟩ = some (.slice A0_0 l0_0.length c0_0) := (blk_cell BK182.out 0).trans rfl
   have hcz5_1 : w3.cell? ⟨gb182, 1, none⟩ = some (.int .i64 a0_1) := (blk_cell BK182.out 1).trans rfl
   have hcz5_2 : w3.cell? ⟨gb182, 2, none⟩ = some (.int .i64 a0_2) := (blk_cell BK182.out 2).trans rfl
   have hcz5_3 : w3.cell? ⟨gb182, 3, none⟩ = some (.bool a0_3) := (blk_cell BK182.out 3).trans rfl
   have hfz5_0 := blk_frozen BK182.out 0
   have hfz5_1 := blk_frozen BK182.out 1
   have hfz5_2 := blk_frozen BK182.out 2
   have hfz5_3 := blk_frozen BK182.out 3
   go_wp2
   go_meet
   case rel => exact ⟨_, (true), rs_, H', ⟨by first | exact Nat.le_refl _ | exact Nat.le_of_succ_le this | omega⟩, ⟨bk_ BK182⟩, ⟨hs_ HB GE182⟩⟩
  ·rw [if_neg c4] at H
   have c4b0 : decide (130 < (l0_0.length : Int)) = false := decide_eq_false c4
   have c4b1 : decide (130 < l0_0.length) = false := decide_eq_false (by omega)
   clear c4
   (first | rw [c4b0] | (simp only [i64_w, i32_w]; rw [c4b0]) | skip)
   replace H := Option.bind_eq_some_iff.mp H
   obtain ⟨t183, A60, H⟩ := H
   replace H : (if t183 = true then ((impl_in.f a0_2 (-1) 100000).bind fun t184 => (impl_DiskOk.j0 k (!t184) l0_0 a0_1 a0_2 a0_3)) else (impl_DiskOk.j0 k true l0_0 a0_1 a0_2 a0_3)) = some r := H
   have A6 := Aside0.mk A60
   clear A60
   by_cases c7 : t183 = true
   ·subst c7
    have H1 : ((impl_in.f a0_2 (-1) 100000).bind fun t184 => (impl_DiskOk.j0 k (!t184) l0_0 a0_1 a0_2 a0_3)) = some r := by rw [if_pos rfl] at H; exact H
    clear H
    have H := H1
    clear H1
    replace H := Option.bind_eq_some_iff.mp H
    obtain ⟨t184, A80, H⟩ := H
    replace H : (impl_DiskOk.j0 k (!t184) l0_0 a0_1 a0_2 a0_3) = some r := H
    have A8 := Aside0.mk A80
    clear A80
    have H' := Aside0.mk H
    clear H
    have hcz9_0 : w3.cell? ⟨gb182, 0, none⟩ = some (.slice A0_0 l0_0.length c0_0) := (blk_cell BK182.out 0).trans rfl
    have hcz9_1 : w3.cell? ⟨gb182, 1, none⟩ = some (.int .i64 a0_1) := (blk_cell BK182.out 1).trans rfl
    have hcz9_2 : w3.cell? ⟨gb182, 2, none⟩ = some (.int .i64 a0_2) := (blk_cell BK182.out 2).trans rfl
    have hcz9_3 : w3.cell? ⟨gb182, 3, none⟩ = some (.bool a0_3) := (blk_cell BK182.out 3).trans rfl
    have hfz9_0 := blk_frozen BK182.out 0
    have hfz9_1 := blk_frozen BK182.out 1
    have hfz9_2 := blk_frozen BK182.out 2
    have hfz9_3 := blk_frozen BK182.out 3
    go_wp2_with (first | (go_at_call 39; (with_reducible refine (impl_in.calls a0_1 0 100000 true _ A6.out).mono ?_); rintro e w' ⟨rfl, ⟨nd, rfl⟩⟩) | (go_at_call 39; (with_reducible refine (impl_in.calls a0_2 (-1) 100000 t184 _ A8.out).mono ?_); rintro e w' ⟨rfl, ⟨nd, rfl⟩⟩))
    go_meet
    case rel => exact ⟨_, (!t184), rs_, H', ⟨by first | exact Nat.le_refl _ | exact Nat.le_of_succ_le this | omega⟩, ⟨bk_ BK182⟩, ⟨hs_ HB GE182⟩⟩
   ·replace c7 := Bool.eq_false_iff.mpr c7
    subst c7
    have H1 : (impl_DiskOk.j0 k true l0_0 a0_1 a0_2 a0_3) = some r := by rw [if_neg (show ¬ (false = true) by decide)] at H; exact H
    clear H
    have H := H1
    clear H1
    have H' := Aside0.mk H
    clear H
    have hcz10_0 : w3.cell? ⟨gb182, 0, none⟩ = some (.slice A0_0 l0_0.length c0_0) := (blk_cell BK182.out 0).trans rfl
    have hcz10_1 : w3.cell? ⟨gb182, 1, none⟩ = some (.int .i64 a0_1) := (blk_cell BK182.out 1).trans rfl
    have hcz10_2 : w3.cell? ⟨gb182, 2, none⟩ = some (.int .i64 a0_2) := (blk_cell BK182.out 2).trans rfl
    have hcz10_3 : w3.cell? ⟨gb182, 3, none⟩ = some (.bool a0_3) := (blk_cell BK182.out 3).trans rfl
    have hfz10_0 := blk_frozen BK182.out 0
    have hfz10_1 := blk_frozen BK182.out 1
    have hfz10_2 := blk_frozen BK182.out 2
    have hfz10_3 := blk_frozen BK182.out 3
    go_wp2_with (first | (go_at_call 39; (with_reducible refine (impl_in.calls a0_1 0 100000 false _ A6.out).mono ?_); rintro e w' ⟨rfl, ⟨nd, rfl⟩⟩))
    go_meet
    case rel => exact ⟨_, (true), rs_, H', ⟨by first | exact Nat.le_refl _ | exact Nat.le_of_succ_le this | omega⟩, ⟨bk_ BK182⟩, ⟨hs_ HB GE182⟩⟩
 case rest =>
  clear HC2
  try clear c2
  try clear p2
  try clear c4
  try clear c4b0
  try clear c4b1
  try clear c7
  try clear hcz10_0
  try clear hcz10_1
  try clear hcz10_2
  try clear hcz10_3
  try clear hcz5_0
  try clear hcz5_1
  try clear hcz5_2
  try clear hcz5_3
  try clear hcz9_0
  try clear hcz9_1
  try clear hcz9_2
  try clear hcz9_3
  try clear hfz10_0
  try clear hfz10_1
  try clear hfz10_2
  try clear hfz10_3
  try clear hfz5_0
  try clear hfz5_1
  try clear hfz5_2
  try clear hfz5_3
  try clear hfz9_0
  try clear hfz9_1
  try clear hfz9_2
  try clear hfz9_3
  obtain ⟨kq, x21_1, rfl, HA, HJ1, BK182, HB⟩ := hcut
  cases kq with
  | zero => exact absurd HA.out (by simp [impl_DiskOk.j0])
  | succ kj1 =>
   have H := HA.out
   clear HA
   simp only [impl_DiskOk.j0] at H
   by_cases c11 : x21_1 = true
   ·subst c11
    have H1 : (some false) = some r := by rw [if_pos rfl] at H; exact H
    clear H
    have H := H1
    clear H1
    obtain rfl := Option.some.inj H
    go_wp2
    go_ret
    exact ⟨re_, hs_ HB GE182⟩
   ·replace c11 := Bool.eq_false_iff.mpr c11
    subst c11
    have H1 : (impl_DiskOk.l0 kj1 0 l0_0 (l0_0.length : Int) 0 l0_0 a0_1 a0_2 a0_3) = some r := by rw [if_neg (show ¬ (false = true) by decide)] at H; exact H
    clear H
    have H := H1
    clear H1
    have H' := Aside0.mk H
    clear H
    have hcz12_0 : wc.cell? ⟨gb182, 0, none⟩ = some (.slice A0_0 l0_0.length c0_0) := (blk_cell BK182.out 0).trans rfl
    have hcz12_1 : wc.cell? ⟨gb182, 1, none⟩ = some (.int .i64 a0_1) := (blk_cell BK182.out 1).trans rfl
    have hcz12_2 : wc.cell? ⟨gb182, 2, none⟩ = some (.int .i64 a0_2) := (blk_cell BK182.out 2).trans rfl
    have hcz12_3 : wc.cell? ⟨gb182, 3, none⟩ = some (.bool a0_3) := (blk_cell BK182.out 3).trans rfl
    have hfz12_0 := blk_frozen BK182.out 0
    have hfz12_1 := blk_frozen BK182.out 1
    have hfz12_2 := blk_frozen BK182.out 2
    have hfz12_3 := blk_frozen BK182.out 3
    go_wp2
    go_loopg [3, 25] kj1 (fun kq v3 v25 w' => ∃ (x3_2 : Int) (x25_2 : Int), v3 = .int .i64 x3_2 ∧ v25 = .int .i64 x25_2 ∧ Aside0 (impl_DiskOk.l0 kq x3_2 l0_0 (l0_0.length : Int) x25_2 l0_0 a0_1 a0_2 a0_3 = some r) ∧ Aside0 (kq ≤ kj1) ∧ Aside0 (w'.heap[gb182]? = some (.cells #[(.slice A0_0 l0_0.length c0_0), .int .i64 a0_1, .int .i64 a0_2, .bool a0_3] 34 (0, 0))) ∧ Aside0 (Below w.heap.size w w'))
    case atStart => exact ⟨(0), (0), rs_, rs_, H', ⟨Nat.le_refl _⟩, ⟨bk_ BK182⟩, ⟨hs_ HB GE182⟩⟩
    case round =>
     clear H'
     try clear c1
     try clear c2
     try clear p2
     try clear c4
     try clear c4b0
     try clear c4b1
     try clear c7
     try clear c11
     try clear hcz10_0
     try clear hcz10_1
     try clear hcz10_2
     try clear hcz10_3
     try clear hcz12_0
     try clear hcz12_1
     try clear hcz12_2
     try clear hcz12_3
     try clear hcz5_0
     try clear hcz5_1
     try clear hcz5_2
     try clear hcz5_3
     try clear hcz9_0
     try clear hcz9_1
     try clear hcz9_2
     try clear hcz9_3
     try clear hfz10_0
     try clear hfz10_1
     try clear hfz10_2
     try clear hfz10_3
     try clear hfz12_0
     try clear hfz12_1
     try clear hfz12_2
     try clear hfz12_3
     try clear hfz5_0
     try clear hfz5_1
     try clear hfz5_2
     try clear hfz5_3
     try clear hfz9_0
     try clear hfz9_1
     try clear hfz9_2
     try clear hfz9_3
     try clear p2
     obtain ⟨x3_2, x25_2, rfl, rfl, HA, HK2, BK182, HB⟩ := hrel
     cases gk with
     | zero => exact absurd HA.out (by simp [impl_DiskOk.l0])
     | succ k2 =>
      have H := HA.out
      clear HA
      simp only [impl_DiskOk.l0] at H
      by_cases c13 : x25_2 < (l0_0.length : Int)
      ·rw [if_pos c13] at H
       have c13b0 : decide (x25_2 < (l0_0.length : Int)) = true := decide_eq_true c13
       clear c13
       by_cases c14 : 0 ≤ x25_2
       ·rw [if_pos c14] at H
        have c14b0 : decide (0 ≤ x25_2) = true := decide_eq_true c14
        clear c14
        by_cases c15 : x25_2 < (l0_0.length : Int)
        ·rw [if_pos c15] at H
         have c15b0 : decide (x25_2 < (l0_0.length : Int)) = true := decide_eq_true c15
         clear c15
         have HC16 := Aside0.mk H
         clear H
         have p185 : 0 ≤ (x25_2 : Int) := of_decide_eq_true as_
         have q185 : x25_2 < (l0_0.length : Int) := of_decide_eq_true as_
         obtain ⟨ad185, e185, hx185_0, hx185_1, hx185_2⟩ := at_T51 HR0_0.out x25_2 p185 q185
         cases e185
         replace hx185_0 := cb_ HB hx185_0
         replace hx185_1 := cb_ HB hx185_1
         replace hx185_2 := cb_ HB hx185_2
         replace p185 := eq_true p185
         replace q185 := eq_true q185
         go_upto_region 7 with (first | ((with_reducible refine gate_dst (N := 5) rfl ?_); (try (refine gate_guard (by rfl) ?_; dsimp only)); refine box_event ?hg (N := 5) ?hd (cs := #[.string (⟨#[]⟩ : ByteArray), .string (⟨#[]⟩ : ByteArray), .int .i64 0]) (t := 51) ?hr ?_; (case hd => rfl); (case hg => rfl); (case hr => first | (go_simp; done) | (go_simp; rfl)); intro gb186 hg w17 hbox hb; have n0_ := Aside0.mk (blk_below (g := gb182) (o := .cells #[.slice (some ad185) l0_0.length c0_0, .int .i64 a0_1, .int .i64 a0_2, .bool a0_3] 34 (0, 0)) (bk_ BK182) hb); have n1_ := Aside0.mk (below_step (hs_ HB GE182) hb); have n2_ := Aside0.mk (hbox); have n3_ := Aside0.mk ((by rw [hg]; exact (below_size (hs_ HB GE182)) : w.heap.size ≤ gb186)); have n4_ := Aside0.mk ((by rw [hg]; exact (below_size (hs_ HB GE182)) : w.heap.size ≤ gb186)); have n5_ := Aside0.mk ((by rw [hg]; exact Nat.ne_of_lt (blk_lt (g := gb182) (o := .cells #[.slice (some ad185) l0_0.length c0_0, .int .i64 a0_1, .int .i64 a0_2, .bool a0_3] 34 (0, 0)) (bk_ BK182)) : gb182 ≠ gb186)); have n6_ := Aside0.mk ((by rw [hg]; exact Nat.ne_of_gt (blk_lt (g := gb182) (o := .cells #[.slice (some ad185) l0_0.length c0_0, .int .i64 a0_1, .int .i64 a0_2, .bool a0_3] 34 (0, 0)) (bk_ BK182)) : gb186 ≠ gb182)); clear BK182; clear HB; have BK182 := n0_; have HB := n1_; have BK186 := n2_; have GW186 := n3_; have GE186 := n4_; have NB182_186 := n5_; have NB186_182 := n6_; clear n0_ n1_ n2_ n3_ n4_ n5_ n6_; clear hb hbox hg; have hnb18 := NB186_182.out; have hnc18 := NB182_186.out; have hcz19_0 : w17.cell? ⟨gb186, 0, none⟩ = some (.string (⟨#[]⟩ : ByteArray)) := (blk_cell BK186.out 0).trans rfl; have hcz19_1 : w17.cell? ⟨gb186, 1, none⟩ = some (.string (⟨#[]⟩ : ByteArray)) := (blk_cell BK186.out 1).trans rfl; have hcz19_2 : w17.cell? ⟨gb186, 2, none⟩ = some (.int .i64 0) := (blk_cell BK186.out 2).trans rfl; have hfz19_0 := blk_frozen BK186.out 0; have hfz19_1 := blk_frozen BK186.out 1; have hfz19_2 := blk_frozen BK186.out 2))
         (try simp only [Act.put, la_, lz_, ls_])
         go_cut [58] (fun v58 wc => ∃ (kq : Nat) (x58_15 : Bool), v58 = .bool x58_15 ∧ Aside0 (impl_DiskOk.j2 kq x3_2 l0_0 (l0_0.length : Int) x25_2 x58_15 l0_0 a0_1 a0_2 a0_3 ((rd_T51 l0_0 x25_2).f0) ((rd_T51 l0_0 x25_2).f1) ((rd_T51 l0_0 x25_2).f2) = some r) ∧ Aside0 (kq ≤ k2) ∧ Aside0 (wc.heap[gb182]? = some (.cells #[(.slice (some ad185) l0_0.length c0_0), .int .i64 a0_1, .int .i64 a0_2, .bool a0_3] 34 (0, 0))) ∧ Aside0 (wc.heap[gb186]? = some (.cells #[.string ((rd_T51 l0_0 x25_2).f0), .string ((rd_T51 l0_0 x25_2).f1), .int .i64 ((rd_T51 l0_0 x25_2).f2)] 51 (0, 0))) ∧ Aside0 (Below w.heap.size w wc))
         case first =>
          have H := HC16.out
          clear HC16
          replace H := Option.bind_eq_some_iff.mp H
          obtain ⟨t187, A200, H⟩ := H
          replace H : (if t187 = true then ((impl_in.f ((rd_T51 l0_0 x25_2).f2) 0 (((rd_T51 l0_0 x25_2).f1).size : Int)).bind fun t188 => (if t188 = true then (if x25_2 > 0 then (if 0 ≤ (wrap64 (x25_2 - 1)) then (if (wrap64 (x25_2 - 1)) < (l0_0.length : Int) then (impl_DiskOk.j2 k2 x3_2 l0_0 (l0_0.length : Int) x25_2 (!(Op.bytesLess (((rd_T51 l0_0 (wrap64 (x25_2 - 1))).f0).toList) (((rd_T51 l0_0 x25_2).f0).toList))) l0_0 a0_1 a0_2 a0_3 ((rd_T51 l0_0 x25_2).f0) ((rd_T51 l0_0 x25_2).f1) ((rd_T51 l0_0 x25_2).f2)) else (none)) else (none)) else (impl_DiskOk.j2 k2 x3_2 l0_0 (l0_0.length : Int) x25_2 false l0_0 a0_1 a0_2 a0_3 ((rd_T51 l0_0 x25_2).f0) ((rd_T51 l0_0 x25_2).f1) ((rd_T51 l0_0 x25_2).f2))) else (impl_DiskOk.j2 k2 x3_2 l0_0 (l0_0.length : Int) x25_2 true l0_0 a0_1 a0_2 a0_3 ((rd_T51 l0_0 x25_2).f0) ((rd_T51 l0_0 x25_2).f1) ((rd_T51 l0_0 x25_2).f2)))) else (impl_DiskOk.j2 k2 x3_2 l0_0 (l0_0.length : Int) x25_2 true l0_0 a0_1 a0_2 a0_3 ((rd_T51 l0_0 x25_2).f0) ((rd_T51 l0_0 x25_2).f1) ((rd_T51 l0_0 x25_2).f2))) = some r := H
          have A20 := Aside0.mk A200
          clear A200
          by_cases c21 : t187 = true
          ·subst c21
           have H1 : ((impl_in.f ((rd_T51 l0_0 x25_2).f2) 0 (((rd_T51 l0_0 x25_2).f1).size : Int)).bind fun t188 => (if t188 = true then (if x25_2 > 0 then (if 0 ≤ (wrap64 (x25_2 - 1)) then (if (wrap64 (x25_2 - 1)) < (l0_0.length : Int) then (impl_DiskOk.j2 k2 x3_2 l0_0 (l0_0.length : Int) x25_2 (!(Op.bytesLess (((rd_T51 l0_0 (wrap64 (x25_2 - 1))).f0).toList) (((rd_T51 l0_0 x25_2).f0).toList))) l0_0 a0_1 a0_2 a0_3 ((rd_T51 l0_0 x25_2).f0) ((rd_T51 l0_0 x25_2).f1) ((rd_T51 l0_0 x25_2).f2)) else (none)) else (none)) else (impl_DiskOk.j2 k2 x3_2 l0_0 (l0_0.length : Int) x25_2 false l0_0 a0_1 a0_2 a0_3 ((rd_T51 l0_0 x25_2).f0) ((rd_T51 l0_0 x25_2).f1) ((rd_T51 l0_0 x25_2).f2))) else (impl_DiskOk.j2 k2 x3_2 l0_0 (l0_0.length : Int) x25_2 true l0_0 a0_1 a0_2 a0_3 ((rd_T51 l0_0 x25_2).f0) ((rd_T51 l0_0 x25_2).f1) ((rd_T51 l0_0 x25_2).f2)))) = some r := by rw [if_pos rfl] at H; exact H
           clear H
           have H := H1
           clear H1
           replace H := Option.bind_eq_some_iff.mp H
           obtain ⟨t188, A220, H⟩ := H
           replace H : (if t188 = true then (if x25_2 > 0 then (if 0 ≤ (wrap64 (x25_2 - 1)) then (if (wrap64 (x25_2 - 1)) < (l0_0.length : Int) then (impl_DiskOk.j2 k2 x3_2 l0_0 (l0_0.length : Int) x25_2 (!(Op.bytesLess (((rd_T51 l0_0 (wrap64 (x25_2 - 1))).f0).toList) (((rd_T51 l0_0 x25_2).f0).toList))) l0_0 a0_1 a0_2 a0_3 ((rd_T51 l0_0 x25_2).f0) ((rd_T51 l0_0 x25_2).f1) ((rd_T51 l0_0 x25_2).f2)) else (none)) else (none)) else (impl_DiskOk.j2 k2 x3_2 l0_0 (l0_0.length : Int) x25_2 false l0_0 a0_1 a0_2 a0_3 ((rd_T51 l0_0 x25_2).f0) ((rd_T51 l0_0 x25_2).f1) ((rd_T51 l0_0 x25_2).f2))) else (impl_DiskOk.j2 k2 x3_2 l0_0 (l0_0.length : Int) x25_2 true l0_0 a0_1 a0_2 a0_3 ((rd_T51 l0_0 x25_2).f0) ((rd_T51 l0_0 x25_2).f1) ((rd_T51 l0_0 x25_2).f2))) = some r := H
           have A22 := Aside0.mk A220
           clear A220
           by_cases c23 : t188 = true
           ·subst c23
            have H1 : (if x25_2 > 0 then (if 0 ≤ (wrap64 (x25_2 - 1)) then (if (wrap64 (x25_2 - 1)) < (l0_0.length : Int) then (impl_DiskOk.j2 k2 x3_2 l0_0 (l0_0.length : Int) x25_2 (!(Op.bytesLess (((rd_T51 l0_0 (wrap64 (x25_2 - 1))).f0).toList) (((rd_T51 l0_0 x25_2).f0).toList))) l0_0 a0_1 a0_2 a0_3 ((rd_T51 l0_0 x25_2).f0) ((rd_T51 l0_0 x25_2).f1) ((rd_T51 l0_0 x25_2).f2)) else (none)) else (none)) else (impl_DiskOk.j2 k2 x3_2 l0_0 (l0_0.length : Int) x25_2 false l0_0 a0_1 a0_2 a0_3 ((rd_T51 l0_0 x25_2).f0) ((rd_T51 l0_0 x25_2).f1) ((rd_T51 l0_0 x25_2).f2))) = some r := by rw [if_pos rfl] at H; exact H
            clear H
            have H := H1
            clear H1
            by_cases c24 : x25_2 > 0
            ·rw [if_pos c24] at H
             have c24b0 : decide (0 < x25_2) = true := decide_eq_true c24
             clear c24
             (first | rw [c24b0] | (simp only [i64_w, i32_w]; rw [c24b0]) | skip)
             obtain ⟨ji25, hji25⟩ : ∃ j_ : Int, (wrap64 (x25_2 - 1)) = j_ := ⟨_, rfl⟩
             replace H : (if 0 ≤ (ji25) then (if (ji25) < (l0_0.length : Int) then (impl_DiskOk.j2 k2 x3_2 l0_0 (l0_0.length : Int) x25_2 (!(Op.bytesLess (((rd_T51 l0_0 (ji25)).f0).toList) (((rd_T51 l0_0 x25_2).f0).toList))) l0_0 a0_1 a0_2 a0_3 ((rd_T51 l0_0 x25_2).f0) ((rd_T51 l0_0 x25_2).f1) ((rd_T51 l0_0 x25_2).f2)) else (none)) else (none)) = some r := by first | (rw [hji25] at H; exact H) | (simp only [hji25] at H ⊢; exact H)
             (try rw [hji25] at A20)
             (try rw [hji25] at A22)
             have hji25w : (IntKind.i64.wrap (x25_2 - 1)) = ji25 := (i64_w _).trans hji25
             by_cases c26 : 0 ≤ (ji25)
             ·rw [if_pos c26] at H
              have c26b0 : decide (0 ≤ (ji25)) = true := decide_eq_true c26
              clear c26
              by_cases c27 : (ji25) < (l0_0.length : Int)
              ·rw [if_pos c27] at H
               have c27b0 : decide ((ji25) < (l0_0.length : Int)) = true := decide_eq_true c27
               clear c27
               have H' := Aside0.mk H
               clear H
               try go_wp2
               have n0_ : Aside0 ((((w17.setCell ⟨gb186, 0, none⟩ (.string ((rd_T51 l0_0 x25_2).f0))).setCell ⟨gb186, 1, none⟩ (.string ((rd_T51 l0_0 x25_2).f1))).setCell ⟨gb186, 2, none⟩ (.int .i64 ((rd_T51 l0_0 x25_2).f2))).heap[gb182]? = some (.cells #[.slice (some ad185) l0_0.length c0_0, .int .i64 a0_1, .int .i64 a0_2, .bool a0_3] 34 (0, 0))) := ⟨by (with_reducible repeat (first | refine blk_drewN ?_ _ | refine blk_drew ?_ | refine blk_alloc ?_ _)); refine blk_far ?_ NB182_186.out _; (with_reducible repeat (first | refine blk_drewN ?_ _ | refine blk_drew ?_ | refine blk_alloc ?_ _)); refine blk_far ?_ NB182_186.out _; (with_reducible repeat (first | refine blk_drewN ?_ _ | refine blk_drew ?_ | refine blk_alloc ?_ _)); refine blk_far ?_ NB182_186.out _; (with_reducible repeat (first | refine blk_drewN ?_ _ | refine blk_drew ?_ | refine blk_alloc ?_ _)); exact BK182.out⟩
               have n1_ : Aside0 ((((w17.setCell ⟨gb186, 0, none⟩ (.string ((rd_T51 l0_0 x25_2).f0))).setCell ⟨gb186, 1, none⟩ (.string ((rd_T51 l0_0 x25_2).f1))).setCell ⟨gb186, 2, none⟩ (.int .i64 ((rd_T51 l0_0 x25_2).f2))).heap[gb186]? = some (.cells #[.string ((rd_T51 l0_0 x25_2).f0), .string ((rd_T51 l0_0 x25_2).f1), .int .i64 ((rd_T51 l0_0 x25_2).f2)] 51 (0, 0))) := ⟨by (with_reducible repeat (first | refine blk_drewN ?_ _ | refine blk_drew ?_ | refine blk_alloc ?_ _)); refine blk_put (cs := #[.string ((rd_T51 l0_0 x25_2).f0), .string ((rd_T51 l0_0 x25_2).f1), .int .i64 0]) ?_ 2 _ rfl; (with_reducible repeat (first | refine blk_drewN ?_ _ | refine blk_drew ?_ | refine blk_alloc ?_ _)); refine blk_put (cs := #[.string ((rd_T51 l0_0 x25_2).f0), .string (⟨#[]⟩ : ByteArray), .int .i64 0]) ?_ 1 _ rfl; (with_reducible repeat (first | refine blk_drewN ?_ _ | refine blk_drew ?_ | refine blk_alloc ?_ _)); refine blk_put (cs := #[.string (⟨#[]⟩ : ByteArray), .string (⟨#[]⟩ : ByteArray), .int .i64 0]) ?_ 0 _ rfl; (with_reducible repeat (first | refine blk_drewN ?_ _ | refine blk_drew ?_ | refine blk_alloc ?_ _)); exact BK186.out⟩
               have n2_ : Aside0 (Below w.heap.size w (((w17.setCell ⟨gb186, 0, none⟩ (.string ((rd_T51 l0_0 x25_2).f0))).setCell ⟨gb186, 1, none⟩ (.string ((rd_T51 l0_0 x25_2).f1))).setCell ⟨gb186, 2, none⟩ (.int .i64 ((rd_T51 l0_0 x25_2).f2)))) := ⟨by repeat (first | (with_reducible first | exact HB.out | apply below_alloc | apply pw_below_drewN | apply below_drew1 | refine below_set ?_ GE182.out | refine below_set ?_ GE186.out) | exact HB.out)⟩
               (try clear BK182)
               (try clear BK186)
               (try clear HB)
               generalize (((w17.setCell ⟨gb186, 0, none⟩ (.string ((rd_T51 l0_0 x25_2).f0))).setCell ⟨gb186, 1, none⟩ (.string ((rd_T51 l0_0 x25_2).f1))).setCell ⟨gb186, 2, none⟩ (.int .i64 ((rd_T51 l0_0 x25_2).f2))) = w28 at n0_ n1_ n2_ ⊢
               have BK182 := n0_
               have BK186 := n1_
               have HB := n2_
               clear n0_ n1_ n2_
               have n0_ := Aside0.mk (blk_drew BK182.out)
               have n1_ := Aside0.mk (blk_drew BK186.out)
               have n2_ := Aside0.mk (below_drew1 HB.out)
               clear BK182
               clear BK186
               clear HB
               have BK182 := n0_
               have BK186 := n1_
               have HB := n2_
               clear n0_ n1_ n2_
               have p189 : 0 ≤ ((ji25) : Int) := of_decide_eq_true as_
               have q189 : (ji25) < (l0_0.length : Int) := of_decide_eq_true as_
               obtain ⟨ad189, e189, hx189_0, hx189_1, hx189_2⟩ := at_T51 HR0_0.out (ji25) p189 q189
               have hw189_2 := hx189_2
               have hw189_1 := hx189_1
               have hw189_0 := hx189_0
               obtain rfl : ad185 = ad189 := (by injection e189)
               replace hx189_0 := cb_ HB hx189_0
               replace hx189_1 := cb_ HB hx189_1
               replace hx189_2 := cb_ HB hx189_2
               replace p189 := eq_true p189
               replace q189 := eq_true q189
               refine start_ (n := 29) (S := fun w' => w'.cell? ⟨gb186, 0, none⟩ = some (.string ((rd_T51 l0_0 x25_2).f0)) ∧ w'.cell? ⟨gb186, 1, none⟩ = some (.string ((rd_T51 l0_0 x25_2).f1)) ∧ w'.cell? ⟨gb186, 2, none⟩ = some (.int .i64 ((rd_T51 l0_0 x25_2).f2)) ∧ w'.cell? ⟨gb182, 0, none⟩ = some (.slice (some ad185) l0_0.length c0_0) ∧ w'.cell? ⟨gb182, 1, none⟩ = some (.int .i64 a0_1) ∧ w'.cell? ⟨gb182, 2, none⟩ = some (.int .i64 a0_2) ∧ w'.cell? ⟨gb182, 3, none⟩ = some (.bool a0_3) ∧ w'.cell? (ad185.add (((ji25)).toNat * 3)) = some (.string ((rd_T51 l0_0 (ji25)).f0)) ∧ w'.cell? ⟨(ad185.add (((ji25)).toNat * 3)).block, (ad185.add (((ji25)).toNat * 3)).off + 1, none⟩ = some (.string ((rd_T51 l0_0 (ji25)).f1)) ∧ w'.cell? ⟨(ad185.add (((ji25)).toNat * 3)).block, (ad185.add (((ji25)).toNat * 3)).off + 2, none⟩ = some (.int .i64 ((rd_T51 l0_0 (ji25)).f2))) (ds := []) #[o',o',o',o',o',o',o',o',o',o',o',o',o',o',o',o',o',o',o',o',o',o',o',o',o',o',o',o',o'] (by kernel_rfl) rfl rfl ⟨(blk_cell BK186.out 0).trans rfl, (blk_cell BK186.out 1).trans rfl, (blk_cell BK186.out 2).trans rfl, (blk_cell BK182.out 0).trans rfl, (blk_cell BK182.out 1).trans rfl, (blk_cell BK182.out 2).trans rfl, (blk_cell BK182.out 3).trans rfl, (cb_ HB hw189_0 :), (cb_ HB hw189_1 :), (cb_ HB hw189_2 :)⟩ (fun hHeld => ?_); refine with_tabW impl_DiskOk.tab7 impl_DiskOk.bits7 (fun HT_ HW_ => ?_)
               generalize w28.drew = w29 at BK182 BK186 HB hx189_0 hx189_1 hx189_2 hHeld ⊢
               refine pu_ (i := 0) (N := some 30) (v := ?_) (a' := ?_) #[i',o',o',o',o',o',o',o',o',o',o',o',o',o',o',o',o',o',o',o',o',o',o',o',o',o',o',o',o'] rfl rfl HT_ (Or.inl ⟨by rfl, ?_⟩) ?_ ?_
               rotate_left;·intro w';go_simp;with_reducible rfl
               rotate_left;·simp only [Act.put, la_, lz_, ls_, i64_w, i32_w];rfl
               refine take_ (i := 1) (N := some 31) (v := ?_) (a' := ?_) #[i',i',o',o',o',o',o',o',o',o',o',o',o',o',o',o',o',o',o',o',o',o',o',o',o',o',o',o',o'] rfl rfl (take_ofW HT_.out HW_.out (by kernel_rfl)) (fun _ _ _ h => h) (Or.inl ⟨by rfl, ?_⟩) hHeld ?_ ?_
               rotate_left
               ·rintro w' ⟨s0, s1, s2, s3, s4, s5, s6, s7, s8, s9⟩
                go_simp
                with_reducible rfl
               rotate_left
               ·simp only [Act.put, la_, lz_, ls_, i64_w, i32_w]
                rfl
               refine one_ (i := 2) (N := some 32) #[i',i',i',o',o',o',o',o',o',o',o',o',o',o',o',o',o',o',o',o',o',o',o',o',o',o',o',o',o'] rfl rfl (one_of HT_.out (by kernel_rfl)) (by decide) (fun K hK => ?_)
               refine goes_ Tryd.func40 (by kernel_rfl) rfl #[.string ((rd_T51 l0_0 x25_2).f0)] (by rfl) rfl rfl ar_ ?_
               with_reducible refine (impl_NameOk.calls k2 ((rd_T51 l0_0 x25_2).f0) true _ A20.out).mono ?_
               rintro e w' ⟨rfl, ⟨nd, rfl⟩⟩
               refine ⟨_, rfl, ?_⟩
               refine hK.out _ _ ⟨(blk_cell BK186.out 0).trans rfl, (blk_cell BK186.out 1).trans rfl, (blk_cell BK186.out 2).trans rfl, (blk_cell BK182.out 0).trans rfl, (blk_cell BK182.out 1).trans rfl, (blk_cell BK182.out 2).trans rfl, (blk_cell BK182.out 3).trans rfl, (cb_ HB hw189_0 :), (cb_ HB hw189_1 :), (cb_ HB hw189_2 :)⟩ (fun hHeld => ?_)
               clear hK K
               refine norm_ (a' := ?_) ?_ ?_
               rotate_left
               ·show Act.put _ (some 32) _ = _
                simp only [Act.put, la_, lz_, ls_, i64_w, i32_w]
                rfl
               refine pu_ (i := 3) (N := some 33) (v := ?_) (a' := ?_) #[i',i',i',i',o',o',o',o',o',o',o',o',o',o',o',o',o',o',o',o',o',o',o',o',o',o',o',o',o'] rfl rfl HT_ (Or.inl ⟨by rfl, ?_⟩) ?_ ?_
               rotate_left;·intro w';go_simp;with_reducible rfl
               rotate_left;·simp only [Act.put, la_, lz_, ls_, i64_w, i32_w];rfl
               refine pu_ (i := 4) (N := some 34) (v := ?_) (a' := ?_) #[i',i',i',i',i',o',o',o',o',o',o',o',o',o',o',o',o',o',o',o',o',o',o',o',o',o',o',o',o'] rfl rfl HT_ (Or.inl ⟨by rfl, ?_⟩) ?_ ?_
               rotate_left;·intro w';go_simp;with_reducible rfl
               rotate_left;·simp only [Act.put, la_, lz_, ls_, i64_w, i32_w];rfl
               refine pu_ (i := 5) (N := some 35) (v := ?_) (a' := ?_) #[i',i',i',i',i',i',o',o',o',o',o',o',o',o',o',o',o',o',o',o',o',o',o',o',o',o',o',o',o'] rfl rfl HT_ (Or.inl ⟨by rfl, ?_⟩) ?_ ?_
               rotate_left;·intro w';go_simp;with_reducible rfl
               rotate_left;·simp only [Act.put, la_, lz_, ls_, i64_w, i32_w];rfl
               refine pu_ (i := 7) (N := some 37) (v := ?_) (a' := ?_) #[i',i',i',i',i',i',o',i',o',o',o',o',o',o',o',o',o',o',o',o',o',o',o',o',o',o',o',o',o'] rfl rfl HT_ (Or.inl ⟨by rfl, ?_⟩) ?_ ?_
               rotate_left;·intro w';go_simp;with_reducible rfl
               rotate_left;·simp only [Act.put, la_, lz_, ls_, i64_w, i32_w];rfl
               refine take_ (i := 6) (N := some 36) (v := ?_) (a' := ?_) #[i',i',i',i',i',i',i',i',o',o',o',o',o',o',o',o',o',o',o',o',o',o',o',o',o',o',o',o',o'] rfl rfl (take_ofW HT_.out HW_.out (by kernel_rfl)) (fun _ _ _ h => h) (Or.inl ⟨by rfl, ?_⟩) hHeld ?_ ?_
               rotate_left
               ·rintro w' ⟨s0, s1, s2, s3, s4, s5, s6, s7, s8, s9⟩
                go_simp
                with_reducible rfl
               rotate_left
               ·simp only [Act.put, la_, lz_, ls_, i64_w, i32_w]
                rfl
               refine take_ (i := 8) (N := some 38) (v := ?_) (a' := ?_) #[i',i',i',i',i',i',i',i',i',o',o',o',o',o',o',o',o',o',o',o',o',o',o',o',o',o',o',o',o'] rfl rfl (take_ofW HT_.out HW_.out (by kernel_rfl)) (fun _ _ _ h => h) (Or.inl ⟨by rfl, ?_⟩) hHeld ?_ ?_
               rotate_left
               ·rintro w' ⟨s0, s1, s2, s3, s4, s5, s6, s7, s8, s9⟩
                go_simp
                with_reducible rfl
               rotate_left
               ·simp only [Act.put, la_, lz_, ls_, i64_w, i32_w]
                rfl
               refine pu_ (i := 9) (N := some 39) (v := ?_) (a' := ?_) #[i',i',i',i',i',i',i',i',i',i',o',o',o',o',o',o',o',o',o',o',o',o',o',o',o',o',o',o',o'] rfl rfl HT_ (Or.inl ⟨by rfl, ?_⟩) ?_ ?_
               rotate_left;·intro w';go_simp;with_reducible rfl
               rotate_left;·simp only [Act.put, la_, lz_, ls_, i64_w, i32_w];rfl
               refine one_ (i := 10) (N := some 40) #[i',i',i',i',i',i',i',i',i',i',i',o',o',o',o',o',o',o',o',o',o',o',o',o',o',o',o',o',o'] rfl rfl (one_of HT_.out (by kernel_rfl)) (by decide) (fun K hK => ?_)
               refine goes_ Tryd.func39 (by kernel_rfl) rfl #[.int .i64 ((rd_T51 l0_0 x25_2).f2), .int .i64 0, .int .i64 (((rd_T51 l0_0 x25_2).f1).size : Int)] (by rfl) rfl rfl ar_ ?_
               with_reducible refine (impl_in.calls ((rd_T51 l0_0 x25_2).f2) 0 (((rd_T51 l0_0 x25_2).f1).size : Int) true _ A22.out).mono ?_
               rintro e w' ⟨rfl, ⟨nd, rfl⟩⟩
               refine ⟨_, rfl, ?_⟩
               refine hK.out _ _ ⟨(blk_cell BK186.out 0).trans rfl, (blk_cell BK186.out 1).trans rfl, (blk_cell BK186.out 2).trans rfl, (blk_cell BK182.out 0).trans rfl, (blk_cell BK182.out 1).trans rfl, (blk_cell BK182.out 2).trans rfl, (blk_cell BK182.out 3).trans rfl, (cb_ HB hw189_0 :), (cb_ HB hw189_1 :), (cb_ HB hw189_2 :)⟩ (fun hHeld => ?_)
               clear hK K
               refine norm_ (a' := ?_) ?_ ?_
               rotate_left
               ·show Act.put _ (some 40) _ = _
                simp only [Act.put, la_, lz_, ls_, i64_w, i32_w]
                rfl
               refine pu_ (i := 11) (N := some 41) (v := ?_) (a' := ?_) #[i',i',i',i',i',i',i',i',i',i',i',i',o',o',o',o',o',o',o',o',o',o',o',o',o',o',o',o',o'] rfl rfl HT_ (Or.inl ⟨by rfl, ?_⟩) ?_ ?_
               rotate_left;·intro w';go_simp;with_reducible rfl
               rotate_left;·simp only [Act.put, la_, lz_, ls_, i64_w, i32_w];rfl
               refine pu_ (i := 12) (N := some 42) (v := ?_) (a' := ?_) #[i',i',i',i',i',i',i',i',i',i',i',i',i',o',o',o',o',o',o',o',o',o',o',o',o',o',o',o',o'] rfl rfl HT_ (Or.inl ⟨by rfl, ?_⟩) ?_ ?_
               rotate_left;·intro w';go_simp;with_reducible rfl
               rotate_left;·simp only [Act.put, la_, lz_, ls_, i64_w, i32_w];rfl
               refine pu_ (i := 13) (N := some 43) (v := ?_) (a' := ?_) #[i',i',i',i',i',i',i',i',i',i',i',i',i',i',o',o',o',o',o',o',o',o',o',o',o',o',o',o',o'] rfl rfl HT_ (Or.inl ⟨by rfl, ?_⟩) ?_ ?_
               rotate_left;·intro w';go_simp;with_reducible rfl
               rotate_left;·simp only [Act.put, la_, lz_, ls_, i64_w, i32_w];rfl
               refine pu_ (i := 14) (N := some 44) (v := ?_) (a' := ?_) #[i',i',i',i',i',i',i',i',i',i',i',i',i',i',i',o',o',o',o',o',o',o',o',o',o',o',o',o',o'] rfl rfl HT_ (Or.inl ⟨by rfl, ?_⟩) ?_ ?_
               rotate_left;·intro w';go_simp;with_reducible rfl
               rotate_left;·simp only [Act.put, la_, lz_, ls_, i64_w, i32_w];rfl
               refine pu_ (i := 15) (N := some 45) (v := ?_) (a' := ?_) #[i',i',i',i',i',i',i',i',i',i',i',i',i',i',i',i',o',o',o',o',o',o',o',o',o',o',o',o',o'] rfl rfl HT_ (Or.inl ⟨by rfl, ?_⟩) ?_ ?_
               rotate_left;·intro w';go_simp;with_reducible rfl
               rotate_left;·simp only [Act.put, la_, lz_, ls_, i64_w, i32_w];rfl
               refine pu_ (i := 16) (N := some 46) (v := ?_) (a' := ?_) #[i',i',i',i',i',i',i',i',i',i',i',i',i',i',i',i',i',o',o',o',o',o',o',o',o',o',o',o',o'] rfl rfl HT_ (Or.inl ⟨by rfl, ?_⟩) ?_ ?_
               rotate_left;·intro w';go_simp;with_reducible rfl
               rotate_left;·simp only [Act.put, la_, lz_, ls_, i64_w, i32_w];rfl
               refine pu_ (i := 17) (N := some 47) (v := ?_) (a' := ?_) #[i',i',i',i',i',i',i',i',i',i',i',i',i',i',i',i',i',i',o',o',o',o',o',o',o',o',o',o',o'] rfl rfl HT_ (Or.inl ⟨by rfl, ?_⟩) ?_ ?_
               rotate_left;·intro w';go_simp;with_reducible rfl
               rotate_left;·simp only [Act.put, la_, lz_, ls_, i64_w, i32_w];rfl
               refine pu_ (i := 19) (N := some 49) (v := ?_) (a' := ?_) #[i',i',i',i',i',i',i',i',i',i',i',i',i',i',i',i',i',i',o',i',o',o',o',o',o',o',o',o',o'] rfl rfl HT_ (Or.inl ⟨by rfl, ?_⟩) ?_ ?_
               rotate_left;·intro w';go_simp;with_reducible rfl
               rotate_left;·simp only [Act.put, la_, lz_, ls_, i64_w, i32_w];rfl
               refine pu_ (i := 20) (N := some 50) (v := ?_) (a' := ?_) #[i',i',i',i',i',i',i',i',i',i',i',i',i',i',i',i',i',i',o',i',i',o',o',o',o',o',o',o',o'] rfl rfl HT_ (Or.inl ⟨by rfl, ?_⟩) ?_ ?_
               rotate_left;·intro w';go_simp;with_reducible rfl
               rotate_left;·simp only [Act.put, la_, lz_, ls_, i64_w, i32_w];rfl
               refine pu_ (i := 24) (N := some 54) (v := ?_) (a' := ?_) #[i',i',i',i',i',i',i',i',i',i',i',i',i',i',i',i',i',i',o',i',i',o',o',o',i',o',o',o',o'] rfl rfl HT_ (Or.inl ⟨by rfl, ?_⟩) ?_ ?_
               rotate_left;·intro w';go_simp;with_reducible rfl
               rotate_left;·simp only [Act.put, la_, lz_, ls_, i64_w, i32_w];rfl
               refine take_ (i := 18) (N := some 48) (v := ?_) (a' := ?_) #[i',i',i',i',i',i',i',i',i',i',i',i',i',i',i',i',i',i',i',i',i',o',o',o',i',o',o',o',o'] rfl rfl (take_ofW HT_.out HW_.out (by kernel_rfl)) (fun _ _ _ h => h) (Or.inl ⟨by rfl, ?_⟩) hHeld ?_ ?_
               rotate_left
               ·rintro w' ⟨s0, s1, s2, s3, s4, s5, s6, s7, s8, s9⟩
                go_simp
                with_reducible rfl
               rotate_left
               ·simp only [Act.put, la_, lz_, ls_, i64_w, i32_w]
                rfl
               refine pu_ (i := 21) (N := some 51) (v := ?_) (a' := ?_) #[i',i',i',i',i',i',i',i',i',i',i',i',i',i',i',i',i',i',i',i',i',i',o',o',i',o',o',o',o'] rfl rfl HT_ (Or.inl ⟨by rfl, ?_⟩) ?_ ?_
               rotate_left;·intro w';go_simp;with_reducible rfl
               rotate_left;·simp only [Act.put, la_, lz_, ls_, i64_w, i32_w];rfl
               refine pu_ (i := 22) (N := some 52) (v := ?_) (a' := ?_) #[i',i',i',i',i',i',i',i',i',i',i',i',i',i',i',i',i',i',i',i',i',i',i',o',i',o',o',o',o'] rfl rfl HT_ (Or.inl ⟨by rfl, ?_⟩) ?_ ?_
               rotate_left;·intro w';go_simp;with_reducible rfl
               rotate_left;·simp only [Act.put, la_, lz_, ls_, i64_w, i32_w];rfl
               refine take_ (i := 23) (N := some 53) (v := ?_) (a' := ?_) #[i',i',i',i',i',i',i',i',i',i',i',i',i',i',i',i',i',i',i',i',i',i',i',i',i',o',o',o',o'] rfl rfl (take_ofW HT_.out HW_.out (by kernel_rfl)) (fun _ _ _ h => h) (Or.inl ⟨by rfl, ?_⟩) hHeld ?_ ?_
               rotate_left
               ·rintro w' ⟨s0, s1, s2, s3, s4, s5, s6, s7, s8, s9⟩
                go_simp
                with_reducible rfl
               rotate_left
               ·simp only [Act.put, la_, lz_, ls_, i64_w, i32_w]
                rfl
               refine take_ (i := 25) (N := some 55) (v := ?_) (a' := ?_) #[i',i',i',i',i',i',i',i',i',i',i',i',i',i',i',i',i',i',i',i',i',i',i',i',i',i',o',o',o'] rfl rfl (take_ofW HT_.out HW_.out (by kernel_rfl)) (fun _ _ _ h => h) (Or.inl ⟨by rfl, ?_⟩) hHeld ?_ ?_
               rotate_left
               ·rintro w' ⟨s0, s1, s2, s3, s4, s5, s6, s7, s8, s9⟩
                go_simp
                with_reducible rfl
               rotate_left
               ·simp only [Act.put, la_, lz_, ls_, i64_w, i32_w]
                rfl
               refine pu_ (i := 26) (N := some 56) (v := ?_) (a' := ?_) #[i',i',i',i',i',i',i',i',i',i',i',i',i',i',i',i',i',i',i',i',i',i',i',i',i',i',i',o',o'] rfl rfl HT_ (Or.inl ⟨by rfl, ?_⟩) ?_ ?_
               rotate_left;·intro w';go_simp;with_reducible rfl
               rotate_left;·simp only [Act.put, la_, lz_, ls_, i64_w, i32_w];rfl
               refine pu_ (i := 27) (N := some 57) (v := ?_) (a' := ?_) #[i',i',i',i',i',i',i',i',i',i',i',i',i',i',i',i',i',i',i',i',i',i',i',i',i',i',i',i',o'] rfl rfl HT_ (Or.inl ⟨by rfl, ?_⟩) ?_ ?_
               rotate_left;·intro w';go_simp;with_reducible rfl
               rotate_left;·simp only [Act.put, la_, lz_, ls_, i64_w, i32_w];rfl
               refine pu_ (i := 28) (N := some 58) (v := ?_) (a' := ?_) #[i',i',i',i',i',i',i',i',i',i',i',i',i',i',i',i',i',i',i',i',i',i',i',i',i',i',i',i',i'] rfl rfl HT_ (Or.inl ⟨by rfl, ?_⟩) ?_ ?_
               rotate_left;·intro w';go_simp;with_reducible rfl
               rotate_left;·simp only [Act.put, la_, lz_, ls_, i64_w, i32_w];rfl
               refine done_ (done_of HT_.out (by kernel_rfl)) ?_
               have Nji25_ := Aside0.mk hji25
               clear hji25
               (try clear hji25w)
               try go_wp2
               have hji25 := Nji25_.out
               clear Nji25_
               (try have hji25w := (i64_w _).trans hji25)
               go_meet
               case rel => exact ⟨_, (!(Op.bytesLess (((rd_T51 l0_0 (ji25)).f0).toList) (((rd_T51 l0_0 x25_2).f0).toList))), (by first | rfl | (simp; done) | (simp only [← hji25] <;> (first | rfl | simp)) | (simp [*]; done)), H', ⟨by have := HJ1.out; have := HK2.out; first | exact Nat.le_refl _ | exact Nat.le_of_succ_le this | omega⟩, ⟨bk_ BK182⟩, ⟨bk_ BK186⟩, ⟨by repeat (first | (with_reducible first | exact HB.out | apply below_alloc | apply pw_below_drewN | apply below_drew1 | refine below_set ?_ GE182.out | refine below_set ?_ GE186.out) | exact HB.out)⟩⟩
              ·rw [if_neg c27] at H
               exact absurd H (by simp)
             ·rw [if_neg c26] at H
              exact absurd H (by simp)
            ·rw [if_neg c24] at H
             have c24b0 : decide (0 < x25_2) = false := decide_eq_false c24
             clear c24
             (first | rw [c24b0] | (simp only [i64_w, i32_w]; rw [c24b0]) | skip)
             have H' := Aside0.mk H
             clear H
             try go_wp2
             have n0_ : Aside0 ((((w17.setCell ⟨gb186, 0, none⟩ (.string ((rd_T51 l0_0 x25_2).f0))).setCell ⟨gb186, 1, none⟩ (.string ((rd_T51 l0_0 x25_2).f1))).setCell ⟨gb186, 2, none⟩ (.int .i64 ((rd_T51 l0_0 x25_2).f2))).heap[gb182]? = some (.cells #[.slice (some ad185) l0_0.length c0_0, .int .i64 a0_1, .int .i64 a0_2, .bool a0_3] 34 (0, 0))) := ⟨by (with_reducible repeat (first | refine blk_drewN ?_ _ | refine blk_drew ?_ | refine blk_alloc ?_ _)); refine blk_far ?_ NB182_186.out _; (with_reducible repeat (first | refine blk_drewN ?_ _ | refine blk_drew ?_ | refine blk_alloc ?_ _)); refine blk_far ?_ NB182_186.out _; (with_reducible repeat (first | refine blk_drewN ?_ _ | refine blk_drew ?_ | refine blk_alloc ?_ _)); refine blk_far ?_ NB182_186.out _; (with_reducible repeat (first | refine blk_drewN ?_ _ | refine blk_drew ?_ | refine blk_alloc ?_ _)); exact BK182.out⟩
             have n1_ : Aside0 ((((w17.setCell ⟨gb186, 0, none⟩ (.string ((rd_T51 l0_0 x25_2).f0))).setCell ⟨gb186, 1, none⟩ (.string ((rd_T51 l0_0 x25_2).f1))).setCell ⟨gb186, 2, none⟩ (.int .i64 ((rd_T51 l0_0 x25_2).f2))).heap[gb186]? = some (.cells #[.string ((rd_T51 l0_0 x25_2).f0), .string ((rd_T51 l0_0 x25_2).f1), .int .i64 ((rd_T51 l0_0 x25_2).f2)] 51 (0, 0))) := ⟨by (with_reducible repeat (first | refine blk_drewN ?_ _ | refine blk_drew ?_ | refine blk_alloc ?_ _)); refine blk_put (cs := #[.string ((rd_T51 l0_0 x25_2).f0), .string ((rd_T51 l0_0 x25_2).f1), .int .i64 0]) ?_ 2 _ rfl; (with_reducible repeat (first | refine blk_drewN ?_ _ | refine blk_drew ?_ | refine blk_alloc ?_ _)); refine blk_put (cs := #[.string ((rd_T51 l0_0 x25_2).f0), .string (⟨#[]⟩ : ByteArray), .int .i64 0]) ?_ 1 _ rfl; (with_reducible repeat (first | refine blk_drewN ?_ _ | refine blk_drew ?_ | refine blk_alloc ?_ _)); refine blk_put (cs := #[.string (⟨#[]⟩ : ByteArray), .string (⟨#[]⟩ : ByteArray), .int .i64 0]) ?_ 0 _ rfl; (with_reducible repeat (first | refine blk_drewN ?_ _ | refine blk_drew ?_ | refine blk_alloc ?_ _)); exact BK186.out⟩
             have n2_ : Aside0 (Below w.heap.size w (((w17.setCell ⟨gb186, 0, none⟩ (.string ((rd_T51 l0_0 x25_2).f0))).setCell ⟨gb186, 1, none⟩ (.string ((rd_T51 l0_0 x25_2).f1))).setCell ⟨gb186, 2, none⟩ (.int .i64 ((rd_T51 l0_0 x25_2).f2)))) := ⟨by repeat (first | (with_reducible first | exact HB.out | apply below_alloc | apply pw_below_drewN | apply below_drew1 | refine below_set ?_ GE182.out | refine below_set ?_ GE186.out) | exact HB.out)⟩
             (try clear BK182)
             (try clear BK186)
             (try clear HB)
             generalize (((w17.setCell ⟨gb186, 0, none⟩ (.string ((rd_T51 l0_0 x25_2).f0))).setCell ⟨gb186, 1, none⟩ (.string ((rd_T51 l0_0 x25_2).f1))).setCell ⟨gb186, 2, none⟩ (.int .i64 ((rd_T51 l0_0 x25_2).f2))) = w30 at n0_ n1_ n2_ ⊢
             have BK182 := n0_
             have BK186 := n1_
             have HB := n2_
             clear n0_ n1_ n2_
             have n0_ := Aside0.mk (blk_drew BK182.out)
             have n1_ := Aside0.mk (blk_drew BK186.out)
             have n2_ := Aside0.mk (below_drew1 HB.out)
             clear BK182
             clear BK186
             clear HB
             have BK182 := n0_
             have BK186 := n1_
             have HB := n2_
             clear n0_ n1_ n2_
             refine start_ (n := 29) (S := fun w' => w'.cell? ⟨gb186, 0, none⟩ = some (.string ((rd_T51 l0_0 x25_2).f0)) ∧ w'.cell? ⟨gb186, 1, none⟩ = some (.string ((rd_T51 l0_0 x25_2).f1)) ∧ w'.cell? ⟨gb186, 2, none⟩ = some (.int .i64 ((rd_T51 l0_0 x25_2).f2))) (ds := []) #[o',o',o',o',o',o',o',o',o',o',o',o',o',o',o',o',o',o',o',o',o',o',o',o',o',o',o',o',o'] (by kernel_rfl) rfl rfl ⟨(blk_cell BK186.out 0).trans rfl, (blk_cell BK186.out 1).trans rfl, (blk_cell BK186.out 2).trans rfl⟩ (fun hHeld => ?_); refine with_tabW impl_DiskOk.tab7 impl_DiskOk.bits7 (fun HT_ HW_ => ?_)
             generalize w30.drew = w31 at BK182 BK186 HB hHeld ⊢
             refine pu_ (i := 0) (N := some 30) (v := ?_) (a' := ?_) #[i',o',o',o',o',o',o',o',o',o',o',o',o',o',o',o',o',o',o',o',o',o',o',o',o',o',o',o',o'] rfl rfl HT_ (Or.inl ⟨by rfl, ?_⟩) ?_ ?_
             rotate_left;·intro w';go_simp;with_reducible rfl
             rotate_left;·simp only [Act.put, la_, lz_, ls_, i64_w, i32_w];rfl
             refine take_ (i := 1) (N := some 31) (v := ?_) (a' := ?_) #[i',i',o',o',o',o',o',o',o',o',o',o',o',o',o',o',o',o',o',o',o',o',o',o',o',o',o',o',o'] rfl rfl (take_ofW HT_.out HW_.out (by kernel_rfl)) (fun _ _ _ h => h) (Or.inl ⟨by rfl, ?_⟩) hHeld ?_ ?_
             rotate_left
             ·rintro w' ⟨s0, s1, s2⟩
              go_simp
              with_reducible rfl
             rotate_left
             ·simp only [Act.put, la_, lz_, ls_, i64_w, i32_w]
              rfl
             refine one_ (i := 2) (N := some 32) #[i',i',i',o',o',o',o',o',o',o',o',o',o',o',o',o',o',o',o',o',o',o',o',o',o',o',o',o',o'] rfl rfl (one_of HT_.out (by kernel_rfl)) (by decide) (fun K hK => ?_)
             refine goes_ Tryd.func40 (by kernel_rfl) rfl #[.string ((rd_T51 l0_0 x25_2).f0)] (by rfl) rfl rfl ar_ ?_
             with_reducible refine (impl_NameOk.calls k2 ((rd_T51 l0_0 x25_2).f0) true _ A20.out).mono ?_
             rintro e w' ⟨rfl, ⟨nd, rfl⟩⟩
             refine ⟨_, rfl, ?_⟩
             refine hK.out _ _ ⟨(blk_cell BK186.out 0).trans rfl, (blk_cell BK186.out 1).trans rfl, (blk_cell BK186.out 2).trans rfl⟩ (fun hHeld => ?_)
             clear hK K
             refine norm_ (a' := ?_) ?_ ?_
             rotate_left
             ·show Act.put _ (some 32) _ = _
              simp only [Act.put, la_, lz_, ls_, i64_w, i32_w]
              rfl
             refine pu_ (i := 3) (N := some 33) (v := ?_) (a' := ?_) #[i',i',i',i',o',o',o',o',o',o',o',o',o',o',o',o',o',o',o',o',o',o',o',o',o',o',o',o',o'] rfl rfl HT_ (Or.inl ⟨by rfl, ?_⟩) ?_ ?_
             rotate_left;·intro w';go_simp;with_reducible rfl
             rotate_left;·simp only [Act.put, la_, lz_, ls_, i64_w, i32_w];rfl
             refine pu_ (i := 4) (N := some 34) (v := ?_) (a' := ?_) #[i',i',i',i',i',o',o',o',o',o',o',o',o',o',o',o',o',o',o',o',o',o',o',o',o',o',o',o',o'] rfl rfl HT_ (Or.inl ⟨by rfl, ?_⟩) ?_ ?_
             rotate_left;·intro w';go_simp;with_reducible rfl
             rotate_left;·simp only [Act.put, la_, lz_, ls_, i64_w, i32_w];rfl
             refine pu_ (i := 5) (N := some 35) (v := ?_) (a' := ?_) #[i',i',i',i',i',i',o',o',o',o',o',o',o',o',o',o',o',o',o',o',o',o',o',o',o',o',o',o',o'] rfl rfl HT_ (Or.inl ⟨by rfl, ?_⟩) ?_ ?_
             rotate_left;·intro w';go_simp;with_reducible rfl
             rotate_left;·simp only [Act.put, la_, lz_, ls_, i64_w, i32_w];rfl
             refine pu_ (i := 7) (N := some 37) (v := ?_) (a' := ?_) #[i',i',i',i',i',i',o',i',o',o',o',o',o',o',o',o',o',o',o',o',o',o',o',o',o',o',o',o',o'] rfl rfl HT_ (Or.inl ⟨by rfl, ?_⟩) ?_ ?_
             rotate_left;·intro w';go_simp;with_reducible rfl
             rotate_left;·simp only [Act.put, la_, lz_, ls_, i64_w, i32_w];rfl
             refine take_ (i := 6) (N := some 36) (v := ?_) (a' := ?_) #[i',i',i',i',i',i',i',i',o',o',o',o',o',o',o',o',o',o',o',o',o',o',o',o',o',o',o',o',o'] rfl rfl (take_ofW HT_.out HW_.out (by kernel_rfl)) (fun _ _ _ h => h) (Or.inl ⟨by rfl, ?_⟩) hHeld ?_ ?_
             rotate_left
             ·rintro w' ⟨s0, s1, s2⟩
              go_simp
              with_reducible rfl
             rotate_left
             ·simp only [Act.put, la_, lz_, ls_, i64_w, i32_w]
              rfl
             refine take_ (i := 8) (N := some 38) (v := ?_) (a' := ?_) #[i',i',i',i',i',i',i',i',i',o',o',o',o',o',o',o',o',o',o',o',o',o',o',o',o',o',o',o',o'] rfl rfl (take_ofW HT_.out HW_.out (by kernel_rfl)) (fun _ _ _ h => h) (Or.inl ⟨by rfl, ?_⟩) hHeld ?_ ?_
             rotate_left
             ·rintro w' ⟨s0, s1, s2⟩
              go_simp
              with_reducible rfl
             rotate_left
             ·simp only [Act.put, la_, lz_, ls_, i64_w, i32_w]
              rfl
             refine pu_ (i := 9) (N := some 39) (v := ?_) (a' := ?_) #[i',i',i',i',i',i',i',i',i',i',o',o',o',o',o',o',o',o',o',o',o',o',o',o',o',o',o',o',o'] rfl rfl HT_ (Or.inl ⟨by rfl, ?_⟩) ?_ ?_
             rotate_left;·intro w';go_simp;with_reducible rfl
             rotate_left;·simp only [Act.put, la_, lz_, ls_, i64_w, i32_w];rfl
             refine one_ (i := 10) (N := some 40) #[i',i',i',i',i',i',i',i',i',i',i',o',o',o',o',o',o',o',o',o',o',o',o',o',o',o',o',o',o'] rfl rfl (one_of HT_.out (by kernel_rfl)) (by decide) (fun K hK => ?_)
             refine goes_ Tryd.func39 (by kernel_rfl) rfl #[.int .i64 ((rd_T51 l0_0 x25_2).f2), .int .i64 0, .int .i64 (((rd_T51 l0_0 x25_2).f1).size : Int)] (by rfl) rfl rfl ar_ ?_
             with_reducible refine (impl_in.calls ((rd_T51 l0_0 x25_2).f2) 0 (((rd_T51 l0_0 x25_2).f1).size : Int) true _ A22.out).mono ?_
             rintro e w' ⟨rfl, ⟨nd, rfl⟩⟩
             refine ⟨_, rfl, ?_⟩
             refine hK.out _ _ ⟨(blk_cell BK186.out 0).trans rfl, (blk_cell BK186.out 1).trans rfl, (blk_cell BK186.out 2).trans rfl⟩ (fun hHeld => ?_)
             clear hK K
             refine norm_ (a' := ?_) ?_ ?_
             rotate_left
             ·show Act.put _ (some 40) _ = _
              simp only [Act.put, la_, lz_, ls_, i64_w, i32_w]
              rfl
             refine pu_ (i := 11) (N := some 41) (v := ?_) (a' := ?_) #[i',i',i',i',i',i',i',i',i',i',i',i',o',o',o',o',o',o',o',o',o',o',o',o',o',o',o',o',o'] rfl rfl HT_ (Or.inl ⟨by rfl, ?_⟩) ?_ ?_
             rotate_left;·intro w';go_simp;with_reducible rfl
             rotate_left;·simp only [Act.put, la_, lz_, ls_, i64_w, i32_w];rfl
             refine pu_ (i := 12) (N := some 42) (v := ?_) (a' := ?_) #[i',i',i',i',i',i',i',i',i',i',i',i',i',o',o',o',o',o',o',o',o',o',o',o',o',o',o',o',o'] rfl rfl HT_ (Or.inl ⟨by rfl, ?_⟩) ?_ ?_
             rotate_left;·intro w';go_simp;with_reducible rfl
             rotate_left;·simp only [Act.put, la_, lz_, ls_, i64_w, i32_w];rfl
             refine pu_ (i := 13) (N := some 43) (v := ?_) (a' := ?_) #[i',i',i',i',i',i',i',i',i',i',i',i',i',i',o',o',o',o',o',o',o',o',o',o',o',o',o',o',o'] rfl rfl HT_ (Or.inl ⟨by rfl, ?_⟩) ?_ ?_
             rotate_left;·intro w';go_simp;with_reducible rfl
             rotate_left;·simp only [Act.put, la_, lz_, ls_, i64_w, i32_w];rfl
             refine pu_ (i := 14) (N := some 44) (v := ?_) (a' := ?_) #[i',i',i',i',i',i',i',i',i',i',i',i',i',i',i',o',o',o',o',o',o',o',o',o',o',o',o',o',o'] rfl rfl HT_ (Or.inl ⟨by rfl, ?_⟩) ?_ ?_
             rotate_left;·intro w';go_simp;with_reducible rfl
             rotate_left;·simp only [Act.put, la_, lz_, ls_, i64_w, i32_w];rfl
             refine pu_ (i := 15) (N := some 45) (v := ?_) (a' := ?_) #[i',i',i',i',i',i',i',i',i',i',i',i',i',i',i',i',o',o',o',o',o',o',o',o',o',o',o',o',o'] rfl rfl HT_ (Or.inl ⟨by rfl, ?_⟩) ?_ ?_
             rotate_left;·intro w';go_simp;with_reducible rfl
             rotate_left;·simp only [Act.put, la_, lz_, ls_, i64_w, i32_w];rfl
             refine pu_ (i := 16) (N := some 46) (v := ?_) (a' := ?_) #[i',i',i',i',i',i',i',i',i',i',i',i',i',i',i',i',i',o',o',o',o',o',o',o',o',o',o',o',o'] rfl rfl HT_ (Or.inl ⟨by rfl, ?_⟩) ?_ ?_
             rotate_left;·intro w';go_simp;with_reducible rfl
             rotate_left;·simp only [Act.put, la_, lz_, ls_, i64_w, i32_w];rfl
             refine pure_ (i := 17) (N := some 47) (v := undef) (a' := ?_) #[i',i',i',i',i',i',i',i',i',i',i',i',i',i',i',i',i',i',o',o',o',o',o',o',o',o',o',o',o'] rfl rfl (any_of HT_.out (by kernel_rfl)) (fun _ _ _ h => h) (Or.inr ⟨by rfl, rfl⟩) ?_ ?_
             rotate_left
             ·simp only [Act.put, la_, lz_, ls_, i64_w, i32_w]
              rfl
             refine pure_ (i := 18) (N := some 48) (v := undef) (a' := ?_) #[i',i',i',i',i',i',i',i',i',i',i',i',i',i',i',i',i',i',i',o',o',o',o',o',o',o',o',o',o'] rfl rfl (any_of HT_.out (by kernel_rfl)) (fun _ _ _ h => h) (Or.inr ⟨by rfl, rfl⟩) ?_ ?_
             rotate_left
             ·simp only [Act.put, la_, lz_, ls_, i64_w, i32_w]
              rfl
             refine pure_ (i := 19) (N := some 49) (v := undef) (a' := ?_) #[i',i',i',i',i',i',i',i',i',i',i',i',i',i',i',i',i',i',i',i',o',o',o',o',o',o',o',o',o'] rfl rfl (any_of HT_.out (by kernel_rfl)) (fun _ _ _ h => h) (Or.inr ⟨by rfl, rfl⟩) ?_ ?_
             rotate_left
             ·simp only [Act.put, la_, lz_, ls_, i64_w, i32_w]
              rfl
             refine pure_ (i := 20) (N := some 50) (v := undef) (a' := ?_) #[i',i',i',i',i',i',i',i',i',i',i',i',i',i',i',i',i',i',i',i',i',o',o',o',o',o',o',o',o'] rfl rfl (any_of HT_.out (by kernel_rfl)) (fun _ _ _ h => h) (Or.inr ⟨by rfl, rfl⟩) ?_ ?_
             rotate_left
             ·simp only [Act.put, la_, lz_, ls_, i64_w, i32_w]
              rfl
             refine pure_ (i := 21) (N := some 51) (v := undef) (a' := ?_) #[i',i',i',i',i',i',i',i',i',i',i',i',i',i',i',i',i',i',i',i',i',i',o',o',o',o',o',o',o'] rfl rfl (any_of HT_.out (by kernel_rfl)) (fun _ _ _ h => h) (Or.inr ⟨by rfl, rfl⟩) ?_ ?_
             rotate_left
             ·simp only [Act.put, la_, lz_, ls_, i64_w, i32_w]
              rfl
             refine pure_ (i := 22) (N := some 52) (v := undef) (a' := ?_) #[i',i',i',i',i',i',i',i',i',i',i',i',i',i',i',i',i',i',i',i',i',i',i',o',o',o',o',o',o'] rfl rfl (any_of HT_.out (by kernel_rfl)) (fun _ _ _ h => h) (Or.inr ⟨by rfl, rfl⟩) ?_ ?_
             rotate_left
             ·simp only [Act.put, la_, lz_, ls_, i64_w, i32_w]
              rfl
             refine pure_ (i := 23) (N := some 53) (v := undef) (a' := ?_) #[i',i',i',i',i',i',i',i',i',i',i',i',i',i',i',i',i',i',i',i',i',i',i',i',o',o',o',o',o'] rfl rfl (any_of HT_.out (by kernel_rfl)) (fun _ _ _ h => h) (Or.inr ⟨by rfl, rfl⟩) ?_ ?_
             rotate_left
             ·simp only [Act.put, la_, lz_, ls_, i64_w, i32_w]
              rfl
             refine pure_ (i := 24) (N := some 54) (v := undef) (a' := ?_) #[i',i',i',i',i',i',i',i',i',i',i',i',i',i',i',i',i',i',i',i',i',i',i',i',i',o',o',o',o'] rfl rfl (any_of HT_.out (by kernel_rfl)) (fun _ _ _ h => h) (Or.inr ⟨by rfl, rfl⟩) ?_ ?_
             rotate_left
             ·simp only [Act.put, la_, lz_, ls_, i64_w, i32_w]
              rfl
             refine pure_ (i := 25) (N := some 55) (v := undef) (a' := ?_) #[i',i',i',i',i',i',i',i',i',i',i',i',i',i',i',i',i',i',i',i',i',i',i',i',i',i',o',o',o'] rfl rfl (any_of HT_.out (by kernel_rfl)) (fun _ _ _ h => h) (Or.inr ⟨by rfl, rfl⟩) ?_ ?_
             rotate_left
             ·simp only [Act.put, la_, lz_, ls_, i64_w, i32_w]
              rfl
             refine pure_ (i := 26) (N := some 56) (v := undef) (a' := ?_) #[i',i',i',i',i',i',i',i',i',i',i',i',i',i',i',i',i',i',i',i',i',i',i',i',i',i',i',o',o'] rfl rfl (any_of HT_.out (by kernel_rfl)) (fun _ _ _ h => h) (Or.inr ⟨by rfl, rfl⟩) ?_ ?_
             rotate_left
             ·simp only [Act.put, la_, lz_, ls_, i64_w, i32_w]
              rfl
             refine pu_ (i := 27) (N := some 57) (v := ?_) (a' := ?_) #[i',i',i',i',i',i',i',i',i',i',i',i',i',i',i',i',i',i',i',i',i',i',i',i',i',i',i',i',o'] rfl rfl HT_ (Or.inl ⟨by rfl, ?_⟩) ?_ ?_
             rotate_left;·intro w';go_simp;with_reducible rfl
             rotate_left;·simp only [Act.put, la_, lz_, ls_, i64_w, i32_w];rfl
             refine pu_ (i := 28) (N := some 58) (v := ?_) (a' := ?_) #[i',i',i',i',i',i',i',i',i',i',i',i',i',i',i',i',i',i',i',i',i',i',i',i',i',i',i',i',i'] rfl rfl HT_ (Or.inl ⟨by rfl, ?_⟩) ?_ ?_
             rotate_left;·intro w';go_simp;with_reducible rfl
             rotate_left;·simp only [Act.put, la_, lz_, ls_, i64_w, i32_w];rfl
             refine done_ (done_of HT_.out (by kernel_rfl)) ?_
             try go_wp2
             go_meet
             case rel => exact ⟨_, (false), rs_, H', ⟨by have := HJ1.out; have := HK2.out; first | exact Nat.le_refl _ | exact Nat.le_of_succ_le this | omega⟩, ⟨bk_ BK182⟩, ⟨bk_ BK186⟩, ⟨by repeat (first | (with_reducible first | exact HB.out | apply below_alloc | apply pw_below_drewN | apply below_drew1 | refine below_set ?_ GE182.out | refine below_set ?_ GE186.out) | exact HB.out)⟩⟩
           ·replace c23 := Bool.eq_false_iff.mpr c23
            subst c23
            have H1 : (impl_DiskOk.j2 k2 x3_2 l0_0 (l0_0.length : Int) x25_2 true l0_0 a0_1 a0_2 a0_3 ((rd_T51 l0_0 x25_2).f0) ((rd_T51 l0_0 x25_2).f1) ((rd_T51 l0_0 x25_2).f2)) = some r := by rw [if_neg (show ¬ (false = true) by decide)] at H; exact H
            clear H
            have H := H1
            clear H1
            have H' := Aside0.mk H
            clear H
            try go_wp2
            have n0_ : Aside0 ((((w17.setCell ⟨gb186, 0, none⟩ (.string ((rd_T51 l0_0 x25_2).f0))).setCell ⟨gb186, 1, none⟩ (.string ((rd_T51 l0_0 x25_2).f1))).setCell ⟨gb186, 2, none⟩ (.int .i64 ((rd_T51 l0_0 x25_2).f2))).heap[gb182]? = some (.cells #[.slice (some ad185) l0_0.length c0_0, .int .i64 a0_1, .int .i64 a0_2, .bool a0_3] 34 (0, 0))) := ⟨by (with_reducible repeat (first | refine blk_drewN ?_ _ | refine blk_drew ?_ | refine blk_alloc ?_ _)); refine blk_far ?_ NB182_186.out _; (with_reducible repeat (first | refine blk_drewN ?_ _ | refine blk_drew ?_ | refine blk_alloc ?_ _)); refine blk_far ?_ NB182_186.out _; (with_reducible repeat (first | refine blk_drewN ?_ _ | refine blk_drew ?_ | refine blk_alloc ?_ _)); refine blk_far ?_ NB182_186.out _; (with_reducible repeat (first | refine blk_drewN ?_ _ | refine blk_drew ?_ | refine blk_alloc ?_ _)); exact BK182.out⟩
            have n1_ : Aside0 ((((w17.setCell ⟨gb186, 0, none⟩ (.string ((rd_T51 l0_0 x25_2).f0))).setCell ⟨gb186, 1, none⟩ (.string ((rd_T51 l0_0 x25_2).f1))).setCell ⟨gb186, 2, none⟩ (.int .i64 ((rd_T51 l0_0 x25_2).f2))).heap[gb186]? = some (.cells #[.string ((rd_T51 l0_0 x25_2).f0), .string ((rd_T51 l0_0 x25_2).f1), .int .i64 ((rd_T51 l0_0 x25_2).f2)] 51 (0, 0))) := ⟨by (with_reducible repeat (first | refine blk_drewN ?_ _ | refine blk_drew ?_ | refine blk_alloc ?_ _)); refine blk_put (cs := #[.string ((rd_T51 l0_0 x25_2).f0), .string ((rd_T51 l0_0 x25_2).f1), .int .i64 0]) ?_ 2 _ rfl; (with_reducible repeat (first | refine blk_drewN ?_ _ | refine blk_drew ?_ | refine blk_alloc ?_ _)); refine blk_put (cs := #[.string ((rd_T51 l0_0 x25_2).f0), .string (⟨#[]⟩ : ByteArray), .int .i64 0]) ?_ 1 _ rfl; (with_reducible repeat (first | refine blk_drewN ?_ _ | refine blk_drew ?_ | refine blk_alloc ?_ _)); refine blk_put (cs := #[.string (⟨#[]⟩ : ByteArray), .string (⟨#[]⟩ : ByteArray), .int .i64 0]) ?_ 0 _ rfl; (with_reducible repeat (first | refine blk_drewN ?_ _ | refine blk_drew ?_ | refine blk_alloc ?_ _)); exact BK186.out⟩
            have n2_ : Aside0 (Below w.heap.size w (((w17.setCell ⟨gb186, 0, none⟩ (.string ((rd_T51 l0_0 x25_2).f0))).setCell ⟨gb186, 1, none⟩ (.string ((rd_T51 l0_0 x25_2).f1))).setCell ⟨gb186, 2, none⟩ (.int .i64 ((rd_T51 l0_0 x25_2).f2)))) := ⟨by repeat (first | (with_reducible first | exact HB.out | apply below_alloc | apply pw_below_drewN | apply below_drew1 | refine below_set ?_ GE182.out | refine below_set ?_ GE186.out) | exact HB.out)⟩
            (try clear BK182)
            (try clear BK186)
            (try clear HB)
            generalize (((w17.setCell ⟨gb186, 0, none⟩ (.string ((rd_T51 l0_0 x25_2).f0))).setCell ⟨gb186, 1, none⟩ (.string ((rd_T51 l0_0 x25_2).f1))).setCell ⟨gb186, 2, none⟩ (.int .i64 ((rd_T51 l0_0 x25_2).f2))) = w32 at n0_ n1_ n2_ ⊢
            have BK182 := n0_
            have BK186 := n1_
            have HB := n2_
            clear n0_ n1_ n2_
            have n0_ := Aside0.mk (blk_drew BK182.out)
            have n1_ := Aside0.mk (blk_drew BK186.out)
            have n2_ := Aside0.mk (below_drew1 HB.out)
            clear BK182
            clear BK186
            clear HB
            have BK182 := n0_
            have BK186 := n1_
            have HB := n2_
            clear n0_ n1_ n2_
            refine start_ (n := 29) (S := fun w' => w'.cell? ⟨gb186, 0, none⟩ = some (.string ((rd_T51 l0_0 x25_2).f0)) ∧ w'.cell? ⟨gb186, 1, none⟩ = some (.string ((rd_T51 l0_0 x25_2).f1)) ∧ w'.cell? ⟨gb186, 2, none⟩ = some (.int .i64 ((rd_T51 l0_0 x25_2).f2))) (ds := []) #[o',o',o',o',o',o',o',o',o',o',o',o',o',o',o',o',o',o',o',o',o',o',o',o',o',o',o',o',o'] (by kernel_rfl) rfl rfl ⟨(blk_cell BK186.out 0).trans rfl, (blk_cell BK186.out 1).trans rfl, (blk_cell BK186.out 2).trans rfl⟩ (fun hHeld => ?_); refine with_tabW impl_DiskOk.tab7 impl_DiskOk.bits7 (fun HT_ HW_ => ?_)
            generalize w32.drew = w33 at BK182 BK186 HB hHeld ⊢
            refine pu_ (i := 0) (N := some 30) (v := ?_) (a' := ?_) #[i',o',o',o',o',o',o',o',o',o',o',o',o',o',o',o',o',o',o',o',o',o',o',o',o',o',o',o',o'] rfl rfl HT_ (Or.inl ⟨by rfl, ?_⟩) ?_ ?_
            rotate_left;·intro w';go_simp;with_reducible rfl
            rotate_left;·simp only [Act.put, la_, lz_, ls_, i64_w, i32_w];rfl
            refine take_ (i := 1) (N := some 31) (v := ?_) (a' := ?_) #[i',i',o',o',o',o',o',o',o',o',o',o',o',o',o',o',o',o',o',o',o',o',o',o',o',o',o',o',o'] rfl rfl (take_ofW HT_.out HW_.out (by kernel_rfl)) (fun _ _ _ h => h) (Or.inl ⟨by rfl, ?_⟩) hHeld ?_ ?_
            rotate_left
            ·rintro w' ⟨s0, s1, s2⟩
             go_simp
             with_reducible rfl
            rotate_left
            ·simp only [Act.put, la_, lz_, ls_, i64_w, i32_w]
             rfl
            refine one_ (i := 2) (N := some 32) #[i',i',i',o',o',o',o',o',o',o',o',o',o',o',o',o',o',o',o',o',o',o',o',o',o',o',o',o',o'] rfl rfl (one_of HT_.out (by kernel_rfl)) (by decide) (fun K hK => ?_)
            refine goes_ Tryd.func40 (by kernel_rfl) rfl #[.string ((rd_T51 l0_0 x25_2).f0)] (by rfl) rfl rfl ar_ ?_
            with_reducible refine (impl_NameOk.calls k2 ((rd_T51 l0_0 x25_2).f0) true _ A20.out).mono ?_
            rintro e w' ⟨rfl, ⟨nd, rfl⟩⟩
            refine ⟨_, rfl, ?_⟩
            refine hK.out _ _ ⟨(blk_cell BK186.out 0).trans rfl, (blk_cell BK186.out 1).trans rfl, (blk_cell BK186.out 2).trans rfl⟩ (fun hHeld => ?_)
            clear hK K
            refine norm_ (a' := ?_) ?_ ?_
            rotate_left
            ·show Act.put _ (some 32) _ = _
             simp only [Act.put, la_, lz_, ls_, i64_w, i32_w]
             rfl
            refine pu_ (i := 3) (N := some 33) (v := ?_) (a' := ?_) #[i',i',i',i',o',o',o',o',o',o',o',o',o',o',o',o',o',o',o',o',o',o',o',o',o',o',o',o',o'] rfl rfl HT_ (Or.inl ⟨by rfl, ?_⟩) ?_ ?_
            rotate_left;·intro w';go_simp;with_reducible rfl
            rotate_left;·simp only [Act.put, la_, lz_, ls_, i64_w, i32_w];rfl
            refine pu_ (i := 4) (N := some 34) (v := ?_) (a' := ?_) #[i',i',i',i',i',o',o',o',o',o',o',o',o',o',o',o',o',o',o',o',o',o',o',o',o',o',o',o',o'] rfl rfl HT_ (Or.inl ⟨by rfl, ?_⟩) ?_ ?_
            rotate_left;·intro w';go_simp;with_reducible rfl
            rotate_left;·simp only [Act.put, la_, lz_, ls_, i64_w, i32_w];rfl
            refine pu_ (i := 5) (N := some 35) (v := ?_) (a' := ?_) #[i',i',i',i',i',i',o',o',o',o',o',o',o',o',o',o',o',o',o',o',o',o',o',o',o',o',o',o',o'] rfl rfl HT_ (Or.inl ⟨by rfl, ?_⟩) ?_ ?_
            rotate_left;·intro w';go_simp;with_reducible rfl
            rotate_left;·simp only [Act.put, la_, lz_, ls_, i64_w, i32_w];rfl
            refine pu_ (i := 7) (N := some 37) (v := ?_) (a' := ?_) #[i',i',i',i',i',i',o',i',o',o',o',o',o',o',o',o',o',o',o',o',o',o',o',o',o',o',o',o',o'] rfl rfl HT_ (Or.inl ⟨by rfl, ?_⟩) ?_ ?_
            rotate_left;·intro w';go_simp;with_reducible rfl
            rotate_left;·simp only [Act.put, la_, lz_, ls_, i64_w, i32_w];rfl
            refine take_ (i := 6) (N := some 36) (v := ?_) (a' := ?_) #[i',i',i',i',i',i',i',i',o',o',o',o',o',o',o',o',o',o',o',o',o',o',o',o',o',o',o',o',o'] rfl rfl (take_ofW HT_.out HW_.out (by kernel_rfl)) (fun _ _ _ h => h) (Or.inl ⟨by rfl, ?_⟩) hHeld ?_ ?_
            rotate_left
            ·rintro w' ⟨s0, s1, s2⟩
             go_simp
             with_reducible rfl
            rotate_left
            ·simp only [Act.put, la_, lz_, ls_, i64_w, i32_w]
             rfl
            refine take_ (i := 8) (N := some 38) (v := ?_) (a' := ?_) #[i',i',i',i',i',i',i',i',i',o',o',o',o',o',o',o',o',o',o',o',o',o',o',o',o',o',o',o',o'] rfl rfl (take_ofW HT_.out HW_.out (by kernel_rfl)) (fun _ _ _ h => h) (Or.inl ⟨by rfl, ?_⟩) hHeld ?_ ?_
            rotate_left
            ·rintro w' ⟨s0, s1, s2⟩
             go_simp
             with_reducible rfl
            rotate_left
            ·simp only [Act.put, la_, lz_, ls_, i64_w, i32_w]
             rfl
            refine pu_ (i := 9) (N := some 39) (v := ?_) (a' := ?_) #[i',i',i',i',i',i',i',i',i',i',o',o',o',o',o',o',o',o',o',o',o',o',o',o',o',o',o',o',o'] rfl rfl HT_ (Or.inl ⟨by rfl, ?_⟩) ?_ ?_
            rotate_left;·intro w';go_simp;with_reducible rfl
            rotate_left;·simp only [Act.put, la_, lz_, ls_, i64_w, i32_w];rfl
            refine one_ (i := 10) (N := some 40) #[i',i',i',i',i',i',i',i',i',i',i',o',o',o',o',o',o',o',o',o',o',o',o',o',o',o',o',o',o'] rfl rfl (one_of HT_.out (by kernel_rfl)) (by decide) (fun K hK => ?_)
            refine goes_ Tryd.func39 (by kernel_rfl) rfl #[.int .i64 ((rd_T51 l0_0 x25_2).f2), .int .i64 0, .int .i64 (((rd_T51 l0_0 x25_2).f1).size : Int)] (by rfl) rfl rfl ar_ ?_
            with_reducible refine (impl_in.calls ((rd_T51 l0_0 x25_2).f2) 0 (((rd_T51 l0_0 x25_2).f1).size : Int) false _ A22.out).mono ?_
            rintro e w' ⟨rfl, ⟨nd, rfl⟩⟩
            refine ⟨_, rfl, ?_⟩
            refine hK.out _ _ ⟨(blk_cell BK186.out 0).trans rfl, (blk_cell BK186.out 1).trans rfl, (blk_cell BK186.out 2).trans rfl⟩ (fun hHeld => ?_)
            clear hK K
            refine norm_ (a' := ?_) ?_ ?_
            rotate_left
            ·show Act.put _ (some 40) _ = _
             simp only [Act.put, la_, lz_, ls_, i64_w, i32_w]
             rfl
            refine pu_ (i := 11) (N := some 41) (v := ?_) (a' := ?_) #[i',i',i',i',i',i',i',i',i',i',i',i',o',o',o',o',o',o',o',o',o',o',o',o',o',o',o',o',o'] rfl rfl HT_ (Or.inl ⟨by rfl, ?_⟩) ?_ ?_
            rotate_left;·intro w';go_simp;with_reducible rfl
            rotate_left;·simp only [Act.put, la_, lz_, ls_, i64_w, i32_w];rfl
            refine pu_ (i := 12) (N := some 42) (v := ?_) (a' := ?_) #[i',i',i',i',i',i',i',i',i',i',i',i',i',o',o',o',o',o',o',o',o',o',o',o',o',o',o',o',o'] rfl rfl HT_ (Or.inl ⟨by rfl, ?_⟩) ?_ ?_
            rotate_left;·intro w';go_simp;with_reducible rfl
            rotate_left;·simp only [Act.put, la_, lz_, ls_, i64_w, i32_w];rfl
            refine pu_ (i := 13) (N := some 43) (v := ?_) (a' := ?_) #[i',i',i',i',i',i',i',i',i',i',i',i',i',i',o',o',o',o',o',o',o',o',o',o',o',o',o',o',o'] rfl rfl HT_ (Or.inl ⟨by rfl, ?_⟩) ?_ ?_
            rotate_left;·intro w';go_simp;with_reducible rfl
            rotate_left;·simp only [Act.put, la_, lz_, ls_, i64_w, i32_w];rfl
            refine pure_ (i := 14) (N := some 44) (v := undef) (a' := ?_) #[i',i',i',i',i',i',i',i',i',i',i',i',i',i',i',o',o',o',o',o',o',o',o',o',o',o',o',o',o'] rfl rfl (any_of HT_.out (by kernel_rfl)) (fun _ _ _ h => h) (Or.inr ⟨by rfl, rfl⟩) ?_ ?_
            rotate_left
            ·simp only [Act.put, la_, lz_, ls_, i64_w, i32_w]
             rfl
            refine pure_ (i := 15) (N := some 45) (v := undef) (a' := ?_) #[i',i',i',i',i',i',i',i',i',i',i',i',i',i',i',i',o',o',o',o',o',o',o',o',o',o',o',o',o'] rfl rfl (any_of HT_.out (by kernel_rfl)) (fun _ _ _ h => h) (Or.inr ⟨by rfl, rfl⟩) ?_ ?_
            rotate_left
            ·simp only [Act.put, la_, lz_, ls_, i64_w, i32_w]
             rfl
            refine pure_ (i := 16) (N := some 46) (v := undef) (a' := ?_) #[i',i',i',i',i',i',i',i',i',i',i',i',i',i',i',i',i',o',o',o',o',o',o',o',o',o',o',o',o'] rfl rfl (any_of HT_.out (by kernel_rfl)) (fun _ _ _ h => h) (Or.inr ⟨by rfl, rfl⟩) ?_ ?_
            rotate_left
            ·simp only [Act.put, la_, lz_, ls_, i64_w, i32_w]
             rfl
            refine pure_ (i := 17) (N := some 47) (v := undef) (a' := ?_) #[i',i',i',i',i',i',i',i',i',i',i',i',i',i',i',i',i',i',o',o',o',o',o',o',o',o',o',o',o'] rfl rfl (any_of HT_.out (by kernel_rfl)) (fun _ _ _ h => h) (Or.inr ⟨by rfl, rfl⟩) ?_ ?_
            rotate_left
            ·simp only [Act.put, la_, lz_, ls_, i64_w, i32_w]
             rfl
            refine pure_ (i := 18) (N := some 48) (v := undef) (a' := ?_) #[i',i',i',i',i',i',i',i',i',i',i',i',i',i',i',i',i',i',i',o',o',o',o',o',o',o',o',o',o'] rfl rfl (any_of HT_.out (by kernel_rfl)) (fun _ _ _ h => h) (Or.inr ⟨by rfl, rfl⟩) ?_ ?_
            rotate_left
            ·simp only [Act.put, la_, lz_, ls_, i64_w, i32_w]
             rfl
            refine pure_ (i := 19) (N := some 49) (v := undef) (a' := ?_) #[i',i',i',i',i',i',i',i',i',i',i',i',i',i',i',i',i',i',i',i',o',o',o',o',o',o',o',o',o'] rfl rfl (any_of HT_.out (by kernel_rfl)) (fun _ _ _ h => h) (Or.inr ⟨by rfl, rfl⟩) ?_ ?_
            rotate_left
            ·simp only [Act.put, la_, lz_, ls_, i64_w, i32_w]
             rfl
            refine pure_ (i := 20) (N := some 50) (v := undef) (a' := ?_) #[i',i',i',i',i',i',i',i',i',i',i',i',i',i',i',i',i',i',i',i',i',o',o',o',o',o',o',o',o'] rfl rfl (any_of HT_.out (by kernel_rfl)) (fun _ _ _ h => h) (Or.inr ⟨by rfl, rfl⟩) ?_ ?_
            rotate_left
            ·simp only [Act.put, la_, lz_, ls_, i64_w, i32_w]
             rfl
            refine pure_ (i := 21) (N := some 51) (v := undef) (a' := ?_) #[i',i',i',i',i',i',i',i',i',i',i',i',i',i',i',i',i',i',i',i',i',i',o',o',o',o',o',o',o'] rfl rfl (any_of HT_.out (by kernel_rfl)) (fun _ _ _ h => h) (Or.inr ⟨by rfl, rfl⟩) ?_ ?_
            rotate_left
            ·simp only [Act.put, la_, lz_, ls_, i64_w, i32_w]
             rfl
            refine pure_ (i := 22) (N := some 52) (v := undef) (a' := ?_) #[i',i',i',i',i',i',i',i',i',i',i',i',i',i',i',i',i',i',i',i',i',i',i',o',o',o',o',o',o'] rfl rfl (any_of HT_.out (by kernel_rfl)) (fun _ _ _ h => h) (Or.inr ⟨by rfl, rfl⟩) ?_ ?_
            rotate_left
            ·simp only [Act.put, la_, lz_, ls_, i64_w, i32_w]
             rfl
            refine pure_ (i := 23) (N := some 53) (v := undef) (a' := ?_) #[i',i',i',i',i',i',i',i',i',i',i',i',i',i',i',i',i',i',i',i',i',i',i',i',o',o',o',o',o'] rfl rfl (any_of HT_.out (by kernel_rfl)) (fun _ _ _ h => h) (Or.inr ⟨by rfl, rfl⟩) ?_ ?_
            rotate_left
            ·simp only [Act.put, la_, lz_, ls_, i64_w, i32_w]
             rfl
            refine pure_ (i := 24) (N := some 54) (v := undef) (a' := ?_) #[i',i',i',i',i',i',i',i',i',i',i',i',i',i',i',i',i',i',i',i',i',i',i',i',i',o',o',o',o'] rfl rfl (any_of HT_.out (by kernel_rfl)) (fun _ _ _ h => h) (Or.inr ⟨by rfl, rfl⟩) ?_ ?_
            rotate_left
            ·simp only [Act.put, la_, lz_, ls_, i64_w, i32_w]
             rfl
            refine pure_ (i := 25) (N := some 55) (v := undef) (a' := ?_) #[i',i',i',i',i',i',i',i',i',i',i',i',i',i',i',i',i',i',i',i',i',i',i',i',i',i',o',o',o'] rfl rfl (any_of HT_.out (by kernel_rfl)) (fun _ _ _ h => h) (Or.inr ⟨by rfl, rfl⟩) ?_ ?_
            rotate_left
            ·simp only [Act.put, la_, lz_, ls_, i64_w, i32_w]
             rfl
            refine pure_ (i := 26) (N := some 56) (v := undef) (a' := ?_) #[i',i',i',i',i',i',i',i',i',i',i',i',i',i',i',i',i',i',i',i',i',i',i',i',i',i',i',o',o'] rfl rfl (any_of HT_.out (by kernel_rfl)) (fun _ _ _ h => h) (Or.inr ⟨by rfl, rfl⟩) ?_ ?_
            rotate_left
            ·simp only [Act.put, la_, lz_, ls_, i64_w, i32_w]
             rfl
            refine pure_ (i := 27) (N := some 57) (v := undef) (a' := ?_) #[i',i',i',i',i',i',i',i',i',i',i',i',i',i',i',i',i',i',i',i',i',i',i',i',i',i',i',i',o'] rfl rfl (any_of HT_.out (by kernel_rfl)) (fun _ _ _ h => h) (Or.inr ⟨by rfl, rfl⟩) ?_ ?_
            rotate_left
            ·simp only [Act.put, la_, lz_, ls_, i64_w, i32_w]
             rfl
            refine pu_ (i := 28) (N := some 58) (v := ?_) (a' := ?_) #[i',i',i',i',i',i',i',i',i',i',i',i',i',i',i',i',i',i',i',i',i',i',i',i',i',i',i',i',i'] rfl rfl HT_ (Or.inl ⟨by rfl, ?_⟩) ?_ ?_
            rotate_left;·intro w';go_simp;with_reducible rfl
            rotate_left;·simp only [Act.put, la_, lz_, ls_, i64_w, i32_w];rfl
            refine done_ (done_of HT_.out (by kernel_rfl)) ?_
            try go_wp2
            go_meet
            case rel => exact ⟨_, (true), rs_, H', ⟨by have := HJ1.out; have := HK2.out; first | exact Nat.le_refl _ | exact Nat.le_of_succ_le this | omega⟩, ⟨bk_ BK182⟩, ⟨bk_ BK186⟩, ⟨by repeat (first | (with_reducible first | exact HB.out | apply below_alloc | apply pw_below_drewN | apply below_drew1 | refine below_set ?_ GE182.out | refine below_set ?_ GE186.out) | exact HB.out)⟩⟩
          ·replace c21 := Bool.eq_false_iff.mpr c21
           subst c21
           have H1 : (impl_DiskOk.j2 k2 x3_2 l0_0 (l0_0.length : Int) x25_2 true l0_0 a0_1 a0_2 a0_3 ((rd_T51 l0_0 x25_2).f0) ((rd_T51 l0_0 x25_2).f1) ((rd_T51 l0_0 x25_2).f2)) = some r := by rw [if_neg (show ¬ (false = true) by decide)] at H; exact H
           clear H
           have H := H1
           clear H1
           have H' := Aside0.mk H
           clear H
           try go_wp2
           have n0_ : Aside0 ((((w17.setCell ⟨gb186, 0, none⟩ (.string ((rd_T51 l0_0 x25_2).f0))).setCell ⟨gb186, 1, none⟩ (.string ((rd_T51 l0_0 x25_2).f1))).setCell ⟨gb186, 2, none⟩ (.int .i64 ((rd_T51 l0_0 x25_2).f2))).heap[gb182]? = some (.cells #[.slice (some ad185) l0_0.length c0_0, .int .i64 a0_1, .int .i64 a0_2, .bool a0_3] 34 (0, 0))) := ⟨by (with_reducible repeat (first | refine blk_drewN ?_ _ | refine blk_drew ?_ | refine blk_alloc ?_ _)); refine blk_far ?_ NB182_186.out _; (with_reducible repeat (first | refine blk_drewN ?_ _ | refine blk_drew ?_ | refine blk_alloc ?_ _)); refine blk_far ?_ NB182_186.out _; (with_reducible repeat (first | refine blk_drewN ?_ _ | refine blk_drew ?_ | refine blk_alloc ?_ _)); refine blk_far ?_ NB182_186.out _; (with_reducible repeat (first | refine blk_drewN ?_ _ | refine blk_drew ?_ | refine blk_alloc ?_ _)); exact BK182.out⟩
           have n1_ : Aside0 ((((w17.setCell ⟨gb186, 0, none⟩ (.string ((rd_T51 l0_0 x25_2).f0))).setCell ⟨gb186, 1, none⟩ (.string ((rd_T51 l0_0 x25_2).f1))).setCell ⟨gb186, 2, none⟩ (.int .i64 ((rd_T51 l0_0 x25_2).f2))).heap[gb186]? = some (.cells #[.string ((rd_T51 l0_0 x25_2).f0), .string ((rd_T51 l0_0 x25_2).f1), .int .i64 ((rd_T51 l0_0 x25_2).f2)] 51 (0, 0))) := ⟨by (with_reducible repeat (first | refine blk_drewN ?_ _ | refine blk_drew ?_ | refine blk_alloc ?_ _)); refine blk_put (cs := #[.string ((rd_T51 l0_0 x25_2).f0), .string ((rd_T51 l0_0 x25_2).f1), .int .i64 0]) ?_ 2 _ rfl; (with_reducible repeat (first | refine blk_drewN ?_ _ | refine blk_drew ?_ | refine blk_alloc ?_ _)); refine blk_put (cs := #[.string ((rd_T51 l0_0 x25_2).f0), .string (⟨#[]⟩ : ByteArray), .int .i64 0]) ?_ 1 _ rfl; (with_reducible repeat (first | refine blk_drewN ?_ _ | refine blk_drew ?_ | refine blk_alloc ?_ _)); refine blk_put (cs := #[.string (⟨#[]⟩ : ByteArray), .string (⟨#[]⟩ : ByteArray), .int .i64 0]) ?_ 0 _ rfl; (with_reducible repeat (first | refine blk_drewN ?_ _ | refine blk_drew ?_ | refine blk_alloc ?_ _)); exact BK186.out⟩
           have n2_ : Aside0 (Below w.heap.size w (((w17.setCell ⟨gb186, 0, none⟩ (.string ((rd_T51 l0_0 x25_2).f0))).setCell ⟨gb186, 1, none⟩ (.string ((rd_T51 l0_0 x25_2).f1))).setCell ⟨gb186, 2, none⟩ (.int .i64 ((rd_T51 l0_0 x25_2).f2)))) := ⟨by repeat (first | (with_reducible first | exact HB.out | apply below_alloc | apply pw_below_drewN | apply below_drew1 | refine below_set ?_ GE182.out | refine below_set ?_ GE186.out) | exact HB.out)⟩
           (try clear BK182)
           (try clear BK186)
           (try clear HB)
           generalize (((w17.setCell ⟨gb186, 0, none⟩ (.string ((rd_T51 l0_0 x25_2).f0))).setCell ⟨gb186, 1, none⟩ (.string ((rd_T51 l0_0 x25_2).f1))).setCell ⟨gb186, 2, none⟩ (.int .i64 ((rd_T51 l0_0 x25_2).f2))) = w34 at n0_ n1_ n2_ ⊢
           have BK182 := n0_
           have BK186 := n1_
           have HB := n2_
           clear n0_ n1_ n2_
           have n0_ := Aside0.mk (blk_drew BK182.out)
           have n1_ := Aside0.mk (blk_drew BK186.out)
           have n2_ := Aside0.mk (below_drew1 HB.out)
           clear BK182
           clear BK186
           clear HB
           have BK182 := n0_
           have BK186 := n1_
           have HB := n2_
           clear n0_ n1_ n2_
           refine start_ (n := 29) (S := fun w' => w'.cell? ⟨gb186, 0, none⟩ = some (.string ((rd_T51 l0_0 x25_2).f0)) ∧ w'.cell? ⟨gb186, 1, none⟩ = some (.string ((rd_T51 l0_0 x25_2).f1)) ∧ w'.cell? ⟨gb186, 2, none⟩ = some (.int .i64 ((rd_T51 l0_0 x25_2).f2))) (ds := []) #[o',o',o',o',o',o',o',o',o',o',o',o',o',o',o',o',o',o',o',o',o',o',o',o',o',o',o',o',o'] (by kernel_rfl) rfl rfl ⟨(blk_cell BK186.out 0).trans rfl, (blk_cell BK186.out 1).trans rfl, (blk_cell BK186.out 2).trans rfl⟩ (fun hHeld => ?_); refine with_tabW impl_DiskOk.tab7 impl_DiskOk.bits7 (fun HT_ HW_ => ?_)
           generalize w34.drew = w35 at BK182 BK186 HB hHeld ⊢
           refine pu_ (i := 0) (N := some 30) (v := ?_) (a' := ?_) #[i',o',o',o',o',o',o',o',o',o',o',o',o',o',o',o',o',o',o',o',o',o',o',o',o',o',o',o',o'] rfl rfl HT_ (Or.inl ⟨by rfl, ?_⟩) ?_ ?_
           rotate_left;·intro w';go_simp;with_reducible rfl
           rotate_left;·simp only [Act.put, la_, lz_, ls_, i64_w, i32_w];rfl
           refine take_ (i := 1) (N := some 31) (v := ?_) (a' := ?_) #[i',i',o',o',o',o',o',o',o',o',o',o',o',o',o',o',o',o',o',o',o',o',o',o',o',o',o',o',o'] rfl rfl (take_ofW HT_.out HW_.out (by kernel_rfl)) (fun _ _ _ h => h) (Or.inl ⟨by rfl, ?_⟩) hHeld ?_ ?_
           rotate_left
           ·rintro w' ⟨s0, s1, s2⟩
            go_simp
            with_reducible rfl
           rotate_left
           ·simp only [Act.put, la_, lz_, ls_, i64_w, i32_w]
            rfl
           refine one_ (i := 2) (N := some 32) #[i',i',i',o',o',o',o',o',o',o',o',o',o',o',o',o',o',o',o',o',o',o',o',o',o',o',o',o',o'] rfl rfl (one_of HT_.out (by kernel_rfl)) (by decide) (fun K hK => ?_)
           refine goes_ Tryd.func40 (by kernel_rfl) rfl #[.string ((rd_T51 l0_0 x25_2).f0)] (by rfl) rfl rfl ar_ ?_
           with_reducible refine (impl_NameOk.calls k2 ((rd_T51 l0_0 x25_2).f0) false _ A20.out).mono ?_
           rintro e w' ⟨rfl, ⟨nd, rfl⟩⟩
           refine ⟨_, rfl, ?_⟩
           refine hK.out _ _ ⟨(blk_cell BK186.out 0).trans rfl, (blk_cell BK186.out 1).trans rfl, (blk_cell BK186.out 2).trans rfl⟩ (fun hHeld => ?_)
           clear hK K
           refine norm_ (a' := ?_) ?_ ?_
           rotate_left
           ·show Act.put _ (some 32) _ = _
            simp only [Act.put, la_, lz_, ls_, i64_w, i32_w]
            rfl
           refine pu_ (i := 3) (N := some 33) (v := ?_) (a' := ?_) #[i',i',i',i',o',o',o',o',o',o',o',o',o',o',o',o',o',o',o',o',o',o',o',o',o',o',o',o',o'] rfl rfl HT_ (Or.inl ⟨by rfl, ?_⟩) ?_ ?_
           rotate_left;·intro w';go_simp;with_reducible rfl
           rotate_left;·simp only [Act.put, la_, lz_, ls_, i64_w, i32_w];rfl
           refine pu_ (i := 4) (N := some 34) (v := ?_) (a' := ?_) #[i',i',i',i',i',o',o',o',o',o',o',o',o',o',o',o',o',o',o',o',o',o',o',o',o',o',o',o',o'] rfl rfl HT_ (Or.inl ⟨by rfl, ?_⟩) ?_ ?_
           rotate_left;·intro w';go_simp;with_reducible rfl
           rotate_left;·simp only [Act.put, la_, lz_, ls_, i64_w, i32_w];rfl
           refine pure_ (i := 5) (N := some 35) (v := undef) (a' := ?_) #[i',i',i',i',i',i',o',o',o',o',o',o',o',o',o',o',o',o',o',o',o',o',o',o',o',o',o',o',o'] rfl rfl (any_of HT_.out (by kernel_rfl)) (fun _ _ _ h => h) (Or.inr ⟨by rfl, rfl⟩) ?_ ?_
           rotate_left
           ·simp only [Act.put, la_, lz_, ls_, i64_w, i32_w]
            rfl
           refine pure_ (i := 6) (N := some 36) (v := undef) (a' := ?_) #[i',i',i',i',i',i',i',o',o',o',o',o',o',o',o',o',o',o',o',o',o',o',o',o',o',o',o',o',o'] rfl rfl (any_of HT_.out (by kernel_rfl)) (fun _ _ _ h => h) (Or.inr ⟨by rfl, rfl⟩) ?_ ?_
           rotate_left
           ·simp only [Act.put, la_, lz_, ls_, i64_w, i32_w]
            rfl
           refine pure_ (i := 7) (N := some 37) (v := undef) (a' := ?_) #[i',i',i',i',i',i',i',i',o',o',o',o',o',o',o',o',o',o',o',o',o',o',o',o',o',o',o',o',o'] rfl rfl (any_of HT_.out (by kernel_rfl)) (fun _ _ _ h => h) (Or.inr ⟨by rfl, rfl⟩) ?_ ?_
           rotate_left
           ·simp only [Act.put, la_, lz_, ls_, i64_w, i32_w]
            rfl
           refine pure_ (i := 8) (N := some 38) (v := undef) (a' := ?_) #[i',i',i',i',i',i',i',i',i',o',o',o',o',o',o',o',o',o',o',o',o',o',o',o',o',o',o',o',o'] rfl rfl (any_of HT_.out (by kernel_rfl)) (fun _ _ _ h => h) (Or.inr ⟨by rfl, rfl⟩) ?_ ?_
           rotate_left
           ·simp only [Act.put, la_, lz_, ls_, i64_w, i32_w]
            rfl
           refine pure_ (i := 9) (N := some 39) (v := undef) (a' := ?_) #[i',i',i',i',i',i',i',i',i',i',o',o',o',o',o',o',o',o',o',o',o',o',o',o',o',o',o',o',o'] rfl rfl (any_of HT_.out (by kernel_rfl)) (fun _ _ _ h => h) (Or.inr ⟨by rfl, rfl⟩) ?_ ?_
           rotate_left
           ·simp only [Act.put, la_, lz_, ls_, i64_w, i32_w]
            rfl
           refine pure_ (i := 10) (N := some 40) (v := undef) (a' := ?_) #[i',i',i',i',i',i',i',i',i',i',i',o',o',o',o',o',o',o',o',o',o',o',o',o',o',o',o',o',o'] rfl rfl (any_of HT_.out (by kernel_rfl)) (fun _ _ _ h => h) (Or.inr ⟨by rfl, rfl⟩) ?_ ?_
           rotate_left
           ·simp only [Act.put, la_, lz_, ls_, i64_w, i32_w]
            rfl
           refine pure_ (i := 11) (N := some 41) (v := undef) (a' := ?_) #[i',i',i',i',i',i',i',i',i',i',i',i',o',o',o',o',o',o',o',o',o',o',o',o',o',o',o',o',o'] rfl rfl (any_of HT_.out (by kernel_rfl)) (fun _ _ _ h => h) (Or.inr ⟨by rfl, rfl⟩) ?_ ?_
           rotate_left
           ·simp only [Act.put, la_, lz_, ls_, i64_w, i32_w]
            rfl
           refine pu_ (i := 12) (N := some 42) (v := ?_) (a' := ?_) #[i',i',i',i',i',i',i',i',i',i',i',i',i',o',o',o',o',o',o',o',o',o',o',o',o',o',o',o',o'] rfl rfl HT_ (Or.inl ⟨by rfl, ?_⟩) ?_ ?_
           rotate_left;·intro w';go_simp;with_reducible rfl
           rotate_left;·simp only [Act.put, la_, lz_, ls_, i64_w, i32_w];rfl
           refine pu_ (i := 13) (N := some 43) (v := ?_) (a' := ?_) #[i',i',i',i',i',i',i',i',i',i',i',i',i',i',o',o',o',o',o',o',o',o',o',o',o',o',o',o',o'] rfl rfl HT_ (Or.inl ⟨by rfl, ?_⟩) ?_ ?_
           rotate_left;·intro w';go_simp;with_reducible rfl
           rotate_left;·simp only [Act.put, la_, lz_, ls_, i64_w, i32_w];rfl
           refine pure_ (i := 14) (N := some 44) (v := undef) (a' := ?_) #[i',i',i',i',i',i',i',i',i',i',i',i',i',i',i',o',o',o',o',o',o',o',o',o',o',o',o',o',o'] rfl rfl (any_of HT_.out (by kernel_rfl)) (fun _ _ _ h => h) (Or.inr ⟨by rfl, rfl⟩) ?_ ?_
           rotate_left
           ·simp only [Act.put, la_, lz_, ls_, i64_w, i32_w]
            rfl
           refine pure_ (i := 15) (N := some 45) (v := undef) (a' := ?_) #[i',i',i',i',i',i',i',i',i',i',i',i',i',i',i',i',o',o',o',o',o',o',o',o',o',o',o',o',o'] rfl rfl (any_of HT_.out (by kernel_rfl)) (fun _ _ _ h => h) (Or.inr ⟨by rfl, rfl⟩) ?_ ?_
           rotate_left
           ·simp only [Act.put, la_, lz_, ls_, i64_w, i32_w]
            rfl
           refine pure_ (i := 16) (N := some 46) (v := undef) (a' := ?_) #[i',i',i',i',i',i',i',i',i',i',i',i',i',i',i',i',i',o',o',o',o',o',o',o',o',o',o',o',o'] rfl rfl (any_of HT_.out (by kernel_rfl)) (fun _ _ _ h => h) (Or.inr ⟨by rfl, rfl⟩) ?_ ?_
           rotate_left
           ·simp only [Act.put, la_, lz_, ls_, i64_w, i32_w]
            rfl
           refine pure_ (i := 17) (N := some 47) (v := undef) (a' := ?_) #[i',i',i',i',i',i',i',i',i',i',i',i',i',i',i',i',i',i',o',o',o',o',o',o',o',o',o',o',o'] rfl rfl (any_of HT_.out (by kernel_rfl)) (fun _ _ _ h => h) (Or.inr ⟨by rfl, rfl⟩) ?_ ?_
           rotate_left
           ·simp only [Act.put, la_, lz_, ls_, i64_w, i32_w]
            rfl
           refine pure_ (i := 18) (N := some 48) (v := undef) (a' := ?_) #[i',i',i',i',i',i',i',i',i',i',i',i',i',i',i',i',i',i',i',o',o',o',o',o',o',o',o',o',o'] rfl rfl (any_of HT_.out (by kernel_rfl)) (fun _ _ _ h => h) (Or.inr ⟨by rfl, rfl⟩) ?_ ?_
           rotate_left
           ·simp only [Act.put, la_, lz_, ls_, i64_w, i32_w]
            rfl
           refine pure_ (i := 19) (N := some 49) (v := undef) (a' := ?_) #[i',i',i',i',i',i',i',i',i',i',i',i',i',i',i',i',i',i',i',i',o',o',o',o',o',o',o',o',o'] rfl rfl (any_of HT_.out (by kernel_rfl)) (fun _ _ _ h => h) (Or.inr ⟨by rfl, rfl⟩) ?_ ?_
           rotate_left
           ·simp only [Act.put, la_, lz_, ls_, i64_w, i32_w]
            rfl
           refine pure_ (i := 20) (N := some 50) (v := undef) (a' := ?_) #[i',i',i',i',i',i',i',i',i',i',i',i',i',i',i',i',i',i',i',i',i',o',o',o',o',o',o',o',o'] rfl rfl (any_of HT_.out (by kernel_rfl)) (fun _ _ _ h => h) (Or.inr ⟨by rfl, rfl⟩) ?_ ?_
           rotate_left
           ·simp only [Act.put, la_, lz_, ls_, i64_w, i32_w]
            rfl
           refine pure_ (i := 21) (N := some 51) (v := undef) (a' := ?_) #[i',i',i',i',i',i',i',i',i',i',i',i',i',i',i',i',i',i',i',i',i',i',o',o',o',o',o',o',o'] rfl rfl (any_of HT_.out (by kernel_rfl)) (fun _ _ _ h => h) (Or.inr ⟨by rfl, rfl⟩) ?_ ?_
           rotate_left
           ·simp only [Act.put, la_, lz_, ls_, i64_w, i32_w]
            rfl
           refine pure_ (i := 22) (N := some 52) (v := undef) (a' := ?_) #[i',i',i',i',i',i',i',i',i',i',i',i',i',i',i',i',i',i',i',i',i',i',i',o',o',o',o',o',o'] rfl rfl (any_of HT_.out (by kernel_rfl)) (fun _ _ _ h => h) (Or.inr ⟨by rfl, rfl⟩) ?_ ?_
           rotate_left
           ·simp only [Act.put, la_, lz_, ls_, i64_w, i32_w]
            rfl
           refine pure_ (i := 23) (N := some 53) (v := undef) (a' := ?_) #[i',i',i',i',i',i',i',i',i',i',i',i',i',i',i',i',i',i',i',i',i',i',i',i',o',o',o',o',o'] rfl rfl (any_of HT_.out (by kernel_rfl)) (fun _ _ _ h => h) (Or.inr ⟨by rfl, rfl⟩) ?_ ?_
           rotate_left
           ·simp only [Act.put, la_, lz_, ls_, i64_w, i32_w]
            rfl
           refine pure_ (i := 24) (N := some 54) (v := undef) (a' := ?_) #[i',i',i',i',i',i',i',i',i',i',i',i',i',i',i',i',i',i',i',i',i',i',i',i',i',o',o',o',o'] rfl rfl (any_of HT_.out (by kernel_rfl)) (fun _ _ _ h => h) (Or.inr ⟨by rfl, rfl⟩) ?_ ?_
           rotate_left
           ·simp only [Act.put, la_, lz_, ls_, i64_w, i32_w]
            rfl
           refine pure_ (i := 25) (N := some 55) (v := undef) (a' := ?_) #[i',i',i',i',i',i',i',i',i',i',i',i',i',i',i',i',i',i',i',i',i',i',i',i',i',i',o',o',o'] rfl rfl (any_of HT_.out (by kernel_rfl)) (fun _ _ _ h => h) (Or.inr ⟨by rfl, rfl⟩) ?_ ?_
           rotate_left
           ·simp only [Act.put, la_, lz_, ls_, i64_w, i32_w]
            rfl
           refine pure_ (i := 26) (N := some 56) (v := undef) (a' := ?_) #[i',i',i',i',i',i',i',i',i',i',i',i',i',i',i',i',i',i',i',i',i',i',i',i',i',i',i',o',o'] rfl rfl (any_of HT_.out (by kernel_rfl)) (fun _ _ _ h => h) (Or.inr ⟨by rfl, rfl⟩) ?_ ?_
           rotate_left
           ·simp only [Act.put, la_, lz_, ls_, i64_w, i32_w]
            rfl
           refine pure_ (i := 27) (N := some 57) (v := undef) (a' := ?_) #[i',i',i',i',i',i',i',i',i',i',i',i',i',i',i',i',i',i',i',i',i',i',i',i',i',i',i',i',o'] rfl rfl (any_of HT_.out (by kernel_rfl)) (fun _ _ _ h => h) (Or.inr ⟨by rfl, rfl⟩) ?_ ?_
           rotate_left
           ·simp only [Act.put, la_, lz_, ls_, i64_w, i32_w]
            rfl
           refine pu_ (i := 28) (N := some 58) (v := ?_) (a' := ?_) #[i',i',i',i',i',i',i',i',i',i',i',i',i',i',i',i',i',i',i',i',i',i',i',i',i',i',i',i',i'] rfl rfl HT_ (Or.inl ⟨by rfl, ?_⟩) ?_ ?_
           rotate_left;·intro w';go_simp;with_reducible rfl
           rotate_left;·simp only [Act.put, la_, lz_, ls_, i64_w, i32_w];rfl
           refine done_ (done_of HT_.out (by kernel_rfl)) ?_
           try go_wp2
           go_meet
           case rel => exact ⟨_, (true), rs_, H', ⟨by have := HJ1.out; have := HK2.out; first | exact Nat.le_refl _ | exact Nat.le_of_succ_le this | omega⟩, ⟨bk_ BK182⟩, ⟨bk_ BK186⟩, ⟨by repeat (first | (with_reducible first | exact HB.out | apply below_alloc | apply pw_below_drewN | apply below_drew1 | refine below_set ?_ GE182.out | refine below_set ?_ GE186.out) | exact HB.out)⟩⟩
         case rest =>
          clear HC16
          try clear c2
          try clear p2
          try clear c3
          try clear c4
          try clear c21
          try clear c23
          obtain ⟨kq, x58_15, rfl, HA, HJ15, BK182, BK186, HB⟩ := hcut
          cases kq with
          | zero => exact absurd HA.out (by simp [impl_DiskOk.j2])
          | succ kj15 =>
           have H := HA.out
           clear HA
           simp only [impl_DiskOk.j2] at H
           by_cases c36 : x58_15 = true
           ·subst c36
            have H1 : (some false) = some r := by rw [if_pos rfl] at H; exact H
            clear H
            have H := H1
            clear H1
            obtain rfl := Option.some.inj H
            go_wp2
            go_ret
            exact ⟨re_, by repeat (first | (with_reducible first | exact HB.out | apply below_alloc | apply pw_below_drewN | apply below_drew1 | refine below_set ?_ GE182.out | refine below_set ?_ GE186.out) | exact HB.out)⟩
           ·replace c36 := Bool.eq_false_iff.mpr c36
            subst c36
            have H1 : (impl_DiskOk.l0 kj15 (wrap64 (x3_2 + (((rd_T51 l0_0 x25_2).f1).size : Int))) l0_0 (l0_0.length : Int) (wrap64 (x25_2 + 1)) l0_0 a0_1 a0_2 a0_3) = some r := by rw [if_neg (show ¬ (false = true) by decide)] at H; exact H
            clear H
            have H := H1
            clear H1
            have H' := Aside0.mk H
            clear H
            have hnb37 := NB186_182.out
            have hnc37 := NB182_186.out
            have hcz38_0 : wc.cell? ⟨gb186, 0, none⟩ = some (.string ((rd_T51 l0_0 x25_2).f0)) := (blk_cell BK186.out 0).trans rfl
            have hcz38_1 : wc.cell? ⟨gb186, 1, none⟩ = some (.string ((rd_T51 l0_0 x25_2).f1)) := (blk_cell BK186.out 1).trans rfl
            have hcz38_2 : wc.cell? ⟨gb186, 2, none⟩ = some (.int .i64 ((rd_T51 l0_0 x25_2).f2)) := (blk_cell BK186.out 2).trans rfl
            have hfz38_0 := blk_frozen BK186.out 0
            have hfz38_1 := blk_frozen BK186.out 1
            have hfz38_2 := blk_frozen BK186.out 2
            go_wp2
            go_roundg kj15
            case measure => have := HJ1.out; have := HK2.out; have := HJ15.out; omega
            case rel => exact ⟨(wrap64 (x3_2 + (((rd_T51 l0_0 x25_2).f1).size : Int))), (wrap64 (x25_2 + 1)), rs_, rs_, H', ⟨by have := HJ1.out; have := HK2.out; have := HJ15.out; omega⟩, ⟨bk_ BK182⟩, ⟨by repeat (first | (with_reducible first | exact HB.out | apply below_alloc | apply pw_below_drewN | apply below_drew1 | refine below_set ?_ GE182.out | refine below_set ?_ GE186.out) | exact HB.out)⟩⟩
        ·rw [if_neg c15] at H
         exact absurd H (by simp)
       ·rw [if_neg c14] at H
        exact absurd H (by simp)
      ·rw [if_neg c13] at H
       have c13b0 : decide (x25_2 < (l0_0.length : Int)) = false := decide_eq_false c13
       clear c13
       obtain rfl := Option.some.inj H
       have hcz39_0 : wr.cell? ⟨gb182, 0, none⟩ = some (.slice A0_0 l0_0.length c0_0) := (blk_cell BK182.out 0).trans rfl
       have hcz39_1 : wr.cell? ⟨gb182, 1, none⟩ = some (.int .i64 a0_1) := (blk_cell BK182.out 1).trans rfl
       have hcz39_2 : wr.cell? ⟨gb182, 2, none⟩ = some (.int .i64 a0_2) := (blk_cell BK182.out 2).trans rfl
       have hcz39_3 : wr.cell? ⟨gb182, 3, none⟩ = some (.bool a0_3) := (blk_cell BK182.out 3).trans rfl
       have hfz39_0 := blk_frozen BK182.out 0
       have hfz39_1 := blk_frozen BK182.out 1
       have hfz39_2 := blk_frozen BK182.out 2
       have hfz39_3 := blk_frozen BK182.out 3
       go_wp2
       go_ret
       exact ⟨re_, hs_ HB GE182⟩

end Go.Proofs.YtodmaebgogjpdaaDoor.PFnExactOrphans
