-- Laid by a program of this session, a copy of the kit's printer with additions (wip/patch_print.py): myhead. Lean checks it.
import Derived.Test.YtigbekefjbfopaaPFnPowerx0
import Derived.Test.YtigbekefjbfopaaPFnPowerx5
import Derived.Test.YtigbekefjbfopaaPFnPowerx6
namespace Go.Proofs.Ytigbekefjbfopaa.PFnPower
open Go.RowKit Go.Proofs.YtigbekefjbfopaaW.PrintWords Go.Proofs.YtigbekefjbfopaaW.PrintLast Go.Proofs.YtigbekefjbfopaaW.PrintMore
theorem bl_swq25996 : ∀ x y : List UInt8, (Op.bytesLess x y || x == y) = !(Op.bytesLess y x)
 | [], [] => by simp [Op.bytesLess]
 | [], _ :: _ => by simp [Op.bytesLess]
 | _ :: _, [] => by simp [Op.bytesLess]
 | a :: x, b :: y => by
  have ih := bl_swq25996 x y
  by_cases e : a = b
  ·subst e
   simp only [Op.bytesLess, List.cons_beq_cons, BEq.rfl, Bool.true_and, UInt8.lt_irrefl, decide_false, Bool.false_or]
   exact ih
  ·have e' : ¬ b = a := fun h => e h.symm
   have h1 : (a == b) = false := by simpa using e
   have h2 : (b == a) = false := by simpa using e'
   simp only [Op.bytesLess, List.cons_beq_cons, h1, h2, Bool.false_and, Bool.or_false]
   by_cases l : a < b
   ·have : ¬ b < a := fun h => UInt8.lt_asymm h l
    simp [l, this]
   ·have : b < a := UInt8.lt_of_le_of_ne (UInt8.not_lt.1 l) e'
    simp [l, this]
theorem bl_leqq25996 (t : TypeId) (a b : ByteArray) : binOp .leq t (.string a) (.string b) = pure (.bool (!(Op.bytesLess b.toList a.toList))) := by simp only [binOp, Op.stringOp, bl_swq25996]
theorem bl_gtrq25996 (t : TypeId) (a b : ByteArray) : binOp .gtr t (.string a) (.string b) = pure (.bool (Op.bytesLess b.toList a.toList)) := by simp only [binOp, Op.stringOp, bl_swq25996, Bool.not_not]
theorem bl_geqq25996 (t : TypeId) (a b : ByteArray) : binOp .geq t (.string a) (.string b) = pure (.bool (!(Op.bytesLess a.toList b.toList))) := by simp only [binOp, Op.stringOp]
attribute [local go_sem] bl_leqq25996 bl_gtrq25996 bl_geqq25996
attribute [local go_sem] max2_int min2_int max_two min_two max_three min_three max_four min_four   -- for this text's walks alone
set_option linter.unusedVariables false
set_option linter.unusedSimpArgs false

/-! ### spec_l3Copy: function 36 -/
def spec_l3Copy.f (l0_0 : List (S45)) (a0_1 : Int) (a0_2 : Int) (a0_3 : Bool) : Option ((List (S45)) × Int × Int × Bool) := (some (([] : List (S45)) : List (S45))).bind fun y183 => (if y183.length + l0_0.length < 3518437208883 then (some ((y183 ++ l0_0), a0_1, a0_2, a0_3)) else (none))
set_option maxHeartbeats 80000000 in
set_option maxRecDepth 100000 in
theorem spec_l3Copy.calls (A0_0 : Option Addr) (c0_0 : Nat) (l0_0 : List (S45)) (a0_1 : Int) (a0_2 : Int) (a0_3 : Bool) (r1 : List (S45)) (r2 : Int) (r3 : Int) (r4 : Bool) (w : World) (hr0_0 : Kd.C k45 w A0_0 l0_0.length l0_0) (hc0_0 : l0_0.length ≤ c0_0) (h : spec_l3Copy.f l0_0 a0_1 a0_2 a0_3 = some (r1, r2, r3, r4)) :
  Calls Try.prog 36 #[.agg #[.slice A0_0 l0_0.length c0_0, .int .i64 a0_1, .int .i64 a0_2, .bool a0_3]] w fun e w' => ∃ v0_ : Value, e = .returned (.agg #[v0_, .int .i64 r2, .int .i64 r3, .bool r4]) ∧ Kd.R k45 45 w' w.heap.size (fun _ => True) v0_ r1 ∧ Below w.heap.size w w' := by
 have hu29 := Try.underlying29
 have HR0_0 := Aside0.mk hr0_0
 have HC0_0 := Aside0.mk hc0_0
 clear hr0_0 hc0_0
 have HB := Aside0.mk (Below.refl w.heap.size w)
 have H : ((some (([] : List (S45)) : List (S45))).bind fun y183 => (if y183.length + l0_0.length < 3518437208883 then (some ((y183 ++ l0_0), a0_1, a0_2, a0_3)) else (none))) = some (r1, r2, r3, r4) := h
 clear h
 obtain ⟨y183, hy183⟩ : ∃ y_ : List (S45), y_ = (([] : List (S45))) := ⟨_, rfl⟩
 replace H : (if y183.length + l0_0.length < 3518437208883 then (some ((y183 ++ l0_0), a0_1, a0_2, a0_3)) else (none)) = some (r1, r2, r3, r4) := by first | (rw [hy183]; with_reducible exact H) | (have H2_ := (Option.bind_some _ _).symm.trans H; rw [hy183]; with_reducible exact H2_) | (have H2_ := (Option.bind_some _ _).symm.trans H; with_reducible exact H2_) | with_reducible exact H | (rw [hy183]; exact H) | exact H
 have Ny183 := Aside0.mk hy183
 clear hy183
 by_cases c2 : y183.length + l0_0.length < 3518437208883
 ·rw [if_pos c2] at H
  have LMc2 := Aside0.mk c2
  clear c2
  obtain ⟨y186, hy186⟩ : ∃ y_ : List (S45), y_ = (y183 ++ l0_0) := ⟨_, rfl⟩
  replace H : (some (y186, a0_1, a0_2, a0_3)) = some (r1, r2, r3, r4) := by first | (rw [hy186]; with_reducible exact H) | (have H2_ := (Option.bind_some _ _).symm.trans H; rw [hy186]; with_reducible exact H2_) | (have H2_ := (Option.bind_some _ _).symm.trans H; with_reducible exact H2_) | with_reducible exact H | (rw [hy186]; exact H) | exact H
  have Ny186 := Aside0.mk hy186
  clear hy186
  simp only [Option.some.injEq, Prod.mk.injEq] at H
  obtain ⟨rfl, rfl, rfl, rfl⟩ := H
  go_enter Try.func36, Try.ntmps36
  go_wp2_with (first | ((with_reducible refine gate_dst (N := 1) rfl ?_); refine box_event ?hg (N := 1) ?hd (cs := #[.slice A0_0 l0_0.length c0_0, .int .i64 a0_1, .int .i64 a0_2, .bool a0_3]) (t := 29) ?hr ?_; (case hd => rfl); (case hg => rfl); (case hr => first | (go_simp; done) | (go_simp; rfl)); intro gb181 hg w3 hbox hb; have BK181 := Aside0.mk (hbox); have GW181 := ge_ hg (hb_ HB); have GE181 := ge_ hg (hb_ HB); replace HB := bs_ HB hb; clear hb hbox hg) | ((with_reducible refine gate_dst (N := 2) rfl ?_); refine box_event ?hg (N := 2) ?hd (cs := #[.slice none 0 0, .int .i64 0, .int .i64 0, .bool false]) (t := 29) ?hr ?_; (case hd => rfl); (case hg => rfl); (case hr => first | (go_simp; done) | (go_simp; rfl)); intro gb182 hg w4 hbox hb; have BK182 := Aside0.mk (hbox); have GW182 := ge_ hg (hs_ HB GE181); have GE182 := ge_ hg (hs_ HB GE181); replace HB := bt_ HB GE181 hb; have NB181_182 := nl_ BK181 hg; have NB182_181 := ng_ BK181 hg; replace BK181 := bb_ BK181 hb; clear hb hbox hg) | ((with_reducible refine gate_dst (N := 3) rfl ?_); refine Kd.R_lit k45 _ 45 ?hg (N := 3) ?hd (xs := ([] : List (S45))) (inner := []) (ok := fun _ => True) (okp := fun _ => True) ?hr ?hp (fun _ hk => hk) trivial (Below.refl _ _) (Nat.le_refl _) (by simp) ?_; (case hd => rfl); (case hg => rfl); (case hr => first | (go_simp; done) | (go_simp; rfl)); (case hp => exact (Reps.none _ _)); intro v184 w5 ho6 hb hg_ hnew_; clear hg_ hnew_; (first | rw [← Ny183.out] at ho6 | (simp only [Int.reduceToNat] at ho6; rw [← Ny183.out] at ho6)); have HO185 := Aside0.mk (Kd.R_lower ho6 (below_size (hu_ HB GE181 GE182))); replace BK181 := bb_ BK181 hb; replace BK182 := bb_ BK182 hb; replace HB := bu_ HB GE181 GE182 hb; clear hb ho6; have hnb7 := NB181_182.out; have hnc7 := NB182_181.out; obtain ⟨hcz8_0, hcz8_1, hcz8_2, hcz8_3, hfz8_0, hfz8_1, hfz8_2, hfz8_3⟩ := bc4_ BK181) | (at_builtin; (with_reducible refine gate_builtin (b := .append) (xs := #[.tmp 3, .tmp 5]) rfl ?_); refine Kd.R_append_rows k45 (w0 := w) w.heap.size rfl (.tmp 3) (.tmp 5) 27 45 (.agg #[(.string ⟨#[]⟩), (.string ⟨#[]⟩), (.int .i64 0)]) 40 rfl Try.underlying27 info45 rfl (by decide) (by omega) v184 y183 l0_0 _ _ _ (fun _ => True) (fun _ => False) rfl rfl ?aO ?aR (fun _ _ h => h) (fun _ h => h.elim) ?aF ?aB ?aS ?aL ?_; (case aR => repeat (first | exact (Kd.C_below HR0_0.out HB.out) | (with_reducible refine Kd.C_alloc ?_ _) | (with_reducible refine Kd.C_drewN ?_ _) | (with_reducible refine Kd.C_drew ?_))); (case aB => exact (hu_ HB GE181 GE182)); (case aF => exact (fun _ _ => trivial)); (case aO => exact (rr_ HO185)); (case aS => exact (below_size (hu_ HB GE181 GE182))); (case aL => have := LMc2.out; omega); intro v187 w9 ho hb hg hat; rw [← Ny186.out] at ho; replace BK181 := bg_ BK181 hg (Kd.R_ne HO185.out BK181.out (by decide)); replace BK182 := bg_ BK182 hg (Kd.R_ne HO185.out BK182.out (by decide)); replace HB := Aside0.mk (hb); have HO188 := Aside0.mk (ho); clear HO185; clear ho hb hg hat; obtain ⟨Ao10, co10, eo10⟩ := Kd.R_slice HO188.out; subst eo10; obtain ⟨hcz11_0, hcz11_1, hcz11_2, hcz11_3, hfz11_0, hfz11_1, hfz11_2, hfz11_3⟩ := bc4_ BK181; obtain ⟨hcz12_0, hcz12_1, hcz12_2, hcz12_3, hfz12_0, hfz12_1, hfz12_2, hfz12_3⟩ := bc4_ BK182))
  refine bodyPost_ret (results_cell_row rfl _ _ gb182 29 #[.slice Ao10 y186.length co10, .int .i64 a0_1, .int .i64 a0_2, .bool a0_3] (0, 0) _ rfl (by (with_reducible repeat (first | refine blk_drewN ?_ _ | refine blk_drew ?_ | refine blk_alloc ?_ _)); refine blk_put (cs := #[.slice Ao10 y186.length co10, .int .i64 a0_1, .int .i64 a0_2, .bool false]) ?_ 3 _ rfl; (with_reducible repeat (first | refine blk_drewN ?_ _ | refine blk_drew ?_ | refine blk_alloc ?_ _)); refine blk_put (cs := #[.slice Ao10 y186.length co10, .int .i64 a0_1, .int .i64 0, .bool false]) ?_ 2 _ rfl; (with_reducible repeat (first | refine blk_drewN ?_ _ | refine blk_drew ?_ | refine blk_alloc ?_ _)); refine blk_put (cs := #[.slice Ao10 y186.length co10, .int .i64 0, .int .i64 0, .bool false]) ?_ 1 _ rfl; (with_reducible repeat (first | refine blk_drewN ?_ _ | refine blk_drew ?_ | refine blk_alloc ?_ _)); refine blk_put (cs := #[.slice none 0 0, .int .i64 0, .int .i64 0, .bool false]) ?_ 0 _ rfl; (with_reducible repeat (first | refine blk_drewN ?_ _ | refine blk_drew ?_ | refine blk_alloc ?_ _)); refine blk_far ?_ NB182_181.out _; (with_reducible repeat (first | refine blk_drewN ?_ _ | refine blk_drew ?_ | refine blk_alloc ?_ _)); exact BK182.out) Try.underlying29 rfl (by kernel_rfl)) rfl ?_
  exact ⟨_, by first | rfl | (simp [errW_none, errW_some] <;> rfl) | (simp [*, errW_none, errW_some] <;> rfl), by (with_reducible repeat (first | apply Kd.R_alloc | apply Kd.R_drewN | apply Kd.R_drew)); exact Kd.R_mono (Kd.R_far (p := ⟨gb182, 3, none⟩) (Kd.R_far (p := ⟨gb182, 2, none⟩) (Kd.R_far (p := ⟨gb182, 1, none⟩) (Kd.R_far (p := ⟨gb182, 0, none⟩) (Kd.R_far (p := ⟨gb181, 0, none⟩) (Kd.R_types (Kd.R_types HO188.out BK181.out (by decide)) BK182.out (by decide)) (fun _ hk => hk.1.2) (.slice Ao10 y186.length co10)) (fun _ hk => hk.2) (.slice Ao10 y186.length co10)) (fun _ hk => hk.2) (.int .i64 a0_1)) (fun _ hk => hk.2) (.int .i64 a0_2)) (fun _ hk => hk.2) (.bool a0_3)) (fun _ hk => trivial), by repeat (first | (with_reducible first | exact HB.out | apply below_alloc | apply pw_below_drewN | apply below_drew1 | refine below_set ?_ GE181.out | refine below_set ?_ GE182.out) | exact HB.out)⟩
 ·rw [if_neg c2] at H
  exact absurd H (by simp)

/-! ### spec_l3Begin: function 102 -/
def spec_l3Begin.j0 : Nat → Bool → List (S45) → Int → Int → Bool → List (S45) → Int → Int → Bool → Option ((List (S45)) × Int × Int × Bool × Int)
 | 0, _, _, _, _, _, _, _, _, _ => none
 | k + 1, x17, x190000, x190001, x190002, x190003, x198000, x198001, x198002, x198003 => if x17 = true then (some (x198000, x198001, x198002, true, 1)) else (if x190002 > 0 then (some (x198000, x198001, wrap64 (x190002 - 1), x198003, 0)) else (some (x198000, x198001, x198002, x198003, 0)))
def spec_l3Begin.f (k : Nat) (l0_0 : List (S45)) (a0_1 : Int) (a0_2 : Int) (a0_3 : Bool) : Option ((List (S45)) × Int × Int × Bool × Int) := (spec_l3Copy.f l0_0 a0_1 a0_2 a0_3).bind fun bt191 => ((spec_DiskOk.f k l0_0 a0_1 a0_2 a0_3).bind fun t198 => (if t198 = true then (if a0_3 = true then (spec_l3Begin.j0 k true l0_0 a0_1 a0_2 a0_3 bt191.1 bt191.2.1 bt191.2.2.1 bt191.2.2.2) else (spec_l3Begin.j0 k (a0_2 == 0) l0_0 a0_1 a0_2 a0_3 bt191.1 bt191.2.1 bt191.2.2.1 bt191.2.2.2)) else (some (bt191.1, bt191.2.1, bt191.2.2.1, bt191.2.2.2, 5))))
theorem spec_l3Begin.mono_l : ∀ k, (∀ y0 y1 y2 y3 y4 y5 y6 y7 y8, LeO (spec_l3Begin.j0 k y0 y1 y2 y3 y4 y5 y6 y7 y8) (spec_l3Begin.j0 (k + 1) y0 y1 y2 y3 y4 y5 y6 y7 y8))
 | 0 => fun _ _ _ _ _ _ _ _ _ r h => by simp [spec_l3Begin.j0] at h
 | k + 1 => by
  have ih0 := spec_l3Begin.mono_l k
  ·intro y0 y1 y2 y3 y4 y5 y6 y7 y8
   unfold spec_l3Begin.j0
   repeat' first | (with_reducible first | exact ih0 .. | exact spec_DiskOk.mono .. | exact LeO.refl .. | exact LeO.none .. | refine LeO.ite ?_ ?_ | refine LeO.bind ?_ (fun _ => ?_)) | exact ih0 .. | exact spec_DiskOk.mono .. | exact LeO.none .. | refine LeO.ite ?_ ?_ | refine LeO.bind ?_ (fun _ => ?_)
theorem spec_l3Begin.mono : ∀ a0 a1 a2 a3 k, LeO (spec_l3Begin.f k a0 a1 a2 a3) (spec_l3Begin.f (k + 1) a0 a1 a2 a3) := by
 intro a0 a1 a2 a3 k
 have ih0 := spec_l3Begin.mono_l k
 unfold spec_l3Begin.f
 repeat' first | (with_reducible first | exact ih0 .. | exact spec_DiskOk.mono .. | exact LeO.refl .. | exact LeO.none .. | refine LeO.ite ?_ ?_ | refine LeO.bind ?_ (fun _ => ?_)) | exact ih0 .. | exact spec_DiskOk.mono .. | exact LeO.none .. | refine LeO.ite ?_ ?_ | refine LeO.bind ?_ (fun _ => ?_)
set_option maxHeartbeats 80000000 in
set_option maxRecDepth 100000 in
theorem spec_l3Begin.calls (k : Nat) (A0_0 : Option Addr) (c0_0 : Nat) (l0_0 : List (S45)) (a0_1 : Int) (a0_2 : Int) (a0_3 : Bool) (r1 : List (S45)) (r2 : Int) (r3 : Int) (r4 : Bool) (r5 : Int) (w : World) (hr0_0 : Kd.C k45 w A0_0 l0_0.length l0_0) (hc0_0 : l0_0.length ≤ c0_0) (h : spec_l3Begin.f k l0_0 a0_1 a0_2 a0_3 = some (r1, r2, r3, r4, r5)) :
  Calls Try.prog 102 #[.agg #[.slice A0_0 l0_0.length c0_0, .int .i64 a0_1, .int .i64 a0_2, .bool a0_3]] w fun e w' => ∃ v0_ : Value, e = .returned (.tuple #[.agg #[v0_, .int .i64 r2, .int .i64 r3, .bool r4], .int .i64 r5]) ∧ Kd.R k45 45 w' w.heap.size (fun _ => True) v0_ r1 ∧ Below w.heap.size w w' := by
 have hu29 := Try.underlying29
 have HR0_0 := Aside0.mk hr0_0
 have HC0_0 := Aside0.mk hc0_0
 clear hr0_0 hc0_0
 have HB := Aside0.mk (Below.refl w.heap.size w)
 have H : ((spec_l3Copy.f l0_0 a0_1 a0_2 a0_3).bind fun bt191 => ((spec_DiskOk.f k l0_0 a0_1 a0_2 a0_3).bind fun t198 => (if t198 = true then (if a0_3 = true then (spec_l3Begin.j0 k true l0_0 a0_1 a0_2 a0_3 bt191.1 bt191.2.1 bt191.2.2.1 bt191.2.2.2) else (spec_l3Begin.j0 k (a0_2 == 0) l0_0 a0_1 a0_2 a0_3 bt191.1 bt191.2.1 bt191.2.2.1 bt191.2.2.2)) else (some (bt191.1, bt191.2.1, bt191.2.2.1, bt191.2.2.2, 5))))) = some (r1, r2, r3, r4, r5) := h
 clear h
 replace H := Option.bind_eq_some_iff.mp H
 obtain ⟨⟨t191, t194, t195, t196⟩, A20, H⟩ := H
 replace H : ((spec_DiskOk.f k l0_0 a0_1 a0_2 a0_3).bind fun t198 => (if t198 = true then (if a0_3 = true then (spec_l3Begin.j0 k true l0_0 a0_1 a0_2 a0_3 t191 t194 t195 t196) else (spec_l3Begin.j0 k (a0_2 == 0) l0_0 a0_1 a0_2 a0_3 t191 t194 t195 t196)) else (some (t191, t194, t195, t196, 5)))) = some (r1, r2, r3, r4, r5) := H
 have A2 := Aside0.mk A20
 clear A20
 replace H := Option.bind_eq_some_iff.mp H
 obtain ⟨t198, A30, H⟩ := H
 replace H : (if t198 = true then (if a0_3 = true then (spec_l3Begin.j0 k true l0_0 a0_1 a0_2 a0_3 t191 t194 t195 t196) else (spec_l3Begin.j0 k (a0_2 == 0) l0_0 a0_1 a0_2 a0_3 t191 t194 t195 t196)) else (some (t191, t194, t195, t196, 5))) = some (r1, r2, r3, r4, r5) := H
 have A3 := Aside0.mk A30
 clear A30
 by_cases c4 : t198 = true
 ·subst c4
  have H1 : (if a0_3 = true then (spec_l3Begin.j0 k true l0_0 a0_1 a0_2 a0_3 t191 t194 t195 t196) else (spec_l3Begin.j0 k (a0_2 == 0) l0_0 a0_1 a0_2 a0_3 t191 t194 t195 t196)) = some (r1, r2, r3, r4, r5) := by rw [if_pos rfl] at H; exact H
  clear H
  have H := H1
  clear H1
  have HC5 := Aside0.mk H
  clear H
  go_enter Try.func102, Try.ntmps102
  go_upto_region 4 with (first | ((with_reducible refine gate_dst (N := 1) rfl ?_); refine box_event ?hg (N := 1) ?hd (cs := #[.slice A0_0 l0_0.length c0_0, .int .i64 a0_1, .int .i64 a0_2, .bool a0_3]) (t := 29) ?hr ?_; (case hd => rfl); (case hg => rfl); (case hr => first | (go_simp; done) | (go_simp; rfl)); intro gb189 hg w6 hbox hb; have BK189 := Aside0.mk (hbox); have GW189 := ge_ hg (hb_ HB); have GE189 := ge_ hg (hb_ HB); replace HB := bs_ HB hb; clear hb hbox hg) | ((with_reducible refine gate_dst (N := 2) rfl ?_); refine box_event ?hg (N := 2) ?hd (cs := #[.slice none 0 0, .int .i64 0, .int .i64 0, .bool false]) (t := 29) ?hr ?_; (case hd => rfl); (case hg => rfl); (case hr => first | (go_simp; done) | (go_simp; rfl)); intro gb190 hg w7 hbox hb; have BK190 := Aside0.mk (hbox); have GW190 := ge_ hg (hs_ HB GE189); have GE190 := ge_ hg (hs_ HB GE189); replace HB := bt_ HB GE189 hb; have NB189_190 := nl_ BK189 hg; have NB190_189 := ng_ BK189 hg; replace BK189 := bb_ BK189 hb; clear hb hbox hg; have hnb8 := NB189_190.out; have hnc8 := NB190_189.out; obtain ⟨hcz9_0, hcz9_1, hcz9_2, hcz9_3, hfz9_0, hfz9_1, hfz9_2, hfz9_3⟩ := bc4_ BK189) | ((with_reducible refine gate_callee (f := 36) rfl ?_); refine goesL_ (some 6) rfl rfl Try.func36 (by kernel_rfl) rfl #[.agg #[.slice A0_0 l0_0.length c0_0, .int .i64 a0_1, .int .i64 a0_2, .bool a0_3]] rfl ar_ ?_; (with_reducible refine (spec_l3Copy.calls _ _ l0_0 a0_1 a0_2 a0_3 t191 t194 t195 t196 _ ?side1 ?side2 A2.out).mono ?_); (case side1 => repeat (first | exact (Kd.C_below HR0_0.out HB.out) | (with_reducible refine Kd.C_alloc ?_ _) | (with_reducible refine Kd.C_drewN ?_ _) | (with_reducible refine Kd.C_drew ?_))); (case side2 => exact HC0_0.out); rintro e w10 ⟨v192, rfl, ho0, hb⟩; refine ⟨_, rfl, ?_⟩; have HO193 := Aside0.mk (Kd.R_lower ho0 (below_size (hu_ HB GE189 GE190))); replace BK189 := bb_ BK189 hb; replace BK190 := bb_ BK190 hb; replace HB := bu_ HB GE189 GE190 hb; (try clear hb); (try clear hb2); (try clear hk); (try clear hi); (try clear ho0)) | ((with_reducible refine gate_dst (N := 4) rfl ?_); refine box_event ?hg (N := 4) ?hd (cs := #[.slice none 0 0, .int .i64 0, .int .i64 0, .bool false]) (t := 29) ?hr ?_; (case hd => rfl); (case hg => rfl); (case hr => first | (go_simp; done) | (go_simp; rfl)); intro gb197 hg w11 hbox hb; replace HO193 := rb_ HO193 hb; have BK197 := Aside0.mk (hbox); have GW197 := ge_ hg (hu_ HB GE189 GE190); have GE197 := ge_ hg (hu_ HB GE189 GE190); replace HB := bu_ HB GE189 GE190 hb; have NB189_197 := nl_ BK189 hg; have NB197_189 := ng_ BK189 hg; replace BK189 := bb_ BK189 hb; have NB190_197 := nl_ BK190 hg; have NB197_190 := ng_ BK190 hg; replace BK190 := bb_ BK190 hb; clear hb hbox hg; obtain ⟨Ao12, co12, eo12⟩ := Kd.R_slice HO193.out; subst eo12; have hnb13 := NB197_189.out; have hnc13 := NB189_197.out; have hnb14 := NB197_190.out; have hnc14 := NB190_197.out; obtain ⟨hcz15_0, hcz15_1, hcz15_2, hcz15_3, hfz15_0, hfz15_1, hfz15_2, hfz15_3⟩ := bc4_ BK197; obtain ⟨hcz16_0, hcz16_1, hcz16_2, hcz16_3, hfz16_0, hfz16_1, hfz16_2, hfz16_3⟩ := bc4_ BK189) | ((with_reducible refine gate_callee (f := 18) rfl ?_); refine goesL_ (some 8) rfl rfl Try.func18 (by kernel_rfl) rfl #[.agg #[.slice A0_0 l0_0.length c0_0, .int .i64 a0_1, .int .i64 a0_2, .bool a0_3]] rfl ar_ ?_; (with_reducible refine (spec_DiskOk.calls k _ _ l0_0 a0_1 a0_2 a0_3 true _ ?side1 ?side2 A3.out).mono ?_); (case side1 => exact Kd.C_below HR0_0.out (hv_ HB GE189 GE190 GE197)); (case side2 => exact HC0_0.out); rintro e w17 ⟨rfl, hb⟩; refine ⟨_, rfl, ?_⟩; replace HO193 := rfb_ HO193 BK197 hb; replace BK189 := bf_ BK189 NB189_197 hb; replace BK190 := bf_ BK190 NB190_197 hb; replace BK197 := bp_ #[.slice Ao12 t191.length co12, .int .i64 t194, .int .i64 t195, .bool t196] BK197 hb; replace HB := Aside0.mk (below_step (hv_ HB GE189 GE190 GE197) hb); (try clear hb); (try clear hb2); (try clear hk); (try clear hi)))
  (try simp only [Act.put, la_, lz_, ls_])
  go_cut [17] (fun v17 wc => ∃ (kq : Nat) (x17_4 : Bool), v17 = .bool x17_4 ∧ Aside0 (spec_l3Begin.j0 kq x17_4 l0_0 a0_1 a0_2 a0_3 t191 t194 t195 t196 = some (r1, r2, r3, r4, r5)) ∧ Aside0 (kq ≤ k) ∧ Aside0 (Kd.R k45 45 wc w.heap.size (fun _ => True) (.slice Ao12 t191.length co12) t191) ∧ Aside0 (wc.heap[gb189]? = some (.cells #[(.slice A0_0 l0_0.length c0_0), .int .i64 a0_1, .int .i64 a0_2, .bool a0_3] 29 (0, 0))) ∧ Aside0 (wc.heap[gb190]? = some (.cells #[(.slice none 0 0), .int .i64 0, .int .i64 0, .bool false] 29 (0, 0))) ∧ Aside0 (wc.heap[gb197]? = some (.cells #[(.slice Ao12 t191.length co12), .int .i64 t194, .int .i64 t195, .bool t196] 29 (0, 0))) ∧ Aside0 (Below w.heap.size w wc))
  case first =>
   have H := HC5.out
   clear HC5
   by_cases c18 : a0_3 = true
   ·subst c18
    have H1 : (spec_l3Begin.j0 k true l0_0 a0_1 a0_2 true t191 t194 t195 t196) = some (r1, r2, r3, r4, r5) := by rw [if_pos rfl] at H; exact H
    clear H
    have H := H1
    clear H1
    have H' := Aside0.mk H
    clear H
    have hnb19 := NB189_190.out
    have hnc19 := NB190_189.out
    have hnb20 := NB189_197.out
    have hnc20 := NB197_189.out
    obtain ⟨hcz21_0, hcz21_1, hcz21_2, hcz21_3, hfz21_0, hfz21_1, hfz21_2, hfz21_3⟩ := bc4_ BK189
    go_wp2
    go_meet
    case rel => exact ⟨_, (true), rs_, H', ⟨by first | exact Nat.le_refl _ | exact Nat.le_of_succ_le this | omega⟩, ⟨rr_ HO193⟩, ⟨bk_ BK189⟩, ⟨bk_ BK190⟩, ⟨bk_ BK197⟩, ⟨by repeat (first | (with_reducible first | exact HB.out | apply below_alloc | apply pw_below_drewN | apply below_drew1 | refine below_set ?_ GE189.out | refine below_set ?_ GE190.out | refine below_set ?_ GE197.out) | exact HB.out)⟩⟩
   ·replace c18 := Bool.eq_false_iff.mpr c18
    subst c18
    have H1 : (spec_l3Begin.j0 k (a0_2 == 0) l0_0 a0_1 a0_2 false t191 t194 t195 t196) = some (r1, r2, r3, r4, r5) := by rw [if_neg (show ¬ (false = true) by decide)] at H; exact H
    clear H
    have H := H1
    clear H1
    have H' := Aside0.mk H
    clear H
    have hnb22 := NB189_190.out
    have hnc22 := NB190_189.out
    have hnb23 := NB189_197.out
    have hnc23 := NB197_189.out
    obtain ⟨hcz24_0, hcz24_1, hcz24_2, hcz24_3, hfz24_0, hfz24_1, hfz24_2, hfz24_3⟩ := bc4_ BK189
    go_wp2
    go_meet
    case rel => exact ⟨_, ((a0_2 == 0)), rs_, H', ⟨by first | exact Nat.le_refl _ | exact Nat.le_of_succ_le this | omega⟩, ⟨rr_ HO193⟩, ⟨bk_ BK189⟩, ⟨bk_ BK190⟩, ⟨bk_ BK197⟩, ⟨by repeat (first | (with_reducible first | exact HB.out | apply below_alloc | apply pw_below_drewN | apply below_drew1 | refine below_set ?_ GE189.out | refine below_set ?_ GE190.out | refine below_set ?_ GE197.out) | exact HB.out)⟩⟩
  case rest =>
   clear HC5
   try clear c1
   try clear c2
   try clear p2
   try clear c3
   try clear c4
   try clear c8
   try clear c10
   try clear c13
   try clear c14
   try clear c18
   try clear c19
   try clear c20
   try clear c22
   try clear c23
   try clear hcz15_0 hcz15_1 hcz15_2 hcz15_3 hfz15_0 hfz15_1 hfz15_2 hfz15_3
   try clear hcz16_0 hcz16_1 hcz16_2 hcz16_3 hfz16_0 hfz16_1 hfz16_2 hfz16_3
   try clear hcz21_0 hcz21_1 hcz21_2 hcz21_3 hfz21_0 hfz21_1 hfz21_2 hfz21_3
   try clear hcz24_0 hcz24_1 hcz24_2 hcz24_3 hfz24_0 hfz24_1 hfz24_2 hfz24_3
   try clear hcz9_0 hcz9_1 hcz9_2 hcz9_3 hfz9_0 hfz9_1 hfz9_2 hfz9_3
   obtain ⟨kq, x17_4, rfl, HA, HJ4, HO_198000, BK189, BK190, BK197, HB⟩ := hcut
   cases kq with
   | zero => exact absurd HA.out (by simp [spec_l3Begin.j0])
   | succ kj4 =>
    have H := HA.out
    clear HA
    simp only [spec_l3Begin.j0] at H
    by_cases c25 : x17_4 = true
    ·subst c25
     have H1 : (some (t191, t194, t195, true, 1)) = some (r1, r2, r3, r4, r5) := by rw [if_pos rfl] at H; exact H
     clear H
     have H := H1
     clear H1
     simp only [Option.some.injEq, Prod.mk.injEq] at H
     obtain ⟨rfl, rfl, rfl, rfl, rfl⟩ := H
     have hnb26 := NB197_189.out
     have hnc26 := NB189_197.out
     have hnb27 := NB197_190.out
     have hnc27 := NB190_197.out
     obtain ⟨hcz28_0, hcz28_1, hcz28_2, hcz28_3, hfz28_0, hfz28_1, hfz28_2, hfz28_3⟩ := bc4_ BK197
     have hnb29 := NB190_189.out
     have hnc29 := NB189_190.out
     obtain ⟨hcz30_0, hcz30_1, hcz30_2, hcz30_3, hfz30_0, hfz30_1, hfz30_2, hfz30_3⟩ := bc4_ BK190
     go_wp2
     refine bodyPost_ret (results_ct rfl _ _ gb190 29 #[.slice Ao12 t191.length co12, .int .i64 t194, .int .i64 t195, .bool true] (0, 0) _ rfl (by (with_reducible repeat (first | refine blk_drewN ?_ _ | refine blk_drew ?_ | refine blk_alloc ?_ _)); refine blk_put (cs := #[.slice Ao12 t191.length co12, .int .i64 t194, .int .i64 t195, .bool false]) ?_ 3 _ rfl; (with_reducible repeat (first | refine blk_drewN ?_ _ | refine blk_drew ?_ | refine blk_alloc ?_ _)); refine blk_put (cs := #[.slice Ao12 t191.length co12, .int .i64 t194, .int .i64 0, .bool false]) ?_ 2 _ rfl; (with_reducible repeat (first | refine blk_drewN ?_ _ | refine blk_drew ?_ | refine blk_alloc ?_ _)); refine blk_put (cs := #[.slice Ao12 t191.length co12, .int .i64 0, .int .i64 0, .bool false]) ?_ 1 _ rfl; (with_reducible repeat (first | refine blk_drewN ?_ _ | refine blk_drew ?_ | refine blk_alloc ?_ _)); refine blk_put (cs := #[.slice none 0 0, .int .i64 0, .int .i64 0, .bool false]) ?_ 0 _ rfl; (with_reducible repeat (first | refine blk_drewN ?_ _ | refine blk_drew ?_ | refine blk_alloc ?_ _)); refine blk_far ?_ NB190_197.out _; (with_reducible repeat (first | refine blk_drewN ?_ _ | refine blk_drew ?_ | refine blk_alloc ?_ _)); exact BK190.out) Try.underlying29 rfl (by kernel_rfl)) rfl ?_
     exact ⟨_, by first | rfl | (simp [errW_none, errW_some] <;> rfl) | (simp [*, errW_none, errW_some] <;> rfl), by (with_reducible repeat (first | apply Kd.R_alloc | apply Kd.R_drewN | apply Kd.R_drew)); exact Kd.R_mono (Kd.R_far (p := ⟨gb190, 3, none⟩) (Kd.R_far (p := ⟨gb190, 2, none⟩) (Kd.R_far (p := ⟨gb190, 1, none⟩) (Kd.R_far (p := ⟨gb190, 0, none⟩) (Kd.R_far (p := ⟨gb197, 3, none⟩) (Kd.R_types (Kd.R_types HO_198000.out BK197.out (by decide)) BK190.out (by decide)) (fun _ hk => hk.1.2) (.bool true)) (fun _ hk => hk.2) (.slice Ao12 t191.length co12)) (fun _ hk => hk.2) (.int .i64 t194)) (fun _ hk => hk.2) (.int .i64 t195)) (fun _ hk => hk.2) (.bool true)) (fun _ hk => trivial), by repeat (first | (with_reducible first | exact HB.out | apply below_alloc | apply pw_below_drewN | apply below_drew1 | refine below_set ?_ GE189.out | refine below_set ?_ GE190.out | refine below_set ?_ GE197.out) | exact HB.out)⟩
    ·replace c25 := Bool.eq_false_iff.mpr c25
     subst c25
     have H1 : (if a0_2 > 0 then (some (t191, t194, wrap64 (a0_2 - 1), t196, 0)) else (some (t191, t194, t195, t196, 0))) = some (r1, r2, r3, r4, r5) := by rw [if_neg (show ¬ (false = true) by decide)] at H; exact H
     clear H
     have H := H1
     clear H1
     by_cases c31 : a0_2 > 0
     ·rw [if_pos c31] at H
      have c31b0 : decide (0 < a0_2) = true := decide_eq_true c31
      clear c31
      simp only [Option.some.injEq, Prod.mk.injEq] at H
      obtain ⟨rfl, rfl, rfl, rfl, rfl⟩ := H
      have hnb32 := NB189_190.out
      have hnc32 := NB190_189.out
      have hnb33 := NB189_197.out
      have hnc33 := NB197_189.out
      obtain ⟨hcz34_0, hcz34_1, hcz34_2, hcz34_3, hfz34_0, hfz34_1, hfz34_2, hfz34_3⟩ := bc4_ BK189
      have hnb35 := NB197_190.out
      have hnc35 := NB190_197.out
      obtain ⟨hcz36_0, hcz36_1, hcz36_2, hcz36_3, hfz36_0, hfz36_1, hfz36_2, hfz36_3⟩ := bc4_ BK197
      obtain ⟨hcz37_0, hcz37_1, hcz37_2, hcz37_3, hfz37_0, hfz37_1, hfz37_2, hfz37_3⟩ := bc4_ BK190
      go_wp2
      refine bodyPost_ret (results_ct rfl _ _ gb190 29 #[.slice Ao12 t191.length co12, .int .i64 t194, .int .i64 (wrap64 (a0_2 - 1)), .bool t196] (0, 0) _ rfl (by (with_reducible repeat (first | refine blk_drewN ?_ _ | refine blk_drew ?_ | refine blk_alloc ?_ _)); refine blk_put (cs := #[.slice Ao12 t191.length co12, .int .i64 t194, .int .i64 (wrap64 (a0_2 - 1)), .bool false]) ?_ 3 _ rfl; (with_reducible repeat (first | refine blk_drewN ?_ _ | refine blk_drew ?_ | refine blk_alloc ?_ _)); refine blk_put (cs := #[.slice Ao12 t191.length co12, .int .i64 t194, .int .i64 0, .bool false]) ?_ 2 _ rfl; (with_reducible repeat (first | refine blk_drewN ?_ _ | refine blk_drew ?_ | refine blk_alloc ?_ _)); refine blk_put (cs := #[.slice Ao12 t191.length co12, .int .i64 0, .int .i64 0, .bool false]) ?_ 1 _ rfl; (with_reducible repeat (first | refine blk_drewN ?_ _ | refine blk_drew ?_ | refine blk_alloc ?_ _)); refine blk_put (cs := #[.slice none 0 0, .int .i64 0, .int .i64 0, .bool false]) ?_ 0 _ rfl; (with_reducible repeat (first | refine blk_drewN ?_ _ | refine blk_drew ?_ | refine blk_alloc ?_ _)); refine blk_far ?_ NB190_197.out _; (with_reducible repeat (first | refine blk_drewN ?_ _ | refine blk_drew ?_ | refine blk_alloc ?_ _)); exact BK190.out) Try.underlying29 rfl (by kernel_rfl)) rfl ?_
      exact ⟨_, by first | rfl | (simp [errW_none, errW_some] <;> rfl) | (simp [*, errW_none, errW_some] <;> rfl), by (with_reducible repeat (first | apply Kd.R_alloc | apply Kd.R_drewN | apply Kd.R_drew)); exact Kd.R_mono (Kd.R_far (p := ⟨gb190, 3, none⟩) (Kd.R_far (p := ⟨gb190, 2, none⟩) (Kd.R_far (p := ⟨gb190, 1, none⟩) (Kd.R_far (p := ⟨gb190, 0, none⟩) (Kd.R_far (p := ⟨gb197, 2, none⟩) (Kd.R_types (Kd.R_types HO_198000.out BK197.out (by decide)) BK190.out (by decide)) (fun _ hk => hk.1.2) (.int .i64 (wrap64 (a0_2 - 1)))) (fun _ hk => hk.2) (.slice Ao12 t191.length co12)) (fun _ hk => hk.2) (.int .i64 t194)) (fun _ hk => hk.2) (.int .i64 (wrap64 (a0_2 - 1)))) (fun _ hk => hk.2) (.bool t196)) (fun _ hk => trivial), by repeat (first | (with_reducible first | exact HB.out | apply below_alloc | apply pw_below_drewN | apply below_drew1 | refine below_set ?_ GE189.out | refine below_set ?_ GE190.out | refine below_set ?_ GE197.out) | exact HB.out)⟩
     ·rw [if_neg c31] at H
      have c31b0 : decide (0 < a0_2) = false := decide_eq_false c31
      clear c31
      simp only [Option.some.injEq, Prod.mk.injEq] at H
      obtain ⟨rfl, rfl, rfl, rfl, rfl⟩ := H
      have hnb38 := NB189_190.out
      have hnc38 := NB190_189.out
      have hnb39 := NB189_197.out
      have hnc39 := NB197_189.out
      obtain ⟨hcz40_0, hcz40_1, hcz40_2, hcz40_3, hfz40_0, hfz40_1, hfz40_2, hfz40_3⟩ := bc4_ BK189
      have hnb41 := NB197_190.out
      have hnc41 := NB190_197.out
      obtain ⟨hcz42_0, hcz42_1, hcz42_2, hcz42_3, hfz42_0, hfz42_1, hfz42_2, hfz42_3⟩ := bc4_ BK197
      obtain ⟨hcz43_0, hcz43_1, hcz43_2, hcz43_3, hfz43_0, hfz43_1, hfz43_2, hfz43_3⟩ := bc4_ BK190
      go_wp2
      refine bodyPost_ret (results_ct rfl _ _ gb190 29 #[.slice Ao12 t191.length co12, .int .i64 t194, .int .i64 t195, .bool t196] (0, 0) _ rfl (up_ _ BK190 rfl).out Try.underlying29 rfl (by kernel_rfl)) rfl ?_
      exact ⟨_, by first | rfl | (simp [errW_none, errW_some] <;> rfl) | (simp [*, errW_none, errW_some] <;> rfl), by (with_reducible repeat (first | apply Kd.R_alloc | apply Kd.R_drewN | apply Kd.R_drew)); exact Kd.R_mono (Kd.R_far (p := ⟨gb190, 3, none⟩) (Kd.R_far (p := ⟨gb190, 2, none⟩) (Kd.R_far (p := ⟨gb190, 1, none⟩) (Kd.R_far (p := ⟨gb190, 0, none⟩) (Kd.R_types HO_198000.out BK190.out (by decide)) (fun _ hk => hk.2) (.slice Ao12 t191.length co12)) (fun _ hk => hk.2) (.int .i64 t194)) (fun _ hk => hk.2) (.int .i64 t195)) (fun _ hk => hk.2) (.bool t196)) (fun _ hk => trivial), by repeat (first | (with_reducible first | exact HB.out | apply below_alloc | apply pw_below_drewN | apply below_drew1 | refine below_set ?_ GE189.out | refine below_set ?_ GE190.out | refine below_set ?_ GE197.out) | exact HB.out)⟩
 ·replace c4 := Bool.eq_false_iff.mpr c4
  subst c4
  have H1 : (some (t191, t194, t195, t196, 5)) = some (r1, r2, r3, r4, r5) := by rw [if_neg (show ¬ (false = true) by decide)] at H; exact H
  clear H
  have H := H1
  clear H1
  simp only [Option.some.injEq, Prod.mk.injEq] at H
  obtain ⟨rfl, rfl, rfl, rfl, rfl⟩ := H
  go_enter Try.func102, Try.ntmps102
  go_wp2_with (first | ((with_reducible refine gate_dst (N := 1) rfl ?_); refine box_event ?hg (N := 1) ?hd (cs := #[.slice A0_0 l0_0.length c0_0, .int .i64 a0_1, .int .i64 a0_2, .bool a0_3]) (t := 29) ?hr ?_; (case hd => rfl); (case hg => rfl); (case hr => first | (go_simp; done) | (go_simp; rfl)); intro gb189 hg w44 hbox hb; have BK189 := Aside0.mk (hbox); have GW189 := ge_ hg (hb_ HB); have GE189 := ge_ hg (hb_ HB); replace HB := bs_ HB hb; clear hb hbox hg) | ((with_reducible refine gate_dst (N := 2) rfl ?_); refine box_event ?hg (N := 2) ?hd (cs := #[.slice none 0 0, .int .i64 0, .int .i64 0, .bool false]) (t := 29) ?hr ?_; (case hd => rfl); (case hg => rfl); (case hr => first | (go_simp; done) | (go_simp; rfl)); intro gb190 hg w45 hbox hb; have BK190 := Aside0.mk (hbox); have GW190 := ge_ hg (hs_ HB GE189); have GE190 := ge_ hg (hs_ HB GE189); replace HB := bt_ HB GE189 hb; have NB189_190 := nl_ BK189 hg; have NB190_189 := ng_ BK189 hg; replace BK189 := bb_ BK189 hb; clear hb hbox hg; have hnb46 := NB189_190.out; have hnc46 := NB190_189.out; obtain ⟨hcz47_0, hcz47_1, hcz47_2, hcz47_3, hfz47_0, hfz47_1, hfz47_2, hfz47_3⟩ := bc4_ BK189) | ((with_reducible refine gate_callee (f := 36) rfl ?_); refine goesL_ (some 6) rfl rfl Try.func36 (by kernel_rfl) rfl #[.agg #[.slice A0_0 l0_0.length c0_0, .int .i64 a0_1, .int .i64 a0_2, .bool a0_3]] rfl ar_ ?_; (with_reducible refine (spec_l3Copy.calls _ _ l0_0 a0_1 a0_2 a0_3 t191 t194 t195 t196 _ ?side1 ?side2 A2.out).mono ?_); (case side1 => repeat (first | exact (Kd.C_below HR0_0.out HB.out) | (with_reducible refine Kd.C_alloc ?_ _) | (with_reducible refine Kd.C_drewN ?_ _) | (with_reducible refine Kd.C_drew ?_))); (case side2 => exact HC0_0.out); rintro e w48 ⟨v192, rfl, ho0, hb⟩; refine ⟨_, rfl, ?_⟩; have HO193 := Aside0.mk (Kd.R_lower ho0 (below_size (hu_ HB GE189 GE190))); replace BK189 := bb_ BK189 hb; replace BK190 := bb_ BK190 hb; replace HB := bu_ HB GE189 GE190 hb; (try clear hb); (try clear hb2); (try clear hk); (try clear hi); (try clear ho0)) | ((with_reducible refine gate_dst (N := 4) rfl ?_); refine box_event ?hg (N := 4) ?hd (cs := #[.slice none 0 0, .int .i64 0, .int .i64 0, .bool false]) (t := 29) ?hr ?_; (case hd => rfl); (case hg => rfl); (case hr => first | (go_simp; done) | (go_simp; rfl)); intro gb197 hg w49 hbox hb; replace HO193 := rb_ HO193 hb; have BK197 := Aside0.mk (hbox); have GW197 := ge_ hg (hu_ HB GE189 GE190); have GE197 := ge_ hg (hu_ HB GE189 GE190); replace HB := bu_ HB GE189 GE190 hb; have NB189_197 := nl_ BK189 hg; have NB197_189 := ng_ BK189 hg; replace BK189 := bb_ BK189 hb; have NB190_197 := nl_ BK190 hg; have NB197_190 := ng_ BK190 hg; replace BK190 := bb_ BK190 hb; clear hb hbox hg; obtain ⟨Ao50, co50, eo50⟩ := Kd.R_slice HO193.out; subst eo50; have hnb51 := NB197_189.out; have hnc51 := NB189_197.out; have hnb52 := NB197_190.out; have hnc52 := NB190_197.out; obtain ⟨hcz53_0, hcz53_1, hcz53_2, hcz53_3, hfz53_0, hfz53_1, hfz53_2, hfz53_3⟩ := bc4_ BK197; obtain ⟨hcz54_0, hcz54_1, hcz54_2, hcz54_3, hfz54_0, hfz54_1, hfz54_2, hfz54_3⟩ := bc4_ BK189) | ((with_reducible refine gate_callee (f := 18) rfl ?_); refine goesL_ (some 8) rfl rfl Try.func18 (by kernel_rfl) rfl #[.agg #[.slice A0_0 l0_0.length c0_0, .int .i64 a0_1, .int .i64 a0_2, .bool a0_3]] rfl ar_ ?_; (with_reducible refine (spec_DiskOk.calls k _ _ l0_0 a0_1 a0_2 a0_3 false _ ?side1 ?side2 A3.out).mono ?_); (case side1 => exact Kd.C_below HR0_0.out (hv_ HB GE189 GE190 GE197)); (case side2 => exact HC0_0.out); rintro e w55 ⟨rfl, hb⟩; refine ⟨_, rfl, ?_⟩; replace HO193 := rfb_ HO193 BK197 hb; replace BK189 := bf_ BK189 NB189_197 hb; replace BK190 := bf_ BK190 NB190_197 hb; replace BK197 := bp_ #[.slice Ao50 t191.length co50, .int .i64 t194, .int .i64 t195, .bool t196] BK197 hb; replace HB := Aside0.mk (below_step (hv_ HB GE189 GE190 GE197) hb); (try clear hb); (try clear hb2); (try clear hk); (try clear hi); obtain ⟨hcz56_0, hcz56_1, hcz56_2, hcz56_3, hfz56_0, hfz56_1, hfz56_2, hfz56_3⟩ := bc4_ BK197; obtain ⟨hcz57_0, hcz57_1, hcz57_2, hcz57_3, hfz57_0, hfz57_1, hfz57_2, hfz57_3⟩ := bc4_ BK190))
  refine bodyPost_ret (results_ct rfl _ _ gb190 29 #[.slice Ao50 t191.length co50, .int .i64 t194, .int .i64 t195, .bool t196] (0, 0) _ rfl (up_ _ BK190 rfl).out Try.underlying29 rfl (by kernel_rfl)) rfl ?_
  exact ⟨_, by first | rfl | (simp [errW_none, errW_some] <;> rfl) | (simp [*, errW_none, errW_some] <;> rfl), by (with_reducible repeat (first | apply Kd.R_alloc | apply Kd.R_drewN | apply Kd.R_drew)); exact Kd.R_mono (Kd.R_far (p := ⟨gb190, 3, none⟩) (Kd.R_far (p := ⟨gb190, 2, none⟩) (Kd.R_far (p := ⟨gb190, 1, none⟩) (Kd.R_far (p := ⟨gb190, 0, none⟩) (Kd.R_types HO193.out BK190.out (by decide)) (fun _ hk => hk.2) (.slice Ao50 t191.length co50)) (fun _ hk => hk.2) (.int .i64 t194)) (fun _ hk => hk.2) (.int .i64 t195)) (fun _ hk => hk.2) (.bool t196)) (fun _ hk => trivial), by repeat (first | (with_reducible first | exact HB.out | apply below_alloc | apply pw_below_drewN | apply below_drew1 | refine below_set ?_ GE189.out | refine below_set ?_ GE190.out | refine below_set ?_ GE197.out) | exact HB.out)⟩

/-! ### spec_l3Find: function 103 -/
def spec_l3Find.l0 : Nat → ByteArray → Int → List (S45) → Int → Int → Bool → Option (Int)
 | 0, _, _, _, _, _, _ => none
 | k + 1, x1, x5, x200000, x200001, x200002, x200003 => if x5 < (x200000.length : Int) then (if 0 ≤ x5 then (if ((rd_T45 x200000 x5).f0).toList = x1.toList then (some x5) else (spec_l3Find.l0 k x1 (wrap64 (x5 + 1)) x200000 x200001 x200002 x200003)) else (none)) else (some (-1))
def spec_l3Find.f (k : Nat) (l0_0 : List (S45)) (a0_1 : Int) (a0_2 : Int) (a0_3 : Bool) (a1 : ByteArray) : Option (Int) := spec_l3Find.l0 k a1 0 l0_0 a0_1 a0_2 a0_3
theorem spec_l3Find.mono_l : ∀ k, (∀ y0 y1 y2 y3 y4 y5, LeO (spec_l3Find.l0 k y0 y1 y2 y3 y4 y5) (spec_l3Find.l0 (k + 1) y0 y1 y2 y3 y4 y5))
 | 0 => fun _ _ _ _ _ _ r h => by simp [spec_l3Find.l0] at h
 | k + 1 => by
  have ih0 := spec_l3Find.mono_l k
  ·intro y0 y1 y2 y3 y4 y5
   unfold spec_l3Find.l0
   repeat' first | (with_reducible first | exact ih0 .. | exact LeO.refl .. | exact LeO.none .. | refine LeO.ite ?_ ?_ | refine LeO.bind ?_ (fun _ => ?_)) | exact ih0 .. | exact LeO.none .. | refine LeO.ite ?_ ?_ | refine LeO.bind ?_ (fun _ => ?_)
theorem spec_l3Find.mono : ∀ a0 a1 a2 a3 a4 k, LeO (spec_l3Find.f k a0 a1 a2 a3 a4) (spec_l3Find.f (k + 1) a0 a1 a2 a3 a4) := by
 intro a0 a1 a2 a3 a4 k
 have ih0 := spec_l3Find.mono_l k
 unfold spec_l3Find.f
 repeat' first | (with_reducible first | exact ih0 .. | exact LeO.refl .. | exact LeO.none .. | refine LeO.ite ?_ ?_ | refine LeO.bind ?_ (fun _ => ?_)) | exact ih0 .. | exact LeO.none .. | refine LeO.ite ?_ ?_ | refine LeO.bind ?_ (fun _ => ?_)
set_option maxHeartbeats 80000000 in
set_option maxRecDepth 100000 in
theorem spec_l3Find.calls (k : Nat) (A0_0 : Option Addr) (c0_0 : Nat) (l0_0 : List (S45)) (a0_1 : Int) (a0_2 : Int) (a0_3 : Bool) (a1 : ByteArray) (r : Int) (w : World) (hr0_0 : Kd.C k45 w A0_0 l0_0.length l0_0) (hc0_0 : l0_0.length ≤ c0_0) (h : spec_l3Find.f k l0_0 a0_1 a0_2 a0_3 a1 = some r) :
  Calls Try.prog 103 #[.agg #[.slice A0_0 l0_0.length c0_0, .int .i64 a0_1, .int .i64 a0_2, .bool a0_3], .string a1] w fun e w' => e = .returned (.int .i64 r) ∧ Below w.heap.size w w' := by
 have hu29 := Try.underlying29
 have HR0_0 := Aside0.mk hr0_0
 have HC0_0 := Aside0.mk hc0_0
 clear hr0_0 hc0_0
 have HB := Aside0.mk (Below.refl w.heap.size w)
 have H : (spec_l3Find.l0 k a1 0 l0_0 a0_1 a0_2 a0_3) = some r := h
 clear h
 have H' := Aside0.mk H
 clear H
 go_enter Try.func103, Try.ntmps103
 go_wp2_with (first | ((with_reducible refine gate_dst (N := 2) rfl ?_); refine box_event ?hg (N := 2) ?hd (cs := #[.slice A0_0 l0_0.length c0_0, .int .i64 a0_1, .int .i64 a0_2, .bool a0_3]) (t := 29) ?hr ?_; (case hd => rfl); (case hg => rfl); (case hr => first | (go_simp; done) | (go_simp; rfl)); intro gb199 hg w3 hbox hb; have BK199 := Aside0.mk (hbox); have GW199 := ge_ hg (hb_ HB); have GE199 := ge_ hg (hb_ HB); replace HB := bs_ HB hb; clear hb hbox hg))
 go_loopg [5] k (fun kq v5 w' => ∃ (x5_1 : Int), v5 = .int .i64 x5_1 ∧ Aside0 (spec_l3Find.l0 kq a1 x5_1 l0_0 a0_1 a0_2 a0_3 = some r) ∧ Aside0 (kq ≤ k) ∧ Aside0 (w'.heap[gb199]? = some (.cells #[(.slice A0_0 l0_0.length c0_0), .int .i64 a0_1, .int .i64 a0_2, .bool a0_3] 29 (0, 0))) ∧ Aside0 (Below w.heap.size w w'))
 case atStart => exact ⟨(0), rs_, H', ⟨Nat.le_refl _⟩, ⟨bk_ BK199⟩, ⟨hs_ HB GE199⟩⟩
 case round =>
  clear H'
  try clear c1
  try clear p2
  obtain ⟨x5_1, rfl, HA, HK1, BK199, HB⟩ := hrel
  cases gk with
  | zero => exact absurd HA.out (by simp [spec_l3Find.l0])
  | succ k1 =>
   have H := HA.out
   clear HA
   simp only [spec_l3Find.l0] at H
   by_cases c4 : x5_1 < (l0_0.length : Int)
   ·rw [if_pos c4] at H
    have c4b0 : decide (x5_1 < (l0_0.length : Int)) = true := decide_eq_true c4
    clear c4
    by_cases c5 : 0 ≤ x5_1
    ·rw [if_pos c5] at H
     have c5b0 : decide (0 ≤ x5_1) = true := decide_eq_true c5
     clear c5
     by_cases c6 : ((rd_T45 l0_0 x5_1).f0).toList = a1.toList
     ·rw [if_pos c6] at H
      have c6b0 : (((rd_T45 l0_0 x5_1).f0).toList == a1.toList) = true := beq_iff_eq.mpr c6
      have c6b1 : (((rd_T45 l0_0 x5_1).f0).toList != a1.toList) = false := bne_eq_false_iff_eq.mpr c6
      clear c6
      obtain rfl := Option.some.inj H
      obtain ⟨hcz7_0, hcz7_1, hcz7_2, hcz7_3, hfz7_0, hfz7_1, hfz7_2, hfz7_3⟩ := bc4_ BK199
      have p200 : 0 ≤ (x5_1 : Int) := of_decide_eq_true as_
      have q200 : x5_1 < (l0_0.length : Int) := of_decide_eq_true as_
      obtain ⟨ad200, e200, hx200_0, hx200_1, hx200_2⟩ := at_T45 HR0_0.out x5_1 p200 q200
      cases e200
      (try replace hx200_0 := cb_ HB hx200_0)
      (try replace hx200_1 := cb_ HB hx200_1)
      (try replace hx200_2 := cb_ HB hx200_2)
      replace p200 := eq_true p200
      replace q200 := eq_true q200
      go_wp2
      go_ret
      exact ⟨re_, hs_ HB GE199⟩
     ·rw [if_neg c6] at H
      have c6b0 : (((rd_T45 l0_0 x5_1).f0).toList == a1.toList) = false := beq_eq_false_iff_ne.mpr c6
      have c6b1 : (((rd_T45 l0_0 x5_1).f0).toList != a1.toList) = true := bne_iff_ne.mpr c6
      have H' := Aside0.mk H
      clear H
      obtain ⟨hcz8_0, hcz8_1, hcz8_2, hcz8_3, hfz8_0, hfz8_1, hfz8_2, hfz8_3⟩ := bc4_ BK199
      have p200 : 0 ≤ (x5_1 : Int) := of_decide_eq_true as_
      have q200 : x5_1 < (l0_0.length : Int) := of_decide_eq_true as_
      obtain ⟨ad200, e200, hx200_0, hx200_1, hx200_2⟩ := at_T45 HR0_0.out x5_1 p200 q200
      cases e200
      (try replace hx200_0 := cb_ HB hx200_0)
      (try replace hx200_1 := cb_ HB hx200_1)
      (try replace hx200_2 := cb_ HB hx200_2)
      replace p200 := eq_true p200
      replace q200 := eq_true q200
      go_wp2
      go_roundg k1
      case measure => have := HK1.out; first | exact this | exact Nat.le_of_succ_le this | exact Nat.le_refl _ | omega
      case rel => exact ⟨(wrap64 (x5_1 + 1)), rs_, H', ⟨by have := HK1.out; first | exact this | exact Nat.le_of_succ_le this | exact Nat.le_refl _ | omega⟩, ⟨bk_ BK199⟩, ⟨hs_ HB GE199⟩⟩
    ·rw [if_neg c5] at H
     exact absurd H (by simp)
   ·rw [if_neg c4] at H
    have c4b0 : decide (x5_1 < (l0_0.length : Int)) = false := decide_eq_false c4
    clear c4
    obtain rfl := Option.some.inj H
    obtain ⟨hcz9_0, hcz9_1, hcz9_2, hcz9_3, hfz9_0, hfz9_1, hfz9_2, hfz9_3⟩ := bc4_ BK199
    go_wp2
    go_ret
    exact ⟨re_, hs_ HB GE199⟩

/-! ### spec_l3Insert: function 104 -/
def spec_l3Insert.l0 : Nat → List (S45) → List (S45) → Bool → Int → ByteArray → ByteArray → Int → Option ((List (S45)))
 | 0, _, _, _, _, _, _, _ => none
 | k + 1, x0, x5, x6, x7, x202000, x202001, x202002 => if x7 < (x0.length : Int) then (if x6 = true then (if 0 ≤ x7 then (if x5.length < 3518437208883 then (spec_l3Insert.l0 k x0 (x5 ++ [(⟨(rd_T45 x0 x7).f0, (rd_T45 x0 x7).f1, (rd_T45 x0 x7).f2⟩ : S45)]) x6 (wrap64 (x7 + 1)) x202000 x202001 x202002) else (none)) else (none)) else (if 0 ≤ x7 then (if (Op.bytesLess x202000.toList (((rd_T45 x0 x7).f0).toList)) = true then (if x5.length < 3518437208883 then ((some (x5 ++ [(⟨x202000, x202001, x202002⟩ : S45)] : List (S45))).bind fun y210 => (if y210.length < 3518437208883 then (spec_l3Insert.l0 k x0 (y210 ++ [(⟨(rd_T45 x0 x7).f0, (rd_T45 x0 x7).f1, (rd_T45 x0 x7).f2⟩ : S45)]) true (wrap64 (x7 + 1)) x202000 x202001 x202002) else (none))) else (none)) else (if x5.length < 3518437208883 then (spec_l3Insert.l0 k x0 (x5 ++ [(⟨(rd_T45 x0 x7).f0, (rd_T45 x0 x7).f1, (rd_T45 x0 x7).f2⟩ : S45)]) x6 (wrap64 (x7 + 1)) x202000 x202001 x202002) else (none))) else (none))) else (if x6 = true then (some x5) else (if x5.length < 3518437208883 then (some (x5 ++ [(⟨x202000, x202001, x202002⟩ : S45)])) else (none)))
def spec_l3Insert.f (k : Nat) (l0 : List (S45)) (a1_0 : ByteArray) (a1_1 : ByteArray) (a1_2 : Int) : Option ((List (S45))) := spec_l3Insert.l0 k l0 (([] : List (S45))) false 0 a1_0 a1_1 a1_2
theorem spec_l3Insert.mono_l : ∀ k, (∀ y0 y1 y2 y3 y4 y5 y6, LeO (spec_l3Insert.l0 k y0 y1 y2 y3 y4 y5 y6) (spec_l3Insert.l0 (k + 1) y0 y1 y2 y3 y4 y5 y6))
 | 0 => fun _ _ _ _ _ _ _ r h => by simp [spec_l3Insert.l0] at h
 | k + 1 => by
  have ih0 := spec_l3Insert.mono_l k
  ·intro y0 y1 y2 y3 y4 y5 y6
   unfold spec_l3Insert.l0
   repeat' first | (with_reducible first | exact ih0 .. | exact LeO.refl .. | exact LeO.none .. | refine LeO.ite ?_ ?_ | refine LeO.bind ?_ (fun _ => ?_)) | exact ih0 .. | exact LeO.none .. | refine LeO.ite ?_ ?_ | refine LeO.bind ?_ (fun _ => ?_)
theorem spec_l3Insert.mono : ∀ a0 a1 a2 a3 k, LeO (spec_l3Insert.f k a0 a1 a2 a3) (spec_l3Insert.f (k + 1) a0 a1 a2 a3) := by
 intro a0 a1 a2 a3 k
 have ih0 := spec_l3Insert.mono_l k
 unfold spec_l3Insert.f
 repeat' first | (with_reducible first | exact ih0 .. | exact LeO.refl .. | exact LeO.none .. | refine LeO.ite ?_ ?_ | refine LeO.bind ?_ (fun _ => ?_)) | exact ih0 .. | exact LeO.none .. | refine LeO.ite ?_ ?_ | refine LeO.bind ?_ (fun _ => ?_)
set_option maxHeartbeats 80000000 in
set_option maxRecDepth 100000 in
theorem spec_l3Insert.calls (k : Nat) (A0 : Option Addr) (c0 : Nat) (l0 : List (S45)) (a1_0 : ByteArray) (a1_1 : ByteArray) (a1_2 : Int) (r : List (S45)) (w : World) (hr0 : Kd.C k45 w A0 l0.length l0) (hc0 : l0.length ≤ c0) (h : spec_l3Insert.f k l0 a1_0 a1_1 a1_2 = some r) :
  Calls Try.prog 104 #[.slice A0 l0.length c0, .agg #[.string a1_0, .string a1_1, .int .i64 a1_2]] w fun e w' => ∃ v0_ : Value, e = .returned (v0_) ∧ Kd.R k45 45 w' w.heap.size (fun _ => True) v0_ r ∧ Below w.heap.size w w' := by
 have hu45 := Try.underlying45
 have HR0 := Aside0.mk hr0
 have HC0 := Aside0.mk hc0
 clear hr0 hc0
 have HB := Aside0.mk (Below.refl w.heap.size w)
 have H : (spec_l3Insert.l0 k l0 (([] : List (S45))) false 0 a1_0 a1_1 a1_2) = some r := h
 clear h
 obtain ⟨y202, hy202⟩ : ∃ y_ : List (S45), y_ = (([] : List (S45))) := ⟨_, rfl⟩
 replace H : (spec_l3Insert.l0 k l0 y202 false 0 a1_0 a1_1 a1_2) = some r := by first | (rw [hy202]; with_reducible exact H) | (have H2_ := (Option.bind_some _ _).symm.trans H; rw [hy202]; with_reducible exact H2_) | (have H2_ := (Option.bind_some _ _).symm.trans H; with_reducible exact H2_) | with_reducible exact H | (rw [hy202]; exact H) | exact H
 have Ny202 := Aside0.mk hy202
 clear hy202
 have H' := Aside0.mk H
 clear H
 go_enter Try.func104, Try.ntmps104
 go_wp2_with (first | ((with_reducible refine gate_dst (N := 3) rfl ?_); refine box_event ?hg (N := 3) ?hd (cs := #[.string a1_0, .string a1_1, .int .i64 a1_2]) (t := 45) ?hr ?_; (case hd => rfl); (case hg => rfl); (case hr => first | (go_simp; done) | (go_simp; rfl)); intro gb201 hg w3 hbox hb; have BK201 := Aside0.mk (hbox); have GW201 := ge_ hg (hb_ HB); have GE201 := ge_ hg (hb_ HB); replace HB := bs_ HB hb; clear hb hbox hg) | ((with_reducible refine gate_dst (N := 8) rfl ?_); refine Kd.R_lit k45 _ 45 ?hg (N := 8) ?hd (xs := ([] : List (S45))) (inner := []) (ok := fun _ => True) (okp := fun _ => True) ?hr ?hp (fun _ hk => hk) trivial (Below.refl _ _) (Nat.le_refl _) (by simp) ?_; (case hd => rfl); (case hg => rfl); (case hr => first | (go_simp; done) | (go_simp; rfl)); (case hp => exact (Reps.none _ _)); intro v203 w4 ho5 hb hg_ hnew_; clear hg_ hnew_; (first | rw [← Ny202.out] at ho5 | (simp only [Int.reduceToNat] at ho5; rw [← Ny202.out] at ho5)); have HO204 := Aside0.mk (Kd.R_lower (Kd.R_newB ho5 (g := gb201) (o := .cells #[.string a1_0, .string a1_1, .int .i64 a1_2] 45 (0, 0)) (bk_ BK201)) (below_size (hs_ HB GE201))); replace BK201 := bb_ BK201 hb; replace HB := bt_ HB GE201 hb; clear hb ho5))
 repeat (go_quiet (first | ((with_reducible refine gate_dst (N := 3) rfl ?_); refine box_event ?hg (N := 3) ?hd (cs := #[.string a1_0, .string a1_1, .int .i64 a1_2]) (t := 45) ?hr ?_; (case hd => rfl); (case hg => rfl); (case hr => first | (go_simp; done) | (go_simp; rfl)); intro gb201 hg w3 hbox hb; have BK201 := Aside0.mk (hbox); have GW201 := ge_ hg (hb_ HB); have GE201 := ge_ hg (hb_ HB); replace HB := bs_ HB hb; clear hb hbox hg) | ((with_reducible refine gate_dst (N := 8) rfl ?_); refine Kd.R_lit k45 _ 45 ?hg (N := 8) ?hd (xs := ([] : List (S45))) (inner := []) (ok := fun _ => True) (okp := fun _ => True) ?hr ?hp (fun _ hk => hk) trivial (Below.refl _ _) (Nat.le_refl _) (by simp) ?_; (case hd => rfl); (case hg => rfl); (case hr => first | (go_simp; done) | (go_simp; rfl)); (case hp => exact (Reps.none _ _)); intro v203 w4 ho5 hb hg_ hnew_; clear hg_ hnew_; (first | rw [← Ny202.out] at ho5 | (simp only [Int.reduceToNat] at ho5; rw [← Ny202.out] at ho5)); have HO204 := Aside0.mk (Kd.R_lower (Kd.R_newB ho5 (g := gb201) (o := .cells #[.string a1_0, .string a1_1, .int .i64 a1_2] 45 (0, 0)) (bk_ BK201)) (below_size (hs_ HB GE201))); replace BK201 := bb_ BK201 hb; replace HB := bt_ HB GE201 hb; clear hb ho5)); try go_wp2_with (first | ((with_reducible refine gate_dst (N := 3) rfl ?_); refine box_event ?hg (N := 3) ?hd (cs := #[.string a1_0, .string a1_1, .int .i64 a1_2]) (t := 45) ?hr ?_; (case hd => rfl); (case hg => rfl); (case hr => first | (go_simp; done) | (go_simp; rfl)); intro gb201 hg w3 hbox hb; have BK201 := Aside0.mk (hbox); have GW201 := ge_ hg (hb_ HB); have GE201 := ge_ hg (hb_ HB); replace HB := bs_ HB hb; clear hb hbox hg) | ((with_reducible refine gate_dst (N := 8) rfl ?_); refine Kd.R_lit k45 _ 45 ?hg (N := 8) ?hd (xs := ([] : List (S45))) (inner := []) (ok := fun _ => True) (okp := fun _ => True) ?hr ?hp (fun _ hk => hk) trivial (Below.refl _ _) (Nat.le_refl _) (by simp) ?_; (case hd => rfl); (case hg => rfl); (case hr => first | (go_simp; done) | (go_simp; rfl)); (case hp => exact (Reps.none _ _)); intro v203 w4 ho5 hb hg_ hnew_; clear hg_ hnew_; (first | rw [← Ny202.out] at ho5 | (simp only [Int.reduceToNat] at ho5; rw [← Ny202.out] at ho5)); have HO204 := Aside0.mk (Kd.R_lower (Kd.R_newB ho5 (g := gb201) (o := .cells #[.string a1_0, .string a1_1, .int .i64 a1_2] 45 (0, 0)) (bk_ BK201)) (below_size (hs_ HB GE201))); replace BK201 := bb_ BK201 hb; replace HB := bt_ HB GE201 hb; clear hb ho5)))
 go_loopg [5, 6, 7] k (fun kq v5 v6 v7 w' => ∃ (x5_1 : List (S45)) (x6_1 : Bool) (x7_1 : Int), v6 = .bool x6_1 ∧ v7 = .int .i64 x7_1 ∧ Aside0 (spec_l3Insert.l0 kq l0 x5_1 x6_1 x7_1 a1_0 a1_1 a1_2 = some r) ∧ Aside0 (kq ≤ k) ∧ Aside0 (Kd.R k45 45 w' w.heap.size (fun k_ => k_ ≠ gb201) v5 x5_1) ∧ Aside0 (w'.heap[gb201]? = some (.cells #[.string a1_0, .string a1_1, .int .i64 a1_2] 45 (0, 0))) ∧ Aside0 (Below w.heap.size w w'))
 case atStart => exact ⟨(y202), (false), (0), rs_, rs_, H', ⟨Nat.le_refl _⟩, ⟨by (with_reducible repeat (first | apply Kd.R_alloc | apply Kd.R_drewN | apply Kd.R_drew)); exact Kd.R_mono HO204.out (fun _ hk => hk.2)⟩, ⟨bk_ BK201⟩, ⟨hs_ HB GE201⟩⟩
 case round =>
  clear H'
  try clear c1
  try clear p2
  obtain ⟨x5_1, x6_1, x7_1, rfl, rfl, HA, HK1, HO_5, BK201, HB⟩ := hrel
  cases gk with
  | zero => exact absurd HA.out (by simp [spec_l3Insert.l0])
  | succ k1 =>
   have H := HA.out
   clear HA
   simp only [spec_l3Insert.l0] at H
   by_cases c6 : x7_1 < (l0.length : Int)
   ·rw [if_pos c6] at H
    have c6b0 : decide (x7_1 < (l0.length : Int)) = true := decide_eq_true c6
    clear c6
    by_cases c7 : x6_1 = true
    ·subst c7
     have H1 : (if 0 ≤ x7_1 then (if x5_1.length < 3518437208883 then (spec_l3Insert.l0 k1 l0 (x5_1 ++ [(⟨(rd_T45 l0 x7_1).f0, (rd_T45 l0 x7_1).f1, (rd_T45 l0 x7_1).f2⟩ : S45)]) true (wrap64 (x7_1 + 1)) a1_0 a1_1 a1_2) else (none)) else (none)) = some r := by rw [if_pos rfl] at H; exact H
     clear H
     have H := H1
     clear H1
     by_cases c8 : 0 ≤ x7_1
     ·rw [if_pos c8] at H
      have c8b0 : decide (0 ≤ x7_1) = true := decide_eq_true c8
      clear c8
      by_cases c9 : x5_1.length < 3518437208883
      ·rw [if_pos c9] at H
       have LMc9 := Aside0.mk c9
       clear c9
       obtain ⟨y207, hy207⟩ : ∃ y_ : List (S45), y_ = (x5_1 ++ [(⟨(rd_T45 l0 x7_1).f0, (rd_T45 l0 x7_1).f1, (rd_T45 l0 x7_1).f2⟩ : S45)]) := ⟨_, rfl⟩
       replace H : (spec_l3Insert.l0 k1 l0 y207 true (wrap64 (x7_1 + 1)) a1_0 a1_1 a1_2) = some r := by first | (rw [hy207]; with_reducible exact H) | (have H2_ := (Option.bind_some _ _).symm.trans H; rw [hy207]; with_reducible exact H2_) | (have H2_ := (Option.bind_some _ _).symm.trans H; with_reducible exact H2_) | with_reducible exact H | (rw [hy207]; exact H) | exact H
       have Ny207 := Aside0.mk hy207
       clear hy207
       have H' := Aside0.mk H
       clear H
       have p206 : 0 ≤ (x7_1 : Int) := of_decide_eq_true as_
       have q206 : x7_1 < (l0.length : Int) := of_decide_eq_true as_
       obtain ⟨ad206, e206, hx206_0, hx206_1, hx206_2⟩ := at_T45 HR0.out x7_1 p206 q206
       cases e206
       (try replace hx206_0 := cb_ HB hx206_0)
       (try replace hx206_1 := cb_ HB hx206_1)
       (try replace hx206_2 := cb_ HB hx206_2)
       replace p206 := eq_true p206
       replace q206 := eq_true q206
       go_wp2_with (first | (at_builtin; (with_reducible refine gate_builtin (b := .append) (xs := #[.tmp 31, .tmp 36]) rfl ?_); refine Kd.R_append k45 (w0 := w) w.heap.size rfl (.tmp 31) (.tmp 36) 27 45 (.agg #[(.string ⟨#[]⟩), (.string ⟨#[]⟩), (.int .i64 0)]) 40 rfl Try.underlying27 info45 rfl (by decide) (by omega) u5 x5_1 (⟨(rd_T45 l0 x7_1).f0, (rd_T45 l0 x7_1).f1, (rd_T45 l0 x7_1).f2⟩ : S45) [.string ((rd_T45 l0 x7_1).f0), .string ((rd_T45 l0 x7_1).f1), .int .i64 ((rd_T45 l0 x7_1).f2)] (fun k_ => k_ ≠ gb201) (fun _ => False) rfl rfl ?aP (fun _ hk => hk.elim) ?aF ?aO ?aB ?aS ?aL ?_; (case aP => exact k45_mkM _ _ _ (⟨(rd_T45 l0 x7_1).f0, (rd_T45 l0 x7_1).f1, (rd_T45 l0 x7_1).f2⟩ : S45)); (case aB => exact (hs_ HB GE201)); (case aF => exact (fun k_ hk => Kd.freshB (g := gb201) (o := .cells #[.string a1_0, .string a1_1, .int .i64 a1_2] 45 (0, 0)) (bk_ BK201) k_ hk)); (case aO => exact (rr_ HO_5)); (case aS => exact (below_size (hs_ HB GE201))); (case aL => have := LMc9.out; omega); intro v208 w10 ho hb hg hat; rw [← Ny207.out] at ho; replace BK201 := bg_ BK201 hg (Kd.R_away HO_5.out (fun _ hk => hk)); replace HB := Aside0.mk (hb); have HO209 := Aside0.mk (ho); clear HO_5; clear ho hb hg hat))
       repeat (go_quiet (first | (at_builtin; (with_reducible refine gate_builtin (b := .append) (xs := #[.tmp 31, .tmp 36]) rfl ?_); refine Kd.R_append k45 (w0 := w) w.heap.size rfl (.tmp 31) (.tmp 36) 27 45 (.agg #[(.string ⟨#[]⟩), (.string ⟨#[]⟩), (.int .i64 0)]) 40 rfl Try.underlying27 info45 rfl (by decide) (by omega) u5 x5_1 (⟨(rd_T45 l0 x7_1).f0, (rd_T45 l0 x7_1).f1, (rd_T45 l0 x7_1).f2⟩ : S45) [.string ((rd_T45 l0 x7_1).f0), .string ((rd_T45 l0 x7_1).f1), .int .i64 ((rd_T45 l0 x7_1).f2)] (fun k_ => k_ ≠ gb201) (fun _ => False) rfl rfl ?aP (fun _ hk => hk.elim) ?aF ?aO ?aB ?aS ?aL ?_; (case aP => exact k45_mkM _ _ _ (⟨(rd_T45 l0 x7_1).f0, (rd_T45 l0 x7_1).f1, (rd_T45 l0 x7_1).f2⟩ : S45)); (case aB => exact (hs_ HB GE201)); (case aF => exact (fun k_ hk => Kd.freshB (g := gb201) (o := .cells #[.string a1_0, .string a1_1, .int .i64 a1_2] 45 (0, 0)) (bk_ BK201) k_ hk)); (case aO => exact (rr_ HO_5)); (case aS => exact (below_size (hs_ HB GE201))); (case aL => have := LMc9.out; omega); intro v208 w10 ho hb hg hat; rw [← Ny207.out] at ho; replace BK201 := bg_ BK201 hg (Kd.R_away HO_5.out (fun _ hk => hk)); replace HB := Aside0.mk (hb); have HO209 := Aside0.mk (ho); clear HO_5; clear ho hb hg hat)); try go_wp2_with (first | (at_builtin; (with_reducible refine gate_builtin (b := .append) (xs := #[.tmp 31, .tmp 36]) rfl ?_); refine Kd.R_append k45 (w0 := w) w.heap.size rfl (.tmp 31) (.tmp 36) 27 45 (.agg #[(.string ⟨#[]⟩), (.string ⟨#[]⟩), (.int .i64 0)]) 40 rfl Try.underlying27 info45 rfl (by decide) (by omega) u5 x5_1 (⟨(rd_T45 l0 x7_1).f0, (rd_T45 l0 x7_1).f1, (rd_T45 l0 x7_1).f2⟩ : S45) [.string ((rd_T45 l0 x7_1).f0), .string ((rd_T45 l0 x7_1).f1), .int .i64 ((rd_T45 l0 x7_1).f2)] (fun k_ => k_ ≠ gb201) (fun _ => False) rfl rfl ?aP (fun _ hk => hk.elim) ?aF ?aO ?aB ?aS ?aL ?_; (case aP => exact k45_mkM _ _ _ (⟨(rd_T45 l0 x7_1).f0, (rd_T45 l0 x7_1).f1, (rd_T45 l0 x7_1).f2⟩ : S45)); (case aB => exact (hs_ HB GE201)); (case aF => exact (fun k_ hk => Kd.freshB (g := gb201) (o := .cells #[.string a1_0, .string a1_1, .int .i64 a1_2] 45 (0, 0)) (bk_ BK201) k_ hk)); (case aO => exact (rr_ HO_5)); (case aS => exact (below_size (hs_ HB GE201))); (case aL => have := LMc9.out; omega); intro v208 w10 ho hb hg hat; rw [← Ny207.out] at ho; replace BK201 := bg_ BK201 hg (Kd.R_away HO_5.out (fun _ hk => hk)); replace HB := Aside0.mk (hb); have HO209 := Aside0.mk (ho); clear HO_5; clear ho hb hg hat)))
       go_roundg k1
       case measure => have := HK1.out; first | exact this | exact Nat.le_of_succ_le this | exact Nat.le_refl _ | omega
       case rel => exact ⟨(y207), (true), (wrap64 (x7_1 + 1)), rs_, rs_, H', ⟨by have := HK1.out; first | exact this | exact Nat.le_of_succ_le this | exact Nat.le_refl _ | omega⟩, ⟨rr_ HO209⟩, ⟨bk_ BK201⟩, ⟨hs_ HB GE201⟩⟩
      ·rw [if_neg c9] at H
       exact absurd H (by simp)
     ·rw [if_neg c8] at H
      exact absurd H (by simp)
    ·replace c7 := Bool.eq_false_iff.mpr c7
     subst c7
     have H1 : (if 0 ≤ x7_1 then (if (Op.bytesLess a1_0.toList (((rd_T45 l0 x7_1).f0).toList)) = true then (if x5_1.length < 3518437208883 then ((some (x5_1 ++ [(⟨a1_0, a1_1, a1_2⟩ : S45)] : List (S45))).bind fun y210 => (if y210.length < 3518437208883 then (spec_l3Insert.l0 k1 l0 (y210 ++ [(⟨(rd_T45 l0 x7_1).f0, (rd_T45 l0 x7_1).f1, (rd_T45 l0 x7_1).f2⟩ : S45)]) true (wrap64 (x7_1 + 1)) a1_0 a1_1 a1_2) else (none))) else (none)) else (if x5_1.length < 3518437208883 then (spec_l3Insert.l0 k1 l0 (x5_1 ++ [(⟨(rd_T45 l0 x7_1).f0, (rd_T45 l0 x7_1).f1, (rd_T45 l0 x7_1).f2⟩ : S45)]) false (wrap64 (x7_1 + 1)) a1_0 a1_1 a1_2) else (none))) else (none)) = some r := by rw [if_neg (show ¬ (false = true) by decide)] at H; exact H
     clear H
     have H := H1
     clear H1
     by_cases c11 : 0 ≤ x7_1
     ·rw [if_pos c11] at H
      have c11b0 : decide (0 ≤ x7_1) = true := decide_eq_true c11
      clear c11
      by_cases c12 : (Op.bytesLess a1_0.toList (((rd_T45 l0 x7_1).f0).toList)) = true
      ·rw [if_pos c12] at H
       have c12b0 : (Op.bytesLess a1_0.toList (((rd_T45 l0 x7_1).f0).toList)) = true := c12
       clear c12
       by_cases c13 : x5_1.length < 3518437208883
       ·rw [if_pos c13] at H
        have LMc13 := Aside0.mk c13
        clear c13
        obtain ⟨y210, hy210⟩ : ∃ y_ : List (S45), y_ = (x5_1 ++ [(⟨a1_0, a1_1, a1_2⟩ : S45)]) := ⟨_, rfl⟩
        replace H : (if y210.length < 3518437208883 then (spec_l3Insert.l0 k1 l0 (y210 ++ [(⟨(rd_T45 l0 x7_1).f0, (rd_T45 l0 x7_1).f1, (rd_T45 l0 x7_1).f2⟩ : S45)]) true (wrap64 (x7_1 + 1)) a1_0 a1_1 a1_2) else (none)) = some r := by first | (rw [hy210]; with_reducible exact H) | (have H2_ := (Option.bind_some _ _).symm.trans H; rw [hy210]; with_reducible exact H2_) | (have H2_ := (Option.bind_some _ _).symm.trans H; with_reducible exact H2_) | with_reducible exact H | (rw [hy210]; exact H) | exact H
        have Ny210 := Aside0.mk hy210
        clear hy210
        by_cases c14 : y210.length < 3518437208883
        ·rw [if_pos c14] at H
         have LMc14 := Aside0.mk c14
         clear c14
         obtain ⟨y214, hy214⟩ : ∃ y_ : List (S45), y_ = (y210 ++ [(⟨(rd_T45 l0 x7_1).f0, (rd_T45 l0 x7_1).f1, (rd_T45 l0 x7_1).f2⟩ : S45)]) := ⟨_, rfl⟩
         replace H : (spec_l3Insert.l0 k1 l0 y214 true (wrap64 (x7_1 + 1)) a1_0 a1_1 a1_2) = some r := by first | (rw [hy214]; with_reducible exact H) | (have H2_ := (Option.bind_some _ _).symm.trans H; rw [hy214]; with_reducible exact H2_) | (have H2_ := (Option.bind_some _ _).symm.trans H; with_reducible exact H2_) | with_reducible exact H | (rw [hy214]; exact H) | exact H
         have Ny214 := Aside0.mk hy214
         clear hy214
         have H' := Aside0.mk H
         clear H
         have p205 : 0 ≤ (x7_1 : Int) := of_decide_eq_true as_
         have q205 : x7_1 < (l0.length : Int) := of_decide_eq_true as_
         obtain ⟨ad205, e205, hx205_0, hx205_1, hx205_2⟩ := at_T45 HR0.out x7_1 p205 q205
         cases e205
         (try replace hx205_0 := cb_ HB hx205_0)
         (try replace hx205_1 := cb_ HB hx205_1)
         (try replace hx205_2 := cb_ HB hx205_2)
         replace p205 := eq_true p205
         replace q205 := eq_true q205
         obtain ⟨hcz15_0, hcz15_1, hcz15_2, hfz15_0, hfz15_1, hfz15_2⟩ := bc3_ BK201
         go_wp2_with (first | (at_builtin; (with_reducible refine gate_builtin (b := .append) (xs := #[.tmp 27, .tmp 29]) rfl ?_); refine Kd.R_append k45 (w0 := w) w.heap.size rfl (.tmp 27) (.tmp 29) 27 45 (.agg #[(.string ⟨#[]⟩), (.string ⟨#[]⟩), (.int .i64 0)]) 40 rfl Try.underlying27 info45 rfl (by decide) (by omega) u5 x5_1 (⟨a1_0, a1_1, a1_2⟩ : S45) [.string a1_0, .string a1_1, .int .i64 a1_2] (fun k_ => k_ ≠ gb201) (fun _ => False) rfl rfl ?aP (fun _ hk => hk.elim) ?aF ?aO ?aB ?aS ?aL ?_; (case aP => exact k45_mkM _ _ _ (⟨a1_0, a1_1, a1_2⟩ : S45)); (case aB => exact (hs_ HB GE201)); (case aF => exact (fun k_ hk => Kd.freshB (g := gb201) (o := .cells #[.string a1_0, .string a1_1, .int .i64 a1_2] 45 (0, 0)) (bk_ BK201) k_ hk)); (case aO => exact (rr_ HO_5)); (case aS => exact (below_size (hs_ HB GE201))); (case aL => have := LMc13.out; omega); intro v211 w16 ho hb hg hat; rw [← Ny210.out] at ho; replace BK201 := bg_ BK201 hg (Kd.R_away HO_5.out (fun _ hk => hk)); replace HB := Aside0.mk (hb); have HO212 := Aside0.mk (ho); clear HO_5; clear ho hb hg hat; have p213 : 0 ≤ (x7_1 : Int) := of_decide_eq_true as_; have q213 : x7_1 < (l0.length : Int) := of_decide_eq_true as_; obtain ⟨ad213, e213, hx213_0, hx213_1, hx213_2⟩ := at_T45 HR0.out x7_1 p213 q213; obtain rfl : ad205 = ad213 := (by injection e213); replace hx213_0 := cb_ HB hx213_0; replace hx213_1 := cb_ HB hx213_1; replace hx213_2 := cb_ HB hx213_2; replace p213 := eq_true p213; replace q213 := eq_true q213) | (at_builtin; (with_reducible refine gate_builtin (b := .append) (xs := #[.tmp 31, .tmp 36]) rfl ?_); refine Kd.R_append k45 (w0 := w) w.heap.size rfl (.tmp 31) (.tmp 36) 27 45 (.agg #[(.string ⟨#[]⟩), (.string ⟨#[]⟩), (.int .i64 0)]) 40 rfl Try.underlying27 info45 rfl (by decide) (by omega) v211 y210 (⟨(rd_T45 l0 x7_1).f0, (rd_T45 l0 x7_1).f1, (rd_T45 l0 x7_1).f2⟩ : S45) [.string ((rd_T45 l0 x7_1).f0), .string ((rd_T45 l0 x7_1).f1), .int .i64 ((rd_T45 l0 x7_1).f2)] (fun k_ => k_ ≠ gb201) (fun _ => False) rfl rfl ?aP (fun _ hk => hk.elim) ?aF ?aO ?aB ?aS ?aL ?_; (case aP => exact k45_mkM _ _ _ (⟨(rd_T45 l0 x7_1).f0, (rd_T45 l0 x7_1).f1, (rd_T45 l0 x7_1).f2⟩ : S45)); (case aB => exact (hs_ HB GE201)); (case aF => exact (fun k_ hk => Kd.freshB (g := gb201) (o := .cells #[.string a1_0, .string a1_1, .int .i64 a1_2] 45 (0, 0)) (bk_ BK201) k_ hk)); (case aO => exact (rr_ HO212)); (case aS => exact (below_size (hs_ HB GE201))); (case aL => have := LMc14.out; omega); intro v215 w17 ho hb hg hat; rw [← Ny214.out] at ho; replace BK201 := bg_ BK201 hg (Kd.R_away HO212.out (fun _ hk => hk)); replace HB := Aside0.mk (hb); have HO216 := Aside0.mk (ho); clear HO212; clear ho hb hg hat))
         repeat (go_quiet (first | (at_builtin; (with_reducible refine gate_builtin (b := .append) (xs := #[.tmp 27, .tmp 29]) rfl ?_); refine Kd.R_append k45 (w0 := w) w.heap.size rfl (.tmp 27) (.tmp 29) 27 45 (.agg #[(.string ⟨#[]⟩), (.string ⟨#[]⟩), (.int .i64 0)]) 40 rfl Try.underlying27 info45 rfl (by decide) (by omega) u5 x5_1 (⟨a1_0, a1_1, a1_2⟩ : S45) [.string a1_0, .string a1_1, .int .i64 a1_2] (fun k_ => k_ ≠ gb201) (fun _ => False) rfl rfl ?aP (fun _ hk => hk.elim) ?aF ?aO ?aB ?aS ?aL ?_; (case aP => exact k45_mkM _ _ _ (⟨a1_0, a1_1, a1_2⟩ : S45)); (case aB => exact (hs_ HB GE201)); (case aF => exact (fun k_ hk => Kd.freshB (g := gb201) (o := .cells #[.string a1_0, .string a1_1, .int .i64 a1_2] 45 (0, 0)) (bk_ BK201) k_ hk)); (case aO => exact (rr_ HO_5)); (case aS => exact (below_size (hs_ HB GE201))); (case aL => have := LMc13.out; omega); intro v211 w16 ho hb hg hat; rw [← Ny210.out] at ho; replace BK201 := bg_ BK201 hg (Kd.R_away HO_5.out (fun _ hk => hk)); replace HB := Aside0.mk (hb); have HO212 := Aside0.mk (ho); clear HO_5; clear ho hb hg hat; have p213 : 0 ≤ (x7_1 : Int) := of_decide_eq_true as_; have q213 : x7_1 < (l0.length : Int) := of_decide_eq_true as_; obtain ⟨ad213, e213, hx213_0, hx213_1, hx213_2⟩ := at_T45 HR0.out x7_1 p213 q213; obtain rfl : ad205 = ad213 := (by injection e213); replace hx213_0 := cb_ HB hx213_0; replace hx213_1 := cb_ HB hx213_1; replace hx213_2 := cb_ HB hx213_2; replace p213 := eq_true p213; replace q213 := eq_true q213) | (at_builtin; (with_reducible refine gate_builtin (b := .append) (xs := #[.tmp 31, .tmp 36]) rfl ?_); refine Kd.R_append k45 (w0 := w) w.heap.size rfl (.tmp 31) (.tmp 36) 27 45 (.agg #[(.string ⟨#[]⟩), (.string ⟨#[]⟩), (.int .i64 0)]) 40 rfl Try.underlying27 info45 rfl (by decide) (by omega) v211 y210 (⟨(rd_T45 l0 x7_1).f0, (rd_T45 l0 x7_1).f1, (rd_T45 l0 x7_1).f2⟩ : S45) [.string ((rd_T45 l0 x7_1).f0), .string ((rd_T45 l0 x7_1).f1), .int .i64 ((rd_T45 l0 x7_1).f2)] (fun k_ => k_ ≠ gb201) (fun _ => False) rfl rfl ?aP (fun _ hk => hk.elim) ?aF ?aO ?aB ?aS ?aL ?_; (case aP => exact k45_mkM _ _ _ (⟨(rd_T45 l0 x7_1).f0, (rd_T45 l0 x7_1).f1, (rd_T45 l0 x7_1).f2⟩ : S45)); (case aB => exact (hs_ HB GE201)); (case aF => exact (fun k_ hk => Kd.freshB (g := gb201) (o := .cells #[.string a1_0, .string a1_1, .int .i64 a1_2] 45 (0, 0)) (bk_ BK201) k_ hk)); (case aO => exact (rr_ HO212)); (case aS => exact (below_size (hs_ HB GE201))); (case aL => have := LMc14.out; omega); intro v215 w17 ho hb hg hat; rw [← Ny214.out] at ho; replace BK201 := bg_ BK201 hg (Kd.R_away HO212.out (fun _ hk => hk)); replace HB := Aside0.mk (hb); have HO216 := Aside0.mk (ho); clear HO212; clear ho hb hg hat)); try go_wp2_with (first | (at_builtin; (with_reducible refine gate_builtin (b := .append) (xs := #[.tmp 27, .tmp 29]) rfl ?_); refine Kd.R_append k45 (w0 := w) w.heap.size rfl (.tmp 27) (.tmp 29) 27 45 (.agg #[(.string ⟨#[]⟩), (.string ⟨#[]⟩), (.int .i64 0)]) 40 rfl Try.underlying27 info45 rfl (by decide) (by omega) u5 x5_1 (⟨a1_0, a1_1, a1_2⟩ : S45) [.string a1_0, .string a1_1, .int .i64 a1_2] (fun k_ => k_ ≠ gb201) (fun _ => False) rfl rfl ?aP (fun _ hk => hk.elim) ?aF ?aO ?aB ?aS ?aL ?_; (case aP => exact k45_mkM _ _ _ (⟨a1_0, a1_1, a1_2⟩ : S45)); (case aB => exact (hs_ HB GE201)); (case aF => exact (fun k_ hk => Kd.freshB (g := gb201) (o := .cells #[.string a1_0, .string a1_1, .int .i64 a1_2] 45 (0, 0)) (bk_ BK201) k_ hk)); (case aO => exact (rr_ HO_5)); (case aS => exact (below_size (hs_ HB GE201))); (case aL => have := LMc13.out; omega); intro v211 w16 ho hb hg hat; rw [← Ny210.out] at ho; replace BK201 := bg_ BK201 hg (Kd.R_away HO_5.out (fun _ hk => hk)); replace HB := Aside0.mk (hb); have HO212 := Aside0.mk (ho); clear HO_5; clear ho hb hg hat; have p213 : 0 ≤ (x7_1 : Int) := of_decide_eq_true as_; have q213 : x7_1 < (l0.length : Int) := of_decide_eq_true as_; obtain ⟨ad213, e213, hx213_0, hx213_1, hx213_2⟩ := at_T45 HR0.out x7_1 p213 q213; obtain rfl : ad205 = ad213 := (by injection e213); replace hx213_0 := cb_ HB hx213_0; replace hx213_1 := cb_ HB hx213_1; replace hx213_2 := cb_ HB hx213_2; replace p213 := eq_true p213; replace q213 := eq_true q213) | (at_builtin; (with_reducible refine gate_builtin (b := .append) (xs := #[.tmp 31, .tmp 36]) rfl ?_); refine Kd.R_append k45 (w0 := w) w.heap.size rfl (.tmp 31) (.tmp 36) 27 45 (.agg #[(.string ⟨#[]⟩), (.string ⟨#[]⟩), (.int .i64 0)]) 40 rfl Try.underlying27 info45 rfl (by decide) (by omega) v211 y210 (⟨(rd_T45 l0 x7_1).f0, (rd_T45 l0 x7_1).f1, (rd_T45 l0 x7_1).f2⟩ : S45) [.string ((rd_T45 l0 x7_1).f0), .string ((rd_T45 l0 x7_1).f1), .int .i64 ((rd_T45 l0 x7_1).f2)] (fun k_ => k_ ≠ gb201) (fun _ => False) rfl rfl ?aP (fun _ hk => hk.elim) ?aF ?aO ?aB ?aS ?aL ?_; (case aP => exact k45_mkM _ _ _ (⟨(rd_T45 l0 x7_1).f0, (rd_T45 l0 x7_1).f1, (rd_T45 l0 x7_1).f2⟩ : S45)); (case aB => exact (hs_ HB GE201)); (case aF => exact (fun k_ hk => Kd.freshB (g := gb201) (o := .cells #[.string a1_0, .string a1_1, .int .i64 a1_2] 45 (0, 0)) (bk_ BK201) k_ hk)); (case aO => exact (rr_ HO212)); (case aS => exact (below_size (hs_ HB GE201))); (case aL => have := LMc14.out; omega); intro v215 w17 ho hb hg hat; rw [← Ny214.out] at ho; replace BK201 := bg_ BK201 hg (Kd.R_away HO212.out (fun _ hk => hk)); replace HB := Aside0.mk (hb); have HO216 := Aside0.mk (ho); clear HO212; clear ho hb hg hat)))
         go_roundg k1
         case measure => have := HK1.out; first | exact this | exact Nat.le_of_succ_le this | exact Nat.le_refl _ | omega
         case rel => exact ⟨(y214), (true), (wrap64 (x7_1 + 1)), rs_, rs_, H', ⟨by have := HK1.out; first | exact this | exact Nat.le_of_succ_le this | exact Nat.le_refl _ | omega⟩, ⟨rr_ HO216⟩, ⟨bk_ BK201⟩, ⟨hs_ HB GE201⟩⟩
        ·rw [if_neg c14] at H
         exact absurd H (by simp)
       ·rw [if_neg c13] at H
        exact absurd H (by simp)
      ·rw [if_neg c12] at H
       have c12b0 : (Op.bytesLess a1_0.toList (((rd_T45 l0 x7_1).f0).toList)) = false := by simpa using c12
       clear c12
       by_cases c18 : x5_1.length < 3518437208883
       ·rw [if_pos c18] at H
        have LMc18 := Aside0.mk c18
        clear c18
        obtain ⟨y218, hy218⟩ : ∃ y_ : List (S45), y_ = (x5_1 ++ [(⟨(rd_T45 l0 x7_1).f0, (rd_T45 l0 x7_1).f1, (rd_T45 l0 x7_1).f2⟩ : S45)]) := ⟨_, rfl⟩
        replace H : (spec_l3Insert.l0 k1 l0 y218 false (wrap64 (x7_1 + 1)) a1_0 a1_1 a1_2) = some r := by first | (rw [hy218]; with_reducible exact H) | (have H2_ := (Option.bind_some _ _).symm.trans H; rw [hy218]; with_reducible exact H2_) | (have H2_ := (Option.bind_some _ _).symm.trans H; with_reducible exact H2_) | with_reducible exact H | (rw [hy218]; exact H) | exact H
        have Ny218 := Aside0.mk hy218
        clear hy218
        have H' := Aside0.mk H
        clear H
        have p205 : 0 ≤ (x7_1 : Int) := of_decide_eq_true as_
        have q205 : x7_1 < (l0.length : Int) := of_decide_eq_true as_
        obtain ⟨ad205, e205, hx205_0, hx205_1, hx205_2⟩ := at_T45 HR0.out x7_1 p205 q205
        cases e205
        (try replace hx205_0 := cb_ HB hx205_0)
        (try replace hx205_1 := cb_ HB hx205_1)
        (try replace hx205_2 := cb_ HB hx205_2)
        replace p205 := eq_true p205
        replace q205 := eq_true q205
        obtain ⟨hcz19_0, hcz19_1, hcz19_2, hfz19_0, hfz19_1, hfz19_2⟩ := bc3_ BK201
        have p217 : 0 ≤ (x7_1 : Int) := of_decide_eq_true as_
        have q217 : x7_1 < (l0.length : Int) := of_decide_eq_true as_
        obtain ⟨ad217, e217, hx217_0, hx217_1, hx217_2⟩ := at_T45 HR0.out x7_1 p217 q217
        obtain rfl : ad205 = ad217 := (by injection e217)
        (try replace hx217_0 := cb_ HB hx217_0)
        (try replace hx217_1 := cb_ HB hx217_1)
        (try replace hx217_2 := cb_ HB hx217_2)
        replace p217 := eq_true p217
        replace q217 := eq_true q217
        go_wp2_with (first | (at_builtin; (with_reducible refine gate_builtin (b := .append) (xs := #[.tmp 31, .tmp 36]) rfl ?_); refine Kd.R_append k45 (w0 := w) w.heap.size rfl (.tmp 31) (.tmp 36) 27 45 (.agg #[(.string ⟨#[]⟩), (.string ⟨#[]⟩), (.int .i64 0)]) 40 rfl Try.underlying27 info45 rfl (by decide) (by omega) u5 x5_1 (⟨(rd_T45 l0 x7_1).f0, (rd_T45 l0 x7_1).f1, (rd_T45 l0 x7_1).f2⟩ : S45) [.string ((rd_T45 l0 x7_1).f0), .string ((rd_T45 l0 x7_1).f1), .int .i64 ((rd_T45 l0 x7_1).f2)] (fun k_ => k_ ≠ gb201) (fun _ => False) rfl rfl ?aP (fun _ hk => hk.elim) ?aF ?aO ?aB ?aS ?aL ?_; (case aP => exact k45_mkM _ _ _ (⟨(rd_T45 l0 x7_1).f0, (rd_T45 l0 x7_1).f1, (rd_T45 l0 x7_1).f2⟩ : S45)); (case aB => exact (hs_ HB GE201)); (case aF => exact (fun k_ hk => Kd.freshB (g := gb201) (o := .cells #[.string a1_0, .string a1_1, .int .i64 a1_2] 45 (0, 0)) (bk_ BK201) k_ hk)); (case aO => exact (rr_ HO_5)); (case aS => exact (below_size (hs_ HB GE201))); (case aL => have := LMc18.out; omega); intro v219 w20 ho hb hg hat; rw [← Ny218.out] at ho; replace BK201 := bg_ BK201 hg (Kd.R_away HO_5.out (fun _ hk => hk)); replace HB := Aside0.mk (hb); have HO220 := Aside0.mk (ho); clear HO_5; clear ho hb hg hat))
        repeat (go_quiet (first | (at_builtin; (with_reducible refine gate_builtin (b := .append) (xs := #[.tmp 31, .tmp 36]) rfl ?_); refine Kd.R_append k45 (w0 := w) w.heap.size rfl (.tmp 31) (.tmp 36) 27 45 (.agg #[(.string ⟨#[]⟩), (.string ⟨#[]⟩), (.int .i64 0)]) 40 rfl Try.underlying27 info45 rfl (by decide) (by omega) u5 x5_1 (⟨(rd_T45 l0 x7_1).f0, (rd_T45 l0 x7_1).f1, (rd_T45 l0 x7_1).f2⟩ : S45) [.string ((rd_T45 l0 x7_1).f0), .string ((rd_T45 l0 x7_1).f1), .int .i64 ((rd_T45 l0 x7_1).f2)] (fun k_ => k_ ≠ gb201) (fun _ => False) rfl rfl ?aP (fun _ hk => hk.elim) ?aF ?aO ?aB ?aS ?aL ?_; (case aP => exact k45_mkM _ _ _ (⟨(rd_T45 l0 x7_1).f0, (rd_T45 l0 x7_1).f1, (rd_T45 l0 x7_1).f2⟩ : S45)); (case aB => exact (hs_ HB GE201)); (case aF => exact (fun k_ hk => Kd.freshB (g := gb201) (o := .cells #[.string a1_0, .string a1_1, .int .i64 a1_2] 45 (0, 0)) (bk_ BK201) k_ hk)); (case aO => exact (rr_ HO_5)); (case aS => exact (below_size (hs_ HB GE201))); (case aL => have := LMc18.out; omega); intro v219 w20 ho hb hg hat; rw [← Ny218.out] at ho; replace BK201 := bg_ BK201 hg (Kd.R_away HO_5.out (fun _ hk => hk)); replace HB := Aside0.mk (hb); have HO220 := Aside0.mk (ho); clear HO_5; clear ho hb hg hat)); try go_wp2_with (first | (at_builtin; (with_reducible refine gate_builtin (b := .append) (xs := #[.tmp 31, .tmp 36]) rfl ?_); refine Kd.R_append k45 (w0 := w) w.heap.size rfl (.tmp 31) (.tmp 36) 27 45 (.agg #[(.string ⟨#[]⟩), (.string ⟨#[]⟩), (.int .i64 0)]) 40 rfl Try.underlying27 info45 rfl (by decide) (by omega) u5 x5_1 (⟨(rd_T45 l0 x7_1).f0, (rd_T45 l0 x7_1).f1, (rd_T45 l0 x7_1).f2⟩ : S45) [.string ((rd_T45 l0 x7_1).f0), .string ((rd_T45 l0 x7_1).f1), .int .i64 ((rd_T45 l0 x7_1).f2)] (fun k_ => k_ ≠ gb201) (fun _ => False) rfl rfl ?aP (fun _ hk => hk.elim) ?aF ?aO ?aB ?aS ?aL ?_; (case aP => exact k45_mkM _ _ _ (⟨(rd_T45 l0 x7_1).f0, (rd_T45 l0 x7_1).f1, (rd_T45 l0 x7_1).f2⟩ : S45)); (case aB => exact (hs_ HB GE201)); (case aF => exact (fun k_ hk => Kd.freshB (g := gb201) (o := .cells #[.string a1_0, .string a1_1, .int .i64 a1_2] 45 (0, 0)) (bk_ BK201) k_ hk)); (case aO => exact (rr_ HO_5)); (case aS => exact (below_size (hs_ HB GE201))); (case aL => have := LMc18.out; omega); intro v219 w20 ho hb hg hat; rw [← Ny218.out] at ho; replace BK201 := bg_ BK201 hg (Kd.R_away HO_5.out (fun _ hk => hk)); replace HB := Aside0.mk (hb); have HO220 := Aside0.mk (ho); clear HO_5; clear ho hb hg hat)))
        go_roundg k1
        case measure => have := HK1.out; first | exact this | exact Nat.le_of_succ_le this | exact Nat.le_refl _ | omega
        case rel => exact ⟨(y218), (false), (wrap64 (x7_1 + 1)), rs_, rs_, H', ⟨by have := HK1.out; first | exact this | exact Nat.le_of_succ_le this | exact Nat.le_refl _ | omega⟩, ⟨rr_ HO220⟩, ⟨bk_ BK201⟩, ⟨hs_ HB GE201⟩⟩
       ·rw [if_neg c18] at H
        exact absurd H (by simp)
     ·rw [if_neg c11] at H
      exact absurd H (by simp)
   ·rw [if_neg c6] at H
    have c6b0 : decide (x7_1 < (l0.length : Int)) = false := decide_eq_false c6
    clear c6
    by_cases c21 : x6_1 = true
    ·subst c21
     have H1 : (some x5_1) = some r := by rw [if_pos rfl] at H; exact H
     clear H
     have H := H1
     clear H1
     obtain rfl := Option.some.inj H
     go_wp2
     repeat (go_quiet (fail); try go_wp2)
     go_ret
     exact ⟨_, by first | rfl | (simp [errW_none, errW_some] <;> rfl) | (simp [*, errW_none, errW_some] <;> rfl), by (with_reducible repeat (first | apply Kd.R_alloc | apply Kd.R_drewN | apply Kd.R_drew)); exact Kd.R_mono HO_5.out (fun _ hk => trivial), hs_ HB GE201⟩
    ·replace c21 := Bool.eq_false_iff.mpr c21
     subst c21
     have H1 : (if x5_1.length < 3518437208883 then (some (x5_1 ++ [(⟨a1_0, a1_1, a1_2⟩ : S45)])) else (none)) = some r := by rw [if_neg (show ¬ (false = true) by decide)] at H; exact H
     clear H
     have H := H1
     clear H1
     by_cases c22 : x5_1.length < 3518437208883
     ·rw [if_pos c22] at H
      have LMc22 := Aside0.mk c22
      clear c22
      obtain ⟨y221, hy221⟩ : ∃ y_ : List (S45), y_ = (x5_1 ++ [(⟨a1_0, a1_1, a1_2⟩ : S45)]) := ⟨_, rfl⟩
      replace H : (some y221) = some r := by first | (rw [hy221]; with_reducible exact H) | (have H2_ := (Option.bind_some _ _).symm.trans H; rw [hy221]; with_reducible exact H2_) | (have H2_ := (Option.bind_some _ _).symm.trans H; with_reducible exact H2_) | with_reducible exact H | (rw [hy221]; exact H) | exact H
      have Ny221 := Aside0.mk hy221
      clear hy221
      obtain rfl := Option.some.inj H
      obtain ⟨hcz23_0, hcz23_1, hcz23_2, hfz23_0, hfz23_1, hfz23_2⟩ := bc3_ BK201
      go_wp2_with (first | (at_builtin; (with_reducible refine gate_builtin (b := .append) (xs := #[.tmp 40, .tmp 42]) rfl ?_); refine Kd.R_append k45 (w0 := w) w.heap.size rfl (.tmp 40) (.tmp 42) 27 45 (.agg #[(.string ⟨#[]⟩), (.string ⟨#[]⟩), (.int .i64 0)]) 40 rfl Try.underlying27 info45 rfl (by decide) (by omega) u5 x5_1 (⟨a1_0, a1_1, a1_2⟩ : S45) [.string a1_0, .string a1_1, .int .i64 a1_2] (fun k_ => k_ ≠ gb201) (fun _ => False) rfl rfl ?aP (fun _ hk => hk.elim) ?aF ?aO ?aB ?aS ?aL ?_; (case aP => exact k45_mkM _ _ _ (⟨a1_0, a1_1, a1_2⟩ : S45)); (case aB => exact (hs_ HB GE201)); (case aF => exact (fun k_ hk => Kd.freshB (g := gb201) (o := .cells #[.string a1_0, .string a1_1, .int .i64 a1_2] 45 (0, 0)) (bk_ BK201) k_ hk)); (case aO => exact (rr_ HO_5)); (case aS => exact (below_size (hs_ HB GE201))); (case aL => have := LMc22.out; omega); intro v222 w24 ho hb hg hat; rw [← Ny221.out] at ho; replace BK201 := bg_ BK201 hg (Kd.R_away HO_5.out (fun _ hk => hk)); replace HB := Aside0.mk (hb); have HO223 := Aside0.mk (ho); clear HO_5; clear ho hb hg hat))
      repeat (go_quiet (first | (at_builtin; (with_reducible refine gate_builtin (b := .append) (xs := #[.tmp 40, .tmp 42]) rfl ?_); refine Kd.R_append k45 (w0 := w) w.heap.size rfl (.tmp 40) (.tmp 42) 27 45 (.agg #[(.string ⟨#[]⟩), (.string ⟨#[]⟩), (.int .i64 0)]) 40 rfl Try.underlying27 info45 rfl (by decide) (by omega) u5 x5_1 (⟨a1_0, a1_1, a1_2⟩ : S45) [.string a1_0, .string a1_1, .int .i64 a1_2] (fun k_ => k_ ≠ gb201) (fun _ => False) rfl rfl ?aP (fun _ hk => hk.elim) ?aF ?aO ?aB ?aS ?aL ?_; (case aP => exact k45_mkM _ _ _ (⟨a1_0, a1_1, a1_2⟩ : S45)); (case aB => exact (hs_ HB GE201)); (case aF => exact (fun k_ hk => Kd.freshB (g := gb201) (o := .cells #[.string a1_0, .string a1_1, .int .i64 a1_2] 45 (0, 0)) (bk_ BK201) k_ hk)); (case aO => exact (rr_ HO_5)); (case aS => exact (below_size (hs_ HB GE201))); (case aL => have := LMc22.out; omega); intro v222 w24 ho hb hg hat; rw [← Ny221.out] at ho; replace BK201 := bg_ BK201 hg (Kd.R_away HO_5.out (fun _ hk => hk)); replace HB := Aside0.mk (hb); have HO223 := Aside0.mk (ho); clear HO_5; clear ho hb hg hat)); try go_wp2_with (first | (at_builtin; (with_reducible refine gate_builtin (b := .append) (xs := #[.tmp 40, .tmp 42]) rfl ?_); refine Kd.R_append k45 (w0 := w) w.heap.size rfl (.tmp 40) (.tmp 42) 27 45 (.agg #[(.string ⟨#[]⟩), (.string ⟨#[]⟩), (.int .i64 0)]) 40 rfl Try.underlying27 info45 rfl (by decide) (by omega) u5 x5_1 (⟨a1_0, a1_1, a1_2⟩ : S45) [.string a1_0, .string a1_1, .int .i64 a1_2] (fun k_ => k_ ≠ gb201) (fun _ => False) rfl rfl ?aP (fun _ hk => hk.elim) ?aF ?aO ?aB ?aS ?aL ?_; (case aP => exact k45_mkM _ _ _ (⟨a1_0, a1_1, a1_2⟩ : S45)); (case aB => exact (hs_ HB GE201)); (case aF => exact (fun k_ hk => Kd.freshB (g := gb201) (o := .cells #[.string a1_0, .string a1_1, .int .i64 a1_2] 45 (0, 0)) (bk_ BK201) k_ hk)); (case aO => exact (rr_ HO_5)); (case aS => exact (below_size (hs_ HB GE201))); (case aL => have := LMc22.out; omega); intro v222 w24 ho hb hg hat; rw [← Ny221.out] at ho; replace BK201 := bg_ BK201 hg (Kd.R_away HO_5.out (fun _ hk => hk)); replace HB := Aside0.mk (hb); have HO223 := Aside0.mk (ho); clear HO_5; clear ho hb hg hat)))
      go_ret
      exact ⟨_, by first | rfl | (simp [errW_none, errW_some] <;> rfl) | (simp [*, errW_none, errW_some] <;> rfl), by (with_reducible repeat (first | apply Kd.R_alloc | apply Kd.R_drewN | apply Kd.R_drew)); exact Kd.R_mono HO223.out (fun _ hk => trivial), hs_ HB GE201⟩
     ·rw [if_neg c22] at H
      exact absurd H (by simp)

/-! ### spec_Create: function 92 -/
def spec_Create.f (k : Nat) (l0_0 : List (S45)) (a0_1 : Int) (a0_2 : Int) (a0_3 : Bool) (a1 : ByteArray) : Option ((List (S45)) × Int × Int × Bool × Int) := (spec_l3Begin.f k l0_0 a0_1 a0_2 a0_3).bind fun bt226 => (if bt226.2.2.2.2 = 0 then ((spec_NameOk.f k a1).bind fun t234 => (if t234 = true then ((spec_l3Find.f k l0_0 a0_1 a0_2 a0_3 a1).bind fun t235 => (if t235 ≥ 0 then (some (bt226.1, bt226.2.1, bt226.2.2.1, bt226.2.2.2.1, 4)) else (if (l0_0.length : Int) ≥ 130 then (some (bt226.1, bt226.2.1, bt226.2.2.1, bt226.2.2.2.1, 2)) else ((spec_l3Insert.f k bt226.1 a1 (⟨#[]⟩ : ByteArray) 0).bind fun t236 => (some (t236, bt226.2.1, bt226.2.2.1, bt226.2.2.2.1, 0)))))) else (some (bt226.1, bt226.2.1, bt226.2.2.1, bt226.2.2.2.1, 5)))) else (some (bt226.1, bt226.2.1, bt226.2.2.1, bt226.2.2.2.1, bt226.2.2.2.2)))
theorem spec_Create.mono : ∀ a0 a1 a2 a3 a4 k, LeO (spec_Create.f k a0 a1 a2 a3 a4) (spec_Create.f (k + 1) a0 a1 a2 a3 a4) := by
 intro a0 a1 a2 a3 a4 k
 unfold spec_Create.f
 repeat' first | (with_reducible first | exact spec_NameOk.mono .. | exact spec_l3Begin.mono .. | exact spec_l3Find.mono .. | exact spec_l3Insert.mono .. | exact LeO.refl .. | exact LeO.none .. | refine LeO.ite ?_ ?_ | refine LeO.bind ?_ (fun _ => ?_)) | exact spec_NameOk.mono .. | exact spec_l3Begin.mono .. | exact spec_l3Find.mono .. | exact spec_l3Insert.mono .. | exact LeO.none .. | refine LeO.ite ?_ ?_ | refine LeO.bind ?_ (fun _ => ?_)
set_option maxHeartbeats 80000000 in
set_option maxRecDepth 100000 in
theorem spec_Create.calls (k : Nat) (A0_0 : Option Addr) (c0_0 : Nat) (l0_0 : List (S45)) (a0_1 : Int) (a0_2 : Int) (a0_3 : Bool) (a1 : ByteArray) (r1 : List (S45)) (r2 : Int) (r3 : Int) (r4 : Bool) (r5 : Int) (w : World) (hr0_0 : Kd.C k45 w A0_0 l0_0.length l0_0) (hc0_0 : l0_0.length ≤ c0_0) (h : spec_Create.f k l0_0 a0_1 a0_2 a0_3 a1 = some (r1, r2, r3, r4, r5)) :
  Calls Try.prog 92 #[.agg #[.slice A0_0 l0_0.length c0_0, .int .i64 a0_1, .int .i64 a0_2, .bool a0_3], .string a1] w fun e w' => ∃ v0_ : Value, e = .returned (.tuple #[.agg #[v0_, .int .i64 r2, .int .i64 r3, .bool r4], .int .i64 r5]) ∧ Kd.R k45 45 w' w.heap.size (fun _ => True) v0_ r1 ∧ Below w.heap.size w w' := by
 have hu29 := Try.underlying29
 have hu45 := Try.underlying45
 have HR0_0 := Aside0.mk hr0_0
 have HC0_0 := Aside0.mk hc0_0
 clear hr0_0 hc0_0
 have HB := Aside0.mk (Below.refl w.heap.size w)
 have H : ((spec_l3Begin.f k l0_0 a0_1 a0_2 a0_3).bind fun bt226 => (if bt226.2.2.2.2 = 0 then ((spec_NameOk.f k a1).bind fun t234 => (if t234 = true then ((spec_l3Find.f k l0_0 a0_1 a0_2 a0_3 a1).bind fun t235 => (if t235 ≥ 0 then (some (bt226.1, bt226.2.1, bt226.2.2.1, bt226.2.2.2.1, 4)) else (if (l0_0.length : Int) ≥ 130 then (some (bt226.1, bt226.2.1, bt226.2.2.1, bt226.2.2.2.1, 2)) else ((spec_l3Insert.f k bt226.1 a1 (⟨#[]⟩ : ByteArray) 0).bind fun t236 => (some (t236, bt226.2.1, bt226.2.2.1, bt226.2.2.2.1, 0)))))) else (some (bt226.1, bt226.2.1, bt226.2.2.1, bt226.2.2.2.1, 5)))) else (some (bt226.1, bt226.2.1, bt226.2.2.1, bt226.2.2.2.1, bt226.2.2.2.2)))) = some (r1, r2, r3, r4, r5) := h
 clear h
 replace H := Option.bind_eq_some_iff.mp H
 obtain ⟨⟨t226, t229, t230, t231, t232⟩, A30, H⟩ := H
 replace H : (if t232 = 0 then ((spec_NameOk.f k a1).bind fun t234 => (if t234 = true then ((spec_l3Find.f k l0_0 a0_1 a0_2 a0_3 a1).bind fun t235 => (if t235 ≥ 0 then (some (t226, t229, t230, t231, 4)) else (if (l0_0.length : Int) ≥ 130 then (some (t226, t229, t230, t231, 2)) else ((spec_l3Insert.f k t226 a1 (⟨#[]⟩ : ByteArray) 0).bind fun t236 => (some (t236, t229, t230, t231, 0)))))) else (some (t226, t229, t230, t231, 5)))) else (some (t226, t229, t230, t231, t232))) = some (r1, r2, r3, r4, r5) := H
 have A3 := Aside0.mk A30
 clear A30
 by_cases c4 : t232 = 0
 ·rw [if_pos c4] at H
  have c4b0 : (t232 == 0) = true := beq_iff_eq.mpr c4
  have c4b1 : (t232 != 0) = false := bne_eq_false_iff_eq.mpr c4
  clear c4
  replace H := Option.bind_eq_some_iff.mp H
  obtain ⟨t234, A50, H⟩ := H
  replace H : (if t234 = true then ((spec_l3Find.f k l0_0 a0_1 a0_2 a0_3 a1).bind fun t235 => (if t235 ≥ 0 then (some (t226, t229, t230, t231, 4)) else (if (l0_0.length : Int) ≥ 130 then (some (t226, t229, t230, t231, 2)) else ((spec_l3Insert.f k t226 a1 (⟨#[]⟩ : ByteArray) 0).bind fun t236 => (some (t236, t229, t230, t231, 0)))))) else (some (t226, t229, t230, t231, 5))) = some (r1, r2, r3, r4, r5) := H
  have A5 := Aside0.mk A50
  clear A50
  by_cases c6 : t234 = true
  ·subst c6
   have H1 : ((spec_l3Find.f k l0_0 a0_1 a0_2 a0_3 a1).bind fun t235 => (if t235 ≥ 0 then (some (t226, t229, t230, t231, 4)) else (if (l0_0.length : Int) ≥ 130 then (some (t226, t229, t230, t231, 2)) else ((spec_l3Insert.f k t226 a1 (⟨#[]⟩ : ByteArray) 0).bind fun t236 => (some (t236, t229, t230, t231, 0)))))) = some (r1, r2, r3, r4, r5) := by rw [if_pos rfl] at H; exact H
   clear H
   have H := H1
   clear H1
   replace H := Option.bind_eq_some_iff.mp H
   obtain ⟨t235, A70, H⟩ := H
   replace H : (if t235 ≥ 0 then (some (t226, t229, t230, t231, 4)) else (if (l0_0.length : Int) ≥ 130 then (some (t226, t229, t230, t231, 2)) else ((spec_l3Insert.f k t226 a1 (⟨#[]⟩ : ByteArray) 0).bind fun t236 => (some (t236, t229, t230, t231, 0))))) = some (r1, r2, r3, r4, r5) := H
   have A7 := Aside0.mk A70
   clear A70
   by_cases c8 : t235 ≥ 0
   ·rw [if_pos c8] at H
    have c8b0 : decide (0 ≤ t235) = true := decide_eq_true c8
    clear c8
    simp only [Option.some.injEq, Prod.mk.injEq] at H
    obtain ⟨rfl, rfl, rfl, rfl, rfl⟩ := H
    go_enter Try.func92, Try.ntmps92
    go_wp2_with (first | ((with_reducible refine gate_dst (N := 2) rfl ?_); refine box_event ?hg (N := 2) ?hd (cs := #[.slice A0_0 l0_0.length c0_0, .int .i64 a0_1, .int .i64 a0_2, .bool a0_3]) (t := 29) ?hr ?_; (case hd => rfl); (case hg => rfl); (case hr => first | (go_simp; done) | (go_simp; rfl)); intro gb224 hg w9 hbox hb; have BK224 := Aside0.mk (hbox); have GW224 := ge_ hg (hb_ HB); have GE224 := ge_ hg (hb_ HB); replace HB := bs_ HB hb; clear hb hbox hg) | ((with_reducible refine gate_dst (N := 4) rfl ?_); refine box_event ?hg (N := 4) ?hd (cs := #[.slice none 0 0, .int .i64 0, .int .i64 0, .bool false]) (t := 29) ?hr ?_; (case hd => rfl); (case hg => rfl); (case hr => first | (go_simp; done) | (go_simp; rfl)); intro gb225 hg w10 hbox hb; have BK225 := Aside0.mk (hbox); have GW225 := ge_ hg (hs_ HB GE224); have GE225 := ge_ hg (hs_ HB GE224); replace HB := bt_ HB GE224 hb; have NB224_225 := nl_ BK224 hg; have NB225_224 := ng_ BK224 hg; replace BK224 := bb_ BK224 hb; clear hb hbox hg; have hnb11 := NB224_225.out; have hnc11 := NB225_224.out; obtain ⟨hcz12_0, hcz12_1, hcz12_2, hcz12_3, hfz12_0, hfz12_1, hfz12_2, hfz12_3⟩ := bc4_ BK224) | ((with_reducible refine gate_callee (f := 102) rfl ?_); refine goesL_ (some 10) rfl rfl Try.func102 (by kernel_rfl) rfl #[.agg #[.slice A0_0 l0_0.length c0_0, .int .i64 a0_1, .int .i64 a0_2, .bool a0_3]] rfl ar_ ?_; (with_reducible refine (spec_l3Begin.calls k _ _ l0_0 a0_1 a0_2 a0_3 t226 t229 t230 t231 t232 _ ?side1 ?side2 A3.out).mono ?_); (case side1 => repeat (first | exact (Kd.C_below HR0_0.out HB.out) | (with_reducible refine Kd.C_alloc ?_ _) | (with_reducible refine Kd.C_drewN ?_ _) | (with_reducible refine Kd.C_drew ?_))); (case side2 => exact HC0_0.out); rintro e w13 ⟨v227, rfl, ho0, hb⟩; refine ⟨_, rfl, ?_⟩; have HO228 := Aside0.mk (Kd.R_lower ho0 (below_size (hu_ HB GE224 GE225))); replace BK224 := bb_ BK224 hb; replace BK225 := bb_ BK225 hb; replace HB := bu_ HB GE224 GE225 hb; (try clear hb); (try clear hb2); (try clear hk); (try clear hi); (try clear ho0)) | ((with_reducible refine gate_dst (N := 6) rfl ?_); refine box_event ?hg (N := 6) ?hd (cs := #[.slice none 0 0, .int .i64 0, .int .i64 0, .bool false]) (t := 29) ?hr ?_; (case hd => rfl); (case hg => rfl); (case hr => first | (go_simp; done) | (go_simp; rfl)); intro gb233 hg w14 hbox hb; replace HO228 := rb_ HO228 hb; have BK233 := Aside0.mk (hbox); have GW233 := ge_ hg (hu_ HB GE224 GE225); have GE233 := ge_ hg (hu_ HB GE224 GE225); replace HB := bu_ HB GE224 GE225 hb; have NB224_233 := nl_ BK224 hg; have NB233_224 := ng_ BK224 hg; replace BK224 := bb_ BK224 hb; have NB225_233 := nl_ BK225 hg; have NB233_225 := ng_ BK225 hg; replace BK225 := bb_ BK225 hb; clear hb hbox hg; obtain ⟨Ao15, co15, eo15⟩ := Kd.R_slice HO228.out; subst eo15; have hnb16 := NB233_224.out; have hnc16 := NB224_233.out; have hnb17 := NB233_225.out; have hnc17 := NB225_233.out; obtain ⟨hcz18_0, hcz18_1, hcz18_2, hcz18_3, hfz18_0, hfz18_1, hfz18_2, hfz18_3⟩ := bc4_ BK233) | ((with_reducible refine gate_callee (f := 48) rfl ?_); refine goesL_ (some 18) rfl rfl Try.func48 (by kernel_rfl) rfl #[.string a1] rfl ar_ ?_; (with_reducible refine (spec_NameOk.calls k a1 true _ A5.out).mono ?_); rintro e w' ⟨rfl, ⟨nd, rfl⟩⟩; refine ⟨_, rfl, ?_⟩; obtain ⟨hcz19_0, hcz19_1, hcz19_2, hcz19_3, hfz19_0, hfz19_1, hfz19_2, hfz19_3⟩ := bc4_ BK224) | ((with_reducible refine gate_callee (f := 103) rfl ?_); refine goesL_ (some 23) rfl rfl Try.func103 (by kernel_rfl) rfl #[.agg #[.slice A0_0 l0_0.length c0_0, .int .i64 a0_1, .int .i64 a0_2, .bool a0_3], .string a1] rfl ar_ ?_; (with_reducible refine (spec_l3Find.calls k _ _ l0_0 a0_1 a0_2 a0_3 a1 t235 _ ?side1 ?side2 A7.out).mono ?_); (case side1 => exact Kd.C_below HR0_0.out (hv_ HB GE224 GE225 GE233)); (case side2 => exact HC0_0.out); rintro e w20 ⟨rfl, hb⟩; refine ⟨_, rfl, ?_⟩; replace HO228 := rfb_ HO228 BK233 hb; replace BK224 := bf_ BK224 NB224_233 hb; replace BK225 := bf_ BK225 NB225_233 hb; replace BK233 := bp_ #[.slice Ao15 t226.length co15, .int .i64 t229, .int .i64 t230, .bool t231] BK233 hb; replace HB := Aside0.mk (below_step (hv_ HB GE224 GE225 GE233) hb); (try clear hb); (try clear hb2); (try clear hk); (try clear hi); obtain ⟨hcz21_0, hcz21_1, hcz21_2, hcz21_3, hfz21_0, hfz21_1, hfz21_2, hfz21_3⟩ := bc4_ BK233; obtain ⟨hcz22_0, hcz22_1, hcz22_2, hcz22_3, hfz22_0, hfz22_1, hfz22_2, hfz22_3⟩ := bc4_ BK225))
    refine bodyPost_ret (results_ct rfl _ _ gb225 29 #[.slice Ao15 t226.length co15, .int .i64 t229, .int .i64 t230, .bool t231] (0, 0) _ rfl (up_ _ BK225 rfl).out Try.underlying29 rfl (by kernel_rfl)) rfl ?_
    exact ⟨_, by first | rfl | (simp [errW_none, errW_some] <;> rfl) | (simp [*, errW_none, errW_some] <;> rfl), by (with_reducible repeat (first | apply Kd.R_alloc | apply Kd.R_drewN | apply Kd.R_drew)); exact Kd.R_mono (Kd.R_far (p := ⟨gb225, 3, none⟩) (Kd.R_far (p := ⟨gb225, 2, none⟩) (Kd.R_far (p := ⟨gb225, 1, none⟩) (Kd.R_far (p := ⟨gb225, 0, none⟩) (Kd.R_types HO228.out BK225.out (by decide)) (fun _ hk => hk.2) (.slice Ao15 t226.length co15)) (fun _ hk => hk.2) (.int .i64 t229)) (fun _ hk => hk.2) (.int .i64 t230)) (fun _ hk => hk.2) (.bool t231)) (fun _ hk => trivial), by repeat (first | (with_reducible first | exact HB.out | apply below_alloc | apply pw_below_drewN | apply below_drew1 | refine below_set ?_ GE224.out | refine below_set ?_ GE225.out | refine below_set ?_ GE233.out) | exact HB.out)⟩
   ·rw [if_neg c8] at H
    have c8b0 : decide (0 ≤ t235) = false := decide_eq_false c8
    clear c8
    by_cases c23 : (l0_0.length : Int) ≥ 130
    ·rw [if_pos c23] at H
     have c23b0 : decide (130 ≤ (l0_0.length : Int)) = true := decide_eq_true c23
     have c23b1 : decide (130 ≤ l0_0.length) = true := decide_eq_true (by omega)
     clear c23
     simp only [Option.some.injEq, Prod.mk.injEq] at H
     obtain ⟨rfl, rfl, rfl, rfl, rfl⟩ := H
     go_enter Try.func92, Try.ntmps92
     go_wp2_with (first | ((with_reducible refine gate_dst (N := 2) rfl ?_); refine box_event ?hg (N := 2) ?hd (cs := #[.slice A0_0 l0_0.length c0_0, .int .i64 a0_1, .int .i64 a0_2, .bool a0_3]) (t := 29) ?hr ?_; (case hd => rfl); (case hg => rfl); (case hr => first | (go_simp; done) | (go_simp; rfl)); intro gb224 hg w24 hbox hb; have BK224 := Aside0.mk (hbox); have GW224 := ge_ hg (hb_ HB); have GE224 := ge_ hg (hb_ HB); replace HB := bs_ HB hb; clear hb hbox hg) | ((with_reducible refine gate_dst (N := 4) rfl ?_); refine box_event ?hg (N := 4) ?hd (cs := #[.slice none 0 0, .int .i64 0, .int .i64 0, .bool false]) (t := 29) ?hr ?_; (case hd => rfl); (case hg => rfl); (case hr => first | (go_simp; done) | (go_simp; rfl)); intro gb225 hg w25 hbox hb; have BK225 := Aside0.mk (hbox); have GW225 := ge_ hg (hs_ HB GE224); have GE225 := ge_ hg (hs_ HB GE224); replace HB := bt_ HB GE224 hb; have NB224_225 := nl_ BK224 hg; have NB225_224 := ng_ BK224 hg; replace BK224 := bb_ BK224 hb; clear hb hbox hg; have hnb26 := NB224_225.out; have hnc26 := NB225_224.out; obtain ⟨hcz27_0, hcz27_1, hcz27_2, hcz27_3, hfz27_0, hfz27_1, hfz27_2, hfz27_3⟩ := bc4_ BK224) | ((with_reducible refine gate_callee (f := 102) rfl ?_); refine goesL_ (some 10) rfl rfl Try.func102 (by kernel_rfl) rfl #[.agg #[.slice A0_0 l0_0.length c0_0, .int .i64 a0_1, .int .i64 a0_2, .bool a0_3]] rfl ar_ ?_; (with_reducible refine (spec_l3Begin.calls k _ _ l0_0 a0_1 a0_2 a0_3 t226 t229 t230 t231 t232 _ ?side1 ?side2 A3.out).mono ?_); (case side1 => repeat (first | exact (Kd.C_below HR0_0.out HB.out) | (with_reducible refine Kd.C_alloc ?_ _) | (with_reducible refine Kd.C_drewN ?_ _) | (with_reducible refine Kd.C_drew ?_))); (case side2 => exact HC0_0.out); rintro e w28 ⟨v227, rfl, ho0, hb⟩; refine ⟨_, rfl, ?_⟩; have HO228 := Aside0.mk (Kd.R_lower ho0 (below_size (hu_ HB GE224 GE225))); replace BK224 := bb_ BK224 hb; replace BK225 := bb_ BK225 hb; replace HB := bu_ HB GE224 GE225 hb; (try clear hb); (try clear hb2); (try clear hk); (try clear hi); (try clear ho0)) | ((with_reducible refine gate_dst (N := 6) rfl ?_); refine box_event ?hg (N := 6) ?hd (cs := #[.slice none 0 0, .int .i64 0, .int .i64 0, .bool false]) (t := 29) ?hr ?_; (case hd => rfl); (case hg => rfl); (case hr => first | (go_simp; done) | (go_simp; rfl)); intro gb233 hg w29 hbox hb; replace HO228 := rb_ HO228 hb; have BK233 := Aside0.mk (hbox); have GW233 := ge_ hg (hu_ HB GE224 GE225); have GE233 := ge_ hg (hu_ HB GE224 GE225); replace HB := bu_ HB GE224 GE225 hb; have NB224_233 := nl_ BK224 hg; have NB233_224 := ng_ BK224 hg; replace BK224 := bb_ BK224 hb; have NB225_233 := nl_ BK225 hg; have NB233_225 := ng_ BK225 hg; replace BK225 := bb_ BK225 hb; clear hb hbox hg; obtain ⟨Ao30, co30, eo30⟩ := Kd.R_slice HO228.out; subst eo30; have hnb31 := NB233_224.out; have hnc31 := NB224_233.out; have hnb32 := NB233_225.out; have hnc32 := NB225_233.out; obtain ⟨hcz33_0, hcz33_1, hcz33_2, hcz33_3, hfz33_0, hfz33_1, hfz33_2, hfz33_3⟩ := bc4_ BK233) | ((with_reducible refine gate_callee (f := 48) rfl ?_); refine goesL_ (some 18) rfl rfl Try.func48 (by kernel_rfl) rfl #[.string a1] rfl ar_ ?_; (with_reducible refine (spec_NameOk.calls k a1 true _ A5.out).mono ?_); rintro e w' ⟨rfl, ⟨nd, rfl⟩⟩; refine ⟨_, rfl, ?_⟩; obtain ⟨hcz34_0, hcz34_1, hcz34_2, hcz34_3, hfz34_0, hfz34_1, hfz34_2, hfz34_3⟩ := bc4_ BK224) | ((with_reducible refine gate_callee (f := 103) rfl ?_); refine goesL_ (some 23) rfl rfl Try.func103 (by kernel_rfl) rfl #[.agg #[.slice A0_0 l0_0.length c0_0, .int .i64 a0_1, .int .i64 a0_2, .bool a0_3], .string a1] rfl ar_ ?_; (with_reducible refine (spec_l3Find.calls k _ _ l0_0 a0_1 a0_2 a0_3 a1 t235 _ ?side1 ?side2 A7.out).mono ?_); (case side1 => exact Kd.C_below HR0_0.out (hv_ HB GE224 GE225 GE233)); (case side2 => exact HC0_0.out); rintro e w35 ⟨rfl, hb⟩; refine ⟨_, rfl, ?_⟩; replace HO228 := rfb_ HO228 BK233 hb; replace BK224 := bf_ BK224 NB224_233 hb; replace BK225 := bf_ BK225 NB225_233 hb; replace BK233 := bp_ #[.slice Ao30 t226.length co30, .int .i64 t229, .int .i64 t230, .bool t231] BK233 hb; replace HB := Aside0.mk (below_step (hv_ HB GE224 GE225 GE233) hb); (try clear hb); (try clear hb2); (try clear hk); (try clear hi); obtain ⟨hcz36_0, hcz36_1, hcz36_2, hcz36_3, hfz36_0, hfz36_1, hfz36_2, hfz36_3⟩ := bc4_ BK224; obtain ⟨hcz37_0, hcz37_1, hcz37_2, hcz37_3, hfz37_0, hfz37_1, hfz37_2, hfz37_3⟩ := bc4_ BK233; obtain ⟨hcz38_0, hcz38_1, hcz38_2, hcz38_3, hfz38_0, hfz38_1, hfz38_2, hfz38_3⟩ := bc4_ BK225))
     refine bodyPost_ret (results_ct rfl _ _ gb225 29 #[.slice Ao30 t226.length co30, .int .i64 t229, .int .i64 t230, .bool t231] (0, 0) _ rfl (up_ _ BK225 rfl).out Try.underlying29 rfl (by kernel_rfl)) rfl ?_
     exact ⟨_, by first | rfl | (simp [errW_none, errW_some] <;> rfl) | (simp [*, errW_none, errW_some] <;> rfl), by (with_reducible repeat (first | apply Kd.R_alloc | apply Kd.R_drewN | apply Kd.R_drew)); exact Kd.R_mono (Kd.R_far (p := ⟨gb225, 3, none⟩) (Kd.R_far (p := ⟨gb225, 2, none⟩) (Kd.R_far (p := ⟨gb225, 1, none⟩) (Kd.R_far (p := ⟨gb225, 0, none⟩) (Kd.R_types HO228.out BK225.out (by decide)) (fun _ hk => hk.2) (.slice Ao30 t226.length co30)) (fun _ hk => hk.2) (.int .i64 t229)) (fun _ hk => hk.2) (.int .i64 t230)) (fun _ hk => hk.2) (.bool t231)) (fun _ hk => trivial), by repeat (first | (with_reducible first | exact HB.out | apply below_alloc | apply pw_below_drewN | apply below_drew1 | refine below_set ?_ GE224.out | refine below_set ?_ GE225.out | refine below_set ?_ GE233.out) | exact HB.out)⟩
    ·rw [if_neg c23] at H
     have c23b0 : decide (130 ≤ (l0_0.length : Int)) = false := decide_eq_false c23
     have c23b1 : decide (130 ≤ l0_0.length) = false := decide_eq_false (by omega)
     clear c23
     replace H := Option.bind_eq_some_iff.mp H
     obtain ⟨t236, A390, H⟩ := H
     replace H : (some (t236, t229, t230, t231, 0)) = some (r1, r2, r3, r4, r5) := H
     have A39 := Aside0.mk A390
     clear A390
     simp only [Option.some.injEq, Prod.mk.injEq] at H
     obtain ⟨rfl, rfl, rfl, rfl, rfl⟩ := H
     go_enter Try.func92, Try.ntmps92
     go_wp2_with (first | ((with_reducible refine gate_dst (N := 2) rfl ?_); refine box_event ?hg (N := 2) ?hd (cs := #[.slice A0_0 l0_0.length c0_0, .int .i64 a0_1, .int .i64 a0_2, .bool a0_3]) (t := 29) ?hr ?_; (case hd => rfl); (case hg => rfl); (case hr => first | (go_simp; done) | (go_simp; rfl)); intro gb224 hg w40 hbox hb; have BK224 := Aside0.mk (hbox); have GW224 := ge_ hg (hb_ HB); have GE224 := ge_ hg (hb_ HB); replace HB := bs_ HB hb; clear hb hbox hg) | ((with_reducible refine gate_dst (N := 4) rfl ?_); refine box_event ?hg (N := 4) ?hd (cs := #[.slice none 0 0, .int .i64 0, .int .i64 0, .bool false]) (t := 29) ?hr ?_; (case hd => rfl); (case hg => rfl); (case hr => first | (go_simp; done) | (go_simp; rfl)); intro gb225 hg w41 hbox hb; have BK225 := Aside0.mk (hbox); have GW225 := ge_ hg (hs_ HB GE224); have GE225 := ge_ hg (hs_ HB GE224); replace HB := bt_ HB GE224 hb; have NB224_225 := nl_ BK224 hg; have NB225_224 := ng_ BK224 hg; replace BK224 := bb_ BK224 hb; clear hb hbox hg; have hnb42 := NB224_225.out; have hnc42 := NB225_224.out; obtain ⟨hcz43_0, hcz43_1, hcz43_2, hcz43_3, hfz43_0, hfz43_1, hfz43_2, hfz43_3⟩ := bc4_ BK224) | ((with_reducible refine gate_callee (f := 102) rfl ?_); refine goesL_ (some 10) rfl rfl Try.func102 (by kernel_rfl) rfl #[.agg #[.slice A0_0 l0_0.length c0_0, .int .i64 a0_1, .int .i64 a0_2, .bool a0_3]] rfl ar_ ?_; (with_reducible refine (spec_l3Begin.calls k _ _ l0_0 a0_1 a0_2 a0_3 t226 t229 t230 t231 t232 _ ?side1 ?side2 A3.out).mono ?_); (case side1 => repeat (first | exact (Kd.C_below HR0_0.out HB.out) | (with_reducible refine Kd.C_alloc ?_ _) | (with_reducible refine Kd.C_drewN ?_ _) | (with_reducible refine Kd.C_drew ?_))); (case side2 => exact HC0_0.out); rintro e w44 ⟨v227, rfl, ho0, hb⟩; refine ⟨_, rfl, ?_⟩; have HO228 := Aside0.mk (Kd.R_lower ho0 (below_size (hu_ HB GE224 GE225))); replace BK224 := bb_ BK224 hb; replace BK225 := bb_ BK225 hb; replace HB := bu_ HB GE224 GE225 hb; (try clear hb); (try clear hb2); (try clear hk); (try clear hi); (try clear ho0)) | ((with_reducible refine gate_dst (N := 6) rfl ?_); refine box_event ?hg (N := 6) ?hd (cs := #[.slice none 0 0, .int .i64 0, .int .i64 0, .bool false]) (t := 29) ?hr ?_; (case hd => rfl); (case hg => rfl); (case hr => first | (go_simp; done) | (go_simp; rfl)); intro gb233 hg w45 hbox hb; replace HO228 := rb_ HO228 hb; have BK233 := Aside0.mk (hbox); have GW233 := ge_ hg (hu_ HB GE224 GE225); have GE233 := ge_ hg (hu_ HB GE224 GE225); replace HB := bu_ HB GE224 GE225 hb; have NB224_233 := nl_ BK224 hg; have NB233_224 := ng_ BK224 hg; replace BK224 := bb_ BK224 hb; have NB225_233 := nl_ BK225 hg; have NB233_225 := ng_ BK225 hg; replace BK225 := bb_ BK225 hb; clear hb hbox hg; obtain ⟨Ao46, co46, eo46⟩ := Kd.R_slice HO228.out; subst eo46; have hnb47 := NB233_224.out; have hnc47 := NB224_233.out; have hnb48 := NB233_225.out; have hnc48 := NB225_233.out; obtain ⟨hcz49_0, hcz49_1, hcz49_2, hcz49_3, hfz49_0, hfz49_1, hfz49_2, hfz49_3⟩ := bc4_ BK233) | ((with_reducible refine gate_callee (f := 48) rfl ?_); refine goesL_ (some 18) rfl rfl Try.func48 (by kernel_rfl) rfl #[.string a1] rfl ar_ ?_; (with_reducible refine (spec_NameOk.calls k a1 true _ A5.out).mono ?_); rintro e w' ⟨rfl, ⟨nd, rfl⟩⟩; refine ⟨_, rfl, ?_⟩; obtain ⟨hcz50_0, hcz50_1, hcz50_2, hcz50_3, hfz50_0, hfz50_1, hfz50_2, hfz50_3⟩ := bc4_ BK224) | ((with_reducible refine gate_callee (f := 103) rfl ?_); refine goesL_ (some 23) rfl rfl Try.func103 (by kernel_rfl) rfl #[.agg #[.slice A0_0 l0_0.length c0_0, .int .i64 a0_1, .int .i64 a0_2, .bool a0_3], .string a1] rfl ar_ ?_; (with_reducible refine (spec_l3Find.calls k _ _ l0_0 a0_1 a0_2 a0_3 a1 t235 _ ?side1 ?side2 A7.out).mono ?_); (case side1 => exact Kd.C_below HR0_0.out (hv_ HB GE224 GE225 GE233)); (case side2 => exact HC0_0.out); rintro e w51 ⟨rfl, hb⟩; refine ⟨_, rfl, ?_⟩; replace HO228 := rfb_ HO228 BK233 hb; replace BK224 := bf_ BK224 NB224_233 hb; replace BK225 := bf_ BK225 NB225_233 hb; replace BK233 := bp_ #[.slice Ao46 t226.length co46, .int .i64 t229, .int .i64 t230, .bool t231] BK233 hb; replace HB := Aside0.mk (below_step (hv_ HB GE224 GE225 GE233) hb); (try clear hb); (try clear hb2); (try clear hk); (try clear hi); obtain ⟨hcz52_0, hcz52_1, hcz52_2, hcz52_3, hfz52_0, hfz52_1, hfz52_2, hfz52_3⟩ := bc4_ BK224; obtain ⟨hcz53_0, hcz53_1, hcz53_2, hcz53_3, hfz53_0, hfz53_1, hfz53_2, hfz53_3⟩ := bc4_ BK233) | ((with_reducible refine gate_callee (f := 104) rfl ?_); refine goesL_ (some 35) rfl rfl Try.func104 (by kernel_rfl) rfl #[.slice Ao46 t226.length co46, .agg #[.string a1, .string (⟨#[]⟩ : ByteArray), .int .i64 0]] rfl ar_ ?_; (with_reducible refine (spec_l3Insert.calls k _ _ t226 a1 (⟨#[]⟩ : ByteArray) 0 t236 _ ?side1 ?side2 A39.out).mono ?_); (case side1 => repeat (first | exact (Kd.R_reads' HO228.out).2.2 | (with_reducible refine Kd.C_alloc ?_ _) | (with_reducible refine Kd.C_drewN ?_ _) | (with_reducible refine Kd.C_drew ?_))); (case side2 => exact (Kd.R_reads' HO228.out).2.1); rintro e w54 ⟨v237, rfl, ho0, hb⟩; refine ⟨_, rfl, ?_⟩; have HO238 := Aside0.mk (Kd.R_lower (Kd.R_new' ho0 (Kd.R_lt (rr_ HO228))) (below_size (hv_ HB GE224 GE225 GE233))); replace HO228 := Aside0.mk (Kd.R_elder' (rr_ HO228) (Kd.R_base ho0) hb); replace BK224 := bb_ BK224 hb; replace BK225 := bb_ BK225 hb; replace BK233 := bb_ BK233 hb; replace HB := Aside0.mk (below_step (hv_ HB GE224 GE225 GE233) hb); (try clear hb); (try clear hb2); (try clear hk); (try clear hi); (try clear ho0); obtain ⟨Ao55, co55, eo55⟩ := Kd.R_slice HO238.out; subst eo55; obtain ⟨hcz56_0, hcz56_1, hcz56_2, hcz56_3, hfz56_0, hfz56_1, hfz56_2, hfz56_3⟩ := bc4_ BK233; obtain ⟨hcz57_0, hcz57_1, hcz57_2, hcz57_3, hfz57_0, hfz57_1, hfz57_2, hfz57_3⟩ := bc4_ BK225))
     refine bodyPost_ret (results_ct rfl _ _ gb225 29 #[.slice Ao55 t236.length co55, .int .i64 t229, .int .i64 t230, .bool t231] (0, 0) _ rfl (by (with_reducible repeat (first | refine blk_drewN ?_ _ | refine blk_drew ?_ | refine blk_alloc ?_ _)); refine blk_put (cs := #[.slice Ao55 t236.length co55, .int .i64 t229, .int .i64 t230, .bool false]) ?_ 3 _ rfl; (with_reducible repeat (first | refine blk_drewN ?_ _ | refine blk_drew ?_ | refine blk_alloc ?_ _)); refine blk_put (cs := #[.slice Ao55 t236.length co55, .int .i64 t229, .int .i64 0, .bool false]) ?_ 2 _ rfl; (with_reducible repeat (first | refine blk_drewN ?_ _ | refine blk_drew ?_ | refine blk_alloc ?_ _)); refine blk_put (cs := #[.slice Ao55 t236.length co55, .int .i64 0, .int .i64 0, .bool false]) ?_ 1 _ rfl; (with_reducible repeat (first | refine blk_drewN ?_ _ | refine blk_drew ?_ | refine blk_alloc ?_ _)); refine blk_put (cs := #[.slice none 0 0, .int .i64 0, .int .i64 0, .bool false]) ?_ 0 _ rfl; (with_reducible repeat (first | refine blk_drewN ?_ _ | refine blk_drew ?_ | refine blk_alloc ?_ _)); refine blk_far ?_ NB225_233.out _; (with_reducible repeat (first | refine blk_drewN ?_ _ | refine blk_drew ?_ | refine blk_alloc ?_ _)); exact BK225.out) Try.underlying29 rfl (by kernel_rfl)) rfl ?_
     exact ⟨_, by first | rfl | (simp [errW_none, errW_some] <;> rfl) | (simp [*, errW_none, errW_some] <;> rfl), by (with_reducible repeat (first | apply Kd.R_alloc | apply Kd.R_drewN | apply Kd.R_drew)); exact Kd.R_mono (Kd.R_far (p := ⟨gb225, 3, none⟩) (Kd.R_far (p := ⟨gb225, 2, none⟩) (Kd.R_far (p := ⟨gb225, 1, none⟩) (Kd.R_far (p := ⟨gb225, 0, none⟩) (Kd.R_far (p := ⟨gb233, 0, none⟩) (Kd.R_types (Kd.R_types HO238.out BK233.out (by decide)) BK225.out (by decide)) (fun _ hk => hk.1.2) (.slice Ao55 t236.length co55)) (fun _ hk => hk.2) (.slice Ao55 t236.length co55)) (fun _ hk => hk.2) (.int .i64 t229)) (fun _ hk => hk.2) (.int .i64 t230)) (fun _ hk => hk.2) (.bool t231)) (fun _ hk => trivial), by repeat (first | (with_reducible first | exact HB.out | apply below_alloc | apply pw_below_drewN | apply below_drew1 | refine below_set ?_ GE224.out | refine below_set ?_ GE225.out | refine below_set ?_ GE233.out) | exact HB.out)⟩
  ·replace c6 := Bool.eq_false_iff.mpr c6
   subst c6
   have H1 : (some (t226, t229, t230, t231, 5)) = some (r1, r2, r3, r4, r5) := by rw [if_neg (show ¬ (false = true) by decide)] at H; exact H
   clear H
   have H := H1
   clear H1
   simp only [Option.some.injEq, Prod.mk.injEq] at H
   obtain ⟨rfl, rfl, rfl, rfl, rfl⟩ := H
   go_enter Try.func92, Try.ntmps92
   go_wp2_with (first | ((with_reducible refine gate_dst (N := 2) rfl ?_); refine box_event ?hg (N := 2) ?hd (cs := #[.slice A0_0 l0_0.length c0_0, .int .i64 a0_1, .int .i64 a0_2, .bool a0_3]) (t := 29) ?hr ?_; (case hd => rfl); (case hg => rfl); (case hr => first | (go_simp; done) | (go_simp; rfl)); intro gb224 hg w58 hbox hb; have BK224 := Aside0.mk (hbox); have GW224 := ge_ hg (hb_ HB); have GE224 := ge_ hg (hb_ HB); replace HB := bs_ HB hb; clear hb hbox hg) | ((with_reducible refine gate_dst (N := 4) rfl ?_); refine box_event ?hg (N := 4) ?hd (cs := #[.slice none 0 0, .int .i64 0, .int .i64 0, .bool false]) (t := 29) ?hr ?_; (case hd => rfl); (case hg => rfl); (case hr => first | (go_simp; done) | (go_simp; rfl)); intro gb225 hg w59 hbox hb; have BK225 := Aside0.mk (hbox); have GW225 := ge_ hg (hs_ HB GE224); have GE225 := ge_ hg (hs_ HB GE224); replace HB := bt_ HB GE224 hb; have NB224_225 := nl_ BK224 hg; have NB225_224 := ng_ BK224 hg; replace BK224 := bb_ BK224 hb; clear hb hbox hg; have hnb60 := NB224_225.out; have hnc60 := NB225_224.out; obtain ⟨hcz61_0, hcz61_1, hcz61_2, hcz61_3, hfz61_0, hfz61_1, hfz61_2, hfz61_3⟩ := bc4_ BK224) | ((with_reducible refine gate_callee (f := 102) rfl ?_); refine goesL_ (some 10) rfl rfl Try.func102 (by kernel_rfl) rfl #[.agg #[.slice A0_0 l0_0.length c0_0, .int .i64 a0_1, .int .i64 a0_2, .bool a0_3]] rfl ar_ ?_; (with_reducible refine (spec_l3Begin.calls k _ _ l0_0 a0_1 a0_2 a0_3 t226 t229 t230 t231 t232 _ ?side1 ?side2 A3.out).mono ?_); (case side1 => repeat (first | exact (Kd.C_below HR0_0.out HB.out) | (with_reducible refine Kd.C_alloc ?_ _) | (with_reducible refine Kd.C_drewN ?_ _) | (with_reducible refine Kd.C_drew ?_))); (case side2 => exact HC0_0.out); rintro e w62 ⟨v227, rfl, ho0, hb⟩; refine ⟨_, rfl, ?_⟩; have HO228 := Aside0.mk (Kd.R_lower ho0 (below_size (hu_ HB GE224 GE225))); replace BK224 := bb_ BK224 hb; replace BK225 := bb_ BK225 hb; replace HB := bu_ HB GE224 GE225 hb; (try clear hb); (try clear hb2); (try clear hk); (try clear hi); (try clear ho0)) | ((with_reducible refine gate_dst (N := 6) rfl ?_); refine box_event ?hg (N := 6) ?hd (cs := #[.slice none 0 0, .int .i64 0, .int .i64 0, .bool false]) (t := 29) ?hr ?_; (case hd => rfl); (case hg => rfl); (case hr => first | (go_simp; done) | (go_simp; rfl)); intro gb233 hg w63 hbox hb; replace HO228 := rb_ HO228 hb; have BK233 := Aside0.mk (hbox); have GW233 := ge_ hg (hu_ HB GE224 GE225); have GE233 := ge_ hg (hu_ HB GE224 GE225); replace HB := bu_ HB GE224 GE225 hb; have NB224_233 := nl_ BK224 hg; have NB233_224 := ng_ BK224 hg; replace BK224 := bb_ BK224 hb; have NB225_233 := nl_ BK225 hg; have NB233_225 := ng_ BK225 hg; replace BK225 := bb_ BK225 hb; clear hb hbox hg; obtain ⟨Ao64, co64, eo64⟩ := Kd.R_slice HO228.out; subst eo64; have hnb65 := NB233_224.out; have hnc65 := NB224_233.out; have hnb66 := NB233_225.out; have hnc66 := NB225_233.out; obtain ⟨hcz67_0, hcz67_1, hcz67_2, hcz67_3, hfz67_0, hfz67_1, hfz67_2, hfz67_3⟩ := bc4_ BK233) | ((with_reducible refine gate_callee (f := 48) rfl ?_); refine goesL_ (some 18) rfl rfl Try.func48 (by kernel_rfl) rfl #[.string a1] rfl ar_ ?_; (with_reducible refine (spec_NameOk.calls k a1 false _ A5.out).mono ?_); rintro e w' ⟨rfl, ⟨nd, rfl⟩⟩; refine ⟨_, rfl, ?_⟩; obtain ⟨hcz68_0, hcz68_1, hcz68_2, hcz68_3, hfz68_0, hfz68_1, hfz68_2, hfz68_3⟩ := bc4_ BK225))
   refine bodyPost_ret (results_ct rfl _ _ gb225 29 #[.slice Ao64 t226.length co64, .int .i64 t229, .int .i64 t230, .bool t231] (0, 0) _ rfl (by (with_reducible repeat (first | refine blk_drewN ?_ _ | refine blk_drew ?_ | refine blk_alloc ?_ _)); refine blk_put (cs := #[.slice Ao64 t226.length co64, .int .i64 t229, .int .i64 t230, .bool false]) ?_ 3 _ rfl; (with_reducible repeat (first | refine blk_drewN ?_ _ | refine blk_drew ?_ | refine blk_alloc ?_ _)); refine blk_put (cs := #[.slice Ao64 t226.length co64, .int .i64 t229, .int .i64 0, .bool false]) ?_ 2 _ rfl; (with_reducible repeat (first | refine blk_drewN ?_ _ | refine blk_drew ?_ | refine blk_alloc ?_ _)); refine blk_put (cs := #[.slice Ao64 t226.length co64, .int .i64 0, .int .i64 0, .bool false]) ?_ 1 _ rfl; (with_reducible repeat (first | refine blk_drewN ?_ _ | refine blk_drew ?_ | refine blk_alloc ?_ _)); refine blk_put (cs := #[.slice none 0 0, .int .i64 0, .int .i64 0, .bool false]) ?_ 0 _ rfl; (with_reducible repeat (first | refine blk_drewN ?_ _ | refine blk_drew ?_ | refine blk_alloc ?_ _)); refine blk_far ?_ NB225_233.out _; (with_reducible repeat (first | refine blk_drewN ?_ _ | refine blk_drew ?_ | refine blk_alloc ?_ _)); refine blk_far ?_ NB225_233.out _; (with_reducible repeat (first | refine blk_drewN ?_ _ | refine blk_drew ?_ | refine blk_alloc ?_ _)); refine blk_far ?_ NB225_233.out _; (with_reducible repeat (first | refine blk_drewN ?_ _ | refine blk_drew ?_ | refine blk_alloc ?_ _)); refine blk_far ?_ NB225_233.out _; (with_reducible repeat (first | refine blk_drewN ?_ _ | refine blk_drew ?_ | refine blk_alloc ?_ _)); exact BK225.out) Try.underlying29 rfl (by kernel_rfl)) rfl ?_
   exact ⟨_, by first | rfl | (simp [errW_none, errW_some] <;> rfl) | (simp [*, errW_none, errW_some] <;> rfl), by (with_reducible repeat (first | apply Kd.R_alloc | apply Kd.R_drewN | apply Kd.R_drew)); exact Kd.R_mono (Kd.R_far (p := ⟨gb225, 3, none⟩) (Kd.R_far (p := ⟨gb225, 2, none⟩) (Kd.R_far (p := ⟨gb225, 1, none⟩) (Kd.R_far (p := ⟨gb225, 0, none⟩) (Kd.R_far (p := ⟨gb233, 3, none⟩) (Kd.R_far (p := ⟨gb233, 2, none⟩) (Kd.R_far (p := ⟨gb233, 1, none⟩) (Kd.R_far (p := ⟨gb233, 0, none⟩) (Kd.R_types (Kd.R_types HO228.out BK233.out (by decide)) BK225.out (by decide)) (fun _ hk => hk.1.2) (.slice Ao64 t226.length co64)) (fun _ hk => hk.1.2) (.int .i64 t229)) (fun _ hk => hk.1.2) (.int .i64 t230)) (fun _ hk => hk.1.2) (.bool t231)) (fun _ hk => hk.2) (.slice Ao64 t226.length co64)) (fun _ hk => hk.2) (.int .i64 t229)) (fun _ hk => hk.2) (.int .i64 t230)) (fun _ hk => hk.2) (.bool t231)) (fun _ hk => trivial), by repeat (first | (with_reducible first | exact HB.out | apply below_alloc | apply pw_below_drewN | apply below_drew1 | refine below_set ?_ GE224.out | refine below_set ?_ GE225.out | refine below_set ?_ GE233.out) | exact HB.out)⟩
 ·rw [if_neg c4] at H
  have c4b0 : (t232 == 0) = false := beq_eq_false_iff_ne.mpr c4
  have c4b1 : (t232 != 0) = true := bne_iff_ne.mpr c4
  simp only [Option.some.injEq, Prod.mk.injEq] at H
  obtain ⟨rfl, rfl, rfl, rfl, rfl⟩ := H
  go_enter Try.func92, Try.ntmps92
  go_wp2_with (first | ((with_reducible refine gate_dst (N := 2) rfl ?_); refine box_event ?hg (N := 2) ?hd (cs := #[.slice A0_0 l0_0.length c0_0, .int .i64 a0_1, .int .i64 a0_2, .bool a0_3]) (t := 29) ?hr ?_; (case hd => rfl); (case hg => rfl); (case hr => first | (go_simp; done) | (go_simp; rfl)); intro gb224 hg w69 hbox hb; have BK224 := Aside0.mk (hbox); have GW224 := ge_ hg (hb_ HB); have GE224 := ge_ hg (hb_ HB); replace HB := bs_ HB hb; clear hb hbox hg) | ((with_reducible refine gate_dst (N := 4) rfl ?_); refine box_event ?hg (N := 4) ?hd (cs := #[.slice none 0 0, .int .i64 0, .int .i64 0, .bool false]) (t := 29) ?hr ?_; (case hd => rfl); (case hg => rfl); (case hr => first | (go_simp; done) | (go_simp; rfl)); intro gb225 hg w70 hbox hb; have BK225 := Aside0.mk (hbox); have GW225 := ge_ hg (hs_ HB GE224); have GE225 := ge_ hg (hs_ HB GE224); replace HB := bt_ HB GE224 hb; have NB224_225 := nl_ BK224 hg; have NB225_224 := ng_ BK224 hg; replace BK224 := bb_ BK224 hb; clear hb hbox hg; have hnb71 := NB224_225.out; have hnc71 := NB225_224.out; obtain ⟨hcz72_0, hcz72_1, hcz72_2, hcz72_3, hfz72_0, hfz72_1, hfz72_2, hfz72_3⟩ := bc4_ BK224) | ((with_reducible refine gate_callee (f := 102) rfl ?_); refine goesL_ (some 10) rfl rfl Try.func102 (by kernel_rfl) rfl #[.agg #[.slice A0_0 l0_0.length c0_0, .int .i64 a0_1, .int .i64 a0_2, .bool a0_3]] rfl ar_ ?_; (with_reducible refine (spec_l3Begin.calls k _ _ l0_0 a0_1 a0_2 a0_3 t226 t229 t230 t231 t232 _ ?side1 ?side2 A3.out).mono ?_); (case side1 => repeat (first | exact (Kd.C_below HR0_0.out HB.out) | (with_reducible refine Kd.C_alloc ?_ _) | (with_reducible refine Kd.C_drewN ?_ _) | (with_reducible refine Kd.C_drew ?_))); (case side2 => exact HC0_0.out); rintro e w73 ⟨v227, rfl, ho0, hb⟩; refine ⟨_, rfl, ?_⟩; have HO228 := Aside0.mk (Kd.R_lower ho0 (below_size (hu_ HB GE224 GE225))); replace BK224 := bb_ BK224 hb; replace BK225 := bb_ BK225 hb; replace HB := bu_ HB GE224 GE225 hb; (try clear hb); (try clear hb2); (try clear hk); (try clear hi); (try clear ho0)) | ((with_reducible refine gate_dst (N := 6) rfl ?_); refine box_event ?hg (N := 6) ?hd (cs := #[.slice none 0 0, .int .i64 0, .int .i64 0, .bool false]) (t := 29) ?hr ?_; (case hd => rfl); (case hg => rfl); (case hr => first | (go_simp; done) | (go_simp; rfl)); intro gb233 hg w74 hbox hb; replace HO228 := rb_ HO228 hb; have BK233 := Aside0.mk (hbox); have GW233 := ge_ hg (hu_ HB GE224 GE225); have GE233 := ge_ hg (hu_ HB GE224 GE225); replace HB := bu_ HB GE224 GE225 hb; have NB224_233 := nl_ BK224 hg; have NB233_224 := ng_ BK224 hg; replace BK224 := bb_ BK224 hb; have NB225_233 := nl_ BK225 hg; have NB233_225 := ng_ BK225 hg; replace BK225 := bb_ BK225 hb; clear hb hbox hg; obtain ⟨Ao75, co75, eo75⟩ := Kd.R_slice HO228.out; subst eo75; have hnb76 := NB233_224.out; have hnc76 := NB224_233.out; have hnb77 := NB233_225.out; have hnc77 := NB225_233.out; obtain ⟨hcz78_0, hcz78_1, hcz78_2, hcz78_3, hfz78_0, hfz78_1, hfz78_2, hfz78_3⟩ := bc4_ BK233; obtain ⟨hcz79_0, hcz79_1, hcz79_2, hcz79_3, hfz79_0, hfz79_1, hfz79_2, hfz79_3⟩ := bc4_ BK225))
  refine bodyPost_ret (results_ct rfl _ _ gb225 29 #[.slice Ao75 t226.length co75, .int .i64 t229, .int .i64 t230, .bool t231] (0, 0) _ rfl (by (with_reducible repeat (first | refine blk_drewN ?_ _ | refine blk_drew ?_ | refine blk_alloc ?_ _)); refine blk_put (cs := #[.slice Ao75 t226.length co75, .int .i64 t229, .int .i64 t230, .bool false]) ?_ 3 _ rfl; (with_reducible repeat (first | refine blk_drewN ?_ _ | refine blk_drew ?_ | refine blk_alloc ?_ _)); refine blk_put (cs := #[.slice Ao75 t226.length co75, .int .i64 t229, .int .i64 0, .bool false]) ?_ 2 _ rfl; (with_reducible repeat (first | refine blk_drewN ?_ _ | refine blk_drew ?_ | refine blk_alloc ?_ _)); refine blk_put (cs := #[.slice Ao75 t226.length co75, .int .i64 0, .int .i64 0, .bool false]) ?_ 1 _ rfl; (with_reducible repeat (first | refine blk_drewN ?_ _ | refine blk_drew ?_ | refine blk_alloc ?_ _)); refine blk_put (cs := #[.slice none 0 0, .int .i64 0, .int .i64 0, .bool false]) ?_ 0 _ rfl; (with_reducible repeat (first | refine blk_drewN ?_ _ | refine blk_drew ?_ | refine blk_alloc ?_ _)); refine blk_far ?_ NB225_233.out _; (with_reducible repeat (first | refine blk_drewN ?_ _ | refine blk_drew ?_ | refine blk_alloc ?_ _)); refine blk_far ?_ NB225_233.out _; (with_reducible repeat (first | refine blk_drewN ?_ _ | refine blk_drew ?_ | refine blk_alloc ?_ _)); refine blk_far ?_ NB225_233.out _; (with_reducible repeat (first | refine blk_drewN ?_ _ | refine blk_drew ?_ | refine blk_alloc ?_ _)); refine blk_far ?_ NB225_233.out _; (with_reducible repeat (first | refine blk_drewN ?_ _ | refine blk_drew ?_ | refine blk_alloc ?_ _)); exact BK225.out) Try.underlying29 rfl (by kernel_rfl)) rfl ?_
  exact ⟨_, by first | rfl | (simp [errW_none, errW_some] <;> rfl) | (simp [*, errW_none, errW_some] <;> rfl), by (with_reducible repeat (first | apply Kd.R_alloc | apply Kd.R_drewN | apply Kd.R_drew)); exact Kd.R_mono (Kd.R_far (p := ⟨gb225, 3, none⟩) (Kd.R_far (p := ⟨gb225, 2, none⟩) (Kd.R_far (p := ⟨gb225, 1, none⟩) (Kd.R_far (p := ⟨gb225, 0, none⟩) (Kd.R_far (p := ⟨gb233, 3, none⟩) (Kd.R_far (p := ⟨gb233, 2, none⟩) (Kd.R_far (p := ⟨gb233, 1, none⟩) (Kd.R_far (p := ⟨gb233, 0, none⟩) (Kd.R_types (Kd.R_types HO228.out BK233.out (by decide)) BK225.out (by decide)) (fun _ hk => hk.1.2) (.slice Ao75 t226.length co75)) (fun _ hk => hk.1.2) (.int .i64 t229)) (fun _ hk => hk.1.2) (.int .i64 t230)) (fun _ hk => hk.1.2) (.bool t231)) (fun _ hk => hk.2) (.slice Ao75 t226.length co75)) (fun _ hk => hk.2) (.int .i64 t229)) (fun _ hk => hk.2) (.int .i64 t230)) (fun _ hk => hk.2) (.bool t231)) (fun _ hk => trivial), by repeat (first | (with_reducible first | exact HB.out | apply below_alloc | apply pw_below_drewN | apply below_drew1 | refine below_set ?_ GE224.out | refine below_set ?_ GE225.out | refine below_set ?_ GE233.out) | exact HB.out)⟩

end Go.Proofs.Ytigbekefjbfopaa.PFnPower
