-- Laid by a program of this session, a copy of the kit's printer with additions (wip/patch_print.py): myhead. Lean checks it.
import Derived.Test.YtebeafcdabkkfaaPFnRecordsx0
import Derived.Test.YtebeafcdabkkfaaPFnRecordsx1
import Derived.Test.YtebeafcdabkkfaaPFnRecordsx2
namespace Go.Proofs.Ytebeafcdabkkfaa.PFnRecords
open Go.RowKit Go.Proofs.YtebeafcdabkkfaaW.PrintWords Go.Proofs.YtebeafcdabkkfaaW.PrintLast Go.Proofs.YtebeafcdabkkfaaW.PrintMore
attribute [local go_sem] max2_int min2_int max_two min_two max_three min_three max_four min_four   -- for this text's walks alone
set_option linter.unusedVariables false
set_option linter.unusedSimpArgs false

attribute [local go_sem high] eqA35
/-! ### impl_RecOk: function 48 -/
def impl_RecOk.j0 : Nat → Bool → Int → Int → Bool → Int → Int → ByteArray → ByteArray → Int → Int → Int → Int → ByteArray → ByteArray → Int → Int → Option (Bool)
 | 0, _, _, _, _, _, _, _, _, _, _, _, _, _, _, _, _ => none
 | k + 1, x4, x5, x12, x13, x103000, x103001, x103002, x103003, x103004, x103005, x104000, x104001, x104002, x104003, x104004, x104005 => if x13 = true then ((impl_KeyOk.f x103002).bind fun t104 => (if t104 = true then (if (x103003.size : Int) ≤ 24 then ((impl_in.f x103001 x5 1000000).bind fun t105 => (if t105 = true then (some (x103000 == x104000 && (x103001 == x104001 && (x103004 == x104004 && (x103005 == x104005))))) else (some false))) else (some false)) else (some false))) else (if x12 = 2 then ((impl_KeyOk.f x103002).bind fun t106 => (if t106 = true then ((impl_in.f x103001 x5 1000000).bind fun t107 => (if t107 = true then (some (x103000 == x104000 && (x103001 == x104001 && (x103003.toList == x104003.toList && (x103004 == x104004 && (x103005 == x104005)))))) else (some false))) else (some false))) else (if x12 = 3 then ((impl_in.f x103004 0 8).bind fun t108 => (if t108 = true then ((impl_in.f x103005 0 4294967295).bind fun t109 => (if t109 = true then ((impl_in.f x103001 x5 1000000).bind fun t110 => (if t110 = true then (some (x103000 == x104000 && (x103001 == x104001 && (x103002.toList == x104002.toList && (x103003.toList == x104003.toList))))) else (some false))) else (some false))) else (some false))) else (if x12 = 5 then ((impl_in.f x103004 0 20).bind fun t111 => (if t111 = true then ((impl_in.f x103005 0 4294967295).bind fun t112 => (if t112 = true then ((impl_in.f x103001 0 1000000).bind fun t113 => (if t113 = true then (some (x103000 == x104000 && (x103001 == x104001 && (x103002.toList == x104002.toList && (x103003.toList == x104003.toList))))) else (some false))) else (some false))) else (some false))) else (if x4 = true then ((impl_in.f x103001 x5 1000000).bind fun t114 => (if t114 = true then (some (x103000 == x104000 && (x103001 == x104001 && (x103002.toList == x104002.toList && (x103003.toList == x104003.toList && (x103004 == x104004 && (x103005 == x104005))))))) else (some false))) else (some false)))))
def impl_RecOk.f (k : Nat) (a0_0 : Int) (a0_1 : Int) (a0_2 : ByteArray) (a0_3 : ByteArray) (a0_4 : Int) (a0_5 : Int) : Option (Bool) := if a0_0 = 1 then (impl_RecOk.j0 k false 1 a0_0 (a0_0 == 1) a0_0 a0_1 a0_2 a0_3 a0_4 a0_5 a0_0 a0_1 (⟨#[]⟩ : ByteArray) (⟨#[]⟩ : ByteArray) 0 0) else (impl_RecOk.j0 k false 1 a0_0 (a0_0 == 4) a0_0 a0_1 a0_2 a0_3 a0_4 a0_5 a0_0 a0_1 (⟨#[]⟩ : ByteArray) (⟨#[]⟩ : ByteArray) 0 0)
theorem impl_RecOk.mono_l : ∀ k, (∀ y0 y1 y2 y3 y4 y5 y6 y7 y8 y9 y10 y11 y12 y13 y14 y15, LeO (impl_RecOk.j0 k y0 y1 y2 y3 y4 y5 y6 y7 y8 y9 y10 y11 y12 y13 y14 y15) (impl_RecOk.j0 (k + 1) y0 y1 y2 y3 y4 y5 y6 y7 y8 y9 y10 y11 y12 y13 y14 y15))
 | 0 => fun _ _ _ _ _ _ _ _ _ _ _ _ _ _ _ _ r h => by simp [impl_RecOk.j0] at h
 | k + 1 => by
  have ih0 := impl_RecOk.mono_l k
  ·intro y0 y1 y2 y3 y4 y5 y6 y7 y8 y9 y10 y11 y12 y13 y14 y15
   unfold impl_RecOk.j0
   repeat' first
   | (with_reducible exact ih0 _ _ _ _ _ _ _ _ _ _ _ _ _ _ _ _)
   | (with_reducible exact LeO.refl _)
   | (with_reducible exact LeO.none _)
   | (with_reducible refine LeO.ite ?_ ?_)
   | (with_reducible refine LeO.bind ?_ (fun _ => ?_))
   | exact ih0 _ _ _ _ _ _ _ _ _ _ _ _ _ _ _ _
   | exact LeO.none _
   | refine LeO.ite ?_ ?_
   | refine LeO.bind ?_ (fun _ => ?_)
theorem impl_RecOk.mono : ∀ a0 a1 a2 a3 a4 a5 k, LeO (impl_RecOk.f k a0 a1 a2 a3 a4 a5) (impl_RecOk.f (k + 1) a0 a1 a2 a3 a4 a5) := by
 intro a0 a1 a2 a3 a4 a5 k
 have ih0 := impl_RecOk.mono_l k
 unfold impl_RecOk.f
 repeat' first
   | (with_reducible exact ih0 _ _ _ _ _ _ _ _ _ _ _ _ _ _ _ _)
   | (with_reducible exact LeO.refl _)
   | (with_reducible exact LeO.none _)
   | (with_reducible refine LeO.ite ?_ ?_)
   | (with_reducible refine LeO.bind ?_ (fun _ => ?_))
   | exact ih0 _ _ _ _ _ _ _ _ _ _ _ _ _ _ _ _
   | exact LeO.none _
   | refine LeO.ite ?_ ?_
   | refine LeO.bind ?_ (fun _ => ?_)
def impl_RecOk.T6 : Bool × List (List Nat × List Nat) := (true, [([], []), ([0], [0]), ([], []), ([2], [2]), ([0, 1], []), ([4, 1, 0, 1], [1, 4]), ([0, 1, 2, 3, 4, 5], []), ([6, 3, 5, 0, 1, 2, 3, 4, 5], [3, 6])])
def impl_RecOk.B6 : List Nat := [0, 1, 0, 4, 3, 19, 63, 127]
theorem impl_RecOk.tab6 : rtab .any (opsOf Try.f48 6) = impl_RecOk.T6 := by kernel_rfl
theorem impl_RecOk.bits6 : waitsOk impl_RecOk.T6.2 impl_RecOk.B6 = true := by kernel_rfl
def impl_RecOk.T12 : Bool × List (List Nat × List Nat) := (true, [([], []), ([0], [0]), ([], []), ([2], [2]), ([0, 1], []), ([4, 1, 0, 1], [1, 4]), ([0, 1, 2, 3, 4, 5], []), ([6, 3, 5, 0, 1, 2, 3, 4, 5], [3, 6])])
def impl_RecOk.B12 : List Nat := [0, 1, 0, 4, 3, 19, 63, 127]
theorem impl_RecOk.tab12 : rtab .any (opsOf Try.f48 12) = impl_RecOk.T12 := by kernel_rfl
theorem impl_RecOk.bits12 : waitsOk impl_RecOk.T12.2 impl_RecOk.B12 = true := by kernel_rfl
def impl_RecOk.T15 : Bool × List (List Nat × List Nat) := (true, [([], []), ([0], [0]), ([], []), ([2], [2]), ([0, 1], []), ([4, 1, 0, 1], [1, 4]), ([0, 1, 2, 3, 4, 5], []), ([6, 3, 5, 0, 1, 2, 3, 4, 5], [3, 6])])
def impl_RecOk.B15 : List Nat := [0, 1, 0, 4, 3, 19, 63, 127]
theorem impl_RecOk.tab15 : rtab .any (opsOf Try.f48 15) = impl_RecOk.T15 := by kernel_rfl
theorem impl_RecOk.bits15 : waitsOk impl_RecOk.T15.2 impl_RecOk.B15 = true := by kernel_rfl
set_option maxHeartbeats 8000000 in
set_option maxRecDepth 100000 in
theorem impl_RecOk.calls (k : Nat) (a0_0 : Int) (a0_1 : Int) (a0_2 : ByteArray) (a0_3 : ByteArray) (a0_4 : Int) (a0_5 : Int) (r : Bool) (w : World) (h : impl_RecOk.f k a0_0 a0_1 a0_2 a0_3 a0_4 a0_5 = some r) :
  Calls Try.prog 48 #[.agg #[.int .i64 a0_0, .int .i64 a0_1, .string a0_2, .string a0_3, .int .i64 a0_4, .int .i64 a0_5]] w fun e w' => e = .returned (.bool r) ∧ Below w.heap.size w w' := by
 have hu35 := Try.underlying35
 have HB := Aside0.mk (Below.refl w.heap.size w)
 have H : (if a0_0 = 1 then (impl_RecOk.j0 k false 1 a0_0 (a0_0 == 1) a0_0 a0_1 a0_2 a0_3 a0_4 a0_5 a0_0 a0_1 (⟨#[]⟩ : ByteArray) (⟨#[]⟩ : ByteArray) 0 0) else (impl_RecOk.j0 k false 1 a0_0 (a0_0 == 4) a0_0 a0_1 a0_2 a0_3 a0_4 a0_5 a0_0 a0_1 (⟨#[]⟩ : ByteArray) (⟨#[]⟩ : ByteArray) 0 0)) = some r := h
 clear h
 have HC2 := Aside0.mk H
 clear H
 go_enter Try.func48, Try.ntmps48
 go_upto_if 13 with (first | ((with_reducible refine gate_dst (N := 1) rfl ?_); (try (refine gate_guard (by rfl) ?_; dsimp only)); refine box_event ?hg (N := 1) ?hd (cs := #[.int .i64 a0_0, .int .i64 a0_1, .string a0_2, .string a0_3, .int .i64 a0_4, .int .i64 a0_5]) (t := 35) ?hr ?_; (case hd => rfl); (case hg => rfl); (case hr => first | (go_simp; done) | (go_simp; rfl)); intro gb102 hg w3 hbox hb; have n0_ := Aside0.mk (below_step (hb_ HB) hb); have n1_ := Aside0.mk (hbox); have n2_ := Aside0.mk ((by rw [hg]; exact (below_size (hb_ HB)) : w.heap.size ≤ gb102)); have n3_ := Aside0.mk ((by rw [hg]; exact (below_size (hb_ HB)) : w.heap.size ≤ gb102)); clear HB; have HB := n0_; have BK102 := n1_; have GW102 := n2_; have GE102 := n3_; clear n0_ n1_ n2_ n3_; clear hb hbox hg; have hcz4_0 : w3.cell? ⟨gb102, 0, none⟩ = some (.int .i64 a0_0) := (blk_cell BK102.out 0).trans rfl; have hcz4_1 : w3.cell? ⟨gb102, 1, none⟩ = some (.int .i64 a0_1) := (blk_cell BK102.out 1).trans rfl; have hcz4_2 : w3.cell? ⟨gb102, 2, none⟩ = some (.string a0_2) := (blk_cell BK102.out 2).trans rfl; have hcz4_3 : w3.cell? ⟨gb102, 3, none⟩ = some (.string a0_3) := (blk_cell BK102.out 3).trans rfl; have hcz4_4 : w3.cell? ⟨gb102, 4, none⟩ = some (.int .i64 a0_4) := (blk_cell BK102.out 4).trans rfl; have hcz4_5 : w3.cell? ⟨gb102, 5, none⟩ = some (.int .i64 a0_5) := (blk_cell BK102.out 5).trans rfl; have hfz4_0 := blk_frozen BK102.out 0; have hfz4_1 := blk_frozen BK102.out 1; have hfz4_2 := blk_frozen BK102.out 2; have hfz4_3 := blk_frozen BK102.out 3; have hfz4_4 := blk_frozen BK102.out 4; have hfz4_5 := blk_frozen BK102.out 5) | ((with_reducible refine gate_dst (N := 3) rfl ?_); (try (refine gate_guard (by rfl) ?_; dsimp only)); refine box_event ?hg (N := 3) ?hd (cs := #[.int .i64 0, .int .i64 0, .string (⟨#[]⟩ : ByteArray), .string (⟨#[]⟩ : ByteArray), .int .i64 0, .int .i64 0]) (t := 35) ?hr ?_; (case hd => rfl); (case hg => rfl); (case hr => first | (go_simp; done) | (go_simp; rfl)); intro gb103 hg w5 hbox hb; have n0_ := Aside0.mk (blk_below (g := gb102) (o := .cells #[.int .i64 a0_0, .int .i64 a0_1, .string a0_2, .string a0_3, .int .i64 a0_4, .int .i64 a0_5] 35 (0, 0)) (bk_ BK102) hb); have n1_ := Aside0.mk (below_step (hs_ HB GE102) hb); have n2_ := Aside0.mk (hbox); have n3_ := Aside0.mk ((by rw [hg]; exact (below_size (hs_ HB GE102)) : w.heap.size ≤ gb103)); have n4_ := Aside0.mk ((by rw [hg]; exact (below_size (hs_ HB GE102)) : w.heap.size ≤ gb103)); have n5_ := Aside0.mk ((by rw [hg]; exact Nat.ne_of_lt (blk_lt (g := gb102) (o := .cells #[.int .i64 a0_0, .int .i64 a0_1, .string a0_2, .string a0_3, .int .i64 a0_4, .int .i64 a0_5] 35 (0, 0)) (bk_ BK102)) : gb102 ≠ gb103)); have n6_ := Aside0.mk ((by rw [hg]; exact Nat.ne_of_gt (blk_lt (g := gb102) (o := .cells #[.int .i64 a0_0, .int .i64 a0_1, .string a0_2, .string a0_3, .int .i64 a0_4, .int .i64 a0_5] 35 (0, 0)) (bk_ BK102)) : gb103 ≠ gb102)); clear BK102; clear HB; have BK102 := n0_; have HB := n1_; have BK103 := n2_; have GW103 := n3_; have GE103 := n4_; have NB102_103 := n5_; have NB103_102 := n6_; clear n0_ n1_ n2_ n3_ n4_ n5_ n6_; clear hb hbox hg; have hnb6 := NB103_102.out; have hnc6 := NB102_103.out; have hcz7_0 : w5.cell? ⟨gb103, 0, none⟩ = some (.int .i64 0) := (blk_cell BK103.out 0).trans rfl; have hcz7_1 : w5.cell? ⟨gb103, 1, none⟩ = some (.int .i64 0) := (blk_cell BK103.out 1).trans rfl; have hcz7_2 : w5.cell? ⟨gb103, 2, none⟩ = some (.string (⟨#[]⟩ : ByteArray)) := (blk_cell BK103.out 2).trans rfl; have hcz7_3 : w5.cell? ⟨gb103, 3, none⟩ = some (.string (⟨#[]⟩ : ByteArray)) := (blk_cell BK103.out 3).trans rfl; have hcz7_4 : w5.cell? ⟨gb103, 4, none⟩ = some (.int .i64 0) := (blk_cell BK103.out 4).trans rfl; have hcz7_5 : w5.cell? ⟨gb103, 5, none⟩ = some (.int .i64 0) := (blk_cell BK103.out 5).trans rfl; have hfz7_0 := blk_frozen BK103.out 0; have hfz7_1 := blk_frozen BK103.out 1; have hfz7_2 := blk_frozen BK103.out 2; have hfz7_3 := blk_frozen BK103.out 3; have hfz7_4 := blk_frozen BK103.out 4; have hfz7_5 := blk_frozen BK103.out 5; have hcz8_0 : w5.cell? ⟨gb102, 0, none⟩ = some (.int .i64 a0_0) := (blk_cell BK102.out 0).trans rfl; have hcz8_1 : w5.cell? ⟨gb102, 1, none⟩ = some (.int .i64 a0_1) := (blk_cell BK102.out 1).trans rfl; have hcz8_2 : w5.cell? ⟨gb102, 2, none⟩ = some (.string a0_2) := (blk_cell BK102.out 2).trans rfl; have hcz8_3 : w5.cell? ⟨gb102, 3, none⟩ = some (.string a0_3) := (blk_cell BK102.out 3).trans rfl; have hcz8_4 : w5.cell? ⟨gb102, 4, none⟩ = some (.int .i64 a0_4) := (blk_cell BK102.out 4).trans rfl; have hcz8_5 : w5.cell? ⟨gb102, 5, none⟩ = some (.int .i64 a0_5) := (blk_cell BK102.out 5).trans rfl; have hfz8_0 := blk_frozen BK102.out 0; have hfz8_1 := blk_frozen BK102.out 1; have hfz8_2 := blk_frozen BK102.out 2; have hfz8_3 := blk_frozen BK102.out 3; have hfz8_4 := blk_frozen BK102.out 4; have hfz8_5 := blk_frozen BK102.out 5))
 (try simp only [Act.put, la_, lz_, ls_])
 go_cut [13] (fun v13 wc => ∃ (kq : Nat) (x13_1 : Bool), v13 = .bool x13_1 ∧ Aside0 (impl_RecOk.j0 kq false 1 a0_0 x13_1 a0_0 a0_1 a0_2 a0_3 a0_4 a0_5 a0_0 a0_1 (⟨#[]⟩ : ByteArray) (⟨#[]⟩ : ByteArray) 0 0 = some r) ∧ Aside0 (kq ≤ k) ∧ Aside0 (wc.heap[gb102]? = some (.cells #[.int .i64 a0_0, .int .i64 a0_1, .string a0_2, .string a0_3, .int .i64 a0_4, .int .i64 a0_5] 35 (0, 0))) ∧ Aside0 (wc.heap[gb103]? = some (.cells #[.int .i64 a0_0, .int .i64 a0_1, .string (⟨#[]⟩ : ByteArray), .string (⟨#[]⟩ : ByteArray), .int .i64 0, .int .i64 0] 35 (0, 0))) ∧ Aside0 (Below w.heap.size w wc))
 case first =>
  have H := HC2.out
  clear HC2
  by_cases c9 : a0_0 = 1
  ·rw [if_pos c9] at H
   have c9b0 : (a0_0 == 1) = true := beq_iff_eq.mpr c9
   have c9b1 : (a0_0 != 1) = false := bne_eq_false_iff_eq.mpr c9
   clear c9
   (first | rw [c9b0] | (simp only [i64_w, i32_w]; rw [c9b0]) | skip)
   have H' := Aside0.mk H
   clear H
   go_wp2
   go_meet
   case rel => exact ⟨_, ((a0_0 == 1)), rs_, H', ⟨by first | exact Nat.le_refl _ | exact Nat.le_of_succ_le this | omega⟩, ⟨by (with_reducible repeat (first | refine blk_drewN ?_ _ | refine blk_drew ?_ | refine blk_alloc ?_ _)); refine blk_far ?_ NB102_103.out _; (with_reducible repeat (first | refine blk_drewN ?_ _ | refine blk_drew ?_ | refine blk_alloc ?_ _)); refine blk_far ?_ NB102_103.out _; (with_reducible repeat (first | refine blk_drewN ?_ _ | refine blk_drew ?_ | refine blk_alloc ?_ _)); refine blk_far ?_ NB102_103.out _; (with_reducible repeat (first | refine blk_drewN ?_ _ | refine blk_drew ?_ | refine blk_alloc ?_ _)); refine blk_far ?_ NB102_103.out _; (with_reducible repeat (first | refine blk_drewN ?_ _ | refine blk_drew ?_ | refine blk_alloc ?_ _)); refine blk_far ?_ NB102_103.out _; (with_reducible repeat (first | refine blk_drewN ?_ _ | refine blk_drew ?_ | refine blk_alloc ?_ _)); refine blk_far ?_ NB102_103.out _; (with_reducible repeat (first | refine blk_drewN ?_ _ | refine blk_drew ?_ | refine blk_alloc ?_ _)); exact BK102.out⟩, ⟨by (with_reducible repeat (first | refine blk_drewN ?_ _ | refine blk_drew ?_ | refine blk_alloc ?_ _)); refine blk_put (cs := #[.int .i64 a0_0, .int .i64 a0_1, .string (⟨#[]⟩ : ByteArray), .string (⟨#[]⟩ : ByteArray), .int .i64 0, .int .i64 0]) ?_ 5 _ rfl; (with_reducible repeat (first | refine blk_drewN ?_ _ | refine blk_drew ?_ | refine blk_alloc ?_ _)); refine blk_put (cs := #[.int .i64 a0_0, .int .i64 a0_1, .string (⟨#[]⟩ : ByteArray), .string (⟨#[]⟩ : ByteArray), .int .i64 0, .int .i64 0]) ?_ 4 _ rfl; (with_reducible repeat (first | refine blk_drewN ?_ _ | refine blk_drew ?_ | refine blk_alloc ?_ _)); refine blk_put (cs := #[.int .i64 a0_0, .int .i64 a0_1, .string (⟨#[]⟩ : ByteArray), .string (⟨#[]⟩ : ByteArray), .int .i64 0, .int .i64 0]) ?_ 3 _ rfl; (with_reducible repeat (first | refine blk_drewN ?_ _ | refine blk_drew ?_ | refine blk_alloc ?_ _)); refine blk_put (cs := #[.int .i64 a0_0, .int .i64 a0_1, .string (⟨#[]⟩ : ByteArray), .string (⟨#[]⟩ : ByteArray), .int .i64 0, .int .i64 0]) ?_ 2 _ rfl; (with_reducible repeat (first | refine blk_drewN ?_ _ | refine blk_drew ?_ | refine blk_alloc ?_ _)); refine blk_put (cs := #[.int .i64 a0_0, .int .i64 0, .string (⟨#[]⟩ : ByteArray), .string (⟨#[]⟩ : ByteArray), .int .i64 0, .int .i64 0]) ?_ 1 _ rfl; (with_reducible repeat (first | refine blk_drewN ?_ _ | refine blk_drew ?_ | refine blk_alloc ?_ _)); refine blk_put (cs := #[.int .i64 0, .int .i64 0, .string (⟨#[]⟩ : ByteArray), .string (⟨#[]⟩ : ByteArray), .int .i64 0, .int .i64 0]) ?_ 0 _ rfl; (with_reducible repeat (first | refine blk_drewN ?_ _ | refine blk_drew ?_ | refine blk_alloc ?_ _)); exact BK103.out⟩, ⟨by repeat (first | (with_reducible first | exact HB.out | apply below_alloc | apply pw_below_drewN | apply below_drew1 | refine below_set ?_ GE102.out | refine below_set ?_ GE103.out) | exact HB.out)⟩⟩
  ·rw [if_neg c9] at H
   have c9b0 : (a0_0 == 1) = false := beq_eq_false_iff_ne.mpr c9
   have c9b1 : (a0_0 != 1) = true := bne_iff_ne.mpr c9
   (first | rw [c9b0] | (simp only [i64_w, i32_w]; rw [c9b0]) | skip)
   have H' := Aside0.mk H
   clear H
   go_wp2
   go_meet
   case rel => exact ⟨_, ((a0_0 == 4)), rs_, H', ⟨by first | exact Nat.le_refl _ | exact Nat.le_of_succ_le this | omega⟩, ⟨by (with_reducible repeat (first | refine blk_drewN ?_ _ | refine blk_drew ?_ | refine blk_alloc ?_ _)); refine blk_far ?_ NB102_103.out _; (with_reducible repeat (first | refine blk_drewN ?_ _ | refine blk_drew ?_ | refine blk_alloc ?_ _)); refine blk_far ?_ NB102_103.out _; (with_reducible repeat (first | refine blk_drewN ?_ _ | refine blk_drew ?_ | refine blk_alloc ?_ _)); refine blk_far ?_ NB102_103.out _; (with_reducible repeat (first | refine blk_drewN ?_ _ | refine blk_drew ?_ | refine blk_alloc ?_ _)); refine blk_far ?_ NB102_103.out _; (with_reducible repeat (first | refine blk_drewN ?_ _ | refine blk_drew ?_ | refine blk_alloc ?_ _)); refine blk_far ?_ NB102_103.out _; (with_reducible repeat (first | refine blk_drewN ?_ _ | refine blk_drew ?_ | refine blk_alloc ?_ _)); refine blk_far ?_ NB102_103.out _; (with_reducible repeat (first | refine blk_drewN ?_ _ | refine blk_drew ?_ | refine blk_alloc ?_ _)); exact BK102.out⟩, ⟨by (with_reducible repeat (first | refine blk_drewN ?_ _ | refine blk_drew ?_ | refine blk_alloc ?_ _)); refine blk_put (cs := #[.int .i64 a0_0, .int .i64 a0_1, .string (⟨#[]⟩ : ByteArray), .string (⟨#[]⟩ : ByteArray), .int .i64 0, .int .i64 0]) ?_ 5 _ rfl; (with_reducible repeat (first | refine blk_drewN ?_ _ | refine blk_drew ?_ | refine blk_alloc ?_ _)); refine blk_put (cs := #[.int .i64 a0_0, .int .i64 a0_1, .string (⟨#[]⟩ : ByteArray), .string (⟨#[]⟩ : ByteArray), .int .i64 0, .int .i64 0]) ?_ 4 _ rfl; (with_reducible repeat (first | refine blk_drewN ?_ _ | refine blk_drew ?_ | refine blk_alloc ?_ _)); refine blk_put (cs := #[.int .i64 a0_0, .int .i64 a0_1, .string (⟨#[]⟩ : ByteArray), .string (⟨#[]⟩ : ByteArray), .int .i64 0, .int .i64 0]) ?_ 3 _ rfl; (with_reducible repeat (first | refine blk_drewN ?_ _ | refine blk_drew ?_ | refine blk_alloc ?_ _)); refine blk_put (cs := #[.int .i64 a0_0, .int .i64 a0_1, .string (⟨#[]⟩ : ByteArray), .string (⟨#[]⟩ : ByteArray), .int .i64 0, .int .i64 0]) ?_ 2 _ rfl; (with_reducible repeat (first | refine blk_drewN ?_ _ | refine blk_drew ?_ | refine blk_alloc ?_ _)); refine blk_put (cs := #[.int .i64 a0_0, .int .i64 0, .string (⟨#[]⟩ : ByteArray), .string (⟨#[]⟩ : ByteArray), .int .i64 0, .int .i64 0]) ?_ 1 _ rfl; (with_reducible repeat (first | refine blk_drewN ?_ _ | refine blk_drew ?_ | refine blk_alloc ?_ _)); refine blk_put (cs := #[.int .i64 0, .int .i64 0, .string (⟨#[]⟩ : ByteArray), .string (⟨#[]⟩ : ByteArray), .int .i64 0, .int .i64 0]) ?_ 0 _ rfl; (with_reducible repeat (first | refine blk_drewN ?_ _ | refine blk_drew ?_ | refine blk_alloc ?_ _)); exact BK103.out⟩, ⟨by repeat (first | (with_reducible first | exact HB.out | apply below_alloc | apply pw_below_drewN | apply below_drew1 | refine below_set ?_ GE102.out | refine below_set ?_ GE103.out) | exact HB.out)⟩⟩
 case rest =>
  clear HC2
  try clear p2
  try clear c4
  try clear c6
  try clear c9
  try clear c9b0
  try clear c9b1
  try clear hcz4_0
  try clear hcz4_1
  try clear hcz4_2
  try clear hcz4_3
  try clear hcz4_4
  try clear hcz4_5
  try clear hcz7_0
  try clear hcz7_1
  try clear hcz7_2
  try clear hcz7_3
  try clear hcz7_4
  try clear hcz7_5
  try clear hcz8_0
  try clear hcz8_1
  try clear hcz8_2
  try clear hcz8_3
  try clear hcz8_4
  try clear hcz8_5
  try clear hfz4_0
  try clear hfz4_1
  try clear hfz4_2
  try clear hfz4_3
  try clear hfz4_4
  try clear hfz4_5
  try clear hfz7_0
  try clear hfz7_1
  try clear hfz7_2
  try clear hfz7_3
  try clear hfz7_4
  try clear hfz7_5
  try clear hfz8_0
  try clear hfz8_1
  try clear hfz8_2
  try clear hfz8_3
  try clear hfz8_4
  try clear hfz8_5
  obtain ⟨kq, x13_1, rfl, HA, HJ1, BK102, BK103, HB⟩ := hcut
  cases kq with
  | zero => exact absurd HA.out (by simp [impl_RecOk.j0])
  | succ kj1 =>
   have H := HA.out
   clear HA
   simp only [impl_RecOk.j0] at H
   by_cases c10 : x13_1 = true
   ·subst c10
    have H1 : ((impl_KeyOk.f a0_2).bind fun t104 => (if t104 = true then (if (a0_3.size : Int) ≤ 24 then ((impl_in.f a0_1 1 1000000).bind fun t105 => (if t105 = true then (some (a0_0 == a0_0 && (a0_1 == a0_1 && (a0_4 == 0 && (a0_5 == 0))))) else (some false))) else (some false)) else (some false))) = some r := by rw [if_pos rfl] at H; exact H
    clear H
    have H := H1
    clear H1
    replace H := Option.bind_eq_some_iff.mp H
    obtain ⟨t104, A110, H⟩ := H
    replace H : (if t104 = true then (if (a0_3.size : Int) ≤ 24 then ((impl_in.f a0_1 1 1000000).bind fun t105 => (if t105 = true then (some (a0_0 == a0_0 && (a0_1 == a0_1 && (a0_4 == 0 && (a0_5 == 0))))) else (some false))) else (some false)) else (some false)) = some r := H
    have A11 := Aside0.mk A110
    clear A110
    by_cases c12 : t104 = true
    ·subst c12
     have H1 : (if (a0_3.size : Int) ≤ 24 then ((impl_in.f a0_1 1 1000000).bind fun t105 => (if t105 = true then (some (a0_0 == a0_0 && (a0_1 == a0_1 && (a0_4 == 0 && (a0_5 == 0))))) else (some false))) else (some false)) = some r := by rw [if_pos rfl] at H; exact H
     clear H
     have H := H1
     clear H1
     by_cases c13 : (a0_3.size : Int) ≤ 24
     ·rw [if_pos c13] at H
      have c13b0 : decide ((a0_3.size : Int) ≤ 24) = true := decide_eq_true c13
      have c13b1 : decide (a0_3.size ≤ 24) = true := decide_eq_true (by omega)
      clear c13
      replace H := Option.bind_eq_some_iff.mp H
      obtain ⟨t105, A140, H⟩ := H
      replace H : (if t105 = true then (some (a0_0 == a0_0 && (a0_1 == a0_1 && (a0_4 == 0 && (a0_5 == 0))))) else (some false)) = some r := H
      have A14 := Aside0.mk A140
      clear A140
      by_cases c15 : t105 = true
      ·subst c15
       have H1 : (some (a0_0 == a0_0 && (a0_1 == a0_1 && (a0_4 == 0 && (a0_5 == 0))))) = some r := by rw [if_pos rfl] at H; exact H
       clear H
       have H := H1
       clear H1
       obtain rfl := Option.some.inj H
       try go_wp2
       have n0_ := Aside0.mk (blk_drew BK102.out)
       have n1_ := Aside0.mk (blk_drew BK103.out)
       have n2_ := Aside0.mk (below_drew1 HB.out)
       clear BK102
       clear BK103
       clear HB
       have BK102 := n0_
       have BK103 := n1_
       have HB := n2_
       clear n0_ n1_ n2_
       refine start_ (n := 8) (S := fun w' => w'.cell? ⟨gb102, 0, none⟩ = some (.int .i64 a0_0) ∧ w'.cell? ⟨gb102, 1, none⟩ = some (.int .i64 a0_1) ∧ w'.cell? ⟨gb102, 2, none⟩ = some (.string a0_2) ∧ w'.cell? ⟨gb102, 3, none⟩ = some (.string a0_3) ∧ w'.cell? ⟨gb102, 4, none⟩ = some (.int .i64 a0_4) ∧ w'.cell? ⟨gb102, 5, none⟩ = some (.int .i64 a0_5)) (ds := []) #[o',o',o',o',o',o',o',o'] (by kernel_rfl) rfl rfl ⟨(blk_cell BK102.out 0).trans rfl, (blk_cell BK102.out 1).trans rfl, (blk_cell BK102.out 2).trans rfl, (blk_cell BK102.out 3).trans rfl, (blk_cell BK102.out 4).trans rfl, (blk_cell BK102.out 5).trans rfl⟩ (fun hHeld => ?_); refine with_tabW impl_RecOk.tab6 impl_RecOk.bits6 (fun HT_ HW_ => ?_)
       generalize wc.drew = w16 at BK102 BK103 HB hHeld ⊢
       refine pu_ (i := 0) (N := some 16) (v := ?_) (a' := ?_) #[i',o',o',o',o',o',o',o'] rfl rfl HT_ (Or.inl ⟨by rfl, ?_⟩) ?_ ?_
       rotate_left;·intro w';go_simp;with_reducible rfl
       rotate_left;·simp only [Act.put, la_, lz_, ls_, i64_w, i32_w];rfl
       refine pu_ (i := 2) (N := some 18) (v := ?_) (a' := ?_) #[i',o',i',o',o',o',o',o'] rfl rfl HT_ (Or.inl ⟨by rfl, ?_⟩) ?_ ?_
       rotate_left;·intro w';go_simp;with_reducible rfl
       rotate_left;·simp only [Act.put, la_, lz_, ls_, i64_w, i32_w];rfl
       refine take_ (i := 1) (N := some 17) (v := ?_) (a' := ?_) #[i',i',i',o',o',o',o',o'] rfl rfl (take_ofW HT_.out HW_.out (by kernel_rfl)) (fun _ _ _ h => h) (Or.inl ⟨by rfl, ?_⟩) hHeld ?_ ?_
       rotate_left
       ·rintro w' ⟨s0, s1, s2, s3, s4, s5⟩
        go_simp
        with_reducible rfl
       rotate_left
       ·simp only [Act.put, la_, lz_, ls_, i64_w, i32_w]
        rfl
       refine pu_ (i := 4) (N := some 20) (v := ?_) (a' := ?_) #[i',i',i',o',i',o',o',o'] rfl rfl HT_ (Or.inl ⟨by rfl, ?_⟩) ?_ ?_
       rotate_left;·intro w';go_simp;with_reducible rfl
       rotate_left;·simp only [Act.put, la_, lz_, ls_, i64_w, i32_w];rfl
       refine take_ (i := 3) (N := some 19) (v := ?_) (a' := ?_) #[i',i',i',i',i',o',o',o'] rfl rfl (take_ofW HT_.out HW_.out (by kernel_rfl)) (fun _ _ _ h => h) (Or.inl ⟨by rfl, ?_⟩) hHeld ?_ ?_
       rotate_left
       ·rintro w' ⟨s0, s1, s2, s3, s4, s5⟩
        go_simp
        with_reducible rfl
       rotate_left
       ·simp only [Act.put, la_, lz_, ls_, i64_w, i32_w]
        rfl
       refine one_ (i := 5) (N := none) #[i',i',i',i',i',i',o',o'] rfl rfl (one_of HT_.out (by kernel_rfl)) (by decide) (fun K hK => ?_)
       have hs17 : w16.cell? ⟨gb103, 2, none⟩ = some (.string (⟨#[]⟩ : ByteArray)) := (blk_cell BK103.out 2).trans rfl
       have hfs17 := blk_frozen BK103.out 2
       have hns17_0 := NB102_103.out
       have hms17_0 := NB103_102.out
       refine skip_ (w1 := ?_) (by rfl) rfl ?_ ?_
       rotate_left
       ·go_simp
        rfl
       refine hK.out _ _ ⟨((cell_far (p := ⟨gb103, _, none⟩) NB102_103.out _).trans (hHeld.1)), ((cell_far (p := ⟨gb103, _, none⟩) NB102_103.out _).trans (hHeld.2.1)), ((cell_far (p := ⟨gb103, _, none⟩) NB102_103.out _).trans (hHeld.2.2.1)), ((cell_far (p := ⟨gb103, _, none⟩) NB102_103.out _).trans (hHeld.2.2.2.1)), ((cell_far (p := ⟨gb103, _, none⟩) NB102_103.out _).trans (hHeld.2.2.2.2.1)), ((cell_far (p := ⟨gb103, _, none⟩) NB102_103.out _).trans (hHeld.2.2.2.2.2))⟩ (fun hHeld => ?_)
       clear hK K
       refine pu_ (i := 6) (N := some 21) (v := ?_) (a' := ?_) #[i',i',i',i',i',i',i',o'] rfl rfl HT_ (Or.inl ⟨by rfl, ?_⟩) ?_ ?_
       rotate_left;·intro w';go_simp;with_reducible rfl
       rotate_left;·simp only [Act.put, la_, lz_, ls_, i64_w, i32_w];rfl
       refine one_ (i := 7) (N := none) #[i',i',i',i',i',i',i',i'] rfl rfl (one_of HT_.out (by kernel_rfl)) (by decide) (fun K hK => ?_)
       have hs18 : w16.cell? ⟨gb103, 3, none⟩ = some (.string (⟨#[]⟩ : ByteArray)) := (blk_cell BK103.out 3).trans rfl
       have hfs18 := blk_frozen BK103.out 3
       have hns18_0 := NB102_103.out
       have hms18_0 := NB103_102.out
       refine skip_ (w1 := ?_) (by rfl) rfl ?_ ?_
       rotate_left
       ·go_simp
        rfl
       refine hK.out _ _ ⟨((cell_far (p := ⟨gb103, _, none⟩) NB102_103.out _).trans (hHeld.1)), ((cell_far (p := ⟨gb103, _, none⟩) NB102_103.out _).trans (hHeld.2.1)), ((cell_far (p := ⟨gb103, _, none⟩) NB102_103.out _).trans (hHeld.2.2.1)), ((cell_far (p := ⟨gb103, _, none⟩) NB102_103.out _).trans (hHeld.2.2.2.1)), ((cell_far (p := ⟨gb103, _, none⟩) NB102_103.out _).trans (hHeld.2.2.2.2.1)), ((cell_far (p := ⟨gb103, _, none⟩) NB102_103.out _).trans (hHeld.2.2.2.2.2))⟩ (fun hHeld => ?_)
       clear hK K
       refine done_ (done_of HT_.out (by kernel_rfl)) ?_
       have hnb19 := NB102_103.out
       have hnc19 := NB103_102.out
       have hcz20_0 : w16.cell? ⟨gb102, 0, none⟩ = some (.int .i64 a0_0) := (blk_cell BK102.out 0).trans rfl
       have hcz20_1 : w16.cell? ⟨gb102, 1, none⟩ = some (.int .i64 a0_1) := (blk_cell BK102.out 1).trans rfl
       have hcz20_2 : w16.cell? ⟨gb102, 2, none⟩ = some (.string a0_2) := (blk_cell BK102.out 2).trans rfl
       have hcz20_3 : w16.cell? ⟨gb102, 3, none⟩ = some (.string a0_3) := (blk_cell BK102.out 3).trans rfl
       have hcz20_4 : w16.cell? ⟨gb102, 4, none⟩ = some (.int .i64 a0_4) := (blk_cell BK102.out 4).trans rfl
       have hcz20_5 : w16.cell? ⟨gb102, 5, none⟩ = some (.int .i64 a0_5) := (blk_cell BK102.out 5).trans rfl
       have hfz20_0 := blk_frozen BK102.out 0
       have hfz20_1 := blk_frozen BK102.out 1
       have hfz20_2 := blk_frozen BK102.out 2
       have hfz20_3 := blk_frozen BK102.out 3
       have hfz20_4 := blk_frozen BK102.out 4
       have hfz20_5 := blk_frozen BK102.out 5
       try go_wp2_with (first | ((with_reducible refine gate_callee (f := 107) rfl ?_); refine goesL_ (some 24) rfl rfl Try.func107 (by kernel_rfl) rfl #[.string a0_2] rfl ar_ ?_; (with_reducible refine (impl_KeyOk.calls a0_2 true _ A11.out).mono ?_); rintro e w' ⟨rfl, ⟨nd, rfl⟩⟩; refine ⟨_, rfl, ?_⟩) | (go_at_call 68; (with_reducible refine (impl_in.calls a0_1 1 1000000 true _ A14.out).mono ?_); rintro e w' ⟨rfl, ⟨nd, rfl⟩⟩; have hcz21_0 : w16.cell? ⟨gb103, 0, none⟩ = some (.int .i64 a0_0) := (blk_cell BK103.out 0).trans rfl; have hcz21_1 : w16.cell? ⟨gb103, 1, none⟩ = some (.int .i64 a0_1) := (blk_cell BK103.out 1).trans rfl; have hcz21_2 : w16.cell? ⟨gb103, 2, none⟩ = some (.string (⟨#[]⟩ : ByteArray)) := (blk_cell BK103.out 2).trans rfl; have hcz21_3 : w16.cell? ⟨gb103, 3, none⟩ = some (.string (⟨#[]⟩ : ByteArray)) := (blk_cell BK103.out 3).trans rfl; have hcz21_4 : w16.cell? ⟨gb103, 4, none⟩ = some (.int .i64 0) := (blk_cell BK103.out 4).trans rfl; have hcz21_5 : w16.cell? ⟨gb103, 5, none⟩ = some (.int .i64 0) := (blk_cell BK103.out 5).trans rfl; have hfz21_0 := blk_frozen BK103.out 0; have hfz21_1 := blk_frozen BK103.out 1; have hfz21_2 := blk_frozen BK103.out 2; have hfz21_3 := blk_frozen BK103.out 3; have hfz21_4 := blk_frozen BK103.out 4; have hfz21_5 := blk_frozen BK103.out 5))
       go_ret
       exact ⟨re_, by repeat (first | (with_reducible first | exact HB.out | apply below_alloc | apply pw_below_drewN | apply below_drew1 | refine below_set ?_ GE102.out | refine below_set ?_ GE103.out) | exact HB.out)⟩
      ·replace c15 := Bool.eq_false_iff.mpr c15
       subst c15
       have H1 : (some false) = some r := by rw [if_neg (show ¬ (false = true) by decide)] at H; exact H
       clear H
       have H := H1
       clear H1
       obtain rfl := Option.some.inj H
       try go_wp2
       have n0_ := Aside0.mk (blk_drew BK102.out)
       have n1_ := Aside0.mk (blk_drew BK103.out)
       have n2_ := Aside0.mk (below_drew1 HB.out)
       clear BK102
       clear BK103
       clear HB
       have BK102 := n0_
       have BK103 := n1_
       have HB := n2_
       clear n0_ n1_ n2_
       refine start_ (n := 8) (S := fun w' => w'.cell? ⟨gb102, 0, none⟩ = some (.int .i64 a0_0) ∧ w'.cell? ⟨gb102, 1, none⟩ = some (.int .i64 a0_1) ∧ w'.cell? ⟨gb102, 2, none⟩ = some (.string a0_2) ∧ w'.cell? ⟨gb102, 3, none⟩ = some (.string a0_3) ∧ w'.cell? ⟨gb102, 4, none⟩ = some (.int .i64 a0_4) ∧ w'.cell? ⟨gb102, 5, none⟩ = some (.int .i64 a0_5)) (ds := []) #[o',o',o',o',o',o',o',o'] (by kernel_rfl) rfl rfl ⟨(blk_cell BK102.out 0).trans rfl, (blk_cell BK102.out 1).trans rfl, (blk_cell BK102.out 2).trans rfl, (blk_cell BK102.out 3).trans rfl, (blk_cell BK102.out 4).trans rfl, (blk_cell BK102.out 5).trans rfl⟩ (fun hHeld => ?_); refine with_tabW impl_RecOk.tab6 impl_RecOk.bits6 (fun HT_ HW_ => ?_)
       generalize wc.drew = w22 at BK102 BK103 HB hHeld ⊢
       refine pu_ (i := 0) (N := some 16) (v := ?_) (a' := ?_) #[i',o',o',o',o',o',o',o'] rfl rfl HT_ (Or.inl ⟨by rfl, ?_⟩) ?_ ?_
       rotate_left;·intro w';go_simp;with_reducible rfl
       rotate_left;·simp only [Act.put, la_, lz_, ls_, i64_w, i32_w];rfl
       refine pu_ (i := 2) (N := some 18) (v := ?_) (a' := ?_) #[i',o',i',o',o',o',o',o'] rfl rfl HT_ (Or.inl ⟨by rfl, ?_⟩) ?_ ?_
       rotate_left;·intro w';go_simp;with_reducible rfl
       rotate_left;·simp only [Act.put, la_, lz_, ls_, i64_w, i32_w];rfl
       refine take_ (i := 1) (N := some 17) (v := ?_) (a' := ?_) #[i',i',i',o',o',o',o',o'] rfl rfl (take_ofW HT_.out HW_.out (by kernel_rfl)) (fun _ _ _ h => h) (Or.inl ⟨by rfl, ?_⟩) hHeld ?_ ?_
       rotate_left
       ·rintro w' ⟨s0, s1, s2, s3, s4, s5⟩
        go_simp
        with_reducible rfl
       rotate_left
       ·simp only [Act.put, la_, lz_, ls_, i64_w, i32_w]
        rfl
       refine pu_ (i := 4) (N := some 20) (v := ?_) (a' := ?_) #[i',i',i',o',i',o',o',o'] rfl rfl HT_ (Or.inl ⟨by rfl, ?_⟩) ?_ ?_
       rotate_left;·intro w';go_simp;with_reducible rfl
       rotate_left;·simp only [Act.put, la_, lz_, ls_, i64_w, i32_w];rfl
       refine take_ (i := 3) (N := some 19) (v := ?_) (a' := ?_) #[i',i',i',i',i',o',o',o'] rfl rfl (take_ofW HT_.out HW_.out (by kernel_rfl)) (fun _ _ _ h => h) (Or.inl ⟨by rfl, ?_⟩) hHeld ?_ ?_
       rotate_left
       ·rintro w' ⟨s0, s1, s2, s3, s4, s5⟩
        go_simp
        with_reducible rfl
       rotate_left
       ·simp only [Act.put, la_, lz_, ls_, i64_w, i32_w]
        rfl
       refine one_ (i := 5) (N := none) #[i',i',i',i',i',i',o',o'] rfl rfl (one_of HT_.out (by kernel_rfl)) (by decide) (fun K hK => ?_)
       have hs23 : w22.cell? ⟨gb103, 2, none⟩ = some (.string (⟨#[]⟩ : ByteArray)) := (blk_cell BK103.out 2).trans rfl
       have hfs23 := blk_frozen BK103.out 2
       have hns23_0 := NB102_103.out
       have hms23_0 := NB103_102.out
       refine skip_ (w1 := ?_) (by rfl) rfl ?_ ?_
       rotate_left
       ·go_simp
        rfl
       refine hK.out _ _ ⟨((cell_far (p := ⟨gb103, _, none⟩) NB102_103.out _).trans (hHeld.1)), ((cell_far (p := ⟨gb103, _, none⟩) NB102_103.out _).trans (hHeld.2.1)), ((cell_far (p := ⟨gb103, _, none⟩) NB102_103.out _).trans (hHeld.2.2.1)), ((cell_far (p := ⟨gb103, _, none⟩) NB102_103.out _).trans (hHeld.2.2.2.1)), ((cell_far (p := ⟨gb103, _, none⟩) NB102_103.out _).trans (hHeld.2.2.2.2.1)), ((cell_far (p := ⟨gb103, _, none⟩) NB102_103.out _).trans (hHeld.2.2.2.2.2))⟩ (fun hHeld => ?_)
       clear hK K
       refine pu_ (i := 6) (N := some 21) (v := ?_) (a' := ?_) #[i',i',i',i',i',i',i',o'] rfl rfl HT_ (Or.inl ⟨by rfl, ?_⟩) ?_ ?_
       rotate_left;·intro w';go_simp;with_reducible rfl
       rotate_left;·simp only [Act.put, la_, lz_, ls_, i64_w, i32_w];rfl
       refine one_ (i := 7) (N := none) #[i',i',i',i',i',i',i',i'] rfl rfl (one_of HT_.out (by kernel_rfl)) (by decide) (fun K hK => ?_)
       have hs24 : w22.cell? ⟨gb103, 3, none⟩ = some (.string (⟨#[]⟩ : ByteArray)) := (blk_cell BK103.out 3).trans rfl
       have hfs24 := blk_frozen BK103.out 3
       have hns24_0 := NB102_103.out
       have hms24_0 := NB103_102.out
       refine skip_ (w1 := ?_) (by rfl) rfl ?_ ?_
       rotate_left
       ·go_simp
        rfl
       refine hK.out _ _ ⟨((cell_far (p := ⟨gb103, _, none⟩) NB102_103.out _).trans (hHeld.1)), ((cell_far (p := ⟨gb103, _, none⟩) NB102_103.out _).trans (hHeld.2.1)), ((cell_far (p := ⟨gb103, _, none⟩) NB102_103.out _).trans (hHeld.2.2.1)), ((cell_far (p := ⟨gb103, _, none⟩) NB102_103.out _).trans (hHeld.2.2.2.1)), ((cell_far (p := ⟨gb103, _, none⟩) NB102_103.out _).trans (hHeld.2.2.2.2.1)), ((cell_far (p := ⟨gb103, _, none⟩) NB102_103.out _).trans (hHeld.2.2.2.2.2))⟩ (fun hHeld => ?_)
       clear hK K
       refine done_ (done_of HT_.out (by kernel_rfl)) ?_
       have hnb25 := NB102_103.out
       have hnc25 := NB103_102.out
       have hcz26_0 : w22.cell? ⟨gb102, 0, none⟩ = some (.int .i64 a0_0) := (blk_cell BK102.out 0).trans rfl
       have hcz26_1 : w22.cell? ⟨gb102, 1, none⟩ = some (.int .i64 a0_1) := (blk_cell BK102.out 1).trans rfl
       have hcz26_2 : w22.cell? ⟨gb102, 2, none⟩ = some (.string a0_2) := (blk_cell BK102.out 2).trans rfl
       have hcz26_3 : w22.cell? ⟨gb102, 3, none⟩ = some (.string a0_3) := (blk_cell BK102.out 3).trans rfl
       have hcz26_4 : w22.cell? ⟨gb102, 4, none⟩ = some (.int .i64 a0_4) := (blk_cell BK102.out 4).trans rfl
       have hcz26_5 : w22.cell? ⟨gb102, 5, none⟩ = some (.int .i64 a0_5) := (blk_cell BK102.out 5).trans rfl
       have hfz26_0 := blk_frozen BK102.out 0
       have hfz26_1 := blk_frozen BK102.out 1
       have hfz26_2 := blk_frozen BK102.out 2
       have hfz26_3 := blk_frozen BK102.out 3
       have hfz26_4 := blk_frozen BK102.out 4
       have hfz26_5 := blk_frozen BK102.out 5
       try go_wp2_with (first | ((with_reducible refine gate_callee (f := 107) rfl ?_); refine goesL_ (some 24) rfl rfl Try.func107 (by kernel_rfl) rfl #[.string a0_2] rfl ar_ ?_; (with_reducible refine (impl_KeyOk.calls a0_2 true _ A11.out).mono ?_); rintro e w' ⟨rfl, ⟨nd, rfl⟩⟩; refine ⟨_, rfl, ?_⟩) | (go_at_call 68; (with_reducible refine (impl_in.calls a0_1 1 1000000 false _ A14.out).mono ?_); rintro e w' ⟨rfl, ⟨nd, rfl⟩⟩))
       go_ret
       exact ⟨re_, by repeat (first | (with_reducible first | exact HB.out | apply below_alloc | apply pw_below_drewN | apply below_drew1 | refine below_set ?_ GE102.out | refine below_set ?_ GE103.out) | exact HB.out)⟩
     ·rw [if_neg c13] at H
      have c13b0 : decide ((a0_3.size : Int) ≤ 24) = false := decide_eq_false c13
      have c13b1 : decide (a0_3.size ≤ 24) = false := decide_eq_false (by omega)
      clear c13
      obtain rfl := Option.some.inj H
      try go_wp2
      have n0_ := Aside0.mk (blk_drew BK102.out)
      have n1_ := Aside0.mk (blk_drew BK103.out)
      have n2_ := Aside0.mk (below_drew1 HB.out)
      clear BK102
      clear BK103
      clear HB
      have BK102 := n0_
      have BK103 := n1_
      have HB := n2_
      clear n0_ n1_ n2_
      refine start_ (n := 8) (S := fun w' => w'.cell? ⟨gb102, 0, none⟩ = some (.int .i64 a0_0) ∧ w'.cell? ⟨gb102, 1, none⟩ = some (.int .i64 a0_1) ∧ w'.cell? ⟨gb102, 2, none⟩ = some (.string a0_2) ∧ w'.cell? ⟨gb102, 3, none⟩ = some (.string a0_3) ∧ w'.cell? ⟨gb102, 4, none⟩ = some (.int .i64 a0_4) ∧ w'.cell? ⟨gb102, 5, none⟩ = some (.int .i64 a0_5)) (ds := []) #[o',o',o',o',o',o',o',o'] (by kernel_rfl) rfl rfl ⟨(blk_cell BK102.out 0).trans rfl, (blk_cell BK102.out 1).trans rfl, (blk_cell BK102.out 2).trans rfl, (blk_cell BK102.out 3).trans rfl, (blk_cell BK102.out 4).trans rfl, (blk_cell BK102.out 5).trans rfl⟩ (fun hHeld => ?_); refine with_tabW impl_RecOk.tab6 impl_RecOk.bits6 (fun HT_ HW_ => ?_)
      generalize wc.drew = w27 at BK102 BK103 HB hHeld ⊢
      refine pu_ (i := 0) (N := some 16) (v := ?_) (a' := ?_) #[i',o',o',o',o',o',o',o'] rfl rfl HT_ (Or.inl ⟨by rfl, ?_⟩) ?_ ?_
      rotate_left;·intro w';go_simp;with_reducible rfl
      rotate_left;·simp only [Act.put, la_, lz_, ls_, i64_w, i32_w];rfl
      refine pu_ (i := 2) (N := some 18) (v := ?_) (a' := ?_) #[i',o',i',o',o',o',o',o'] rfl rfl HT_ (Or.inl ⟨by rfl, ?_⟩) ?_ ?_
      rotate_left;·intro w';go_simp;with_reducible rfl
      rotate_left;·simp only [Act.put, la_, lz_, ls_, i64_w, i32_w];rfl
      refine take_ (i := 1) (N := some 17) (v := ?_) (a' := ?_) #[i',i',i',o',o',o',o',o'] rfl rfl (take_ofW HT_.out HW_.out (by kernel_rfl)) (fun _ _ _ h => h) (Or.inl ⟨by rfl, ?_⟩) hHeld ?_ ?_
      rotate_left
      ·rintro w' ⟨s0, s1, s2, s3, s4, s5⟩
       go_simp
       with_reducible rfl
      rotate_left
      ·simp only [Act.put, la_, lz_, ls_, i64_w, i32_w]
       rfl
      refine pu_ (i := 4) (N := some 20) (v := ?_) (a' := ?_) #[i',i',i',o',i',o',o',o'] rfl rfl HT_ (Or.inl ⟨by rfl, ?_⟩) ?_ ?_
      rotate_left;·intro w';go_simp;with_reducible rfl
      rotate_left;·simp only [Act.put, la_, lz_, ls_, i64_w, i32_w];rfl
      refine take_ (i := 3) (N := some 19) (v := ?_) (a' := ?_) #[i',i',i',i',i',o',o',o'] rfl rfl (take_ofW HT_.out HW_.out (by kernel_rfl)) (fun _ _ _ h => h) (Or.inl ⟨by rfl, ?_⟩) hHeld ?_ ?_
      rotate_left
      ·rintro w' ⟨s0, s1, s2, s3, s4, s5⟩
       go_simp
       with_reducible rfl
      rotate_left
      ·simp only [Act.put, la_, lz_, ls_, i64_w, i32_w]
       rfl
      refine one_ (i := 5) (N := none) #[i',i',i',i',i',i',o',o'] rfl rfl (one_of HT_.out (by kernel_rfl)) (by decide) (fun K hK => ?_)
      have hs28 : w27.cell? ⟨gb103, 2, none⟩ = some (.string (⟨#[]⟩ : ByteArray)) := (blk_cell BK103.out 2).trans rfl
      have hfs28 := blk_frozen BK103.out 2
      have hns28_0 := NB102_103.out
      have hms28_0 := NB103_102.out
      refine skip_ (w1 := ?_) (by rfl) rfl ?_ ?_
      rotate_left
      ·go_simp
       rfl
      refine hK.out _ _ ⟨((cell_far (p := ⟨gb103, _, none⟩) NB102_103.out _).trans (hHeld.1)), ((cell_far (p := ⟨gb103, _, none⟩) NB102_103.out _).trans (hHeld.2.1)), ((cell_far (p := ⟨gb103, _, none⟩) NB102_103.out _).trans (hHeld.2.2.1)), ((cell_far (p := ⟨gb103, _, none⟩) NB102_103.out _).trans (hHeld.2.2.2.1)), ((cell_far (p := ⟨gb103, _, none⟩) NB102_103.out _).trans (hHeld.2.2.2.2.1)), ((cell_far (p := ⟨gb103, _, none⟩) NB102_103.out _).trans (hHeld.2.2.2.2.2))⟩ (fun hHeld => ?_)
      clear hK K
      refine pu_ (i := 6) (N := some 21) (v := ?_) (a' := ?_) #[i',i',i',i',i',i',i',o'] rfl rfl HT_ (Or.inl ⟨by rfl, ?_⟩) ?_ ?_
      rotate_left;·intro w';go_simp;with_reducible rfl
      rotate_left;·simp only [Act.put, la_, lz_, ls_, i64_w, i32_w];rfl
      refine one_ (i := 7) (N := none) #[i',i',i',i',i',i',i',i'] rfl rfl (one_of HT_.out (by kernel_rfl)) (by decide) (fun K hK => ?_)
      have hs29 : w27.cell? ⟨gb103, 3, none⟩ = some (.string (⟨#[]⟩ : ByteArray)) := (blk_cell BK103.out 3).trans rfl
      have hfs29 := blk_frozen BK103.out 3
      have hns29_0 := NB102_103.out
      have hms29_0 := NB103_102.out
      refine skip_ (w1 := ?_) (by rfl) rfl ?_ ?_
      rotate_left
      ·go_simp
       rfl
      refine hK.out _ _ ⟨((cell_far (p := ⟨gb103, _, none⟩) NB102_103.out _).trans (hHeld.1)), ((cell_far (p := ⟨gb103, _, none⟩) NB102_103.out _).trans (hHeld.2.1)), ((cell_far (p := ⟨gb103, _, none⟩) NB102_103.out _).trans (hHeld.2.2.1)), ((cell_far (p := ⟨gb103, _, none⟩) NB102_103.out _).trans (hHeld.2.2.2.1)), ((cell_far (p := ⟨gb103, _, none⟩) NB102_103.out _).trans (hHeld.2.2.2.2.1)), ((cell_far (p := ⟨gb103, _, none⟩) NB102_103.out _).trans (hHeld.2.2.2.2.2))⟩ (fun hHeld => ?_)
      clear hK K
      refine done_ (done_of HT_.out (by kernel_rfl)) ?_
      have hnb30 := NB102_103.out
      have hnc30 := NB103_102.out
      have hcz31_0 : w27.cell? ⟨gb102, 0, none⟩ = some (.int .i64 a0_0) := (blk_cell BK102.out 0).trans rfl
      have hcz31_1 : w27.cell? ⟨gb102, 1, none⟩ = some (.int .i64 a0_1) := (blk_cell BK102.out 1).trans rfl
      have hcz31_2 : w27.cell? ⟨gb102, 2, none⟩ = some (.string a0_2) := (blk_cell BK102.out 2).trans rfl
      have hcz31_3 : w27.cell? ⟨gb102, 3, none⟩ = some (.string a0_3) := (blk_cell BK102.out 3).trans rfl
      have hcz31_4 : w27.cell? ⟨gb102, 4, none⟩ = some (.int .i64 a0_4) := (blk_cell BK102.out 4).trans rfl
      have hcz31_5 : w27.cell? ⟨gb102, 5, none⟩ = some (.int .i64 a0_5) := (blk_cell BK102.out 5).trans rfl
      have hfz31_0 := blk_frozen BK102.out 0
      have hfz31_1 := blk_frozen BK102.out 1
      have hfz31_2 := blk_frozen BK102.out 2
      have hfz31_3 := blk_frozen BK102.out 3
      have hfz31_4 := blk_frozen BK102.out 4
      have hfz31_5 := blk_frozen BK102.out 5
      try go_wp2_with (first | ((with_reducible refine gate_callee (f := 107) rfl ?_); refine goesL_ (some 24) rfl rfl Try.func107 (by kernel_rfl) rfl #[.string a0_2] rfl ar_ ?_; (with_reducible refine (impl_KeyOk.calls a0_2 true _ A11.out).mono ?_); rintro e w' ⟨rfl, ⟨nd, rfl⟩⟩; refine ⟨_, rfl, ?_⟩))
      go_ret
      exact ⟨re_, by repeat (first | (with_reducible first | exact HB.out | apply below_alloc | apply pw_below_drewN | apply below_drew1 | refine below_set ?_ GE102.out | refine below_set ?_ GE103.out) | exact HB.out)⟩
    ·replace c12 := Bool.eq_false_iff.mpr c12
     subst c12
     have H1 : (some false) = some r := by rw [if_neg (show ¬ (false = true) by decide)] at H; exact H
     clear H
     have H := H1
     clear H1
     obtain rfl := Option.some.inj H
     try go_wp2
     have n0_ := Aside0.mk (blk_drew BK102.out)
     have n1_ := Aside0.mk (blk_drew BK103.out)
     have n2_ := Aside0.mk (below_drew1 HB.out)
     clear BK102
     clear BK103
     clear HB
     have BK102 := n0_
     have BK103 := n1_
     have HB := n2_
     clear n0_ n1_ n2_
     refine start_ (n := 8) (S := fun w' => w'.cell? ⟨gb102, 0, none⟩ = some (.int .i64 a0_0) ∧ w'.cell? ⟨gb102, 1, none⟩ = some (.int .i64 a0_1) ∧ w'.cell? ⟨gb102, 2, none⟩ = some (.string a0_2) ∧ w'.cell? ⟨gb102, 3, none⟩ = some (.string a0_3) ∧ w'.cell? ⟨gb102, 4, none⟩ = some (.int .i64 a0_4) ∧ w'.cell? ⟨gb102, 5, none⟩ = some (.int .i64 a0_5)) (ds := []) #[o',o',o',o',o',o',o',o'] (by kernel_rfl) rfl rfl ⟨(blk_cell BK102.out 0).trans rfl, (blk_cell BK102.out 1).trans rfl, (blk_cell BK102.out 2).trans rfl, (blk_cell BK102.out 3).trans rfl, (blk_cell BK102.out 4).trans rfl, (blk_cell BK102.out 5).trans rfl⟩ (fun hHeld => ?_); refine with_tabW impl_RecOk.tab6 impl_RecOk.bits6 (fun HT_ HW_ => ?_)
     generalize wc.drew = w32 at BK102 BK103 HB hHeld ⊢
     refine pu_ (i := 0) (N := some 16) (v := ?_) (a' := ?_) #[i',o',o',o',o',o',o',o'] rfl rfl HT_ (Or.inl ⟨by rfl, ?_⟩) ?_ ?_
     rotate_left;·intro w';go_simp;with_reducible rfl
     rotate_left;·simp only [Act.put, la_, lz_, ls_, i64_w, i32_w];rfl
     refine pu_ (i := 2) (N := some 18) (v := ?_) (a' := ?_) #[i',o',i',o',o',o',o',o'] rfl rfl HT_ (Or.inl ⟨by rfl, ?_⟩) ?_ ?_
     rotate_left;·intro w';go_simp;with_reducible rfl
     rotate_left;·simp only [Act.put, la_, lz_, ls_, i64_w, i32_w];rfl
     refine take_ (i := 1) (N := some 17) (v := ?_) (a' := ?_) #[i',i',i',o',o',o',o',o'] rfl rfl (take_ofW HT_.out HW_.out (by kernel_rfl)) (fun _ _ _ h => h) (Or.inl ⟨by rfl, ?_⟩) hHeld ?_ ?_
     rotate_left
     ·rintro w' ⟨s0, s1, s2, s3, s4, s5⟩
      go_simp
      with_reducible rfl
     rotate_left
     ·simp only [Act.put, la_, lz_, ls_, i64_w, i32_w]
      rfl
     refine pu_ (i := 4) (N := some 20) (v := ?_) (a' := ?_) #[i',i',i',o',i',o',o',o'] rfl rfl HT_ (Or.inl ⟨by rfl, ?_⟩) ?_ ?_
     rotate_left;·intro w';go_simp;with_reducible rfl
     rotate_left;·simp only [Act.put, la_, lz_, ls_, i64_w, i32_w];rfl
     refine take_ (i := 3) (N := some 19) (v := ?_) (a' := ?_) #[i',i',i',i',i',o',o',o'] rfl rfl (take_ofW HT_.out HW_.out (by kernel_rfl)) (fun _ _ _ h => h) (Or.inl ⟨by rfl, ?_⟩) hHeld ?_ ?_
     rotate_left
     ·rintro w' ⟨s0, s1, s2, s3, s4, s5⟩
      go_simp
      with_reducible rfl
     rotate_left
     ·simp only [Act.put, la_, lz_, ls_, i64_w, i32_w]
      rfl
     refine one_ (i := 5) (N := none) #[i',i',i',i',i',i',o',o'] rfl rfl (one_of HT_.out (by kernel_rfl)) (by decide) (fun K hK => ?_)
     have hs33 : w32.cell? ⟨gb103, 2, none⟩ = some (.string (⟨#[]⟩ : ByteArray)) := (blk_cell BK103.out 2).trans rfl
     have hfs33 := blk_frozen BK103.out 2
     have hns33_0 := NB102_103.out
     have hms33_0 := NB103_102.out
     refine skip_ (w1 := ?_) (by rfl) rfl ?_ ?_
     rotate_left
     ·go_simp
      rfl
     refine hK.out _ _ ⟨((cell_far (p := ⟨gb103, _, none⟩) NB102_103.out _).trans (hHeld.1)), ((cell_far (p := ⟨gb103, _, none⟩) NB102_103.out _).trans (hHeld.2.1)), ((cell_far (p := ⟨gb103, _, none⟩) NB102_103.out _).trans (hHeld.2.2.1)), ((cell_far (p := ⟨gb103, _, none⟩) NB102_103.out _).trans (hHeld.2.2.2.1)), ((cell_far (p := ⟨gb103, _, none⟩) NB102_103.out _).trans (hHeld.2.2.2.2.1)), ((cell_far (p := ⟨gb103, _, none⟩) NB102_103.out _).trans (hHeld.2.2.2.2.2))⟩ (fun hHeld => ?_)
     clear hK K
     refine pu_ (i := 6) (N := some 21) (v := ?_) (a' := ?_) #[i',i',i',i',i',i',i',o'] rfl rfl HT_ (Or.inl ⟨by rfl, ?_⟩) ?_ ?_
     rotate_left;·intro w';go_simp;with_reducible rfl
     rotate_left;·simp only [Act.put, la_, lz_, ls_, i64_w, i32_w];rfl
     refine one_ (i := 7) (N := none) #[i',i',i',i',i',i',i',i'] rfl rfl (one_of HT_.out (by kernel_rfl)) (by decide) (fun K hK => ?_)
     have hs34 : w32.cell? ⟨gb103, 3, none⟩ = some (.string (⟨#[]⟩ : ByteArray)) := (blk_cell BK103.out 3).trans rfl
     have hfs34 := blk_frozen BK103.out 3
     have hns34_0 := NB102_103.out
     have hms34_0 := NB103_102.out
     refine skip_ (w1 := ?_) (by rfl) rfl ?_ ?_
     rotate_left
     ·go_simp
      rfl
     refine hK.out _ _ ⟨((cell_far (p := ⟨gb103, _, none⟩) NB102_103.out _).trans (hHeld.1)), ((cell_far (p := ⟨gb103, _, none⟩) NB102_103.out _).trans (hHeld.2.1)), ((cell_far (p := ⟨gb103, _, none⟩) NB102_103.out _).trans (hHeld.2.2.1)), ((cell_far (p := ⟨gb103, _, none⟩) NB102_103.out _).trans (hHeld.2.2.2.1)), ((cell_far (p := ⟨gb103, _, none⟩) NB102_103.out _).trans (hHeld.2.2.2.2.1)), ((cell_far (p := ⟨gb103, _, none⟩) NB102_103.out _).trans (hHeld.2.2.2.2.2))⟩ (fun hHeld => ?_)
     clear hK K
     refine done_ (done_of HT_.out (by kernel_rfl)) ?_
     have hnb35 := NB102_103.out
     have hnc35 := NB103_102.out
     have hcz36_0 : w32.cell? ⟨gb102, 0, none⟩ = some (.int .i64 a0_0) := (blk_cell BK102.out 0).trans rfl
     have hcz36_1 : w32.cell? ⟨gb102, 1, none⟩ = some (.int .i64 a0_1) := (blk_cell BK102.out 1).trans rfl
     have hcz36_2 : w32.cell? ⟨gb102, 2, none⟩ = some (.string a0_2) := (blk_cell BK102.out 2).trans rfl
     have hcz36_3 : w32.cell? ⟨gb102, 3, none⟩ = some (.string a0_3) := (blk_cell BK102.out 3).trans rfl
     have hcz36_4 : w32.cell? ⟨gb102, 4, none⟩ = some (.int .i64 a0_4) := (blk_cell BK102.out 4).trans rfl
     have hcz36_5 : w32.cell? ⟨gb102, 5, none⟩ = some (.int .i64 a0_5) := (blk_cell BK102.out 5).trans rfl
     have hfz36_0 := blk_frozen BK102.out 0
     have hfz36_1 := blk_frozen BK102.out 1
     have hfz36_2 := blk_frozen BK102.out 2
     have hfz36_3 := blk_frozen BK102.out 3
     have hfz36_4 := blk_frozen BK102.out 4
     have hfz36_5 := blk_frozen BK102.out 5
     try go_wp2_with (first | ((with_reducible refine gate_callee (f := 107) rfl ?_); refine goesL_ (some 24) rfl rfl Try.func107 (by kernel_rfl) rfl #[.string a0_2] rfl ar_ ?_; (with_reducible refine (impl_KeyOk.calls a0_2 false _ A11.out).mono ?_); rintro e w' ⟨rfl, ⟨nd, rfl⟩⟩; refine ⟨_, rfl, ?_⟩))
     go_ret
     exact ⟨re_, by repeat (first | (with_reducible first | exact HB.out | apply below_alloc | apply pw_below_drewN | apply below_drew1 | refine below_set ?_ GE102.out | refine below_set ?_ GE103.out) | exact HB.out)⟩
   ·replace c10 := Bool.eq_false_iff.mpr c10
    subst c10
    have H1 : (if a0_0 = 2 then ((impl_KeyOk.f a0_2).bind fun t106 => (if t106 = true then ((impl_in.f a0_1 1 1000000).bind fun t107 => (if t107 = true then (some (a0_0 == a0_0 && (a0_1 == a0_1 && (a0_3.toList == (⟨#[]⟩ : ByteArray).toList && (a0_4 == 0 && (a0_5 == 0)))))) else (some false))) else (some false))) else (if a0_0 = 3 then ((impl_in.f a0_4 0 8).bind fun t108 => (if t108 = true then ((impl_in.f a0_5 0 4294967295).bind fun t109 => (if t109 = true then ((impl_in.f a0_1 1 1000000).bind fun t110 => (if t110 = true then (some (a0_0 == a0_0 && (a0_1 == a0_1 && (a0_2.toList == (⟨#[]⟩ : ByteArray).toList && (a0_3.toList == (⟨#[]⟩ : ByteArray).toList))))) else (some false))) else (some false))) else (some false))) else (if a0_0 = 5 then ((impl_in.f a0_4 0 20).bind fun t111 => (if t111 = true then ((impl_in.f a0_5 0 4294967295).bind fun t112 => (if t112 = true then ((impl_in.f a0_1 0 1000000).bind fun t113 => (if t113 = true then (some (a0_0 == a0_0 && (a0_1 == a0_1 && (a0_2.toList == (⟨#[]⟩ : ByteArray).toList && (a0_3.toList == (⟨#[]⟩ : ByteArray).toList))))) else (some false))) else (some false))) else (some false))) else (if false = true then ((impl_in.f a0_1 1 1000000).bind fun t114 => (if t114 = true then (some (a0_0 == a0_0 && (a0_1 == a0_1 && (a0_2.toList == (⟨#[]⟩ : ByteArray).toList && (a0_3.toList == (⟨#[]⟩ : ByteArray).toList && (a0_4 == 0 && (a0_5 == 0))))))) else (some false))) else (some false))))) = some r := by rw [if_neg (show ¬ (false = true) by decide)] at H; exact H
    clear H
    have H := H1
    clear H1
    by_cases c37 : a0_0 = 2
    ·rw [if_pos c37] at H
     have c37b0 : (a0_0 == 2) = true := beq_iff_eq.mpr c37
     have c37b1 : (a0_0 != 2) = false := bne_eq_false_iff_eq.mpr c37
     clear c37
     replace H := Option.bind_eq_some_iff.mp H
     obtain ⟨t106, A380, H⟩ := H
     replace H : (if t106 = true then ((impl_in.f a0_1 1 1000000).bind fun t107 => (if t107 = true then (some (a0_0 == a0_0 && (a0_1 == a0_1 && (a0_3.toList == (⟨#[]⟩ : ByteArray).toList && (a0_4 == 0 && (a0_5 == 0)))))) else (some false))) else (some false)) = some r := H
     have A38 := Aside0.mk A380
     clear A380
     by_cases c39 : t106 = true
     ·subst c39
      have H1 : ((impl_in.f a0_1 1 1000000).bind fun t107 => (if t107 = true then (some (a0_0 == a0_0 && (a0_1 == a0_1 && (a0_3.toList == (⟨#[]⟩ : ByteArray).toList && (a0_4 == 0 && (a0_5 == 0)))))) else (some false))) = some r := by rw [if_pos rfl] at H; exact H
      clear H
      have H := H1
      clear H1
      replace H := Option.bind_eq_some_iff.mp H
      obtain ⟨t107, A400, H⟩ := H
      replace H : (if t107 = true then (some (a0_0 == a0_0 && (a0_1 == a0_1 && (a0_3.toList == (⟨#[]⟩ : ByteArray).toList && (a0_4 == 0 && (a0_5 == 0)))))) else (some false)) = some r := H
      have A40 := Aside0.mk A400
      clear A400
      by_cases c41 : t107 = true
      ·subst c41
       have H1 : (some (a0_0 == a0_0 && (a0_1 == a0_1 && (a0_3.toList == (⟨#[]⟩ : ByteArray).toList && (a0_4 == 0 && (a0_5 == 0)))))) = some r := by rw [if_pos rfl] at H; exact H
       clear H
       have H := H1
       clear H1
       obtain rfl := Option.some.inj H
       have hnb42 := NB102_103.out
       have hnc42 := NB103_102.out
       have hcz43_0 : wc.cell? ⟨gb102, 0, none⟩ = some (.int .i64 a0_0) := (blk_cell BK102.out 0).trans rfl
       have hcz43_1 : wc.cell? ⟨gb102, 1, none⟩ = some (.int .i64 a0_1) := (blk_cell BK102.out 1).trans rfl
       have hcz43_2 : wc.cell? ⟨gb102, 2, none⟩ = some (.string a0_2) := (blk_cell BK102.out 2).trans rfl
       have hcz43_3 : wc.cell? ⟨gb102, 3, none⟩ = some (.string a0_3) := (blk_cell BK102.out 3).trans rfl
       have hcz43_4 : wc.cell? ⟨gb102, 4, none⟩ = some (.int .i64 a0_4) := (blk_cell BK102.out 4).trans rfl
       have hcz43_5 : wc.cell? ⟨gb102, 5, none⟩ = some (.int .i64 a0_5) := (blk_cell BK102.out 5).trans rfl
       have hfz43_0 := blk_frozen BK102.out 0
       have hfz43_1 := blk_frozen BK102.out 1
       have hfz43_2 := blk_frozen BK102.out 2
       have hfz43_3 := blk_frozen BK102.out 3
       have hfz43_4 := blk_frozen BK102.out 4
       have hfz43_5 := blk_frozen BK102.out 5
       have hcz44_0 : wc.cell? ⟨gb103, 0, none⟩ = some (.int .i64 a0_0) := (blk_cell BK103.out 0).trans rfl
       have hcz44_1 : wc.cell? ⟨gb103, 1, none⟩ = some (.int .i64 a0_1) := (blk_cell BK103.out 1).trans rfl
       have hcz44_2 : wc.cell? ⟨gb103, 2, none⟩ = some (.string (⟨#[]⟩ : ByteArray)) := (blk_cell BK103.out 2).trans rfl
       have hcz44_3 : wc.cell? ⟨gb103, 3, none⟩ = some (.string (⟨#[]⟩ : ByteArray)) := (blk_cell BK103.out 3).trans rfl
       have hcz44_4 : wc.cell? ⟨gb103, 4, none⟩ = some (.int .i64 0) := (blk_cell BK103.out 4).trans rfl
       have hcz44_5 : wc.cell? ⟨gb103, 5, none⟩ = some (.int .i64 0) := (blk_cell BK103.out 5).trans rfl
       have hfz44_0 := blk_frozen BK103.out 0
       have hfz44_1 := blk_frozen BK103.out 1
       have hfz44_2 := blk_frozen BK103.out 2
       have hfz44_3 := blk_frozen BK103.out 3
       have hfz44_4 := blk_frozen BK103.out 4
       have hfz44_5 := blk_frozen BK103.out 5
       go_wp2_with (first | ((with_reducible refine gate_callee (f := 107) rfl ?_); refine goesL_ (some 38) rfl rfl Try.func107 (by kernel_rfl) rfl #[.string a0_2] rfl ar_ ?_; (with_reducible refine (impl_KeyOk.calls a0_2 true _ A38.out).mono ?_); rintro e w' ⟨rfl, ⟨nd, rfl⟩⟩; refine ⟨_, rfl, ?_⟩) | (go_at_call 68; (with_reducible refine (impl_in.calls a0_1 1 1000000 true _ A40.out).mono ?_); rintro e w' ⟨rfl, ⟨nd, rfl⟩⟩))
       go_ret
       exact ⟨re_, by repeat (first | (with_reducible first | exact HB.out | apply below_alloc | apply pw_below_drewN | apply below_drew1 | refine below_set ?_ GE102.out | refine below_set ?_ GE103.out) | exact HB.out)⟩
      ·replace c41 := Bool.eq_false_iff.mpr c41
       subst c41
       have H1 : (some false) = some r := by rw [if_neg (show ¬ (false = true) by decide)] at H; exact H
       clear H
       have H := H1
       clear H1
       obtain rfl := Option.some.inj H
       have hnb45 := NB102_103.out
       have hnc45 := NB103_102.out
       have hcz46_0 : wc.cell? ⟨gb102, 0, none⟩ = some (.int .i64 a0_0) := (blk_cell BK102.out 0).trans rfl
       have hcz46_1 : wc.cell? ⟨gb102, 1, none⟩ = some (.int .i64 a0_1) := (blk_cell BK102.out 1).trans rfl
       have hcz46_2 : wc.cell? ⟨gb102, 2, none⟩ = some (.string a0_2) := (blk_cell BK102.out 2).trans rfl
       have hcz46_3 : wc.cell? ⟨gb102, 3, none⟩ = some (.string a0_3) := (blk_cell BK102.out 3).trans rfl
       have hcz46_4 : wc.cell? ⟨gb102, 4, none⟩ = some (.int .i64 a0_4) := (blk_cell BK102.out 4).trans rfl
       have hcz46_5 : wc.cell? ⟨gb102, 5, none⟩ = some (.int .i64 a0_5) := (blk_cell BK102.out 5).trans rfl
       have hfz46_0 := blk_frozen BK102.out 0
       have hfz46_1 := blk_frozen BK102.out 1
       have hfz46_2 := blk_frozen BK102.out 2
       have hfz46_3 := blk_frozen BK102.out 3
       have hfz46_4 := blk_frozen BK102.out 4
       have hfz46_5 := blk_frozen BK102.out 5
       have hcz47_0 : wc.cell? ⟨gb103, 0, none⟩ = some (.int .i64 a0_0) := (blk_cell BK103.out 0).trans rfl
       have hcz47_1 : wc.cell? ⟨gb103, 1, none⟩ = some (.int .i64 a0_1) := (blk_cell BK103.out 1).trans rfl
       have hcz47_2 : wc.cell? ⟨gb103, 2, none⟩ = some (.string (⟨#[]⟩ : ByteArray)) := (blk_cell BK103.out 2).trans rfl
       have hcz47_3 : wc.cell? ⟨gb103, 3, none⟩ = some (.string (⟨#[]⟩ : ByteArray)) := (blk_cell BK103.out 3).trans rfl
       have hcz47_4 : wc.cell? ⟨gb103, 4, none⟩ = some (.int .i64 0) := (blk_cell BK103.out 4).trans rfl
       have hcz47_5 : wc.cell? ⟨gb103, 5, none⟩ = some (.int .i64 0) := (blk_cell BK103.out 5).trans rfl
       have hfz47_0 := blk_frozen BK103.out 0
       have hfz47_1 := blk_frozen BK103.out 1
       have hfz47_2 := blk_frozen BK103.out 2
       have hfz47_3 := blk_frozen BK103.out 3
       have hfz47_4 := blk_frozen BK103.out 4
       have hfz47_5 := blk_frozen BK103.out 5
       go_wp2_with (first | ((with_reducible refine gate_callee (f := 107) rfl ?_); refine goesL_ (some 38) rfl rfl Try.func107 (by kernel_rfl) rfl #[.string a0_2] rfl ar_ ?_; (with_reducible refine (impl_KeyOk.calls a0_2 true _ A38.out).mono ?_); rintro e w' ⟨rfl, ⟨nd, rfl⟩⟩; refine ⟨_, rfl, ?_⟩) | (go_at_call 68; (with_reducible refine (impl_in.calls a0_1 1 1000000 false _ A40.out).mono ?_); rintro e w' ⟨rfl, ⟨nd, rfl⟩⟩))
       go_ret
       exact ⟨re_, by repeat (first | (with_reducible first | exact HB.out | apply below_alloc | apply pw_below_drewN | apply below_drew1 | refine below_set ?_ GE102.out | refine below_set ?_ GE103.out) | exact HB.out)⟩
     ·replace c39 := Bool.eq_false_iff.mpr c39
      subst c39
      have H1 : (some false) = some r := by rw [if_neg (show ¬ (false = true) by decide)] at H; exact H
      clear H
      have H := H1
      clear H1
      obtain rfl := Option.some.inj H
      have hnb48 := NB102_103.out
      have hnc48 := NB103_102.out
      have hcz49_0 : wc.cell? ⟨gb102, 0, none⟩ = some (.int .i64 a0_0) := (blk_cell BK102.out 0).trans rfl
      have hcz49_1 : wc.cell? ⟨gb102, 1, none⟩ = some (.int .i64 a0_1) := (blk_cell BK102.out 1).trans rfl
      have hcz49_2 : wc.cell? ⟨gb102, 2, none⟩ = some (.string a0_2) := (blk_cell BK102.out 2).trans rfl
      have hcz49_3 : wc.cell? ⟨gb102, 3, none⟩ = some (.string a0_3) := (blk_cell BK102.out 3).trans rfl
      have hcz49_4 : wc.cell? ⟨gb102, 4, none⟩ = some (.int .i64 a0_4) := (blk_cell BK102.out 4).trans rfl
      have hcz49_5 : wc.cell? ⟨gb102, 5, none⟩ = some (.int .i64 a0_5) := (blk_cell BK102.out 5).trans rfl
      have hfz49_0 := blk_frozen BK102.out 0
      have hfz49_1 := blk_frozen BK102.out 1
      have hfz49_2 := blk_frozen BK102.out 2
      have hfz49_3 := blk_frozen BK102.out 3
      have hfz49_4 := blk_frozen BK102.out 4
      have hfz49_5 := blk_frozen BK102.out 5
      have hcz50_0 : wc.cell? ⟨gb103, 0, none⟩ = some (.int .i64 a0_0) := (blk_cell BK103.out 0).trans rfl
      have hcz50_1 : wc.cell? ⟨gb103, 1, none⟩ = some (.int .i64 a0_1) := (blk_cell BK103.out 1).trans rfl
      have hcz50_2 : wc.cell? ⟨gb103, 2, none⟩ = some (.string (⟨#[]⟩ : ByteArray)) := (blk_cell BK103.out 2).trans rfl
      have hcz50_3 : wc.cell? ⟨gb103, 3, none⟩ = some (.string (⟨#[]⟩ : ByteArray)) := (blk_cell BK103.out 3).trans rfl
      have hcz50_4 : wc.cell? ⟨gb103, 4, none⟩ = some (.int .i64 0) := (blk_cell BK103.out 4).trans rfl
      have hcz50_5 : wc.cell? ⟨gb103, 5, none⟩ = some (.int .i64 0) := (blk_cell BK103.out 5).trans rfl
      have hfz50_0 := blk_frozen BK103.out 0
      have hfz50_1 := blk_frozen BK103.out 1
      have hfz50_2 := blk_frozen BK103.out 2
      have hfz50_3 := blk_frozen BK103.out 3
      have hfz50_4 := blk_frozen BK103.out 4
      have hfz50_5 := blk_frozen BK103.out 5
      go_wp2_with (first | ((with_reducible refine gate_callee (f := 107) rfl ?_); refine goesL_ (some 38) rfl rfl Try.func107 (by kernel_rfl) rfl #[.string a0_2] rfl ar_ ?_; (with_reducible refine (impl_KeyOk.calls a0_2 false _ A38.out).mono ?_); rintro e w' ⟨rfl, ⟨nd, rfl⟩⟩; refine ⟨_, rfl, ?_⟩))
      go_ret
      exact ⟨re_, by repeat (first | (with_reducible first | exact HB.out | apply below_alloc | apply pw_below_drewN | apply below_drew1 | refine below_set ?_ GE102.out | refine below_set ?_ GE103.out) | exact HB.out)⟩
    ·rw [if_neg c37] at H
     have c37b0 : (a0_0 == 2) = false := beq_eq_false_iff_ne.mpr c37
     have c37b1 : (a0_0 != 2) = true := bne_iff_ne.mpr c37
     by_cases c51 : a0_0 = 3
     ·rw [if_pos c51] at H
      have c51b0 : (a0_0 == 3) = true := beq_iff_eq.mpr c51
      have c51b1 : (a0_0 != 3) = false := bne_eq_false_iff_eq.mpr c51
      clear c51
      replace H := Option.bind_eq_some_iff.mp H
      obtain ⟨t108, A520, H⟩ := H
      replace H : (if t108 = true then ((impl_in.f a0_5 0 4294967295).bind fun t109 => (if t109 = true then ((impl_in.f a0_1 1 1000000).bind fun t110 => (if t110 = true then (some (a0_0 == a0_0 && (a0_1 == a0_1 && (a0_2.toList == (⟨#[]⟩ : ByteArray).toList && (a0_3.toList == (⟨#[]⟩ : ByteArray).toList))))) else (some false))) else (some false))) else (some false)) = some r := H
      have A52 := Aside0.mk A520
      clear A520
      by_cases c53 : t108 = true
      ·subst c53
       have H1 : ((impl_in.f a0_5 0 4294967295).bind fun t109 => (if t109 = true then ((impl_in.f a0_1 1 1000000).bind fun t110 => (if t110 = true then (some (a0_0 == a0_0 && (a0_1 == a0_1 && (a0_2.toList == (⟨#[]⟩ : ByteArray).toList && (a0_3.toList == (⟨#[]⟩ : ByteArray).toList))))) else (some false))) else (some false))) = some r := by rw [if_pos rfl] at H; exact H
       clear H
       have H := H1
       clear H1
       replace H := Option.bind_eq_some_iff.mp H
       obtain ⟨t109, A540, H⟩ := H
       replace H : (if t109 = true then ((impl_in.f a0_1 1 1000000).bind fun t110 => (if t110 = true then (some (a0_0 == a0_0 && (a0_1 == a0_1 && (a0_2.toList == (⟨#[]⟩ : ByteArray).toList && (a0_3.toList == (⟨#[]⟩ : ByteArray).toList))))) else (some false))) else (some false)) = some r := H
       have A54 := Aside0.mk A540
       clear A540
       by_cases c55 : t109 = true
       ·subst c55
        have H1 : ((impl_in.f a0_1 1 1000000).bind fun t110 => (if t110 = true then (some (a0_0 == a0_0 && (a0_1 == a0_1 && (a0_2.toList == (⟨#[]⟩ : ByteArray).toList && (a0_3.toList == (⟨#[]⟩ : ByteArray).toList))))) else (some false))) = some r := by rw [if_pos rfl] at H; exact H
        clear H
        have H := H1
        clear H1
        replace H := Option.bind_eq_some_iff.mp H
        obtain ⟨t110, A560, H⟩ := H
        replace H : (if t110 = true then (some (a0_0 == a0_0 && (a0_1 == a0_1 && (a0_2.toList == (⟨#[]⟩ : ByteArray).toList && (a0_3.toList == (⟨#[]⟩ : ByteArray).toList))))) else (some false)) = some r := H
        have A56 := Aside0.mk A560
        clear A560
        by_cases c57 : t110 = true
        ·subst c57
         have H1 : (some (a0_0 == a0_0 && (a0_1 == a0_1 && (a0_2.toList == (⟨#[]⟩ : ByteArray).toList && (a0_3.toList == (⟨#[]⟩ : ByteArray).toList))))) = some r := by rw [if_pos rfl] at H; exact H
         clear H
         have H := H1
         clear H1
         obtain rfl := Option.some.inj H
         try go_wp2
         have n0_ := Aside0.mk (blk_drew BK102.out)
         have n1_ := Aside0.mk (blk_drew BK103.out)
         have n2_ := Aside0.mk (below_drew1 HB.out)
         clear BK102
         clear BK103
         clear HB
         have BK102 := n0_
         have BK103 := n1_
         have HB := n2_
         clear n0_ n1_ n2_
         refine start_ (n := 8) (S := fun w' => w'.cell? ⟨gb102, 0, none⟩ = some (.int .i64 a0_0) ∧ w'.cell? ⟨gb102, 1, none⟩ = some (.int .i64 a0_1) ∧ w'.cell? ⟨gb102, 2, none⟩ = some (.string a0_2) ∧ w'.cell? ⟨gb102, 3, none⟩ = some (.string a0_3) ∧ w'.cell? ⟨gb102, 4, none⟩ = some (.int .i64 a0_4) ∧ w'.cell? ⟨gb102, 5, none⟩ = some (.int .i64 a0_5)) (ds := []) #[o',o',o',o',o',o',o',o'] (by kernel_rfl) rfl rfl ⟨(blk_cell BK102.out 0).trans rfl, (blk_cell BK102.out 1).trans rfl, (blk_cell BK102.out 2).trans rfl, (blk_cell BK102.out 3).trans rfl, (blk_cell BK102.out 4).trans rfl, (blk_cell BK102.out 5).trans rfl⟩ (fun hHeld => ?_); refine with_tabW impl_RecOk.tab12 impl_RecOk.bits12 (fun HT_ HW_ => ?_)
         generalize wc.drew = w58 at BK102 BK103 HB hHeld ⊢
         refine pu_ (i := 0) (N := some 41) (v := ?_) (a' := ?_) #[i',o',o',o',o',o',o',o'] rfl rfl HT_ (Or.inl ⟨by rfl, ?_⟩) ?_ ?_
         rotate_left;·intro w';go_simp;with_reducible rfl
         rotate_left;·simp only [Act.put, la_, lz_, ls_, i64_w, i32_w];rfl
         refine pu_ (i := 2) (N := some 43) (v := ?_) (a' := ?_) #[i',o',i',o',o',o',o',o'] rfl rfl HT_ (Or.inl ⟨by rfl, ?_⟩) ?_ ?_
         rotate_left;·intro w';go_simp;with_reducible rfl
         rotate_left;·simp only [Act.put, la_, lz_, ls_, i64_w, i32_w];rfl
         refine take_ (i := 1) (N := some 42) (v := ?_) (a' := ?_) #[i',i',i',o',o',o',o',o'] rfl rfl (take_ofW HT_.out HW_.out (by kernel_rfl)) (fun _ _ _ h => h) (Or.inl ⟨by rfl, ?_⟩) hHeld ?_ ?_
         rotate_left
         ·rintro w' ⟨s0, s1, s2, s3, s4, s5⟩
          go_simp
          with_reducible rfl
         rotate_left
         ·simp only [Act.put, la_, lz_, ls_, i64_w, i32_w]
          rfl
         refine pu_ (i := 4) (N := some 45) (v := ?_) (a' := ?_) #[i',i',i',o',i',o',o',o'] rfl rfl HT_ (Or.inl ⟨by rfl, ?_⟩) ?_ ?_
         rotate_left;·intro w';go_simp;with_reducible rfl
         rotate_left;·simp only [Act.put, la_, lz_, ls_, i64_w, i32_w];rfl
         refine take_ (i := 3) (N := some 44) (v := ?_) (a' := ?_) #[i',i',i',i',i',o',o',o'] rfl rfl (take_ofW HT_.out HW_.out (by kernel_rfl)) (fun _ _ _ h => h) (Or.inl ⟨by rfl, ?_⟩) hHeld ?_ ?_
         rotate_left
         ·rintro w' ⟨s0, s1, s2, s3, s4, s5⟩
          go_simp
          with_reducible rfl
         rotate_left
         ·simp only [Act.put, la_, lz_, ls_, i64_w, i32_w]
          rfl
         refine one_ (i := 5) (N := none) #[i',i',i',i',i',i',o',o'] rfl rfl (one_of HT_.out (by kernel_rfl)) (by decide) (fun K hK => ?_)
         have hs59 : w58.cell? ⟨gb103, 4, none⟩ = some (.int .i64 0) := (blk_cell BK103.out 4).trans rfl
         have hfs59 := blk_frozen BK103.out 4
         have hns59_0 := NB102_103.out
         have hms59_0 := NB103_102.out
         refine skip_ (w1 := ?_) (by rfl) rfl ?_ ?_
         rotate_left
         ·go_simp
          rfl
         refine hK.out _ _ ⟨((cell_far (p := ⟨gb103, _, none⟩) NB102_103.out _).trans (hHeld.1)), ((cell_far (p := ⟨gb103, _, none⟩) NB102_103.out _).trans (hHeld.2.1)), ((cell_far (p := ⟨gb103, _, none⟩) NB102_103.out _).trans (hHeld.2.2.1)), ((cell_far (p := ⟨gb103, _, none⟩) NB102_103.out _).trans (hHeld.2.2.2.1)), ((cell_far (p := ⟨gb103, _, none⟩) NB102_103.out _).trans (hHeld.2.2.2.2.1)), ((cell_far (p := ⟨gb103, _, none⟩) NB102_103.out _).trans (hHeld.2.2.2.2.2))⟩ (fun hHeld => ?_)
         clear hK K
         refine pu_ (i := 6) (N := some 46) (v := ?_) (a' := ?_) #[i',i',i',i',i',i',i',o'] rfl rfl HT_ (Or.inl ⟨by rfl, ?_⟩) ?_ ?_
         rotate_left;·intro w';go_simp;with_reducible rfl
         rotate_left;·simp only [Act.put, la_, lz_, ls_, i64_w, i32_w];rfl
         refine one_ (i := 7) (N := none) #[i',i',i',i',i',i',i',i'] rfl rfl (one_of HT_.out (by kernel_rfl)) (by decide) (fun K hK => ?_)
         have hs60 : w58.cell? ⟨gb103, 5, none⟩ = some (.int .i64 0) := (blk_cell BK103.out 5).trans rfl
         have hfs60 := blk_frozen BK103.out 5
         have hns60_0 := NB102_103.out
         have hms60_0 := NB103_102.out
         refine skip_ (w1 := ?_) (by rfl) rfl ?_ ?_
         rotate_left
         ·go_simp
          rfl
         refine hK.out _ _ ⟨((cell_far (p := ⟨gb103, _, none⟩) NB102_103.out _).trans (hHeld.1)), ((cell_far (p := ⟨gb103, _, none⟩) NB102_103.out _).trans (hHeld.2.1)), ((cell_far (p := ⟨gb103, _, none⟩) NB102_103.out _).trans (hHeld.2.2.1)), ((cell_far (p := ⟨gb103, _, none⟩) NB102_103.out _).trans (hHeld.2.2.2.1)), ((cell_far (p := ⟨gb103, _, none⟩) NB102_103.out _).trans (hHeld.2.2.2.2.1)), ((cell_far (p := ⟨gb103, _, none⟩) NB102_103.out _).trans (hHeld.2.2.2.2.2))⟩ (fun hHeld => ?_)
         clear hK K
         refine done_ (done_of HT_.out (by kernel_rfl)) ?_
         have hnb61 := NB102_103.out
         have hnc61 := NB103_102.out
         have hcz62_0 : w58.cell? ⟨gb102, 0, none⟩ = some (.int .i64 a0_0) := (blk_cell BK102.out 0).trans rfl
         have hcz62_1 : w58.cell? ⟨gb102, 1, none⟩ = some (.int .i64 a0_1) := (blk_cell BK102.out 1).trans rfl
         have hcz62_2 : w58.cell? ⟨gb102, 2, none⟩ = some (.string a0_2) := (blk_cell BK102.out 2).trans rfl
         have hcz62_3 : w58.cell? ⟨gb102, 3, none⟩ = some (.string a0_3) := (blk_cell BK102.out 3).trans rfl
         have hcz62_4 : w58.cell? ⟨gb102, 4, none⟩ = some (.int .i64 a0_4) := (blk_cell BK102.out 4).trans rfl
         have hcz62_5 : w58.cell? ⟨gb102, 5, none⟩ = some (.int .i64 a0_5) := (blk_cell BK102.out 5).trans rfl
         have hfz62_0 := blk_frozen BK102.out 0
         have hfz62_1 := blk_frozen BK102.out 1
         have hfz62_2 := blk_frozen BK102.out 2
         have hfz62_3 := blk_frozen BK102.out 3
         have hfz62_4 := blk_frozen BK102.out 4
         have hfz62_5 := blk_frozen BK102.out 5
         try go_wp2_with (first | ((with_reducible refine gate_callee (f := 68) rfl ?_); refine goesL_ (some 49) rfl rfl Try.func68 (by kernel_rfl) rfl #[.int .i64 a0_4, .int .i64 0, .int .i64 8] rfl ar_ ?_; (with_reducible refine (impl_in.calls a0_4 0 8 true _ A52.out).mono ?_); rintro e w' ⟨rfl, ⟨nd, rfl⟩⟩; refine ⟨_, rfl, ?_⟩) | (go_at_call 68; (with_reducible refine (impl_in.calls a0_5 0 4294967295 true _ A54.out).mono ?_); rintro e w' ⟨rfl, ⟨nd, rfl⟩⟩) | (go_at_call 68; (with_reducible refine (impl_in.calls a0_1 1 1000000 true _ A56.out).mono ?_); rintro e w' ⟨rfl, ⟨nd, rfl⟩⟩; have hcz63_0 : w58.cell? ⟨gb103, 0, none⟩ = some (.int .i64 a0_0) := (blk_cell BK103.out 0).trans rfl; have hcz63_1 : w58.cell? ⟨gb103, 1, none⟩ = some (.int .i64 a0_1) := (blk_cell BK103.out 1).trans rfl; have hcz63_2 : w58.cell? ⟨gb103, 2, none⟩ = some (.string (⟨#[]⟩ : ByteArray)) := (blk_cell BK103.out 2).trans rfl; have hcz63_3 : w58.cell? ⟨gb103, 3, none⟩ = some (.string (⟨#[]⟩ : ByteArray)) := (blk_cell BK103.out 3).trans rfl; have hcz63_4 : w58.cell? ⟨gb103, 4, none⟩ = some (.int .i64 0) := (blk_cell BK103.out 4).trans rfl; have hcz63_5 : w58.cell? ⟨gb103, 5, none⟩ = some (.int .i64 0) := (blk_cell BK103.out 5).trans rfl; have hfz63_0 := blk_frozen BK103.out 0; have hfz63_1 := blk_frozen BK103.out 1; have hfz63_2 := blk_frozen BK103.out 2; have hfz63_3 := blk_frozen BK103.out 3; have hfz63_4 := blk_frozen BK103.out 4; have hfz63_5 := blk_frozen BK103.out 5))
         go_ret
         exact ⟨re_, by repeat (first | (with_reducible first | exact HB.out | apply below_alloc | apply pw_below_drewN | apply below_drew1 | refine below_set ?_ GE102.out | refine below_set ?_ GE103.out) | exact HB.out)⟩
        ·replace c57 := Bool.eq_false_iff.mpr c57
         subst c57
         have H1 : (some false) = some r := by rw [if_neg (show ¬ (false = true) by decide)] at H; exact H
         clear H
         have H := H1
         clear H1
         obtain rfl := Option.some.inj H
         try go_wp2
         have n0_ := Aside0.mk (blk_drew BK102.out)
         have n1_ := Aside0.mk (blk_drew BK103.out)
         have n2_ := Aside0.mk (below_drew1 HB.out)
         clear BK102
         clear BK103
         clear HB
         have BK102 := n0_
         have BK103 := n1_
         have HB := n2_
         clear n0_ n1_ n2_
         refine start_ (n := 8) (S := fun w' => w'.cell? ⟨gb102, 0, none⟩ = some (.int .i64 a0_0) ∧ w'.cell? ⟨gb102, 1, none⟩ = some (.int .i64 a0_1) ∧ w'.cell? ⟨gb102, 2, none⟩ = some (.string a0_2) ∧ w'.cell? ⟨gb102, 3, none⟩ = some (.string a0_3) ∧ w'.cell? ⟨gb102, 4, none⟩ = some (.int .i64 a0_4) ∧ w'.cell? ⟨gb102, 5, none⟩ = some (.int .i64 a0_5)) (ds := []) #[o',o',o',o',o',o',o',o'] (by kernel_rfl) rfl rfl ⟨(blk_cell BK102.out 0).trans rfl, (blk_cell BK102.out 1).trans rfl, (blk_cell BK102.out 2).trans rfl, (blk_cell BK102.out 3).trans rfl, (blk_cell BK102.out 4).trans rfl, (blk_cell BK102.out 5).trans rfl⟩ (fun hHeld => ?_); refine with_tabW impl_RecOk.tab12 impl_RecOk.bits12 (fun HT_ HW_ => ?_)
         generalize wc.drew = w64 at BK102 BK103 HB hHeld ⊢
         refine pu_ (i := 0) (N := some 41) (v := ?_) (a' := ?_) #[i',o',o',o',o',o',o',o'] rfl rfl HT_ (Or.inl ⟨by rfl, ?_⟩) ?_ ?_
         rotate_left;·intro w';go_simp;with_reducible rfl
         rotate_left;·simp only [Act.put, la_, lz_, ls_, i64_w, i32_w];rfl
         refine pu_ (i := 2) (N := some 43) (v := ?_) (a' := ?_) #[i',o',i',o',o',o',o',o'] rfl rfl HT_ (Or.inl ⟨by rfl, ?_⟩) ?_ ?_
         rotate_left;·intro w';go_simp;with_reducible rfl
         rotate_left;·simp only [Act.put, la_, lz_, ls_, i64_w, i32_w];rfl
         refine take_ (i := 1) (N := some 42) (v := ?_) (a' := ?_) #[i',i',i',o',o',o',o',o'] rfl rfl (take_ofW HT_.out HW_.out (by kernel_rfl)) (fun _ _ _ h => h) (Or.inl ⟨by rfl, ?_⟩) hHeld ?_ ?_
         rotate_left
         ·rintro w' ⟨s0, s1, s2, s3, s4, s5⟩
          go_simp
          with_reducible rfl
         rotate_left
         ·simp only [Act.put, la_, lz_, ls_, i64_w, i32_w]
          rfl
         refine pu_ (i := 4) (N := some 45) (v := ?_) (a' := ?_) #[i',i',i',o',i',o',o',o'] rfl rfl HT_ (Or.inl ⟨by rfl, ?_⟩) ?_ ?_
         rotate_left;·intro w';go_simp;with_reducible rfl
         rotate_left;·simp only [Act.put, la_, lz_, ls_, i64_w, i32_w];rfl
         refine take_ (i := 3) (N := some 44) (v := ?_) (a' := ?_) #[i',i',i',i',i',o',o',o'] rfl rfl (take_ofW HT_.out HW_.out (by kernel_rfl)) (fun _ _ _ h => h) (Or.inl ⟨by rfl, ?_⟩) hHeld ?_ ?_
         rotate_left
         ·rintro w' ⟨s0, s1, s2, s3, s4, s5⟩
          go_simp
          with_reducible rfl
         rotate_left
         ·simp only [Act.put, la_, lz_, ls_, i64_w, i32_w]
          rfl
         refine one_ (i := 5) (N := none) #[i',i',i',i',i',i',o',o'] rfl rfl (one_of HT_.out (by kernel_rfl)) (by decide) (fun K hK => ?_)
         have hs65 : w64.cell? ⟨gb103, 4, none⟩ = some (.int .i64 0) := (blk_cell BK103.out 4).trans rfl
         have hfs65 := blk_frozen BK103.out 4
         have hns65_0 := NB102_103.out
         have hms65_0 := NB103_102.out
         refine skip_ (w1 := ?_) (by rfl) rfl ?_ ?_
         rotate_left
         ·go_simp
          rfl
         refine hK.out _ _ ⟨((cell_far (p := ⟨gb103, _, none⟩) NB102_103.out _).trans (hHeld.1)), ((cell_far (p := ⟨gb103, _, none⟩) NB102_103.out _).trans (hHeld.2.1)), ((cell_far (p := ⟨gb103, _, none⟩) NB102_103.out _).trans (hHeld.2.2.1)), ((cell_far (p := ⟨gb103, _, none⟩) NB102_103.out _).trans (hHeld.2.2.2.1)), ((cell_far (p := ⟨gb103, _, none⟩) NB102_103.out _).trans (hHeld.2.2.2.2.1)), ((cell_far (p := ⟨gb103, _, none⟩) NB102_103.out _).trans (hHeld.2.2.2.2.2))⟩ (fun hHeld => ?_)
         clear hK K
         refine pu_ (i := 6) (N := some 46) (v := ?_) (a' := ?_) #[i',i',i',i',i',i',i',o'] rfl rfl HT_ (Or.inl ⟨by rfl, ?_⟩) ?_ ?_
         rotate_left;·intro w';go_simp;with_reducible rfl
         rotate_left;·simp only [Act.put, la_, lz_, ls_, i64_w, i32_w];rfl
         refine one_ (i := 7) (N := none) #[i',i',i',i',i',i',i',i'] rfl rfl (one_of HT_.out (by kernel_rfl)) (by decide) (fun K hK => ?_)
         have hs66 : w64.cell? ⟨gb103, 5, none⟩ = some (.int .i64 0) := (blk_cell BK103.out 5).trans rfl
         have hfs66 := blk_frozen BK103.out 5
         have hns66_0 := NB102_103.out
         have hms66_0 := NB103_102.out
         refine skip_ (w1 := ?_) (by rfl) rfl ?_ ?_
         rotate_left
         ·go_simp
          rfl
         refine hK.out _ _ ⟨((cell_far (p := ⟨gb103, _, none⟩) NB102_103.out _).trans (hHeld.1)), ((cell_far (p := ⟨gb103, _, none⟩) NB102_103.out _).trans (hHeld.2.1)), ((cell_far (p := ⟨gb103, _, none⟩) NB102_103.out _).trans (hHeld.2.2.1)), ((cell_far (p := ⟨gb103, _, none⟩) NB102_103.out _).trans (hHeld.2.2.2.1)), ((cell_far (p := ⟨gb103, _, none⟩) NB102_103.out _).trans (hHeld.2.2.2.2.1)), ((cell_far (p := ⟨gb103, _, none⟩) NB102_103.out _).trans (hHeld.2.2.2.2.2))⟩ (fun hHeld => ?_)
         clear hK K
         refine done_ (done_of HT_.out (by kernel_rfl)) ?_
         have hnb67 := NB102_103.out
         have hnc67 := NB103_102.out
         have hcz68_0 : w64.cell? ⟨gb102, 0, none⟩ = some (.int .i64 a0_0) := (blk_cell BK102.out 0).trans rfl
         have hcz68_1 : w64.cell? ⟨gb102, 1, none⟩ = some (.int .i64 a0_1) := (blk_cell BK102.out 1).trans rfl
         have hcz68_2 : w64.cell? ⟨gb102, 2, none⟩ = some (.string a0_2) := (blk_cell BK102.out 2).trans rfl
         have hcz68_3 : w64.cell? ⟨gb102, 3, none⟩ = some (.string a0_3) := (blk_cell BK102.out 3).trans rfl
         have hcz68_4 : w64.cell? ⟨gb102, 4, none⟩ = some (.int .i64 a0_4) := (blk_cell BK102.out 4).trans rfl
         have hcz68_5 : w64.cell? ⟨gb102, 5, none⟩ = some (.int .i64 a0_5) := (blk_cell BK102.out 5).trans rfl
         have hfz68_0 := blk_frozen BK102.out 0
         have hfz68_1 := blk_frozen BK102.out 1
         have hfz68_2 := blk_frozen BK102.out 2
         have hfz68_3 := blk_frozen BK102.out 3
         have hfz68_4 := blk_frozen BK102.out 4
         have hfz68_5 := blk_frozen BK102.out 5
         try go_wp2_with (first | ((with_reducible refine gate_callee (f := 68) rfl ?_); refine goesL_ (some 49) rfl rfl Try.func68 (by kernel_rfl) rfl #[.int .i64 a0_4, .int .i64 0, .int .i64 8] rfl ar_ ?_; (with_reducible refine (impl_in.calls a0_4 0 8 true _ A52.out).mono ?_); rintro e w' ⟨rfl, ⟨nd, rfl⟩⟩; refine ⟨_, rfl, ?_⟩) | (go_at_call 68; (with_reducible refine (impl_in.calls a0_5 0 4294967295 true _ A54.out).mono ?_); rintro e w' ⟨rfl, ⟨nd, rfl⟩⟩) | (go_at_call 68; (with_reducible refine (impl_in.calls a0_1 1 1000000 false _ A56.out).mono ?_); rintro e w' ⟨rfl, ⟨nd, rfl⟩⟩))
         go_ret
         exact ⟨re_, by repeat (first | (with_reducible first | exact HB.out | apply below_alloc | apply pw_below_drewN | apply below_drew1 | refine below_set ?_ GE102.out | refine below_set ?_ GE103.out) | exact HB.out)⟩
       ·replace c55 := Bool.eq_false_iff.mpr c55
        subst c55
        have H1 : (some false) = some r := by rw [if_neg (show ¬ (false = true) by decide)] at H; exact H
        clear H
        have H := H1
        clear H1
        obtain rfl := Option.some.inj H
        try go_wp2
        have n0_ := Aside0.mk (blk_drew BK102.out)
        have n1_ := Aside0.mk (blk_drew BK103.out)
        have n2_ := Aside0.mk (below_drew1 HB.out)
        clear BK102
        clear BK103
        clear HB
        have BK102 := n0_
        have BK103 := n1_
        have HB := n2_
        clear n0_ n1_ n2_
        refine start_ (n := 8) (S := fun w' => w'.cell? ⟨gb102, 0, none⟩ = some (.int .i64 a0_0) ∧ w'.cell? ⟨gb102, 1, none⟩ = some (.int .i64 a0_1) ∧ w'.cell? ⟨gb102, 2, none⟩ = some (.string a0_2) ∧ w'.cell? ⟨gb102, 3, none⟩ = some (.string a0_3) ∧ w'.cell? ⟨gb102, 4, none⟩ = some (.int .i64 a0_4) ∧ w'.cell? ⟨gb102, 5, none⟩ = some (.int .i64 a0_5)) (ds := []) #[o',o',o',o',o',o',o',o'] (by kernel_rfl) rfl rfl ⟨(blk_cell BK102.out 0).trans rfl, (blk_cell BK102.out 1).trans rfl, (blk_cell BK102.out 2).trans rfl, (blk_cell BK102.out 3).trans rfl, (blk_cell BK102.out 4).trans rfl, (blk_cell BK102.out 5).trans rfl⟩ (fun hHeld => ?_); refine with_tabW impl_RecOk.tab12 impl_RecOk.bits12 (fun HT_ HW_ => ?_)
        generalize wc.drew = w69 at BK102 BK103 HB hHeld ⊢
        refine pu_ (i := 0) (N := some 41) (v := ?_) (a' := ?_) #[i',o',o',o',o',o',o',o'] rfl rfl HT_ (Or.inl ⟨by rfl, ?_⟩) ?_ ?_
        rotate_left;·intro w';go_simp;with_reducible rfl
        rotate_left;·simp only [Act.put, la_, lz_, ls_, i64_w, i32_w];rfl
        refine pu_ (i := 2) (N := some 43) (v := ?_) (a' := ?_) #[i',o',i',o',o',o',o',o'] rfl rfl HT_ (Or.inl ⟨by rfl, ?_⟩) ?_ ?_
        rotate_left;·intro w';go_simp;with_reducible rfl
        rotate_left;·simp only [Act.put, la_, lz_, ls_, i64_w, i32_w];rfl
        refine take_ (i := 1) (N := some 42) (v := ?_) (a' := ?_) #[i',i',i',o',o',o',o',o'] rfl rfl (take_ofW HT_.out HW_.out (by kernel_rfl)) (fun _ _ _ h => h) (Or.inl ⟨by rfl, ?_⟩) hHeld ?_ ?_
        rotate_left
        ·rintro w' ⟨s0, s1, s2, s3, s4, s5⟩
         go_simp
         with_reducible rfl
        rotate_left
        ·simp only [Act.put, la_, lz_, ls_, i64_w, i32_w]
         rfl
        refine pu_ (i := 4) (N := some 45) (v := ?_) (a' := ?_) #[i',i',i',o',i',o',o',o'] rfl rfl HT_ (Or.inl ⟨by rfl, ?_⟩) ?_ ?_
        rotate_left;·intro w';go_simp;with_reducible rfl
        rotate_left;·simp only [Act.put, la_, lz_, ls_, i64_w, i32_w];rfl
        refine take_ (i := 3) (N := some 44) (v := ?_) (a' := ?_) #[i',i',i',i',i',o',o',o'] rfl rfl (take_ofW HT_.out HW_.out (by kernel_rfl)) (fun _ _ _ h => h) (Or.inl ⟨by rfl, ?_⟩) hHeld ?_ ?_
        rotate_left
        ·rintro w' ⟨s0, s1, s2, s3, s4, s5⟩
         go_simp
         with_reducible rfl
        rotate_left
        ·simp only [Act.put, la_, lz_, ls_, i64_w, i32_w]
         rfl
        refine one_ (i := 5) (N := none) #[i',i',i',i',i',i',o',o'] rfl rfl (one_of HT_.out (by kernel_rfl)) (by decide) (fun K hK => ?_)
        have hs70 : w69.cell? ⟨gb103, 4, none⟩ = some (.int .i64 0) := (blk_cell BK103.out 4).trans rfl
        have hfs70 := blk_frozen BK103.out 4
        have hns70_0 := NB102_103.out
        have hms70_0 := NB103_102.out
        refine skip_ (w1 := ?_) (by rfl) rfl ?_ ?_
        rotate_left
        ·go_simp
         rfl
        refine hK.out _ _ ⟨((cell_far (p := ⟨gb103, _, none⟩) NB102_103.out _).trans (hHeld.1)), ((cell_far (p := ⟨gb103, _, none⟩) NB102_103.out _).trans (hHeld.2.1)), ((cell_far (p := ⟨gb103, _, none⟩) NB102_103.out _).trans (hHeld.2.2.1)), ((cell_far (p := ⟨gb103, _, none⟩) NB102_103.out _).trans (hHeld.2.2.2.1)), ((cell_far (p := ⟨gb103, _, none⟩) NB102_103.out _).trans (hHeld.2.2.2.2.1)), ((cell_far (p := ⟨gb103, _, none⟩) NB102_103.out _).trans (hHeld.2.2.2.2.2))⟩ (fun hHeld => ?_)
        clear hK K
        refine pu_ (i := 6) (N := some 46) (v := ?_) (a' := ?_) #[i',i',i',i',i',i',i',o'] rfl rfl HT_ (Or.inl ⟨by rfl, ?_⟩) ?_ ?_
        rotate_left;·intro w';go_simp;with_reducible rfl
        rotate_left;·simp only [Act.put, la_, lz_, ls_, i64_w, i32_w];rfl
        refine one_ (i := 7) (N := none) #[i',i',i',i',i',i',i',i'] rfl rfl (one_of HT_.out (by kernel_rfl)) (by decide) (fun K hK => ?_)
        have hs71 : w69.cell? ⟨gb103, 5, none⟩ = some (.int .i64 0) := (blk_cell BK103.out 5).trans rfl
        have hfs71 := blk_frozen BK103.out 5
        have hns71_0 := NB102_103.out
        have hms71_0 := NB103_102.out
        refine skip_ (w1 := ?_) (by rfl) rfl ?_ ?_
        rotate_left
        ·go_simp
         rfl
        refine hK.out _ _ ⟨((cell_far (p := ⟨gb103, _, none⟩) NB102_103.out _).trans (hHeld.1)), ((cell_far (p := ⟨gb103, _, none⟩) NB102_103.out _).trans (hHeld.2.1)), ((cell_far (p := ⟨gb103, _, none⟩) NB102_103.out _).trans (hHeld.2.2.1)), ((cell_far (p := ⟨gb103, _, none⟩) NB102_103.out _).trans (hHeld.2.2.2.1)), ((cell_far (p := ⟨gb103, _, none⟩) NB102_103.out _).trans (hHeld.2.2.2.2.1)), ((cell_far (p := ⟨gb103, _, none⟩) NB102_103.out _).trans (hHeld.2.2.2.2.2))⟩ (fun hHeld => ?_)
        clear hK K
        refine done_ (done_of HT_.out (by kernel_rfl)) ?_
        have hnb72 := NB102_103.out
        have hnc72 := NB103_102.out
        have hcz73_0 : w69.cell? ⟨gb102, 0, none⟩ = some (.int .i64 a0_0) := (blk_cell BK102.out 0).trans rfl
        have hcz73_1 : w69.cell? ⟨gb102, 1, none⟩ = some (.int .i64 a0_1) := (blk_cell BK102.out 1).trans rfl
        have hcz73_2 : w69.cell? ⟨gb102, 2, none⟩ = some (.string a0_2) := (blk_cell BK102.out 2).trans rfl
        have hcz73_3 : w69.cell? ⟨gb102, 3, none⟩ = some (.string a0_3) := (blk_cell BK102.out 3).trans rfl
        have hcz73_4 : w69.cell? ⟨gb102, 4, none⟩ = some (.int .i64 a0_4) := (blk_cell BK102.out 4).trans rfl
        have hcz73_5 : w69.cell? ⟨gb102, 5, none⟩ = some (.int .i64 a0_5) := (blk_cell BK102.out 5).trans rfl
        have hfz73_0 := blk_frozen BK102.out 0
        have hfz73_1 := blk_frozen BK102.out 1
        have hfz73_2 := blk_frozen BK102.out 2
        have hfz73_3 := blk_frozen BK102.out 3
        have hfz73_4 := blk_frozen BK102.out 4
        have hfz73_5 := blk_frozen BK102.out 5
        try go_wp2_with (first | ((with_reducible refine gate_callee (f := 68) rfl ?_); refine goesL_ (some 49) rfl rfl Try.func68 (by kernel_rfl) rfl #[.int .i64 a0_4, .int .i64 0, .int .i64 8] rfl ar_ ?_; (with_reducible refine (impl_in.calls a0_4 0 8 true _ A52.out).mono ?_); rintro e w' ⟨rfl, ⟨nd, rfl⟩⟩; refine ⟨_, rfl, ?_⟩) | (go_at_call 68; (with_reducible refine (impl_in.calls a0_5 0 4294967295 false _ A54.out).mono ?_); rintro e w' ⟨rfl, ⟨nd, rfl⟩⟩))
        go_ret
        exact ⟨re_, by repeat (first | (with_reducible first | exact HB.out | apply below_alloc | apply pw_below_drewN | apply below_drew1 | refine below_set ?_ GE102.out | refine below_set ?_ GE103.out) | exact HB.out)⟩
      ·replace c53 := Bool.eq_false_iff.mpr c53
       subst c53
       have H1 : (some false) = some r := by rw [if_neg (show ¬ (false = true) by decide)] at H; exact H
       clear H
       have H := H1
       clear H1
       obtain rfl := Option.some.inj H
       try go_wp2
       have n0_ := Aside0.mk (blk_drew BK102.out)
       have n1_ := Aside0.mk (blk_drew BK103.out)
       have n2_ := Aside0.mk (below_drew1 HB.out)
       clear BK102
       clear BK103
       clear HB
       have BK102 := n0_
       have BK103 := n1_
       have HB := n2_
       clear n0_ n1_ n2_
       refine start_ (n := 8) (S := fun w' => w'.cell? ⟨gb102, 0, none⟩ = some (.int .i64 a0_0) ∧ w'.cell? ⟨gb102, 1, none⟩ = some (.int .i64 a0_1) ∧ w'.cell? ⟨gb102, 2, none⟩ = some (.string a0_2) ∧ w'.cell? ⟨gb102, 3, none⟩ = some (.string a0_3) ∧ w'.cell? ⟨gb102, 4, none⟩ = some (.int .i64 a0_4) ∧ w'.cell? ⟨gb102, 5, none⟩ = some (.int .i64 a0_5)) (ds := []) #[o',o',o',o',o',o',o',o'] (by kernel_rfl) rfl rfl ⟨(blk_cell BK102.out 0).trans rfl, (blk_cell BK102.out 1).trans rfl, (blk_cell BK102.out 2).trans rfl, (blk_cell BK102.out 3).trans rfl, (blk_cell BK102.out 4).trans rfl, (blk_cell BK102.out 5).trans rfl⟩ (fun hHeld => ?_); refine with_tabW impl_RecOk.tab12 impl_RecOk.bits12 (fun HT_ HW_ => ?_)
       generalize wc.drew = w74 at BK102 BK103 HB hHeld ⊢
       refine pu_ (i := 0) (N := some 41) (v := ?_) (a' := ?_) #[i',o',o',o',o',o',o',o'] rfl rfl HT_ (Or.inl ⟨by rfl, ?_⟩) ?_ ?_
       rotate_left;·intro w';go_simp;with_reducible rfl
       rotate_left;·simp only [Act.put, la_, lz_, ls_, i64_w, i32_w];rfl
       refine pu_ (i := 2) (N := some 43) (v := ?_) (a' := ?_) #[i',o',i',o',o',o',o',o'] rfl rfl HT_ (Or.inl ⟨by rfl, ?_⟩) ?_ ?_
       rotate_left;·intro w';go_simp;with_reducible rfl
       rotate_left;·simp only [Act.put, la_, lz_, ls_, i64_w, i32_w];rfl
       refine take_ (i := 1) (N := some 42) (v := ?_) (a' := ?_) #[i',i',i',o',o',o',o',o'] rfl rfl (take_ofW HT_.out HW_.out (by kernel_rfl)) (fun _ _ _ h => h) (Or.inl ⟨by rfl, ?_⟩) hHeld ?_ ?_
       rotate_left
       ·rintro w' ⟨s0, s1, s2, s3, s4, s5⟩
        go_simp
        with_reducible rfl
       rotate_left
       ·simp only [Act.put, la_, lz_, ls_, i64_w, i32_w]
        rfl
       refine pu_ (i := 4) (N := some 45) (v := ?_) (a' := ?_) #[i',i',i',o',i',o',o',o'] rfl rfl HT_ (Or.inl ⟨by rfl, ?_⟩) ?_ ?_
       rotate_left;·intro w';go_simp;with_reducible rfl
       rotate_left;·simp only [Act.put, la_, lz_, ls_, i64_w, i32_w];rfl
       refine take_ (i := 3) (N := some 44) (v := ?_) (a' := ?_) #[i',i',i',i',i',o',o',o'] rfl rfl (take_ofW HT_.out HW_.out (by kernel_rfl)) (fun _ _ _ h => h) (Or.inl ⟨by rfl, ?_⟩) hHeld ?_ ?_
       rotate_left
       ·rintro w' ⟨s0, s1, s2, s3, s4, s5⟩
        go_simp
        with_reducible rfl
       rotate_left
       ·simp only [Act.put, la_, lz_, ls_, i64_w, i32_w]
        rfl
       refine one_ (i := 5) (N := none) #[i',i',i',i',i',i',o',o'] rfl rfl (one_of HT_.out (by kernel_rfl)) (by decide) (fun K hK => ?_)
       have hs75 : w74.cell? ⟨gb103, 4, none⟩ = some (.int .i64 0) := (blk_cell BK103.out 4).trans rfl
       have hfs75 := blk_frozen BK103.out 4
       have hns75_0 := NB102_103.out
       have hms75_0 := NB103_102.out
       refine skip_ (w1 := ?_) (by rfl) rfl ?_ ?_
       rotate_left
       ·go_simp
        rfl
       refine hK.out _ _ ⟨((cell_far (p := ⟨gb103, _, none⟩) NB102_103.out _).trans (hHeld.1)), ((cell_far (p := ⟨gb103, _, none⟩) NB102_103.out _).trans (hHeld.2.1)), ((cell_far (p := ⟨gb103, _, none⟩) NB102_103.out _).trans (hHeld.2.2.1)), ((cell_far (p := ⟨gb103, _, none⟩) NB102_103.out _).trans (hHeld.2.2.2.1)), ((cell_far (p := ⟨gb103, _, none⟩) NB102_103.out _).trans (hHeld.2.2.2.2.1)), ((cell_far (p := ⟨gb103, _, none⟩) NB102_103.out _).trans (hHeld.2.2.2.2.2))⟩ (fun hHeld => ?_)
       clear hK K
       refine pu_ (i := 6) (N := some 46) (v := ?_) (a' := ?_) #[i',i',i',i',i',i',i',o'] rfl rfl HT_ (Or.inl ⟨by rfl, ?_⟩) ?_ ?_
       rotate_left;·intro w';go_simp;with_reducible rfl
       rotate_left;·simp only [Act.put, la_, lz_, ls_, i64_w, i32_w];rfl
       refine one_ (i := 7) (N := none) #[i',i',i',i',i',i',i',i'] rfl rfl (one_of HT_.out (by kernel_rfl)) (by decide) (fun K hK => ?_)
       have hs76 : w74.cell? ⟨gb103, 5, none⟩ = some (.int .i64 0) := (blk_cell BK103.out 5).trans rfl
       have hfs76 := blk_frozen BK103.out 5
       have hns76_0 := NB102_103.out
       have hms76_0 := NB103_102.out
       refine skip_ (w1 := ?_) (by rfl) rfl ?_ ?_
       rotate_left
       ·go_simp
        rfl
       refine hK.out _ _ ⟨((cell_far (p := ⟨gb103, _, none⟩) NB102_103.out _).trans (hHeld.1)), ((cell_far (p := ⟨gb103, _, none⟩) NB102_103.out _).trans (hHeld.2.1)), ((cell_far (p := ⟨gb103, _, none⟩) NB102_103.out _).trans (hHeld.2.2.1)), ((cell_far (p := ⟨gb103, _, none⟩) NB102_103.out _).trans (hHeld.2.2.2.1)), ((cell_far (p := ⟨gb103, _, none⟩) NB102_103.out _).trans (hHeld.2.2.2.2.1)), ((cell_far (p := ⟨gb103, _, none⟩) NB102_103.out _).trans (hHeld.2.2.2.2.2))⟩ (fun hHeld => ?_)
       clear hK K
       refine done_ (done_of HT_.out (by kernel_rfl)) ?_
       have hnb77 := NB102_103.out
       have hnc77 := NB103_102.out
       have hcz78_0 : w74.cell? ⟨gb102, 0, none⟩ = some (.int .i64 a0_0) := (blk_cell BK102.out 0).trans rfl
       have hcz78_1 : w74.cell? ⟨gb102, 1, none⟩ = some (.int .i64 a0_1) := (blk_cell BK102.out 1).trans rfl
       have hcz78_2 : w74.cell? ⟨gb102, 2, none⟩ = some (.string a0_2) := (blk_cell BK102.out 2).trans rfl
       have hcz78_3 : w74.cell? ⟨gb102, 3, none⟩ = some (.string a0_3) := (blk_cell BK102.out 3).trans rfl
       have hcz78_4 : w74.cell? ⟨gb102, 4, none⟩ = some (.int .i64 a0_4) := (blk_cell BK102.out 4).trans rfl
       have hcz78_5 : w74.cell? ⟨gb102, 5, none⟩ = some (.int .i64 a0_5) := (blk_cell BK102.out 5).trans rfl
       have hfz78_0 := blk_frozen BK102.out 0
       have hfz78_1 := blk_frozen BK102.out 1
       have hfz78_2 := blk_frozen BK102.out 2
       have hfz78_3 := blk_frozen BK102.out 3
       have hfz78_4 := blk_frozen BK102.out 4
       have hfz78_5 := blk_frozen BK102.out 5
       try go_wp2_with (first | ((with_reducible refine gate_callee (f := 68) rfl ?_); refine goesL_ (some 49) rfl rfl Try.func68 (by kernel_rfl) rfl #[.int .i64 a0_4, .int .i64 0, .int .i64 8] rfl ar_ ?_; (with_reducible refine (impl_in.calls a0_4 0 8 false _ A52.out).mono ?_); rintro e w' ⟨rfl, ⟨nd, rfl⟩⟩; refine ⟨_, rfl, ?_⟩))
       go_ret
       exact ⟨re_, by repeat (first | (with_reducible first | exact HB.out | apply below_alloc | apply pw_below_drewN | apply below_drew1 | refine below_set ?_ GE102.out | refine below_set ?_ GE103.out) | exact HB.out)⟩
     ·rw [if_neg c51] at H
      have c51b0 : (a0_0 == 3) = false := beq_eq_false_iff_ne.mpr c51
      have c51b1 : (a0_0 != 3) = true := bne_iff_ne.mpr c51
      by_cases c79 : a0_0 = 5
      ·rw [if_pos c79] at H
       have c79b0 : (a0_0 == 5) = true := beq_iff_eq.mpr c79
       have c79b1 : (a0_0 != 5) = false := bne_eq_false_iff_eq.mpr c79
       clear c79
       replace H := Option.bind_eq_some_iff.mp H
       obtain ⟨t111, A800, H⟩ := H
       replace H : (if t111 = true then ((impl_in.f a0_5 0 4294967295).bind fun t112 => (if t112 = true then ((impl_in.f a0_1 0 1000000).bind fun t113 => (if t113 = true then (some (a0_0 == a0_0 && (a0_1 == a0_1 && (a0_2.toList == (⟨#[]⟩ : ByteArray).toList && (a0_3.toList == (⟨#[]⟩ : ByteArray).toList))))) else (some false))) else (some false))) else (some false)) = some r := H
       have A80 := Aside0.mk A800
       clear A800
       by_cases c81 : t111 = true
       ·subst c81
        have H1 : ((impl_in.f a0_5 0 4294967295).bind fun t112 => (if t112 = true then ((impl_in.f a0_1 0 1000000).bind fun t113 => (if t113 = true then (some (a0_0 == a0_0 && (a0_1 == a0_1 && (a0_2.toList == (⟨#[]⟩ : ByteArray).toList && (a0_3.toList == (⟨#[]⟩ : ByteArray).toList))))) else (some false))) else (some false))) = some r := by rw [if_pos rfl] at H; exact H
        clear H
        have H := H1
        clear H1
        replace H := Option.bind_eq_some_iff.mp H
        obtain ⟨t112, A820, H⟩ := H
        replace H : (if t112 = true then ((impl_in.f a0_1 0 1000000).bind fun t113 => (if t113 = true then (some (a0_0 == a0_0 && (a0_1 == a0_1 && (a0_2.toList == (⟨#[]⟩ : ByteArray).toList && (a0_3.toList == (⟨#[]⟩ : ByteArray).toList))))) else (some false))) else (some false)) = some r := H
        have A82 := Aside0.mk A820
        clear A820
        by_cases c83 : t112 = true
        ·subst c83
         have H1 : ((impl_in.f a0_1 0 1000000).bind fun t113 => (if t113 = true then (some (a0_0 == a0_0 && (a0_1 == a0_1 && (a0_2.toList == (⟨#[]⟩ : ByteArray).toList && (a0_3.toList == (⟨#[]⟩ : ByteArray).toList))))) else (some false))) = some r := by rw [if_pos rfl] at H; exact H
         clear H
         have H := H1
         clear H1
         replace H := Option.bind_eq_some_iff.mp H
         obtain ⟨t113, A840, H⟩ := H
         replace H : (if t113 = true then (some (a0_0 == a0_0 && (a0_1 == a0_1 && (a0_2.toList == (⟨#[]⟩ : ByteArray).toList && (a0_3.toList == (⟨#[]⟩ : ByteArray).toList))))) else (some false)) = some r := H
         have A84 := Aside0.mk A840
         clear A840
         by_cases c85 : t113 = true
         ·subst c85
          have H1 : (some (a0_0 == a0_0 && (a0_1 == a0_1 && (a0_2.toList == (⟨#[]⟩ : ByteArray).toList && (a0_3.toList == (⟨#[]⟩ : ByteArray).toList))))) = some r := by rw [if_pos rfl] at H; exact H
          clear H
          have H := H1
          clear H1
          obtain rfl := Option.some.inj H
          try go_wp2
          have n0_ := Aside0.mk (blk_drew BK102.out)
          have n1_ := Aside0.mk (blk_drew BK103.out)
          have n2_ := Aside0.mk (below_drew1 HB.out)
          clear BK102
          clear BK103
          clear HB
          have BK102 := n0_
          have BK103 := n1_
          have HB := n2_
          clear n0_ n1_ n2_
          refine start_ (n := 8) (S := fun w' => w'.cell? ⟨gb102, 0, none⟩ = some (.int .i64 a0_0) ∧ w'.cell? ⟨gb102, 1, none⟩ = some (.int .i64 a0_1) ∧ w'.cell? ⟨gb102, 2, none⟩ = some (.string a0_2) ∧ w'.cell? ⟨gb102, 3, none⟩ = some (.string a0_3) ∧ w'.cell? ⟨gb102, 4, none⟩ = some (.int .i64 a0_4) ∧ w'.cell? ⟨gb102, 5, none⟩ = some (.int .i64 a0_5)) (ds := []) #[o',o',o',o',o',o',o',o'] (by kernel_rfl) rfl rfl ⟨(blk_cell BK102.out 0).trans rfl, (blk_cell BK102.out 1).trans rfl, (blk_cell BK102.out 2).trans rfl, (blk_cell BK102.out 3).trans rfl, (blk_cell BK102.out 4).trans rfl, (blk_cell BK102.out 5).trans rfl⟩ (fun hHeld => ?_); refine with_tabW impl_RecOk.tab15 impl_RecOk.bits15 (fun HT_ HW_ => ?_)
          generalize wc.drew = w86 at BK102 BK103 HB hHeld ⊢
          refine pu_ (i := 0) (N := some 57) (v := ?_) (a' := ?_) #[i',o',o',o',o',o',o',o'] rfl rfl HT_ (Or.inl ⟨by rfl, ?_⟩) ?_ ?_
          rotate_left;·intro w';go_simp;with_reducible rfl
          rotate_left;·simp only [Act.put, la_, lz_, ls_, i64_w, i32_w];rfl
          refine pu_ (i := 2) (N := some 59) (v := ?_) (a' := ?_) #[i',o',i',o',o',o',o',o'] rfl rfl HT_ (Or.inl ⟨by rfl, ?_⟩) ?_ ?_
          rotate_left;·intro w';go_simp;with_reducible rfl
          rotate_left;·simp only [Act.put, la_, lz_, ls_, i64_w, i32_w];rfl
          refine take_ (i := 1) (N := some 58) (v := ?_) (a' := ?_) #[i',i',i',o',o',o',o',o'] rfl rfl (take_ofW HT_.out HW_.out (by kernel_rfl)) (fun _ _ _ h => h) (Or.inl ⟨by rfl, ?_⟩) hHeld ?_ ?_
          rotate_left
          ·rintro w' ⟨s0, s1, s2, s3, s4, s5⟩
           go_simp
           with_reducible rfl
          rotate_left
          ·simp only [Act.put, la_, lz_, ls_, i64_w, i32_w]
           rfl
          refine pu_ (i := 4) (N := some 61) (v := ?_) (a' := ?_) #[i',i',i',o',i',o',o',o'] rfl rfl HT_ (Or.inl ⟨by rfl, ?_⟩) ?_ ?_
          rotate_left;·intro w';go_simp;with_reducible rfl
          rotate_left;·simp only [Act.put, la_, lz_, ls_, i64_w, i32_w];rfl
          refine take_ (i := 3) (N := some 60) (v := ?_) (a' := ?_) #[i',i',i',i',i',o',o',o'] rfl rfl (take_ofW HT_.out HW_.out (by kernel_rfl)) (fun _ _ _ h => h) (Or.inl ⟨by rfl, ?_⟩) hHeld ?_ ?_
          rotate_left
          ·rintro w' ⟨s0, s1, s2, s3, s4, s5⟩
           go_simp
           with_reducible rfl
          rotate_left
          ·simp only [Act.put, la_, lz_, ls_, i64_w, i32_w]
           rfl
          refine one_ (i := 5) (N := none) #[i',i',i',i',i',i',o',o'] rfl rfl (one_of HT_.out (by kernel_rfl)) (by decide) (fun K hK => ?_)
          have hs87 : w86.cell? ⟨gb103, 4, none⟩ = some (.int .i64 0) := (blk_cell BK103.out 4).trans rfl
          have hfs87 := blk_frozen BK103.out 4
          have hns87_0 := NB102_103.out
          have hms87_0 := NB103_102.out
          refine skip_ (w1 := ?_) (by rfl) rfl ?_ ?_
          rotate_left
          ·go_simp
           rfl
          refine hK.out _ _ ⟨((cell_far (p := ⟨gb103, _, none⟩) NB102_103.out _).trans (hHeld.1)), ((cell_far (p := ⟨gb103, _, none⟩) NB102_103.out _).trans (hHeld.2.1)), ((cell_far (p := ⟨gb103, _, none⟩) NB102_103.out _).trans (hHeld.2.2.1)), ((cell_far (p := ⟨gb103, _, none⟩) NB102_103.out _).trans (hHeld.2.2.2.1)), ((cell_far (p := ⟨gb103, _, none⟩) NB102_103.out _).trans (hHeld.2.2.2.2.1)), ((cell_far (p := ⟨gb103, _, none⟩) NB102_103.out _).trans (hHeld.2.2.2.2.2))⟩ (fun hHeld => ?_)
          clear hK K
          refine pu_ (i := 6) (N := some 62) (v := ?_) (a' := ?_) #[i',i',i',i',i',i',i',o'] rfl rfl HT_ (Or.inl ⟨by rfl, ?_⟩) ?_ ?_
          rotate_left;·intro w';go_simp;with_reducible rfl
          rotate_left;·simp only [Act.put, la_, lz_, ls_, i64_w, i32_w];rfl
          refine one_ (i := 7) (N := none) #[i',i',i',i',i',i',i',i'] rfl rfl (one_of HT_.out (by kernel_rfl)) (by decide) (fun K hK => ?_)
          have hs88 : w86.cell? ⟨gb103, 5, none⟩ = some (.int .i64 0) := (blk_cell BK103.out 5).trans rfl
          have hfs88 := blk_frozen BK103.out 5
          have hns88_0 := NB102_103.out
          have hms88_0 := NB103_102.out
          refine skip_ (w1 := ?_) (by rfl) rfl ?_ ?_
          rotate_left
          ·go_simp
           rfl
          refine hK.out _ _ ⟨((cell_far (p := ⟨gb103, _, none⟩) NB102_103.out _).trans (hHeld.1)), ((cell_far (p := ⟨gb103, _, none⟩) NB102_103.out _).trans (hHeld.2.1)), ((cell_far (p := ⟨gb103, _, none⟩) NB102_103.out _).trans (hHeld.2.2.1)), ((cell_far (p := ⟨gb103, _, none⟩) NB102_103.out _).trans (hHeld.2.2.2.1)), ((cell_far (p := ⟨gb103, _, none⟩) NB102_103.out _).trans (hHeld.2.2.2.2.1)), ((cell_far (p := ⟨gb103, _, none⟩) NB102_103.out _).trans (hHeld.2.2.2.2.2))⟩ (fun hHeld => ?_)
          clear hK K
          refine done_ (done_of HT_.out (by kernel_rfl)) ?_
          have hnb89 := NB102_103.out
          have hnc89 := NB103_102.out
          have hcz90_0 : w86.cell? ⟨gb102, 0, none⟩ = some (.int .i64 a0_0) := (blk_cell BK102.out 0).trans rfl
          have hcz90_1 : w86.cell? ⟨gb102, 1, none⟩ = some (.int .i64 a0_1) := (blk_cell BK102.out 1).trans rfl
          have hcz90_2 : w86.cell? ⟨gb102, 2, none⟩ = some (.string a0_2) := (blk_cell BK102.out 2).trans rfl
          have hcz90_3 : w86.cell? ⟨gb102, 3, none⟩ = some (.string a0_3) := (blk_cell BK102.out 3).trans rfl
          have hcz90_4 : w86.cell? ⟨gb102, 4, none⟩ = some (.int .i64 a0_4) := (blk_cell BK102.out 4).trans rfl
          have hcz90_5 : w86.cell? ⟨gb102, 5, none⟩ = some (.int .i64 a0_5) := (blk_cell BK102.out 5).trans rfl
          have hfz90_0 := blk_frozen BK102.out 0
          have hfz90_1 := blk_frozen BK102.out 1
          have hfz90_2 := blk_frozen BK102.out 2
          have hfz90_3 := blk_frozen BK102.out 3
          have hfz90_4 := blk_frozen BK102.out 4
          have hfz90_5 := blk_frozen BK102.out 5
          try go_wp2_with (first | ((with_reducible refine gate_callee (f := 68) rfl ?_); refine goesL_ (some 65) rfl rfl Try.func68 (by kernel_rfl) rfl #[.int .i64 a0_4, .int .i64 0, .int .i64 20] rfl ar_ ?_; (with_reducible refine (impl_in.calls a0_4 0 20 true _ A80.out).mono ?_); rintro e w' ⟨rfl, ⟨nd, rfl⟩⟩; refine ⟨_, rfl, ?_⟩) | (go_at_call 68; (with_reducible refine (impl_in.calls a0_5 0 4294967295 true _ A82.out).mono ?_); rintro e w' ⟨rfl, ⟨nd, rfl⟩⟩) | (go_at_call 68; (with_reducible refine (impl_in.calls a0_1 0 1000000 true _ A84.out).mono ?_); rintro e w' ⟨rfl, ⟨nd, rfl⟩⟩; have hcz91_0 : w86.cell? ⟨gb103, 0, none⟩ = some (.int .i64 a0_0) := (blk_cell BK103.out 0).trans rfl; have hcz91_1 : w86.cell? ⟨gb103, 1, none⟩ = some (.int .i64 a0_1) := (blk_cell BK103.out 1).trans rfl; have hcz91_2 : w86.cell? ⟨gb103, 2, none⟩ = some (.string (⟨#[]⟩ : ByteArray)) := (blk_cell BK103.out 2).trans rfl; have hcz91_3 : w86.cell? ⟨gb103, 3, none⟩ = some (.string (⟨#[]⟩ : ByteArray)) := (blk_cell BK103.out 3).trans rfl; have hcz91_4 : w86.cell? ⟨gb103, 4, none⟩ = some (.int .i64 0) := (blk_cell BK103.out 4).trans rfl; have hcz91_5 : w86.cell? ⟨gb103, 5, none⟩ = some (.int .i64 0) := (blk_cell BK103.out 5).trans rfl; have hfz91_0 := blk_frozen BK103.out 0; have hfz91_1 := blk_frozen BK103.out 1; have hfz91_2 := blk_frozen BK103.out 2; have hfz91_3 := blk_frozen BK103.out 3; have hfz91_4 := blk_frozen BK103.out 4; have hfz91_5 := blk_frozen BK103.out 5))
          go_ret
          exact ⟨re_, by repeat (first | (with_reducible first | exact HB.out | apply below_alloc | apply pw_below_drewN | apply below_drew1 | refine below_set ?_ GE102.out | refine below_set ?_ GE103.out) | exact HB.out)⟩
         ·replace c85 := Bool.eq_false_iff.mpr c85
          subst c85
          have H1 : (some false) = some r := by rw [if_neg (show ¬ (false = true) by decide)] at H; exact H
          clear H
          have H := H1
          clear H1
          obtain rfl := Option.some.inj H
          try go_wp2
          have n0_ := Aside0.mk (blk_drew BK102.out)
          have n1_ := Aside0.mk (blk_drew BK103.out)
          have n2_ := Aside0.mk (below_drew1 HB.out)
          clear BK102
          clear BK103
          clear HB
          have BK102 := n0_
          have BK103 := n1_
          have HB := n2_
          clear n0_ n1_ n2_
          refine start_ (n := 8) (S := fun w' => w'.cell? ⟨gb102, 0, none⟩ = some (.int .i64 a0_0) ∧ w'.cell? ⟨gb102, 1, none⟩ = some (.int .i64 a0_1) ∧ w'.cell? ⟨gb102, 2, none⟩ = some (.string a0_2) ∧ w'.cell? ⟨gb102, 3, none⟩ = some (.string a0_3) ∧ w'.cell? ⟨gb102, 4, none⟩ = some (.int .i64 a0_4) ∧ w'.cell? ⟨gb102, 5, none⟩ = some (.int .i64 a0_5)) (ds := []) #[o',o',o',o',o',o',o',o'] (by kernel_rfl) rfl rfl ⟨(blk_cell BK102.out 0).trans rfl, (blk_cell BK102.out 1).trans rfl, (blk_cell BK102.out 2).trans rfl, (blk_cell BK102.out 3).trans rfl, (blk_cell BK102.out 4).trans rfl, (blk_cell BK102.out 5).trans rfl⟩ (fun hHeld => ?_); refine with_tabW impl_RecOk.tab15 impl_RecOk.bits15 (fun HT_ HW_ => ?_)
          generalize wc.drew = w92 at BK102 BK103 HB hHeld ⊢
          refine pu_ (i := 0) (N := some 57) (v := ?_) (a' := ?_) #[i',o',o',o',o',o',o',o'] rfl rfl HT_ (Or.inl ⟨by rfl, ?_⟩) ?_ ?_
          rotate_left;·intro w';go_simp;with_reducible rfl
          rotate_left;·simp only [Act.put, la_, lz_, ls_, i64_w, i32_w];rfl
          refine pu_ (i := 2) (N := some 59) (v := ?_) (a' := ?_) #[i',o',i',o',o',o',o',o'] rfl rfl HT_ (Or.inl ⟨by rfl, ?_⟩) ?_ ?_
          rotate_left;·intro w';go_simp;with_reducible rfl
          rotate_left;·simp only [Act.put, la_, lz_, ls_, i64_w, i32_w];rfl
          refine take_ (i := 1) (N := some 58) (v := ?_) (a' := ?_) #[i',i',i',o',o',o',o',o'] rfl rfl (take_ofW HT_.out HW_.out (by kernel_rfl)) (fun _ _ _ h => h) (Or.inl ⟨by rfl, ?_⟩) hHeld ?_ ?_
          rotate_left
          ·rintro w' ⟨s0, s1, s2, s3, s4, s5⟩
           go_simp
           with_reducible rfl
          rotate_left
          ·simp only [Act.put, la_, lz_, ls_, i64_w, i32_w]
           rfl
          refine pu_ (i := 4) (N := some 61) (v := ?_) (a' := ?_) #[i',i',i',o',i',o',o',o'] rfl rfl HT_ (Or.inl ⟨by rfl, ?_⟩) ?_ ?_
          rotate_left;·intro w';go_simp;with_reducible rfl
          rotate_left;·simp only [Act.put, la_, lz_, ls_, i64_w, i32_w];rfl
          refine take_ (i := 3) (N := some 60) (v := ?_) (a' := ?_) #[i',i',i',i',i',o',o',o'] rfl rfl (take_ofW HT_.out HW_.out (by kernel_rfl)) (fun _ _ _ h => h) (Or.inl ⟨by rfl, ?_⟩) hHeld ?_ ?_
          rotate_left
          ·rintro w' ⟨s0, s1, s2, s3, s4, s5⟩
           go_simp
           with_reducible rfl
          rotate_left
          ·simp only [Act.put, la_, lz_, ls_, i64_w, i32_w]
           rfl
          refine one_ (i := 5) (N := none) #[i',i',i',i',i',i',o',o'] rfl rfl (one_of HT_.out (by kernel_rfl)) (by decide) (fun K hK => ?_)
          have hs93 : w92.cell? ⟨gb103, 4, none⟩ = some (.int .i64 0) := (blk_cell BK103.out 4).trans rfl
          have hfs93 := blk_frozen BK103.out 4
          have hns93_0 := NB102_103.out
          have hms93_0 := NB103_102.out
          refine skip_ (w1 := ?_) (by rfl) rfl ?_ ?_
          rotate_left
          ·go_simp
           rfl
          refine hK.out _ _ ⟨((cell_far (p := ⟨gb103, _, none⟩) NB102_103.out _).trans (hHeld.1)), ((cell_far (p := ⟨gb103, _, none⟩) NB102_103.out _).trans (hHeld.2.1)), ((cell_far (p := ⟨gb103, _, none⟩) NB102_103.out _).trans (hHeld.2.2.1)), ((cell_far (p := ⟨gb103, _, none⟩) NB102_103.out _).trans (hHeld.2.2.2.1)), ((cell_far (p := ⟨gb103, _, none⟩) NB102_103.out _).trans (hHeld.2.2.2.2.1)), ((cell_far (p := ⟨gb103, _, none⟩) NB102_103.out _).trans (hHeld.2.2.2.2.2))⟩ (fun hHeld => ?_)
          clear hK K
          refine pu_ (i := 6) (N := some 62) (v := ?_) (a' := ?_) #[i',i',i',i',i',i',i',o'] rfl rfl HT_ (Or.inl ⟨by rfl, ?_⟩) ?_ ?_
          rotate_left;·intro w';go_simp;with_reducible rfl
          rotate_left;·simp only [Act.put, la_, lz_, ls_, i64_w, i32_w];rfl
          refine one_ (i := 7) (N := none) #[i',i',i',i',i',i',i',i'] rfl rfl (one_of HT_.out (by kernel_rfl)) (by decide) (fun K hK => ?_)
          have hs94 : w92.cell? ⟨gb103, 5, none⟩ = some (.int .i64 0) := (blk_cell BK103.out 5).trans rfl
          have hfs94 := blk_frozen BK103.out 5
          have hns94_0 := NB102_103.out
          have hms94_0 := NB103_102.out
          refine skip_ (w1 := ?_) (by rfl) rfl ?_ ?_
          rotate_left
          ·go_simp
           rfl
          refine hK.out _ _ ⟨((cell_far (p := ⟨gb103, _, none⟩) NB102_103.out _).trans (hHeld.1)), ((cell_far (p := ⟨gb103, _, none⟩) NB102_103.out _).trans (hHeld.2.1)), ((cell_far (p := ⟨gb103, _, none⟩) NB102_103.out _).trans (hHeld.2.2.1)), ((cell_far (p := ⟨gb103, _, none⟩) NB102_103.out _).trans (hHeld.2.2.2.1)), ((cell_far (p := ⟨gb103, _, none⟩) NB102_103.out _).trans (hHeld.2.2.2.2.1)), ((cell_far (p := ⟨gb103, _, none⟩) NB102_103.out _).trans (hHeld.2.2.2.2.2))⟩ (fun hHeld => ?_)
          clear hK K
          refine done_ (done_of HT_.out (by kernel_rfl)) ?_
          have hnb95 := NB102_103.out
          have hnc95 := NB103_102.out
          have hcz96_0 : w92.cell? ⟨gb102, 0, none⟩ = some (.int .i64 a0_0) := (blk_cell BK102.out 0).trans rfl
          have hcz96_1 : w92.cell? ⟨gb102, 1, none⟩ = some (.int .i64 a0_1) := (blk_cell BK102.out 1).trans rfl
          have hcz96_2 : w92.cell? ⟨gb102, 2, none⟩ = some (.string a0_2) := (blk_cell BK102.out 2).trans rfl
          have hcz96_3 : w92.cell? ⟨gb102, 3, none⟩ = some (.string a0_3) := (blk_cell BK102.out 3).trans rfl
          have hcz96_4 : w92.cell? ⟨gb102, 4, none⟩ = some (.int .i64 a0_4) := (blk_cell BK102.out 4).trans rfl
          have hcz96_5 : w92.cell? ⟨gb102, 5, none⟩ = some (.int .i64 a0_5) := (blk_cell BK102.out 5).trans rfl
          have hfz96_0 := blk_frozen BK102.out 0
          have hfz96_1 := blk_frozen BK102.out 1
          have hfz96_2 := blk_frozen BK102.out 2
          have hfz96_3 := blk_frozen BK102.out 3
          have hfz96_4 := blk_frozen BK102.out 4
          have hfz96_5 := blk_frozen BK102.out 5
          try go_wp2_with (first | ((with_reducible refine gate_callee (f := 68) rfl ?_); refine goesL_ (some 65) rfl rfl Try.func68 (by kernel_rfl) rfl #[.int .i64 a0_4, .int .i64 0, .int .i64 20] rfl ar_ ?_; (with_reducible refine (impl_in.calls a0_4 0 20 true _ A80.out).mono ?_); rintro e w' ⟨rfl, ⟨nd, rfl⟩⟩; refine ⟨_, rfl, ?_⟩) | (go_at_call 68; (with_reducible refine (impl_in.calls a0_5 0 4294967295 true _ A82.out).mono ?_); rintro e w' ⟨rfl, ⟨nd, rfl⟩⟩) | (go_at_call 68; (with_reducible refine (impl_in.calls a0_1 0 1000000 false _ A84.out).mono ?_); rintro e w' ⟨rfl, ⟨nd, rfl⟩⟩))
          go_ret
          exact ⟨re_, by repeat (first | (with_reducible first | exact HB.out | apply below_alloc | apply pw_below_drewN | apply below_drew1 | refine below_set ?_ GE102.out | refine below_set ?_ GE103.out) | exact HB.out)⟩
        ·replace c83 := Bool.eq_false_iff.mpr c83
         subst c83
         have H1 : (some false) = some r := by rw [if_neg (show ¬ (false = true) by decide)] at H; exact H
         clear H
         have H := H1
         clear H1
         obtain rfl := Option.some.inj H
         try go_wp2
         have n0_ := Aside0.mk (blk_drew BK102.out)
         have n1_ := Aside0.mk (blk_drew BK103.out)
         have n2_ := Aside0.mk (below_drew1 HB.out)
         clear BK102
         clear BK103
         clear HB
         have BK102 := n0_
         have BK103 := n1_
         have HB := n2_
         clear n0_ n1_ n2_
         refine start_ (n := 8) (S := fun w' => w'.cell? ⟨gb102, 0, none⟩ = some (.int .i64 a0_0) ∧ w'.cell? ⟨gb102, 1, none⟩ = some (.int .i64 a0_1) ∧ w'.cell? ⟨gb102, 2, none⟩ = some (.string a0_2) ∧ w'.cell? ⟨gb102, 3, none⟩ = some (.string a0_3) ∧ w'.cell? ⟨gb102, 4, none⟩ = some (.int .i64 a0_4) ∧ w'.cell? ⟨gb102, 5, none⟩ = some (.int .i64 a0_5)) (ds := []) #[o',o',o',o',o',o',o',o'] (by kernel_rfl) rfl rfl ⟨(blk_cell BK102.out 0).trans rfl, (blk_cell BK102.out 1).trans rfl, (blk_cell BK102.out 2).trans rfl, (blk_cell BK102.out 3).trans rfl, (blk_cell BK102.out 4).trans rfl, (blk_cell BK102.out 5).trans rfl⟩ (fun hHeld => ?_); refine with_tabW impl_RecOk.tab15 impl_RecOk.bits15 (fun HT_ HW_ => ?_)
         generalize wc.drew = w97 at BK102 BK103 HB hHeld ⊢
         refine pu_ (i := 0) (N := some 57) (v := ?_) (a' := ?_) #[i',o',o',o',o',o',o',o'] rfl rfl HT_ (Or.inl ⟨by rfl, ?_⟩) ?_ ?_
         rotate_left;·intro w';go_simp;with_reducible rfl
         rotate_left;·simp only [Act.put, la_, lz_, ls_, i64_w, i32_w];rfl
         refine pu_ (i := 2) (N := some 59) (v := ?_) (a' := ?_) #[i',o',i',o',o',o',o',o'] rfl rfl HT_ (Or.inl ⟨by rfl, ?_⟩) ?_ ?_
         rotate_left;·intro w';go_simp;with_reducible rfl
         rotate_left;·simp only [Act.put, la_, lz_, ls_, i64_w, i32_w];rfl
         refine take_ (i := 1) (N := some 58) (v := ?_) (a' := ?_) #[i',i',i',o',o',o',o',o'] rfl rfl (take_ofW HT_.out HW_.out (by kernel_rfl)) (fun _ _ _ h => h) (Or.inl ⟨by rfl, ?_⟩) hHeld ?_ ?_
         rotate_left
         ·rintro w' ⟨s0, s1, s2, s3, s4, s5⟩
          go_simp
          with_reducible rfl
         rotate_left
         ·simp only [Act.put, la_, lz_, ls_, i64_w, i32_w]
          rfl
         refine pu_ (i := 4) (N := some 61) (v := ?_) (a' := ?_) #[i',i',i',o',i',o',o',o'] rfl rfl HT_ (Or.inl ⟨by rfl, ?_⟩) ?_ ?_
         rotate_left;·intro w';go_simp;with_reducible rfl
         rotate_left;·simp only [Act.put, la_, lz_, ls_, i64_w, i32_w];rfl
         refine take_ (i := 3) (N := some 60) (v := ?_) (a' := ?_) #[i',i',i',i',i',o',o',o'] rfl rfl (take_ofW HT_.out HW_.out (by kernel_rfl)) (fun _ _ _ h => h) (Or.inl ⟨by rfl, ?_⟩) hHeld ?_ ?_
         rotate_left
         ·rintro w' ⟨s0, s1, s2, s3, s4, s5⟩
          go_simp
          with_reducible rfl
         rotate_left
         ·simp only [Act.put, la_, lz_, ls_, i64_w, i32_w]
          rfl
         refine one_ (i := 5) (N := none) #[i',i',i',i',i',i',o',o'] rfl rfl (one_of HT_.out (by kernel_rfl)) (by decide) (fun K hK => ?_)
         have hs98 : w97.cell? ⟨gb103, 4, none⟩ = some (.int .i64 0) := (blk_cell BK103.out 4).trans rfl
         have hfs98 := blk_frozen BK103.out 4
         have hns98_0 := NB102_103.out
         have hms98_0 := NB103_102.out
         refine skip_ (w1 := ?_) (by rfl) rfl ?_ ?_
         rotate_left
         ·go_simp
          rfl
         refine hK.out _ _ ⟨((cell_far (p := ⟨gb103, _, none⟩) NB102_103.out _).trans (hHeld.1)), ((cell_far (p := ⟨gb103, _, none⟩) NB102_103.out _).trans (hHeld.2.1)), ((cell_far (p := ⟨gb103, _, none⟩) NB102_103.out _).trans (hHeld.2.2.1)), ((cell_far (p := ⟨gb103, _, none⟩) NB102_103.out _).trans (hHeld.2.2.2.1)), ((cell_far (p := ⟨gb103, _, none⟩) NB102_103.out _).trans (hHeld.2.2.2.2.1)), ((cell_far (p := ⟨gb103, _, none⟩) NB102_103.out _).trans (hHeld.2.2.2.2.2))⟩ (fun hHeld => ?_)
         clear hK K
         refine pu_ (i := 6) (N := some 62) (v := ?_) (a' := ?_) #[i',i',i',i',i',i',i',o'] rfl rfl HT_ (Or.inl ⟨by rfl, ?_⟩) ?_ ?_
         rotate_left;·intro w';go_simp;with_reducible rfl
         rotate_left;·simp only [Act.put, la_, lz_, ls_, i64_w, i32_w];rfl
         refine one_ (i := 7) (N := none) #[i',i',i',i',i',i',i',i'] rfl rfl (one_of HT_.out (by kernel_rfl)) (by decide) (fun K hK => ?_)
         have hs99 : w97.cell? ⟨gb103, 5, none⟩ = some (.int .i64 0) := (blk_cell BK103.out 5).trans rfl
         have hfs99 := blk_frozen BK103.out 5
         have hns99_0 := NB102_103.out
         have hms99_0 := NB103_102.out
         refine skip_ (w1 := ?_) (by rfl) rfl ?_ ?_
         rotate_left
         ·go_simp
          rfl
         refine hK.out _ _ ⟨((cell_far (p := ⟨gb103, _, none⟩) NB102_103.out _).trans (hHeld.1)), ((cell_far (p := ⟨gb103, _, none⟩) NB102_103.out _).trans (hHeld.2.1)), ((cell_far (p := ⟨gb103, _, none⟩) NB102_103.out _).trans (hHeld.2.2.1)), ((cell_far (p := ⟨gb103, _, none⟩) NB102_103.out _).trans (hHeld.2.2.2.1)), ((cell_far (p := ⟨gb103, _, none⟩) NB102_103.out _).trans (hHeld.2.2.2.2.1)), ((cell_far (p := ⟨gb103, _, none⟩) NB102_103.out _).trans (hHeld.2.2.2.2.2))⟩ (fun hHeld => ?_)
         clear hK K
         refine done_ (done_of HT_.out (by kernel_rfl)) ?_
         have hnb100 := NB102_103.out
         have hnc100 := NB103_102.out
         have hcz101_0 : w97.cell? ⟨gb102, 0, none⟩ = some (.int .i64 a0_0) := (blk_cell BK102.out 0).trans rfl
         have hcz101_1 : w97.cell? ⟨gb102, 1, none⟩ = some (.int .i64 a0_1) := (blk_cell BK102.out 1).trans rfl
         have hcz101_2 : w97.cell? ⟨gb102, 2, none⟩ = some (.string a0_2) := (blk_cell BK102.out 2).trans rfl
         have hcz101_3 : w97.cell? ⟨gb102, 3, none⟩ = some (.string a0_3) := (blk_cell BK102.out 3).trans rfl
         have hcz101_4 : w97.cell? ⟨gb102, 4, none⟩ = some (.int .i64 a0_4) := (blk_cell BK102.out 4).trans rfl
         have hcz101_5 : w97.cell? ⟨gb102, 5, none⟩ = some (.int .i64 a0_5) := (blk_cell BK102.out 5).trans rfl
         have hfz101_0 := blk_frozen BK102.out 0
         have hfz101_1 := blk_frozen BK102.out 1
         have hfz101_2 := blk_frozen BK102.out 2
         have hfz101_3 := blk_frozen BK102.out 3
         have hfz101_4 := blk_frozen BK102.out 4
         have hfz101_5 := blk_frozen BK102.out 5
         try go_wp2_with (first | ((with_reducible refine gate_callee (f := 68) rfl ?_); refine goesL_ (some 65) rfl rfl Try.func68 (by kernel_rfl) rfl #[.int .i64 a0_4, .int .i64 0, .int .i64 20] rfl ar_ ?_; (with_reducible refine (impl_in.calls a0_4 0 20 true _ A80.out).mono ?_); rintro e w' ⟨rfl, ⟨nd, rfl⟩⟩; refine ⟨_, rfl, ?_⟩) | (go_at_call 68; (with_reducible refine (impl_in.calls a0_5 0 4294967295 false _ A82.out).mono ?_); rintro e w' ⟨rfl, ⟨nd, rfl⟩⟩))
         go_ret
         exact ⟨re_, by repeat (first | (with_reducible first | exact HB.out | apply below_alloc | apply pw_below_drewN | apply below_drew1 | refine below_set ?_ GE102.out | refine below_set ?_ GE103.out) | exact HB.out)⟩
       ·replace c81 := Bool.eq_false_iff.mpr c81
        subst c81
        have H1 : (some false) = some r := by rw [if_neg (show ¬ (false = true) by decide)] at H; exact H
        clear H
        have H := H1
        clear H1
        obtain rfl := Option.some.inj H
        try go_wp2
        have n0_ := Aside0.mk (blk_drew BK102.out)
        have n1_ := Aside0.mk (blk_drew BK103.out)
        have n2_ := Aside0.mk (below_drew1 HB.out)
        clear BK102
        clear BK103
        clear HB
        have BK102 := n0_
        have BK103 := n1_
        have HB := n2_
        clear n0_ n1_ n2_
        refine start_ (n := 8) (S := fun w' => w'.cell? ⟨gb102, 0, none⟩ = some (.int .i64 a0_0) ∧ w'.cell? ⟨gb102, 1, none⟩ = some (.int .i64 a0_1) ∧ w'.cell? ⟨gb102, 2, none⟩ = some (.string a0_2) ∧ w'.cell? ⟨gb102, 3, none⟩ = some (.string a0_3) ∧ w'.cell? ⟨gb102, 4, none⟩ = some (.int .i64 a0_4) ∧ w'.cell? ⟨gb102, 5, none⟩ = some (.int .i64 a0_5)) (ds := []) #[o',o',o',o',o',o',o',o'] (by kernel_rfl) rfl rfl ⟨(blk_cell BK102.out 0).trans rfl, (blk_cell BK102.out 1).trans rfl, (blk_cell BK102.out 2).trans rfl, (blk_cell BK102.out 3).trans rfl, (blk_cell BK102.out 4).trans rfl, (blk_cell BK102.out 5).trans rfl⟩ (fun hHeld => ?_); refine with_tabW impl_RecOk.tab15 impl_RecOk.bits15 (fun HT_ HW_ => ?_)
        generalize wc.drew = w102 at BK102 BK103 HB hHeld ⊢
        refine pu_ (i := 0) (N := some 57) (v := ?_) (a' := ?_) #[i',o',o',o',o',o',o',o'] rfl rfl HT_ (Or.inl ⟨by rfl, ?_⟩) ?_ ?_
        rotate_left;·intro w';go_simp;with_reducible rfl
        rotate_left;·simp only [Act.put, la_, lz_, ls_, i64_w, i32_w];rfl
        refine pu_ (i := 2) (N := some 59) (v := ?_) (a' := ?_) #[i',o',i',o',o',o',o',o'] rfl rfl HT_ (Or.inl ⟨by rfl, ?_⟩) ?_ ?_
        rotate_left;·intro w';go_simp;with_reducible rfl
        rotate_left;·simp only [Act.put, la_, lz_, ls_, i64_w, i32_w];rfl
        refine take_ (i := 1) (N := some 58) (v := ?_) (a' := ?_) #[i',i',i',o',o',o',o',o'] rfl rfl (take_ofW HT_.out HW_.out (by kernel_rfl)) (fun _ _ _ h => h) (Or.inl ⟨by rfl, ?_⟩) hHeld ?_ ?_
        rotate_left
        ·rintro w' ⟨s0, s1, s2, s3, s4, s5⟩
         go_simp
         with_reducible rfl
        rotate_left
        ·simp only [Act.put, la_, lz_, ls_, i64_w, i32_w]
         rfl
        refine pu_ (i := 4) (N := some 61) (v := ?_) (a' := ?_) #[i',i',i',o',i',o',o',o'] rfl rfl HT_ (Or.inl ⟨by rfl, ?_⟩) ?_ ?_
        rotate_left;·intro w';go_simp;with_reducible rfl
        rotate_left;·simp only [Act.put, la_, lz_, ls_, i64_w, i32_w];rfl
        refine take_ (i := 3) (N := some 60) (v := ?_) (a' := ?_) #[i',i',i',i',i',o',o',o'] rfl rfl (take_ofW HT_.out HW_.out (by kernel_rfl)) (fun _ _ _ h => h) (Or.inl ⟨by rfl, ?_⟩) hHeld ?_ ?_
        rotate_left
        ·rintro w' ⟨s0, s1, s2, s3, s4, s5⟩
         go_simp
         with_reducible rfl
        rotate_left
        ·simp only [Act.put, la_, lz_, ls_, i64_w, i32_w]
         rfl
        refine one_ (i := 5) (N := none) #[i',i',i',i',i',i',o',o'] rfl rfl (one_of HT_.out (by kernel_rfl)) (by decide) (fun K hK => ?_)
        have hs103 : w102.cell? ⟨gb103, 4, none⟩ = some (.int .i64 0) := (blk_cell BK103.out 4).trans rfl
        have hfs103 := blk_frozen BK103.out 4
        have hns103_0 := NB102_103.out
        have hms103_0 := NB103_102.out
        refine skip_ (w1 := ?_) (by rfl) rfl ?_ ?_
        rotate_left
        ·go_simp
         rfl
        refine hK.out _ _ ⟨((cell_far (p := ⟨gb103, _, none⟩) NB102_103.out _).trans (hHeld.1)), ((cell_far (p := ⟨gb103, _, none⟩) NB102_103.out _).trans (hHeld.2.1)), ((cell_far (p := ⟨gb103, _, none⟩) NB102_103.out _).trans (hHeld.2.2.1)), ((cell_far (p := ⟨gb103, _, none⟩) NB102_103.out _).trans (hHeld.2.2.2.1)), ((cell_far (p := ⟨gb103, _, none⟩) NB102_103.out _).trans (hHeld.2.2.2.2.1)), ((cell_far (p := ⟨gb103, _, none⟩) NB102_103.out _).trans (hHeld.2.2.2.2.2))⟩ (fun hHeld => ?_)
        clear hK K
        refine pu_ (i := 6) (N := some 62) (v := ?_) (a' := ?_) #[i',i',i',i',i',i',i',o'] rfl rfl HT_ (Or.inl ⟨by rfl, ?_⟩) ?_ ?_
        rotate_left;·intro w';go_simp;with_reducible rfl
        rotate_left;·simp only [Act.put, la_, lz_, ls_, i64_w, i32_w];rfl
        refine one_ (i := 7) (N := none) #[i',i',i',i',i',i',i',i'] rfl rfl (one_of HT_.out (by kernel_rfl)) (by decide) (fun K hK => ?_)
        have hs104 : w102.cell? ⟨gb103, 5, none⟩ = some (.int .i64 0) := (blk_cell BK103.out 5).trans rfl
        have hfs104 := blk_frozen BK103.out 5
        have hns104_0 := NB102_103.out
        have hms104_0 := NB103_102.out
        refine skip_ (w1 := ?_) (by rfl) rfl ?_ ?_
        rotate_left
        ·go_simp
         rfl
        refine hK.out _ _ ⟨((cell_far (p := ⟨gb103, _, none⟩) NB102_103.out _).trans (hHeld.1)), ((cell_far (p := ⟨gb103, _, none⟩) NB102_103.out _).trans (hHeld.2.1)), ((cell_far (p := ⟨gb103, _, none⟩) NB102_103.out _).trans (hHeld.2.2.1)), ((cell_far (p := ⟨gb103, _, none⟩) NB102_103.out _).trans (hHeld.2.2.2.1)), ((cell_far (p := ⟨gb103, _, none⟩) NB102_103.out _).trans (hHeld.2.2.2.2.1)), ((cell_far (p := ⟨gb103, _, none⟩) NB102_103.out _).trans (hHeld.2.2.2.2.2))⟩ (fun hHeld => ?_)
        clear hK K
        refine done_ (done_of HT_.out (by kernel_rfl)) ?_
        have hnb105 := NB102_103.out
        have hnc105 := NB103_102.out
        have hcz106_0 : w102.cell? ⟨gb102, 0, none⟩ = some (.int .i64 a0_0) := (blk_cell BK102.out 0).trans rfl
        have hcz106_1 : w102.cell? ⟨gb102, 1, none⟩ = some (.int .i64 a0_1) := (blk_cell BK102.out 1).trans rfl
        have hcz106_2 : w102.cell? ⟨gb102, 2, none⟩ = some (.string a0_2) := (blk_cell BK102.out 2).trans rfl
        have hcz106_3 : w102.cell? ⟨gb102, 3, none⟩ = some (.string a0_3) := (blk_cell BK102.out 3).trans rfl
        have hcz106_4 : w102.cell? ⟨gb102, 4, none⟩ = some (.int .i64 a0_4) := (blk_cell BK102.out 4).trans rfl
        have hcz106_5 : w102.cell? ⟨gb102, 5, none⟩ = some (.int .i64 a0_5) := (blk_cell BK102.out 5).trans rfl
        have hfz106_0 := blk_frozen BK102.out 0
        have hfz106_1 := blk_frozen BK102.out 1
        have hfz106_2 := blk_frozen BK102.out 2
        have hfz106_3 := blk_frozen BK102.out 3
        have hfz106_4 := blk_frozen BK102.out 4
        have hfz106_5 := blk_frozen BK102.out 5
        try go_wp2_with (first | ((with_reducible refine gate_callee (f := 68) rfl ?_); refine goesL_ (some 65) rfl rfl Try.func68 (by kernel_rfl) rfl #[.int .i64 a0_4, .int .i64 0, .int .i64 20] rfl ar_ ?_; (with_reducible refine (impl_in.calls a0_4 0 20 false _ A80.out).mono ?_); rintro e w' ⟨rfl, ⟨nd, rfl⟩⟩; refine ⟨_, rfl, ?_⟩))
        go_ret
        exact ⟨re_, by repeat (first | (with_reducible first | exact HB.out | apply below_alloc | apply pw_below_drewN | apply below_drew1 | refine below_set ?_ GE102.out | refine below_set ?_ GE103.out) | exact HB.out)⟩
      ·rw [if_neg c79] at H
       have c79b0 : (a0_0 == 5) = false := beq_eq_false_iff_ne.mpr c79
       have c79b1 : (a0_0 != 5) = true := bne_iff_ne.mpr c79
       have H1 : (some false) = some r := by rw [if_neg (show ¬ (false = true) by decide)] at H; exact H
       clear H
       have H := H1
       clear H1
       obtain rfl := Option.some.inj H
       go_wp2
       go_ret
       exact ⟨re_, by repeat (first | (with_reducible first | exact HB.out | apply below_alloc | apply pw_below_drewN | apply below_drew1 | refine below_set ?_ GE102.out | refine below_set ?_ GE103.out) | exact HB.out)⟩

end Go.Proofs.Ytebeafcdabkkfaa.PFnRecords
