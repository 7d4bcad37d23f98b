-- Laid by a program of this session, a copy of the kit's printer with additions (wip/patch_print.py): myhead. Lean checks it.
import Derived.Test.YtodmaebgogjpdaaDoorPFnExactOrphansx0
import Derived.Test.YtodmaebgogjpdaaDoorPFnExactOrphansx1
import Derived.Test.YtodmaebgogjpdaaDoorPFnExactOrphansx4
import Derived.Test.YtodmaebgogjpdaaDoorPFnExactOrphansx5
import Derived.Test.YtodmaebgogjpdaaDoorPFnExactOrphansx8
import Derived.Test.YtodmaebgogjpdaaDoorPFnExactOrphansx9
import Derived.Test.YtodmaebgogjpdaaDoorPFnExactOrphansx10
namespace Go.Proofs.YtodmaebgogjpdaaDoor.PFnExactOrphans
open Go.RowKit Go.Proofs.YtodmaebgogjpdaaDoorW.PrintWords Go.Proofs.YtodmaebgogjpdaaDoorW.PrintLast Go.Proofs.YtodmaebgogjpdaaDoorW.PrintMore
attribute [local go_sem] max2_int min2_int max_two min_two max_three min_three max_four min_four   -- for this text's walks alone
set_option linter.unusedVariables false
set_option linter.unusedSimpArgs false

/-! ### laws_FnExactOrphans: function 3 -/
def laws_FnExactOrphans.j0 : Nat → List ByteArray → List ByteArray → Bool → List (S60) → Int → Int → Bool → Int → List Int → Option (Bool)
 | 0, _, _, _, _, _, _, _, _, _ => none
 | k + 1, x6, x9, x63, x247000, x247001, x247002, x247003, x248000, x248001 => if x63 = true then (some false) else ((laws_markStringS.f k x9 1).bind fun bt296 => ((laws_heldStringS.f k bt296.2 1).bind fun t298 => (if t298 < 0 then (some false) else (if t298 = bt296.1 then ((laws_toDisk.f k x247000 x247001 x247002 x247003).bind fun bt299 => ((laws_toLive.f k x248000 x248001).bind fun bt305 => ((impl_Orphans.f k bt299.1 bt299.2.1 bt299.2.2.1 bt299.2.2.2 bt305.1 bt305.2).bind fun t309 => ((laws_eqStringS.f k t309 x6).bind fun t312 => (if t312 = true then ((laws_heldStringS.f k bt296.2 1).bind fun t313 => (if t313 < 0 then (some false) else (if t313 = bt296.1 then (some true) else (some false)))) else (some false)))))) else (some false)))))
def laws_FnExactOrphans.f (k : Nat) (l0_0 : List (S60)) (a0_1 : Int) (a0_2 : Int) (a0_3 : Bool) (a1_0 : Int) (l1_1 : List Int) : Option (Bool) := (laws_szDisk.f k l0_0 a0_1 a0_2 a0_3 1048576).bind fun t248 => (if t248 < 0 then (some true) else ((laws_szLive.f a1_0 l1_1 t248).bind fun t249 => (if t249 < 0 then (some true) else ((laws_toDisk.f k l0_0 a0_1 a0_2 a0_3).bind fun bt250 => ((laws_toLive.f k a1_0 l1_1).bind fun bt256 => ((spec_Orphans.f k bt250.1 bt250.2.1 bt250.2.2.1 bt250.2.2.2 bt256.1 bt256.2).bind fun t260 => ((laws_toDisk.f k l0_0 a0_1 a0_2 a0_3).bind fun bt263 => ((laws_toLive.f k a1_0 l1_1).bind fun bt270 => ((impl_Orphans.f k bt263.1 bt263.2.1 bt263.2.2.1 bt263.2.2.2 bt270.1 bt270.2).bind fun t275 => ((laws_eqStringS.f k t275 t260).bind fun t278 => (if t278 = true then ((laws_toDisk.f k l0_0 a0_1 a0_2 a0_3).bind fun bt279 => ((laws_eqDisk.f k bt263.1 bt263.2.1 bt263.2.2.1 bt263.2.2.2 bt279.1 bt279.2.1 bt279.2.2.1 bt279.2.2.2).bind fun t285 => (if t285 = true then ((laws_toLive.f k a1_0 l1_1).bind fun bt286 => ((laws_eqLive.f k bt270.1 bt270.2 bt286.1 bt286.2).bind fun t290 => (if t290 = true then ((laws_markDisk.f k bt263.1 bt263.2.1 bt263.2.2.1 bt263.2.2.2 1).bind fun bt291 => ((laws_markLive.f k bt270.1 bt270.2 bt291.1).bind fun bt293 => (if bt293.1 < 0 then (laws_FnExactOrphans.j0 k t260 t275 true l0_0 a0_1 a0_2 a0_3 a1_0 l1_1) else ((laws_eqStringS.f k t275 t260).bind fun t295 => (laws_FnExactOrphans.j0 k t260 t275 (!t295) l0_0 a0_1 a0_2 a0_3 a1_0 l1_1))))) else (some false)))) else (some false)))) else (some false))))))))))))
theorem laws_FnExactOrphans.mono_l : ∀ k, (∀ y0 y1 y2 y3 y4 y5 y6 y7 y8, LeO (laws_FnExactOrphans.j0 k y0 y1 y2 y3 y4 y5 y6 y7 y8) (laws_FnExactOrphans.j0 (k + 1) y0 y1 y2 y3 y4 y5 y6 y7 y8))
 | 0 => fun _ _ _ _ _ _ _ _ _ r h => by simp [laws_FnExactOrphans.j0] at h
 | k + 1 => by
  have ih0 := laws_FnExactOrphans.mono_l k
  ·intro y0 y1 y2 y3 y4 y5 y6 y7 y8
   unfold laws_FnExactOrphans.j0
   repeat' first
   | (with_reducible exact ih0 _ _ _ _ _ _ _ _ _)
   | (with_reducible exact impl_Orphans.mono _ _ _ _ _ _ _)
   | (with_reducible exact laws_eqDisk.mono _ _ _ _ _ _ _ _ _)
   | (with_reducible exact laws_eqLive.mono _ _ _ _ _)
   | (with_reducible exact laws_eqStringS.mono _ _ _)
   | (with_reducible exact laws_heldStringS.mono _ _ _)
   | (with_reducible exact laws_markDisk.mono _ _ _ _ _ _)
   | (with_reducible exact laws_markLive.mono _ _ _ _)
   | (with_reducible exact laws_markStringS.mono _ _ _)
   | (with_reducible exact laws_szDisk.mono _ _ _ _ _ _)
   | (with_reducible exact laws_toDisk.mono _ _ _ _ _)
   | (with_reducible exact laws_toLive.mono _ _ _)
   | (with_reducible exact spec_Orphans.mono _ _ _ _ _ _ _)
   | (with_reducible exact LeO.refl _)
   | (with_reducible exact LeO.none _)
   | (with_reducible refine LeO.ite ?_ ?_)
   | (with_reducible refine LeO.bind ?_ (fun _ => ?_))
   | exact ih0 _ _ _ _ _ _ _ _ _
   | exact impl_Orphans.mono _ _ _ _ _ _ _
   | exact laws_eqDisk.mono _ _ _ _ _ _ _ _ _
   | exact laws_eqLive.mono _ _ _ _ _
   | exact laws_eqStringS.mono _ _ _
   | exact laws_heldStringS.mono _ _ _
   | exact laws_markDisk.mono _ _ _ _ _ _
   | exact laws_markLive.mono _ _ _ _
   | exact laws_markStringS.mono _ _ _
   | exact laws_szDisk.mono _ _ _ _ _ _
   | exact laws_toDisk.mono _ _ _ _ _
   | exact laws_toLive.mono _ _ _
   | exact spec_Orphans.mono _ _ _ _ _ _ _
   | exact LeO.none _
   | refine LeO.ite ?_ ?_
   | refine LeO.bind ?_ (fun _ => ?_)
theorem laws_FnExactOrphans.mono : ∀ a0 a1 a2 a3 a4 a5 k, LeO (laws_FnExactOrphans.f k a0 a1 a2 a3 a4 a5) (laws_FnExactOrphans.f (k + 1) a0 a1 a2 a3 a4 a5) := by
 intro a0 a1 a2 a3 a4 a5 k
 have ih0 := laws_FnExactOrphans.mono_l k
 unfold laws_FnExactOrphans.f
 repeat' first
   | (with_reducible exact ih0 _ _ _ _ _ _ _ _ _)
   | (with_reducible exact impl_Orphans.mono _ _ _ _ _ _ _)
   | (with_reducible exact laws_eqDisk.mono _ _ _ _ _ _ _ _ _)
   | (with_reducible exact laws_eqLive.mono _ _ _ _ _)
   | (with_reducible exact laws_eqStringS.mono _ _ _)
   | (with_reducible exact laws_heldStringS.mono _ _ _)
   | (with_reducible exact laws_markDisk.mono _ _ _ _ _ _)
   | (with_reducible exact laws_markLive.mono _ _ _ _)
   | (with_reducible exact laws_markStringS.mono _ _ _)
   | (with_reducible exact laws_szDisk.mono _ _ _ _ _ _)
   | (with_reducible exact laws_toDisk.mono _ _ _ _ _)
   | (with_reducible exact laws_toLive.mono _ _ _)
   | (with_reducible exact spec_Orphans.mono _ _ _ _ _ _ _)
   | (with_reducible exact LeO.refl _)
   | (with_reducible exact LeO.none _)
   | (with_reducible refine LeO.ite ?_ ?_)
   | (with_reducible refine LeO.bind ?_ (fun _ => ?_))
   | exact ih0 _ _ _ _ _ _ _ _ _
   | exact impl_Orphans.mono _ _ _ _ _ _ _
   | exact laws_eqDisk.mono _ _ _ _ _ _ _ _ _
   | exact laws_eqLive.mono _ _ _ _ _
   | exact laws_eqStringS.mono _ _ _
   | exact laws_heldStringS.mono _ _ _
   | exact laws_markDisk.mono _ _ _ _ _ _
   | exact laws_markLive.mono _ _ _ _
   | exact laws_markStringS.mono _ _ _
   | exact laws_szDisk.mono _ _ _ _ _ _
   | exact laws_toDisk.mono _ _ _ _ _
   | exact laws_toLive.mono _ _ _
   | exact spec_Orphans.mono _ _ _ _ _ _ _
   | exact LeO.none _
   | refine LeO.ite ?_ ?_
   | refine LeO.bind ?_ (fun _ => ?_)
set_option maxHeartbeats 8000000 in
set_option maxRecDepth 100000 in
theorem laws_FnExactOrphans.calls (k : Nat) (A0_0 : Option Addr) (c0_0 : Nat) (l0_0 : List (S60)) (a0_1 : Int) (a0_2 : Int) (a0_3 : Bool) (a1_0 : Int) (A1_1 : Option Addr) (c1_1 : Nat) (l1_1 : List Int) (r : Bool) (w : World) (HTab : Tabs w) (hr0_0 : Kd.C k60 w A0_0 l0_0.length l0_0) (hc0_0 : l0_0.length ≤ c0_0) (hr1_1 : Kd.C (Kd.int .i64) w A1_1 l1_1.length l1_1) (hc1_1 : l1_1.length ≤ c1_1) (hrt : r = true) (h : laws_FnExactOrphans.f k l0_0 a0_1 a0_2 a0_3 a1_0 l1_1 = some r) :
  Calls Tryd.prog 3 #[.agg #[.slice A0_0 l0_0.length c0_0, .int .i64 a0_1, .int .i64 a0_2, .bool a0_3], .agg #[.int .i64 a1_0, .slice A1_1 l1_1.length c1_1]] w fun e w' => e = .returned (.bool r) ∧ Below w.heap.size w w' := by
 have hu24 := Tryd.underlying24
 have hu27 := Tryd.underlying27
 have hu34 := Tryd.underlying34
 have hu36 := Tryd.underlying36
 have HRT := Aside0.mk hrt
 clear hrt
 have HR0_0 := Aside0.mk hr0_0
 have HC0_0 := Aside0.mk hc0_0
 clear hr0_0 hc0_0
 have HR1_1 := Aside0.mk hr1_1
 have HC1_1 := Aside0.mk hc1_1
 clear hr1_1 hc1_1
 have HB := Aside0.mk (Below.refl w.heap.size w)
 have H : ((laws_szDisk.f k l0_0 a0_1 a0_2 a0_3 1048576).bind fun t248 => (if t248 < 0 then (some true) else ((laws_szLive.f a1_0 l1_1 t248).bind fun t249 => (if t249 < 0 then (some true) else ((laws_toDisk.f k l0_0 a0_1 a0_2 a0_3).bind fun bt250 => ((laws_toLive.f k a1_0 l1_1).bind fun bt256 => ((spec_Orphans.f k bt250.1 bt250.2.1 bt250.2.2.1 bt250.2.2.2 bt256.1 bt256.2).bind fun t260 => ((laws_toDisk.f k l0_0 a0_1 a0_2 a0_3).bind fun bt263 => ((laws_toLive.f k a1_0 l1_1).bind fun bt270 => ((impl_Orphans.f k bt263.1 bt263.2.1 bt263.2.2.1 bt263.2.2.2 bt270.1 bt270.2).bind fun t275 => ((laws_eqStringS.f k t275 t260).bind fun t278 => (if t278 = true then ((laws_toDisk.f k l0_0 a0_1 a0_2 a0_3).bind fun bt279 => ((laws_eqDisk.f k bt263.1 bt263.2.1 bt263.2.2.1 bt263.2.2.2 bt279.1 bt279.2.1 bt279.2.2.1 bt279.2.2.2).bind fun t285 => (if t285 = true then ((laws_toLive.f k a1_0 l1_1).bind fun bt286 => ((laws_eqLive.f k bt270.1 bt270.2 bt286.1 bt286.2).bind fun t290 => (if t290 = true then ((laws_markDisk.f k bt263.1 bt263.2.1 bt263.2.2.1 bt263.2.2.2 1).bind fun bt291 => ((laws_markLive.f k bt270.1 bt270.2 bt291.1).bind fun bt293 => (if bt293.1 < 0 then (laws_FnExactOrphans.j0 k t260 t275 true l0_0 a0_1 a0_2 a0_3 a1_0 l1_1) else ((laws_eqStringS.f k t275 t260).bind fun t295 => (laws_FnExactOrphans.j0 k t260 t275 (!t295) l0_0 a0_1 a0_2 a0_3 a1_0 l1_1))))) else (some false)))) else (some false)))) else (some false))))))))))))) = some r := h
 clear h
 replace H := Option.bind_eq_some_iff.mp H
 obtain ⟨t248, A30, H⟩ := H
 replace H : (if t248 < 0 then (some true) else ((laws_szLive.f a1_0 l1_1 t248).bind fun t249 => (if t249 < 0 then (some true) else ((laws_toDisk.f k l0_0 a0_1 a0_2 a0_3).bind fun bt250 => ((laws_toLive.f k a1_0 l1_1).bind fun bt256 => ((spec_Orphans.f k bt250.1 bt250.2.1 bt250.2.2.1 bt250.2.2.2 bt256.1 bt256.2).bind fun t260 => ((laws_toDisk.f k l0_0 a0_1 a0_2 a0_3).bind fun bt263 => ((laws_toLive.f k a1_0 l1_1).bind fun bt270 => ((impl_Orphans.f k bt263.1 bt263.2.1 bt263.2.2.1 bt263.2.2.2 bt270.1 bt270.2).bind fun t275 => ((laws_eqStringS.f k t275 t260).bind fun t278 => (if t278 = true then ((laws_toDisk.f k l0_0 a0_1 a0_2 a0_3).bind fun bt279 => ((laws_eqDisk.f k bt263.1 bt263.2.1 bt263.2.2.1 bt263.2.2.2 bt279.1 bt279.2.1 bt279.2.2.1 bt279.2.2.2).bind fun t285 => (if t285 = true then ((laws_toLive.f k a1_0 l1_1).bind fun bt286 => ((laws_eqLive.f k bt270.1 bt270.2 bt286.1 bt286.2).bind fun t290 => (if t290 = true then ((laws_markDisk.f k bt263.1 bt263.2.1 bt263.2.2.1 bt263.2.2.2 1).bind fun bt291 => ((laws_markLive.f k bt270.1 bt270.2 bt291.1).bind fun bt293 => (if bt293.1 < 0 then (laws_FnExactOrphans.j0 k t260 t275 true l0_0 a0_1 a0_2 a0_3 a1_0 l1_1) else ((laws_eqStringS.f k t275 t260).bind fun t295 => (laws_FnExactOrphans.j0 k t260 t275 (!t295) l0_0 a0_1 a0_2 a0_3 a1_0 l1_1))))) else (some false)))) else (some false)))) else (some false)))))))))))) = some r := H
 have A3 := Aside0.mk A30
 clear A30
 by_cases c4 : t248 < 0
 ·rw [if_pos c4] at H
  have c4b0 : decide (t248 < 0) = true := decide_eq_true c4
  clear c4
  obtain rfl := Option.some.inj H
  go_enter Tryd.func3, Tryd.ntmps3
  go_wp2_with (first | ((with_reducible refine gate_dst (N := 2) rfl ?_); refine box_event ?hg (N := 2) ?hd (cs := #[.slice A0_0 l0_0.length c0_0, .int .i64 a0_1, .int .i64 a0_2, .bool a0_3]) (t := 24) ?hr ?_; (case hd => rfl); (case hg => rfl); (case hr => first | (go_simp; done) | (go_simp; rfl)); intro gb246 hg w5 hbox hb; have n0_ := Aside0.mk (below_step (hb_ HB) hb); have n1_ := Aside0.mk (hbox); have n2_ := Aside0.mk ((by rw [hg]; exact (below_size (hb_ HB)) : w.heap.size ≤ gb246)); have n3_ := Aside0.mk ((by rw [hg]; exact (below_size (hb_ HB)) : w.heap.size ≤ gb246)); clear HB; have HB := n0_; have BK246 := n1_; have GW246 := n2_; have GE246 := n3_; clear n0_ n1_ n2_ n3_; clear hb hbox hg) | ((with_reducible refine gate_dst (N := 3) rfl ?_); refine box_event ?hg (N := 3) ?hd (cs := #[.int .i64 a1_0, .slice A1_1 l1_1.length c1_1]) (t := 27) ?hr ?_; (case hd => rfl); (case hg => rfl); (case hr => first | (go_simp; done) | (go_simp; rfl)); intro gb247 hg w6 hbox hb; have n0_ := Aside0.mk (blk_below (g := gb246) (o := .cells #[.slice A0_0 l0_0.length c0_0, .int .i64 a0_1, .int .i64 a0_2, .bool a0_3] 24 (0, 0)) (bk_ BK246) hb); have n1_ := Aside0.mk (below_step (hs_ HB GE246) hb); have n2_ := Aside0.mk (hbox); have n3_ := Aside0.mk ((by rw [hg]; exact (below_size (hs_ HB GE246)) : w.heap.size ≤ gb247)); have n4_ := Aside0.mk ((by rw [hg]; exact (below_size (hs_ HB GE246)) : w.heap.size ≤ gb247)); have n5_ := Aside0.mk ((by rw [hg]; exact Nat.ne_of_lt (blk_lt (g := gb246) (o := .cells #[.slice A0_0 l0_0.length c0_0, .int .i64 a0_1, .int .i64 a0_2, .bool a0_3] 24 (0, 0)) (bk_ BK246)) : gb246 ≠ gb247)); have n6_ := Aside0.mk ((by rw [hg]; exact Nat.ne_of_gt (blk_lt (g := gb246) (o := .cells #[.slice A0_0 l0_0.length c0_0, .int .i64 a0_1, .int .i64 a0_2, .bool a0_3] 24 (0, 0)) (bk_ BK246)) : gb247 ≠ gb246)); clear BK246; clear HB; have BK246 := n0_; have HB := n1_; have BK247 := n2_; have GW247 := n3_; have GE247 := n4_; have NB246_247 := n5_; have NB247_246 := n6_; clear n0_ n1_ n2_ n3_ n4_ n5_ n6_; clear hb hbox hg; have hnb7 := NB246_247.out; have hnc7 := NB247_246.out; have hcz8_0 : w6.cell? ⟨gb246, 0, none⟩ = some (.slice A0_0 l0_0.length c0_0) := (blk_cell BK246.out 0).trans rfl; have hcz8_1 : w6.cell? ⟨gb246, 1, none⟩ = some (.int .i64 a0_1) := (blk_cell BK246.out 1).trans rfl; have hcz8_2 : w6.cell? ⟨gb246, 2, none⟩ = some (.int .i64 a0_2) := (blk_cell BK246.out 2).trans rfl; have hcz8_3 : w6.cell? ⟨gb246, 3, none⟩ = some (.bool a0_3) := (blk_cell BK246.out 3).trans rfl; have hfz8_0 := blk_frozen BK246.out 0; have hfz8_1 := blk_frozen BK246.out 1; have hfz8_2 := blk_frozen BK246.out 2; have hfz8_3 := blk_frozen BK246.out 3) | ((with_reducible refine gate_callee (f := 4) rfl ?_); refine goesL_ (some 16) rfl rfl Tryd.func4 (by kernel_rfl) rfl #[.agg #[.slice A0_0 l0_0.length c0_0, .int .i64 a0_1, .int .i64 a0_2, .bool a0_3], .int .i64 1048576] rfl ar_ ?_; (with_reducible refine (laws_szDisk.calls k _ _ l0_0 a0_1 a0_2 a0_3 1048576 t248 _ ?side1 ?side2 A3.out).mono ?_); (case side1 => repeat (first | exact (Kd.C_below HR0_0.out HB.out) | (with_reducible refine Kd.C_alloc ?_ _) | (with_reducible refine Kd.C_drewN ?_ _) | (with_reducible refine Kd.C_drew ?_))); (case side2 => exact HC0_0.out); rintro e w9 ⟨rfl, hb⟩; refine ⟨_, rfl, ?_⟩; have n0_ := Aside0.mk (blk_below (g := gb246) (o := .cells #[.slice A0_0 l0_0.length c0_0, .int .i64 a0_1, .int .i64 a0_2, .bool a0_3] 24 (0, 0)) (bk_ BK246) hb); have n1_ := Aside0.mk (blk_below (g := gb247) (o := .cells #[.int .i64 a1_0, .slice A1_1 l1_1.length c1_1] 27 (0, 0)) (bk_ BK247) hb); have n2_ := Aside0.mk (below_step (by repeat (first | (with_reducible first | exact HB.out | apply below_alloc | apply pw_below_drewN | apply below_drew1 | refine below_set ?_ GE246.out | refine below_set ?_ GE247.out) | exact HB.out)) hb); clear BK246; clear BK247; clear HB; have BK246 := n0_; have BK247 := n1_; have HB := n2_; clear n0_ n1_ n2_; (try clear hb); (try clear hb2); (try clear hk); (try clear hi)))
  go_ret
  exact ⟨re_, by repeat (first | (with_reducible first | exact HB.out | apply below_alloc | apply pw_below_drewN | apply below_drew1 | refine below_set ?_ GE246.out | refine below_set ?_ GE247.out) | exact HB.out)⟩
 ·rw [if_neg c4] at H
  have c4b0 : decide (t248 < 0) = false := decide_eq_false c4
  clear c4
  replace H := Option.bind_eq_some_iff.mp H
  obtain ⟨t249, A100, H⟩ := H
  replace H : (if t249 < 0 then (some true) else ((laws_toDisk.f k l0_0 a0_1 a0_2 a0_3).bind fun bt250 => ((laws_toLive.f k a1_0 l1_1).bind fun bt256 => ((spec_Orphans.f k bt250.1 bt250.2.1 bt250.2.2.1 bt250.2.2.2 bt256.1 bt256.2).bind fun t260 => ((laws_toDisk.f k l0_0 a0_1 a0_2 a0_3).bind fun bt263 => ((laws_toLive.f k a1_0 l1_1).bind fun bt270 => ((impl_Orphans.f k bt263.1 bt263.2.1 bt263.2.2.1 bt263.2.2.2 bt270.1 bt270.2).bind fun t275 => ((laws_eqStringS.f k t275 t260).bind fun t278 => (if t278 = true then ((laws_toDisk.f k l0_0 a0_1 a0_2 a0_3).bind fun bt279 => ((laws_eqDisk.f k bt263.1 bt263.2.1 bt263.2.2.1 bt263.2.2.2 bt279.1 bt279.2.1 bt279.2.2.1 bt279.2.2.2).bind fun t285 => (if t285 = true then ((laws_toLive.f k a1_0 l1_1).bind fun bt286 => ((laws_eqLive.f k bt270.1 bt270.2 bt286.1 bt286.2).bind fun t290 => (if t290 = true then ((laws_markDisk.f k bt263.1 bt263.2.1 bt263.2.2.1 bt263.2.2.2 1).bind fun bt291 => ((laws_markLive.f k bt270.1 bt270.2 bt291.1).bind fun bt293 => (if bt293.1 < 0 then (laws_FnExactOrphans.j0 k t260 t275 true l0_0 a0_1 a0_2 a0_3 a1_0 l1_1) else ((laws_eqStringS.f k t275 t260).bind fun t295 => (laws_FnExactOrphans.j0 k t260 t275 (!t295) l0_0 a0_1 a0_2 a0_3 a1_0 l1_1))))) else (some false)))) else (some false)))) else (some false)))))))))) = some r := H
  have A10 := Aside0.mk A100
  clear A100
  by_cases c11 : t249 < 0
  ·rw [if_pos c11] at H
   have c11b0 : decide (t249 < 0) = true := decide_eq_true c11
   clear c11
   obtain rfl := Option.some.inj H
   go_enter Tryd.func3, Tryd.ntmps3
   go_wp2_with (first | ((with_reducible refine gate_dst (N := 2) rfl ?_); refine box_event ?hg (N := 2) ?hd (cs := #[.slice A0_0 l0_0.length c0_0, .int .i64 a0_1, .int .i64 a0_2, .bool a0_3]) (t := 24) ?hr ?_; (case hd => rfl); (case hg => rfl); (case hr => first | (go_simp; done) | (go_simp; rfl)); intro gb246 hg w12 hbox hb; have n0_ := Aside0.mk (below_step (hb_ HB) hb); have n1_ := Aside0.mk (hbox); have n2_ := Aside0.mk ((by rw [hg]; exact (below_size (hb_ HB)) : w.heap.size ≤ gb246)); have n3_ := Aside0.mk ((by rw [hg]; exact (below_size (hb_ HB)) : w.heap.size ≤ gb246)); clear HB; have HB := n0_; have BK246 := n1_; have GW246 := n2_; have GE246 := n3_; clear n0_ n1_ n2_ n3_; clear hb hbox hg) | ((with_reducible refine gate_dst (N := 3) rfl ?_); refine box_event ?hg (N := 3) ?hd (cs := #[.int .i64 a1_0, .slice A1_1 l1_1.length c1_1]) (t := 27) ?hr ?_; (case hd => rfl); (case hg => rfl); (case hr => first | (go_simp; done) | (go_simp; rfl)); intro gb247 hg w13 hbox hb; have n0_ := Aside0.mk (blk_below (g := gb246) (o := .cells #[.slice A0_0 l0_0.length c0_0, .int .i64 a0_1, .int .i64 a0_2, .bool a0_3] 24 (0, 0)) (bk_ BK246) hb); have n1_ := Aside0.mk (below_step (hs_ HB GE246) hb); have n2_ := Aside0.mk (hbox); have n3_ := Aside0.mk ((by rw [hg]; exact (below_size (hs_ HB GE246)) : w.heap.size ≤ gb247)); have n4_ := Aside0.mk ((by rw [hg]; exact (below_size (hs_ HB GE246)) : w.heap.size ≤ gb247)); have n5_ := Aside0.mk ((by rw [hg]; exact Nat.ne_of_lt (blk_lt (g := gb246) (o := .cells #[.slice A0_0 l0_0.length c0_0, .int .i64 a0_1, .int .i64 a0_2, .bool a0_3] 24 (0, 0)) (bk_ BK246)) : gb246 ≠ gb247)); have n6_ := Aside0.mk ((by rw [hg]; exact Nat.ne_of_gt (blk_lt (g := gb246) (o := .cells #[.slice A0_0 l0_0.length c0_0, .int .i64 a0_1, .int .i64 a0_2, .bool a0_3] 24 (0, 0)) (bk_ BK246)) : gb247 ≠ gb246)); clear BK246; clear HB; have BK246 := n0_; have HB := n1_; have BK247 := n2_; have GW247 := n3_; have GE247 := n4_; have NB246_247 := n5_; have NB247_246 := n6_; clear n0_ n1_ n2_ n3_ n4_ n5_ n6_; clear hb hbox hg; have hnb14 := NB246_247.out; have hnc14 := NB247_246.out; have hcz15_0 : w13.cell? ⟨gb246, 0, none⟩ = some (.slice A0_0 l0_0.length c0_0) := (blk_cell BK246.out 0).trans rfl; have hcz15_1 : w13.cell? ⟨gb246, 1, none⟩ = some (.int .i64 a0_1) := (blk_cell BK246.out 1).trans rfl; have hcz15_2 : w13.cell? ⟨gb246, 2, none⟩ = some (.int .i64 a0_2) := (blk_cell BK246.out 2).trans rfl; have hcz15_3 : w13.cell? ⟨gb246, 3, none⟩ = some (.bool a0_3) := (blk_cell BK246.out 3).trans rfl; have hfz15_0 := blk_frozen BK246.out 0; have hfz15_1 := blk_frozen BK246.out 1; have hfz15_2 := blk_frozen BK246.out 2; have hfz15_3 := blk_frozen BK246.out 3) | ((with_reducible refine gate_callee (f := 4) rfl ?_); refine goesL_ (some 16) rfl rfl Tryd.func4 (by kernel_rfl) rfl #[.agg #[.slice A0_0 l0_0.length c0_0, .int .i64 a0_1, .int .i64 a0_2, .bool a0_3], .int .i64 1048576] rfl ar_ ?_; (with_reducible refine (laws_szDisk.calls k _ _ l0_0 a0_1 a0_2 a0_3 1048576 t248 _ ?side1 ?side2 A3.out).mono ?_); (case side1 => repeat (first | exact (Kd.C_below HR0_0.out HB.out) | (with_reducible refine Kd.C_alloc ?_ _) | (with_reducible refine Kd.C_drewN ?_ _) | (with_reducible refine Kd.C_drew ?_))); (case side2 => exact HC0_0.out); rintro e w16 ⟨rfl, hb⟩; refine ⟨_, rfl, ?_⟩; have n0_ := Aside0.mk (blk_below (g := gb246) (o := .cells #[.slice A0_0 l0_0.length c0_0, .int .i64 a0_1, .int .i64 a0_2, .bool a0_3] 24 (0, 0)) (bk_ BK246) hb); have n1_ := Aside0.mk (blk_below (g := gb247) (o := .cells #[.int .i64 a1_0, .slice A1_1 l1_1.length c1_1] 27 (0, 0)) (bk_ BK247) hb); have n2_ := Aside0.mk (below_step (by repeat (first | (with_reducible first | exact HB.out | apply below_alloc | apply pw_below_drewN | apply below_drew1 | refine below_set ?_ GE246.out | refine below_set ?_ GE247.out) | exact HB.out)) hb); clear BK246; clear BK247; clear HB; have BK246 := n0_; have BK247 := n1_; have HB := n2_; clear n0_ n1_ n2_; (try clear hb); (try clear hb2); (try clear hk); (try clear hi); have hcz17_0 : w16.cell? ⟨gb247, 0, none⟩ = some (.int .i64 a1_0) := (blk_cell BK247.out 0).trans rfl; have hcz17_1 : w16.cell? ⟨gb247, 1, none⟩ = some (.slice A1_1 l1_1.length c1_1) := (blk_cell BK247.out 1).trans rfl; have hfz17_0 := blk_frozen BK247.out 0; have hfz17_1 := blk_frozen BK247.out 1) | ((with_reducible refine gate_callee (f := 5) rfl ?_); refine goesL_ (some 21) rfl rfl Tryd.func5 (by kernel_rfl) rfl #[.agg #[.int .i64 a1_0, .slice A1_1 l1_1.length c1_1], .int .i64 t248] rfl ar_ ?_; (with_reducible refine (laws_szLive.calls a1_0 _ _ l1_1 t248 t249 _ ?side1 ?side2 A10.out).mono ?_); (case side1 => repeat (first | exact (Kd.C_below HR1_1.out HB.out) | (with_reducible refine Kd.C_alloc ?_ _) | (with_reducible refine Kd.C_drewN ?_ _) | (with_reducible refine Kd.C_drew ?_))); (case side2 => exact HC1_1.out); rintro e w18 ⟨rfl, hb⟩; refine ⟨_, rfl, ?_⟩; have n0_ := Aside0.mk (blk_below (g := gb246) (o := .cells #[.slice A0_0 l0_0.length c0_0, .int .i64 a0_1, .int .i64 a0_2, .bool a0_3] 24 (0, 0)) (bk_ BK246) hb); have n1_ := Aside0.mk (blk_below (g := gb247) (o := .cells #[.int .i64 a1_0, .slice A1_1 l1_1.length c1_1] 27 (0, 0)) (bk_ BK247) hb); have n2_ := Aside0.mk (below_step (by repeat (first | (with_reducible first | exact HB.out | apply below_alloc | apply pw_below_drewN | apply below_drew1 | refine below_set ?_ GE246.out | refine below_set ?_ GE247.out) | exact HB.out)) hb); clear BK246; clear BK247; clear HB; have BK246 := n0_; have BK247 := n1_; have HB := n2_; clear n0_ n1_ n2_; (try clear hb); (try clear hb2); (try clear hk); (try clear hi)))
   go_ret
   exact ⟨re_, by repeat (first | (with_reducible first | exact HB.out | apply below_alloc | apply pw_below_drewN | apply below_drew1 | refine below_set ?_ GE246.out | refine below_set ?_ GE247.out) | exact HB.out)⟩
  ·rw [if_neg c11] at H
   have c11b0 : decide (t249 < 0) = false := decide_eq_false c11
   clear c11
   replace H := Option.bind_eq_some_iff.mp H
   obtain ⟨⟨t250, t253, t254, t255⟩, A190, H⟩ := H
   replace H : ((laws_toLive.f k a1_0 l1_1).bind fun bt256 => ((spec_Orphans.f k t250 t253 t254 t255 bt256.1 bt256.2).bind fun t260 => ((laws_toDisk.f k l0_0 a0_1 a0_2 a0_3).bind fun bt263 => ((laws_toLive.f k a1_0 l1_1).bind fun bt270 => ((impl_Orphans.f k bt263.1 bt263.2.1 bt263.2.2.1 bt263.2.2.2 bt270.1 bt270.2).bind fun t275 => ((laws_eqStringS.f k t275 t260).bind fun t278 => (if t278 = true then ((laws_toDisk.f k l0_0 a0_1 a0_2 a0_3).bind fun bt279 => ((laws_eqDisk.f k bt263.1 bt263.2.1 bt263.2.2.1 bt263.2.2.2 bt279.1 bt279.2.1 bt279.2.2.1 bt279.2.2.2).bind fun t285 => (if t285 = true then ((laws_toLive.f k a1_0 l1_1).bind fun bt286 => ((laws_eqLive.f k bt270.1 bt270.2 bt286.1 bt286.2).bind fun t290 => (if t290 = true then ((laws_markDisk.f k bt263.1 bt263.2.1 bt263.2.2.1 bt263.2.2.2 1).bind fun bt291 => ((laws_markLive.f k bt270.1 bt270.2 bt291.1).bind fun bt293 => (if bt293.1 < 0 then (laws_FnExactOrphans.j0 k t260 t275 true l0_0 a0_1 a0_2 a0_3 a1_0 l1_1) else ((laws_eqStringS.f k t275 t260).bind fun t295 => (laws_FnExactOrphans.j0 k t260 t275 (!t295) l0_0 a0_1 a0_2 a0_3 a1_0 l1_1))))) else (some false)))) else (some false)))) else (some false)))))))) = some r := H
   have A19 := Aside0.mk A190
   clear A190
   replace H := Option.bind_eq_some_iff.mp H
   obtain ⟨⟨t256, t257⟩, A200, H⟩ := H
   replace H : ((spec_Orphans.f k t250 t253 t254 t255 t256 t257).bind fun t260 => ((laws_toDisk.f k l0_0 a0_1 a0_2 a0_3).bind fun bt263 => ((laws_toLive.f k a1_0 l1_1).bind fun bt270 => ((impl_Orphans.f k bt263.1 bt263.2.1 bt263.2.2.1 bt263.2.2.2 bt270.1 bt270.2).bind fun t275 => ((laws_eqStringS.f k t275 t260).bind fun t278 => (if t278 = true then ((laws_toDisk.f k l0_0 a0_1 a0_2 a0_3).bind fun bt279 => ((laws_eqDisk.f k bt263.1 bt263.2.1 bt263.2.2.1 bt263.2.2.2 bt279.1 bt279.2.1 bt279.2.2.1 bt279.2.2.2).bind fun t285 => (if t285 = true then ((laws_toLive.f k a1_0 l1_1).bind fun bt286 => ((laws_eqLive.f k bt270.1 bt270.2 bt286.1 bt286.2).bind fun t290 => (if t290 = true then ((laws_markDisk.f k bt263.1 bt263.2.1 bt263.2.2.1 bt263.2.2.2 1).bind fun bt291 => ((laws_markLive.f k bt270.1 bt270.2 bt291.1).bind fun bt293 => (if bt293.1 < 0 then (laws_FnExactOrphans.j0 k t260 t275 true l0_0 a0_1 a0_2 a0_3 a1_0 l1_1) else ((laws_eqStringS.f k t275 t260).bind fun t295 => (laws_FnExactOrphans.j0 k t260 t275 (!t295) l0_0 a0_1 a0_2 a0_3 a1_0 l1_1))))) else (some false)))) else (some false)))) else (some false))))))) = some r := H
   have A20 := Aside0.mk A200
   clear A200
   replace H := Option.bind_eq_some_iff.mp H
   obtain ⟨t260, A210, H⟩ := H
   replace H : ((laws_toDisk.f k l0_0 a0_1 a0_2 a0_3).bind fun bt263 => ((laws_toLive.f k a1_0 l1_1).bind fun bt270 => ((impl_Orphans.f k bt263.1 bt263.2.1 bt263.2.2.1 bt263.2.2.2 bt270.1 bt270.2).bind fun t275 => ((laws_eqStringS.f k t275 t260).bind fun t278 => (if t278 = true then ((laws_toDisk.f k l0_0 a0_1 a0_2 a0_3).bind fun bt279 => ((laws_eqDisk.f k bt263.1 bt263.2.1 bt263.2.2.1 bt263.2.2.2 bt279.1 bt279.2.1 bt279.2.2.1 bt279.2.2.2).bind fun t285 => (if t285 = true then ((laws_toLive.f k a1_0 l1_1).bind fun bt286 => ((laws_eqLive.f k bt270.1 bt270.2 bt286.1 bt286.2).bind fun t290 => (if t290 = true then ((laws_markDisk.f k bt263.1 bt263.2.1 bt263.2.2.1 bt263.2.2.2 1).bind fun bt291 => ((laws_markLive.f k bt270.1 bt270.2 bt291.1).bind fun bt293 => (if bt293.1 < 0 then (laws_FnExactOrphans.j0 k t260 t275 true l0_0 a0_1 a0_2 a0_3 a1_0 l1_1) else ((laws_eqStringS.f k t275 t260).bind fun t295 => (laws_FnExactOrphans.j0 k t260 t275 (!t295) l0_0 a0_1 a0_2 a0_3 a1_0 l1_1))))) else (some false)))) else (some false)))) else (some false)))))) = some r := H
   have A21 := Aside0.mk A210
   clear A210
   replace H := Option.bind_eq_some_iff.mp H
   obtain ⟨⟨t263, t266, t267, t268⟩, A220, H⟩ := H
   replace H : ((laws_toLive.f k a1_0 l1_1).bind fun bt270 => ((impl_Orphans.f k t263 t266 t267 t268 bt270.1 bt270.2).bind fun t275 => ((laws_eqStringS.f k t275 t260).bind fun t278 => (if t278 = true then ((laws_toDisk.f k l0_0 a0_1 a0_2 a0_3).bind fun bt279 => ((laws_eqDisk.f k t263 t266 t267 t268 bt279.1 bt279.2.1 bt279.2.2.1 bt279.2.2.2).bind fun t285 => (if t285 = true then ((laws_toLive.f k a1_0 l1_1).bind fun bt286 => ((laws_eqLive.f k bt270.1 bt270.2 bt286.1 bt286.2).bind fun t290 => (if t290 = true then ((laws_markDisk.f k t263 t266 t267 t268 1).bind fun bt291 => ((laws_markLive.f k bt270.1 bt270.2 bt291.1).bind fun bt293 => (if bt293.1 < 0 then (laws_FnExactOrphans.j0 k t260 t275 true l0_0 a0_1 a0_2 a0_3 a1_0 l1_1) else ((laws_eqStringS.f k t275 t260).bind fun t295 => (laws_FnExactOrphans.j0 k t260 t275 (!t295) l0_0 a0_1 a0_2 a0_3 a1_0 l1_1))))) else (some false)))) else (some false)))) else (some false))))) = some r := H
   have A22 := Aside0.mk A220
   clear A220
   replace H := Option.bind_eq_some_iff.mp H
   obtain ⟨⟨t270, t271⟩, A230, H⟩ := H
   replace H : ((impl_Orphans.f k t263 t266 t267 t268 t270 t271).bind fun t275 => ((laws_eqStringS.f k t275 t260).bind fun t278 => (if t278 = true then ((laws_toDisk.f k l0_0 a0_1 a0_2 a0_3).bind fun bt279 => ((laws_eqDisk.f k t263 t266 t267 t268 bt279.1 bt279.2.1 bt279.2.2.1 bt279.2.2.2).bind fun t285 => (if t285 = true then ((laws_toLive.f k a1_0 l1_1).bind fun bt286 => ((laws_eqLive.f k t270 t271 bt286.1 bt286.2).bind fun t290 => (if t290 = true then ((laws_markDisk.f k t263 t266 t267 t268 1).bind fun bt291 => ((laws_markLive.f k t270 t271 bt291.1).bind fun bt293 => (if bt293.1 < 0 then (laws_FnExactOrphans.j0 k t260 t275 true l0_0 a0_1 a0_2 a0_3 a1_0 l1_1) else ((laws_eqStringS.f k t275 t260).bind fun t295 => (laws_FnExactOrphans.j0 k t260 t275 (!t295) l0_0 a0_1 a0_2 a0_3 a1_0 l1_1))))) else (some false)))) else (some false)))) else (some false)))) = some r := H
   have A23 := Aside0.mk A230
   clear A230
   replace H := Option.bind_eq_some_iff.mp H
   obtain ⟨t275, A240, H⟩ := H
   replace H : ((laws_eqStringS.f k t275 t260).bind fun t278 => (if t278 = true then ((laws_toDisk.f k l0_0 a0_1 a0_2 a0_3).bind fun bt279 => ((laws_eqDisk.f k t263 t266 t267 t268 bt279.1 bt279.2.1 bt279.2.2.1 bt279.2.2.2).bind fun t285 => (if t285 = true then ((laws_toLive.f k a1_0 l1_1).bind fun bt286 => ((laws_eqLive.f k t270 t271 bt286.1 bt286.2).bind fun t290 => (if t290 = true then ((laws_markDisk.f k t263 t266 t267 t268 1).bind fun bt291 => ((laws_markLive.f k t270 t271 bt291.1).bind fun bt293 => (if bt293.1 < 0 then (laws_FnExactOrphans.j0 k t260 t275 true l0_0 a0_1 a0_2 a0_3 a1_0 l1_1) else ((laws_eqStringS.f k t275 t260).bind fun t295 => (laws_FnExactOrphans.j0 k t260 t275 (!t295) l0_0 a0_1 a0_2 a0_3 a1_0 l1_1))))) else (some false)))) else (some false)))) else (some false))) = some r := H
   have A24 := Aside0.mk A240
   clear A240
   replace H := Option.bind_eq_some_iff.mp H
   obtain ⟨t278, A250, H⟩ := H
   replace H : (if t278 = true then ((laws_toDisk.f k l0_0 a0_1 a0_2 a0_3).bind fun bt279 => ((laws_eqDisk.f k t263 t266 t267 t268 bt279.1 bt279.2.1 bt279.2.2.1 bt279.2.2.2).bind fun t285 => (if t285 = true then ((laws_toLive.f k a1_0 l1_1).bind fun bt286 => ((laws_eqLive.f k t270 t271 bt286.1 bt286.2).bind fun t290 => (if t290 = true then ((laws_markDisk.f k t263 t266 t267 t268 1).bind fun bt291 => ((laws_markLive.f k t270 t271 bt291.1).bind fun bt293 => (if bt293.1 < 0 then (laws_FnExactOrphans.j0 k t260 t275 true l0_0 a0_1 a0_2 a0_3 a1_0 l1_1) else ((laws_eqStringS.f k t275 t260).bind fun t295 => (laws_FnExactOrphans.j0 k t260 t275 (!t295) l0_0 a0_1 a0_2 a0_3 a1_0 l1_1))))) else (some false)))) else (some false)))) else (some false)) = some r := H
   have A25 := Aside0.mk A250
   clear A250
   by_cases c26 : t278 = true
   ·subst c26
    have H1 : ((laws_toDisk.f k l0_0 a0_1 a0_2 a0_3).bind fun bt279 => ((laws_eqDisk.f k t263 t266 t267 t268 bt279.1 bt279.2.1 bt279.2.2.1 bt279.2.2.2).bind fun t285 => (if t285 = true then ((laws_toLive.f k a1_0 l1_1).bind fun bt286 => ((laws_eqLive.f k t270 t271 bt286.1 bt286.2).bind fun t290 => (if t290 = true then ((laws_markDisk.f k t263 t266 t267 t268 1).bind fun bt291 => ((laws_markLive.f k t270 t271 bt291.1).bind fun bt293 => (if bt293.1 < 0 then (laws_FnExactOrphans.j0 k t260 t275 true l0_0 a0_1 a0_2 a0_3 a1_0 l1_1) else ((laws_eqStringS.f k t275 t260).bind fun t295 => (laws_FnExactOrphans.j0 k t260 t275 (!t295) l0_0 a0_1 a0_2 a0_3 a1_0 l1_1))))) else (some false)))) else (some false)))) = some r := by rw [if_pos rfl] at H; exact H
    clear H
    have H := H1
    clear H1
    replace H := Option.bind_eq_some_iff.mp H
    obtain ⟨⟨t279, t282, t283, t284⟩, A270, H⟩ := H
    replace H : ((laws_eqDisk.f k t263 t266 t267 t268 t279 t282 t283 t284).bind fun t285 => (if t285 = true then ((laws_toLive.f k a1_0 l1_1).bind fun bt286 => ((laws_eqLive.f k t270 t271 bt286.1 bt286.2).bind fun t290 => (if t290 = true then ((laws_markDisk.f k t263 t266 t267 t268 1).bind fun bt291 => ((laws_markLive.f k t270 t271 bt291.1).bind fun bt293 => (if bt293.1 < 0 then (laws_FnExactOrphans.j0 k t260 t275 true l0_0 a0_1 a0_2 a0_3 a1_0 l1_1) else ((laws_eqStringS.f k t275 t260).bind fun t295 => (laws_FnExactOrphans.j0 k t260 t275 (!t295) l0_0 a0_1 a0_2 a0_3 a1_0 l1_1))))) else (some false)))) else (some false))) = some r := H
    have A27 := Aside0.mk A270
    clear A270
    replace H := Option.bind_eq_some_iff.mp H
    obtain ⟨t285, A280, H⟩ := H
    replace H : (if t285 = true then ((laws_toLive.f k a1_0 l1_1).bind fun bt286 => ((laws_eqLive.f k t270 t271 bt286.1 bt286.2).bind fun t290 => (if t290 = true then ((laws_markDisk.f k t263 t266 t267 t268 1).bind fun bt291 => ((laws_markLive.f k t270 t271 bt291.1).bind fun bt293 => (if bt293.1 < 0 then (laws_FnExactOrphans.j0 k t260 t275 true l0_0 a0_1 a0_2 a0_3 a1_0 l1_1) else ((laws_eqStringS.f k t275 t260).bind fun t295 => (laws_FnExactOrphans.j0 k t260 t275 (!t295) l0_0 a0_1 a0_2 a0_3 a1_0 l1_1))))) else (some false)))) else (some false)) = some r := H
    have A28 := Aside0.mk A280
    clear A280
    by_cases c29 : t285 = true
    ·subst c29
     have H1 : ((laws_toLive.f k a1_0 l1_1).bind fun bt286 => ((laws_eqLive.f k t270 t271 bt286.1 bt286.2).bind fun t290 => (if t290 = true then ((laws_markDisk.f k t263 t266 t267 t268 1).bind fun bt291 => ((laws_markLive.f k t270 t271 bt291.1).bind fun bt293 => (if bt293.1 < 0 then (laws_FnExactOrphans.j0 k t260 t275 true l0_0 a0_1 a0_2 a0_3 a1_0 l1_1) else ((laws_eqStringS.f k t275 t260).bind fun t295 => (laws_FnExactOrphans.j0 k t260 t275 (!t295) l0_0 a0_1 a0_2 a0_3 a1_0 l1_1))))) else (some false)))) = some r := by rw [if_pos rfl] at H; exact H
     clear H
     have H := H1
     clear H1
     replace H := Option.bind_eq_some_iff.mp H
     obtain ⟨⟨t286, t287⟩, A300, H⟩ := H
     replace H : ((laws_eqLive.f k t270 t271 t286 t287).bind fun t290 => (if t290 = true then ((laws_markDisk.f k t263 t266 t267 t268 1).bind fun bt291 => ((laws_markLive.f k t270 t271 bt291.1).bind fun bt293 => (if bt293.1 < 0 then (laws_FnExactOrphans.j0 k t260 t275 true l0_0 a0_1 a0_2 a0_3 a1_0 l1_1) else ((laws_eqStringS.f k t275 t260).bind fun t295 => (laws_FnExactOrphans.j0 k t260 t275 (!t295) l0_0 a0_1 a0_2 a0_3 a1_0 l1_1))))) else (some false))) = some r := H
     have A30 := Aside0.mk A300
     clear A300
     replace H := Option.bind_eq_some_iff.mp H
     obtain ⟨t290, A310, H⟩ := H
     replace H : (if t290 = true then ((laws_markDisk.f k t263 t266 t267 t268 1).bind fun bt291 => ((laws_markLive.f k t270 t271 bt291.1).bind fun bt293 => (if bt293.1 < 0 then (laws_FnExactOrphans.j0 k t260 t275 true l0_0 a0_1 a0_2 a0_3 a1_0 l1_1) else ((laws_eqStringS.f k t275 t260).bind fun t295 => (laws_FnExactOrphans.j0 k t260 t275 (!t295) l0_0 a0_1 a0_2 a0_3 a1_0 l1_1))))) else (some false)) = some r := H
     have A31 := Aside0.mk A310
     clear A310
     by_cases c32 : t290 = true
     ·subst c32
      have H1 : ((laws_markDisk.f k t263 t266 t267 t268 1).bind fun bt291 => ((laws_markLive.f k t270 t271 bt291.1).bind fun bt293 => (if bt293.1 < 0 then (laws_FnExactOrphans.j0 k t260 t275 true l0_0 a0_1 a0_2 a0_3 a1_0 l1_1) else ((laws_eqStringS.f k t275 t260).bind fun t295 => (laws_FnExactOrphans.j0 k t260 t275 (!t295) l0_0 a0_1 a0_2 a0_3 a1_0 l1_1))))) = some r := by rw [if_pos rfl] at H; exact H
      clear H
      have H := H1
      clear H1
      replace H := Option.bind_eq_some_iff.mp H
      obtain ⟨⟨t291, t292⟩, A330, H⟩ := H
      replace H : ((laws_markLive.f k t270 t271 t291).bind fun bt293 => (if bt293.1 < 0 then (laws_FnExactOrphans.j0 k t260 t275 true l0_0 a0_1 a0_2 a0_3 a1_0 l1_1) else ((laws_eqStringS.f k t275 t260).bind fun t295 => (laws_FnExactOrphans.j0 k t260 t275 (!t295) l0_0 a0_1 a0_2 a0_3 a1_0 l1_1)))) = some r := H
      have A33 := Aside0.mk A330
      clear A330
      replace H := Option.bind_eq_some_iff.mp H
      obtain ⟨⟨t293, t294⟩, A340, H⟩ := H
      replace H : (if t293 < 0 then (laws_FnExactOrphans.j0 k t260 t275 true l0_0 a0_1 a0_2 a0_3 a1_0 l1_1) else ((laws_eqStringS.f k t275 t260).bind fun t295 => (laws_FnExactOrphans.j0 k t260 t275 (!t295) l0_0 a0_1 a0_2 a0_3 a1_0 l1_1))) = some r := H
      have A34 := Aside0.mk A340
      clear A340
      have HC35 := Aside0.mk H
      clear H
      go_enter Tryd.func3, Tryd.ntmps3
      try go_wp2_with (first | ((with_reducible refine gate_dst (N := 2) rfl ?_); refine box_event ?hg (N := 2) ?hd (cs := #[.slice A0_0 l0_0.length c0_0, .int .i64 a0_1, .int .i64 a0_2, .bool a0_3]) (t := 24) ?hr ?_; (case hd => rfl); (case hg => rfl); (case hr => first | (go_simp; done) | (go_simp; rfl)); intro gb246 hg w36 hbox hb; have n0_ := Aside0.mk (below_step (hb_ HB) hb); have n1_ := Aside0.mk (hbox); have n2_ := Aside0.mk ((by rw [hg]; exact (below_size (hb_ HB)) : w.heap.size ≤ gb246)); have n3_ := Aside0.mk ((by rw [hg]; exact (below_size (hb_ HB)) : w.heap.size ≤ gb246)); clear HB; have HB := n0_; have BK246 := n1_; have GW246 := n2_; have GE246 := n3_; clear n0_ n1_ n2_ n3_; clear hb hbox hg) | ((with_reducible refine gate_dst (N := 3) rfl ?_); refine box_event ?hg (N := 3) ?hd (cs := #[.int .i64 a1_0, .slice A1_1 l1_1.length c1_1]) (t := 27) ?hr ?_; (case hd => rfl); (case hg => rfl); (case hr => first | (go_simp; done) | (go_simp; rfl)); intro gb247 hg w37 hbox hb; have n0_ := Aside0.mk (blk_below (g := gb246) (o := .cells #[.slice A0_0 l0_0.length c0_0, .int .i64 a0_1, .int .i64 a0_2, .bool a0_3] 24 (0, 0)) (bk_ BK246) hb); have n1_ := Aside0.mk (below_step (hs_ HB GE246) hb); have n2_ := Aside0.mk (hbox); have n3_ := Aside0.mk ((by rw [hg]; exact (below_size (hs_ HB GE246)) : w.heap.size ≤ gb247)); have n4_ := Aside0.mk ((by rw [hg]; exact (below_size (hs_ HB GE246)) : w.heap.size ≤ gb247)); have n5_ := Aside0.mk ((by rw [hg]; exact Nat.ne_of_lt (blk_lt (g := gb246) (o := .cells #[.slice A0_0 l0_0.length c0_0, .int .i64 a0_1, .int .i64 a0_2, .bool a0_3] 24 (0, 0)) (bk_ BK246)) : gb246 ≠ gb247)); have n6_ := Aside0.mk ((by rw [hg]; exact Nat.ne_of_gt (blk_lt (g := gb246) (o := .cells #[.slice A0_0 l0_0.length c0_0, .int .i64 a0_1, .int .i64 a0_2, .bool a0_3] 24 (0, 0)) (bk_ BK246)) : gb247 ≠ gb246)); clear BK246; clear HB; have BK246 := n0_; have HB := n1_; have BK247 := n2_; have GW247 := n3_; have GE247 := n4_; have NB246_247 := n5_; have NB247_246 := n6_; clear n0_ n1_ n2_ n3_ n4_ n5_ n6_; clear hb hbox hg; have hnb38 := NB246_247.out; have hnc38 := NB247_246.out; have hcz39_0 : w37.cell? ⟨gb246, 0, none⟩ = some (.slice A0_0 l0_0.length c0_0) := (blk_cell BK246.out 0).trans rfl; have hcz39_1 : w37.cell? ⟨gb246, 1, none⟩ = some (.int .i64 a0_1) := (blk_cell BK246.out 1).trans rfl; have hcz39_2 : w37.cell? ⟨gb246, 2, none⟩ = some (.int .i64 a0_2) := (blk_cell BK246.out 2).trans rfl; have hcz39_3 : w37.cell? ⟨gb246, 3, none⟩ = some (.bool a0_3) := (blk_cell BK246.out 3).trans rfl; have hfz39_0 := blk_frozen BK246.out 0; have hfz39_1 := blk_frozen BK246.out 1; have hfz39_2 := blk_frozen BK246.out 2; have hfz39_3 := blk_frozen BK246.out 3) | ((with_reducible refine gate_callee (f := 4) rfl ?_); refine goesL_ (some 16) rfl rfl Tryd.func4 (by kernel_rfl) rfl #[.agg #[.slice A0_0 l0_0.length c0_0, .int .i64 a0_1, .int .i64 a0_2, .bool a0_3], .int .i64 1048576] rfl ar_ ?_; (with_reducible refine (laws_szDisk.calls k _ _ l0_0 a0_1 a0_2 a0_3 1048576 t248 _ ?side1 ?side2 A3.out).mono ?_); (case side1 => repeat (first | exact (Kd.C_below HR0_0.out HB.out) | (with_reducible refine Kd.C_alloc ?_ _) | (with_reducible refine Kd.C_drewN ?_ _) | (with_reducible refine Kd.C_drew ?_))); (case side2 => exact HC0_0.out); rintro e w40 ⟨rfl, hb⟩; refine ⟨_, rfl, ?_⟩; have n0_ := Aside0.mk (blk_below (g := gb246) (o := .cells #[.slice A0_0 l0_0.length c0_0, .int .i64 a0_1, .int .i64 a0_2, .bool a0_3] 24 (0, 0)) (bk_ BK246) hb); have n1_ := Aside0.mk (blk_below (g := gb247) (o := .cells #[.int .i64 a1_0, .slice A1_1 l1_1.length c1_1] 27 (0, 0)) (bk_ BK247) hb); have n2_ := Aside0.mk (below_step (by repeat (first | (with_reducible first | exact HB.out | apply below_alloc | apply pw_below_drewN | apply below_drew1 | refine below_set ?_ GE246.out | refine below_set ?_ GE247.out) | exact HB.out)) hb); clear BK246; clear BK247; clear HB; have BK246 := n0_; have BK247 := n1_; have HB := n2_; clear n0_ n1_ n2_; (try clear hb); (try clear hb2); (try clear hk); (try clear hi); have hcz41_0 : w40.cell? ⟨gb247, 0, none⟩ = some (.int .i64 a1_0) := (blk_cell BK247.out 0).trans rfl; have hcz41_1 : w40.cell? ⟨gb247, 1, none⟩ = some (.slice A1_1 l1_1.length c1_1) := (blk_cell BK247.out 1).trans rfl; have hfz41_0 := blk_frozen BK247.out 0; have hfz41_1 := blk_frozen BK247.out 1) | ((with_reducible refine gate_callee (f := 5) rfl ?_); refine goesL_ (some 21) rfl rfl Tryd.func5 (by kernel_rfl) rfl #[.agg #[.int .i64 a1_0, .slice A1_1 l1_1.length c1_1], .int .i64 t248] rfl ar_ ?_; (with_reducible refine (laws_szLive.calls a1_0 _ _ l1_1 t248 t249 _ ?side1 ?side2 A10.out).mono ?_); (case side1 => repeat (first | exact (Kd.C_below HR1_1.out HB.out) | (with_reducible refine Kd.C_alloc ?_ _) | (with_reducible refine Kd.C_drewN ?_ _) | (with_reducible refine Kd.C_drew ?_))); (case side2 => exact HC1_1.out); rintro e w42 ⟨rfl, hb⟩; refine ⟨_, rfl, ?_⟩; have n0_ := Aside0.mk (blk_below (g := gb246) (o := .cells #[.slice A0_0 l0_0.length c0_0, .int .i64 a0_1, .int .i64 a0_2, .bool a0_3] 24 (0, 0)) (bk_ BK246) hb); have n1_ := Aside0.mk (blk_below (g := gb247) (o := .cells #[.int .i64 a1_0, .slice A1_1 l1_1.length c1_1] 27 (0, 0)) (bk_ BK247) hb); have n2_ := Aside0.mk (below_step (by repeat (first | (with_reducible first | exact HB.out | apply below_alloc | apply pw_below_drewN | apply below_drew1 | refine below_set ?_ GE246.out | refine below_set ?_ GE247.out) | exact HB.out)) hb); clear BK246; clear BK247; clear HB; have BK246 := n0_; have BK247 := n1_; have HB := n2_; clear n0_ n1_ n2_; (try clear hb); (try clear hb2); (try clear hk); (try clear hi)))
      have n0_ := Aside0.mk (blk_drew BK246.out)
      have n1_ := Aside0.mk (blk_drew BK247.out)
      have n2_ := Aside0.mk (below_drew1 HB.out)
      clear BK246
      clear BK247
      clear HB
      have BK246 := n0_
      have BK247 := n1_
      have HB := n2_
      clear n0_ n1_ n2_
      refine start_ (n := 6) (S := fun w' => w'.cell? ⟨gb246, 0, none⟩ = some (.slice A0_0 l0_0.length c0_0) ∧ w'.cell? ⟨gb246, 1, none⟩ = some (.int .i64 a0_1) ∧ w'.cell? ⟨gb246, 2, none⟩ = some (.int .i64 a0_2) ∧ w'.cell? ⟨gb246, 3, none⟩ = some (.bool a0_3) ∧ w'.cell? ⟨gb247, 0, none⟩ = some (.int .i64 a1_0) ∧ w'.cell? ⟨gb247, 1, none⟩ = some (.slice A1_1 l1_1.length c1_1)) (ds := []) #[o',o',o',o',o',o'] (by kernel_rfl) rfl rfl ⟨(blk_cell BK246.out 0).trans rfl, (blk_cell BK246.out 1).trans rfl, (blk_cell BK246.out 2).trans rfl, (blk_cell BK246.out 3).trans rfl, (blk_cell BK247.out 0).trans rfl, (blk_cell BK247.out 1).trans rfl⟩ (fun hHeld => ?_)
      generalize w42.drew = w43 at BK246 BK247 HB hHeld ⊢
      refine take_ (i := 0) (N := some 24) (v := ?_) (a' := ?_) #[i',o',o',o',o',o'] rfl rfl (by kernel_rfl) (fun _ _ _ h => h) (Or.inl ⟨by rfl, ?_⟩) hHeld ?_ ?_
      rotate_left
      ·rintro w' ⟨s0, s1, s2, s3, s4, s5⟩
       go_simp
       with_reducible rfl
      rotate_left
      ·simp only [Act.put, la_, lz_, ls_, i64_w, i32_w]
       rfl
      refine take_ (i := 2) (N := some 26) (v := ?_) (a' := ?_) #[i',o',i',o',o',o'] rfl rfl (by kernel_rfl) (fun _ _ _ h => h) (Or.inl ⟨by rfl, ?_⟩) hHeld ?_ ?_
      rotate_left
      ·rintro w' ⟨s0, s1, s2, s3, s4, s5⟩
       go_simp
       with_reducible rfl
      rotate_left
      ·simp only [Act.put, la_, lz_, ls_, i64_w, i32_w]
       rfl
      refine one_ (i := 1) (N := some 25) #[i',i',i',o',o',o'] rfl rfl (by kernel_rfl) (by decide) (fun K hK => ?_)
      refine goes_ Tryd.func7 (by kernel_rfl) rfl #[.agg #[.slice A0_0 l0_0.length c0_0, .int .i64 a0_1, .int .i64 a0_2, .bool a0_3]] (by rfl) rfl rfl ar_ ?_
      with_reducible refine (laws_toDisk.calls k _ _ l0_0 a0_1 a0_2 a0_3 t250 t253 t254 t255 _ ?side1 ?side2 A19.out).mono ?_
      (case side1 => repeat (first | exact (Kd.C_below HR0_0.out HB.out) | (with_reducible refine Kd.C_alloc ?_ _) | (with_reducible refine Kd.C_drewN ?_ _) | (with_reducible refine Kd.C_drew ?_)))
      (case side2 => exact HC0_0.out)
      rintro e w44 ⟨v251, rfl, ho0, hb⟩
      refine ⟨_, rfl, ?_⟩
      have n0_ := Aside0.mk (Kd.R_lower ho0 (below_size (by repeat (first | (with_reducible first | exact HB.out | apply below_alloc | apply pw_below_drewN | apply below_drew1 | refine below_set ?_ GE246.out | refine below_set ?_ GE247.out) | exact HB.out))))
      have n1_ := Aside0.mk (blk_below (g := gb246) (o := .cells #[.slice A0_0 l0_0.length c0_0, .int .i64 a0_1, .int .i64 a0_2, .bool a0_3] 24 (0, 0)) (bk_ BK246) hb)
      have n2_ := Aside0.mk (blk_below (g := gb247) (o := .cells #[.int .i64 a1_0, .slice A1_1 l1_1.length c1_1] 27 (0, 0)) (bk_ BK247) hb)
      have n3_ := Aside0.mk (below_step (by repeat (first | (with_reducible first | exact HB.out | apply below_alloc | apply pw_below_drewN | apply below_drew1 | refine below_set ?_ GE246.out | refine below_set ?_ GE247.out) | exact HB.out)) hb)
      clear BK246
      clear BK247
      clear HB
      have HO252 := n0_
      have BK246 := n1_
      have BK247 := n2_
      have HB := n3_
      clear n0_ n1_ n2_ n3_
      (try clear hb)
      (try clear hb2)
      (try clear hk)
      (try clear hi)
      (try clear ho0)
      refine hK.out _ _ ⟨(blk_cell BK246.out 0).trans rfl, (blk_cell BK246.out 1).trans rfl, (blk_cell BK246.out 2).trans rfl, (blk_cell BK246.out 3).trans rfl, (blk_cell BK247.out 0).trans rfl, (blk_cell BK247.out 1).trans rfl⟩ (fun hHeld => ?_)
      clear hK K
      refine norm_ (a' := ?_) ?_ ?_
      rotate_left
      ·show Act.put _ (some 25) _ = _
       simp only [Act.put, la_, lz_, ls_, i64_w, i32_w]
       rfl
      refine one_ (i := 3) (N := some 27) #[i',i',i',i',o',o'] rfl rfl (by kernel_rfl) (by decide) (fun K hK => ?_)
      refine goes_ Tryd.func8 (by kernel_rfl) rfl #[.agg #[.int .i64 a1_0, .slice A1_1 l1_1.length c1_1]] (by rfl) rfl rfl ar_ ?_
      with_reducible refine (laws_toLive.calls k a1_0 _ _ l1_1 t256 t257 _ ?side1 ?side2 A20.out).mono ?_
      (case side1 => repeat (first | exact (Kd.C_below HR1_1.out HB.out) | (with_reducible refine Kd.C_alloc ?_ _) | (with_reducible refine Kd.C_drewN ?_ _) | (with_reducible refine Kd.C_drew ?_)))
      (case side2 => exact HC1_1.out)
      rintro e w45 ⟨v258, rfl, ho0, hb⟩
      refine ⟨_, rfl, ?_⟩
      have n0_ := Aside0.mk (Kd.R_below (rr_ HO252) hb)
      have n1_ := Aside0.mk (Kd.R_lower ho0 (below_size (by repeat (first | (with_reducible first | exact HB.out | apply below_alloc | apply pw_below_drewN | apply below_drew1 | refine below_set ?_ GE246.out | refine below_set ?_ GE247.out) | exact HB.out))))
      have n2_ := Aside0.mk (blk_below (g := gb246) (o := .cells #[.slice A0_0 l0_0.length c0_0, .int .i64 a0_1, .int .i64 a0_2, .bool a0_3] 24 (0, 0)) (bk_ BK246) hb)
      have n3_ := Aside0.mk (blk_below (g := gb247) (o := .cells #[.int .i64 a1_0, .slice A1_1 l1_1.length c1_1] 27 (0, 0)) (bk_ BK247) hb)
      have n4_ := Aside0.mk (below_step (by repeat (first | (with_reducible first | exact HB.out | apply below_alloc | apply pw_below_drewN | apply below_drew1 | refine below_set ?_ GE246.out | refine below_set ?_ GE247.out) | exact HB.out)) hb)
      clear HO252
      clear BK246
      clear BK247
      clear HB
      have HO252 := n0_
      have HO259 := n1_
      have BK246 := n2_
      have BK247 := n3_
      have HB := n4_
      clear n0_ n1_ n2_ n3_ n4_
      (try clear hb)
      (try clear hb2)
      (try clear hk)
      (try clear hi)
      (try clear ho0)
      obtain ⟨Ao46, co46, eo46⟩ := Kd.R_slice HO252.out
      (first | subst eo46 | (injection eo46 with f1_ f2_ f3_; have f4_ := f1_.symm; have f5_ := f3_.symm; clear f1_ f2_ f3_; subst f4_; subst f5_))
      obtain ⟨Ao47, co47, eo47⟩ := Kd.R_slice HO259.out
      (first | subst eo47 | (injection eo47 with f1_ f2_ f3_; have f4_ := f1_.symm; have f5_ := f3_.symm; clear f1_ f2_ f3_; subst f4_; subst f5_))
      refine hK.out _ _ ⟨(blk_cell BK246.out 0).trans rfl, (blk_cell BK246.out 1).trans rfl, (blk_cell BK246.out 2).trans rfl, (blk_cell BK246.out 3).trans rfl, (blk_cell BK247.out 0).trans rfl, (blk_cell BK247.out 1).trans rfl⟩ (fun hHeld => ?_)
      clear hK K
      refine norm_ (a' := ?_) ?_ ?_
      rotate_left
      ·show Act.put _ (some 27) _ = _
       simp only [Act.put, la_, lz_, ls_, i64_w, i32_w]
       rfl
      refine one_ (i := 4) (N := some 28) #[i',i',i',i',i',o'] rfl rfl (by kernel_rfl) (by decide) (fun K hK => ?_)
      refine goes_ Tryd.func6 (by kernel_rfl) rfl #[.agg #[.slice Ao46 t250.length co46, .int .i64 t253, .int .i64 t254, .bool t255], .agg #[.int .i64 t256, .slice Ao47 t257.length co47]] (by rfl) rfl rfl ar_ ?_
      with_reducible refine (spec_Orphans.calls k _ _ t250 t253 t254 t255 t256 _ _ t257 t260 _ ?side1 ?side2 ?side3 ?side4 A21.out).mono ?_
      (case side1 => repeat (first | exact (Kd.R_reads' HO252.out).2.2 | (with_reducible refine Kd.C_alloc ?_ _) | (with_reducible refine Kd.C_drewN ?_ _) | (with_reducible refine Kd.C_drew ?_)))
      (case side2 => exact (Kd.R_reads' HO252.out).2.1)
      (case side3 => repeat (first | exact (Kd.R_reads' HO259.out).2.2 | (with_reducible refine Kd.C_alloc ?_ _) | (with_reducible refine Kd.C_drewN ?_ _) | (with_reducible refine Kd.C_drew ?_)))
      (case side4 => exact (Kd.R_reads' HO259.out).2.1)
      rintro e w48 ⟨v261, rfl, ho0, hb⟩
      refine ⟨_, rfl, ?_⟩
      have n0_ := Aside0.mk (Kd.R_below (rr_ HO252) hb)
      have n1_ := Aside0.mk (Kd.R_below (rr_ HO259) hb)
      have n2_ := Aside0.mk (Kd.R_lower ho0 (below_size (by repeat (first | (with_reducible first | exact HB.out | apply below_alloc | apply pw_below_drewN | apply below_drew1 | refine below_set ?_ GE246.out | refine below_set ?_ GE247.out) | exact HB.out))))
      have n3_ := Aside0.mk (blk_below (g := gb246) (o := .cells #[.slice A0_0 l0_0.length c0_0, .int .i64 a0_1, .int .i64 a0_2, .bool a0_3] 24 (0, 0)) (bk_ BK246) hb)
      have n4_ := Aside0.mk (blk_below (g := gb247) (o := .cells #[.int .i64 a1_0, .slice A1_1 l1_1.length c1_1] 27 (0, 0)) (bk_ BK247) hb)
      have n5_ := Aside0.mk (below_step (by repeat (first | (with_reducible first | exact HB.out | apply below_alloc | apply pw_below_drewN | apply below_drew1 | refine below_set ?_ GE246.out | refine below_set ?_ GE247.out) | exact HB.out)) hb)
      clear HO252
      clear HO259
      clear BK246
      clear BK247
      clear HB
      have HO252 := n0_
      have HO259 := n1_
      have HO262 := n2_
      have BK246 := n3_
      have BK247 := n4_
      have HB := n5_
      clear n0_ n1_ n2_ n3_ n4_ n5_
      (try clear hb)
      (try clear hb2)
      (try clear hk)
      (try clear hi)
      (try clear ho0)
      refine hK.out _ _ ⟨(blk_cell BK246.out 0).trans rfl, (blk_cell BK246.out 1).trans rfl, (blk_cell BK246.out 2).trans rfl, (blk_cell BK246.out 3).trans rfl, (blk_cell BK247.out 0).trans rfl, (blk_cell BK247.out 1).trans rfl⟩ (fun hHeld => ?_)
      clear hK K
      refine norm_ (a' := ?_) ?_ ?_
      rotate_left
      ·show Act.put _ (some 28) _ = _
       simp only [Act.put, la_, lz_, ls_, i64_w, i32_w]
       rfl
      refine pure_ (i := 5) (N := some 6) (v := ?_) (a' := ?_) #[i',i',i',i',i',i'] rfl rfl (by kernel_rfl) (fun _ _ _ h => h) (Or.inl ⟨by rfl, ?_⟩) ?_ ?_
      rotate_left;·intro w';go_simp;with_reducible rfl
      rotate_left;·simp only [Act.put, la_, lz_, ls_, i64_w, i32_w];rfl
      refine done_ (by kernel_rfl) ?_
      have hcz49_0 : w48.cell? ⟨gb246, 0, none⟩ = some (.slice A0_0 l0_0.length c0_0) := (blk_cell BK246.out 0).trans rfl
      have hcz49_1 : w48.cell? ⟨gb246, 1, none⟩ = some (.int .i64 a0_1) := (blk_cell BK246.out 1).trans rfl
      have hcz49_2 : w48.cell? ⟨gb246, 2, none⟩ = some (.int .i64 a0_2) := (blk_cell BK246.out 2).trans rfl
      have hcz49_3 : w48.cell? ⟨gb246, 3, none⟩ = some (.bool a0_3) := (blk_cell BK246.out 3).trans rfl
      have hfz49_0 := blk_frozen BK246.out 0
      have hfz49_1 := blk_frozen BK246.out 1
      have hfz49_2 := blk_frozen BK246.out 2
      have hfz49_3 := blk_frozen BK246.out 3
      try go_wp2_with (first | ((with_reducible refine gate_callee (f := 7) rfl ?_); refine goesL_ (some 30) rfl rfl Tryd.func7 (by kernel_rfl) rfl #[.agg #[.slice A0_0 l0_0.length c0_0, .int .i64 a0_1, .int .i64 a0_2, .bool a0_3]] rfl ar_ ?_; (with_reducible refine (laws_toDisk.calls k _ _ l0_0 a0_1 a0_2 a0_3 t263 t266 t267 t268 _ ?side1 ?side2 A22.out).mono ?_); (case side1 => repeat (first | exact (Kd.C_below HR0_0.out HB.out) | (with_reducible refine Kd.C_alloc ?_ _) | (with_reducible refine Kd.C_drewN ?_ _) | (with_reducible refine Kd.C_drew ?_))); (case side2 => exact HC0_0.out); rintro e w50 ⟨v264, rfl, ho0, hb⟩; refine ⟨_, rfl, ?_⟩; have n0_ := Aside0.mk (Kd.R_elder' (rr_ HO252) (Kd.R_base ho0) hb); have n1_ := Aside0.mk (Kd.R_below (rr_ HO259) hb); have n2_ := Aside0.mk (Kd.R_below (rr_ HO262) hb); have n3_ := Aside0.mk (Kd.R_lower (Kd.R_new' ho0 (Kd.R_lt (rr_ HO252))) (below_size (by repeat (first | (with_reducible first | exact HB.out | apply below_alloc | apply pw_below_drewN | apply below_drew1 | refine below_set ?_ GE246.out | refine below_set ?_ GE247.out) | exact HB.out)))); have n4_ := Aside0.mk (blk_below (g := gb246) (o := .cells #[.slice A0_0 l0_0.length c0_0, .int .i64 a0_1, .int .i64 a0_2, .bool a0_3] 24 (0, 0)) (bk_ BK246) hb); have n5_ := Aside0.mk (blk_below (g := gb247) (o := .cells #[.int .i64 a1_0, .slice A1_1 l1_1.length c1_1] 27 (0, 0)) (bk_ BK247) hb); have n6_ := Aside0.mk (below_step (by repeat (first | (with_reducible first | exact HB.out | apply below_alloc | apply pw_below_drewN | apply below_drew1 | refine below_set ?_ GE246.out | refine below_set ?_ GE247.out) | exact HB.out)) hb); clear HO252; clear HO259; clear HO262; clear BK246; clear BK247; clear HB; have HO252 := n0_; have HO259 := n1_; have HO262 := n2_; have HO265 := n3_; have BK246 := n4_; have BK247 := n5_; have HB := n6_; clear n0_ n1_ n2_ n3_ n4_ n5_ n6_; (try clear hb); (try clear hb2); (try clear hk); (try clear hi); (try clear ho0)) | ((with_reducible refine gate_dst (N := 7) rfl ?_); refine box_event ?hg (N := 7) ?hd (cs := #[.slice none 0 0, .int .i64 0, .int .i64 0, .bool false]) (t := 34) ?hr ?_; (case hd => rfl); (case hg => rfl); (case hr => first | (go_simp; done) | (go_simp; rfl)); intro gb269 hg w51 hbox hb; have n0_ := Aside0.mk (Kd.R_below (rr_ HO252) hb); have n1_ := Aside0.mk (Kd.R_below (rr_ HO259) hb); have n2_ := Aside0.mk (Kd.R_below (rr_ HO262) hb); have n3_ := Aside0.mk (Kd.R_below (rr_ HO265) hb); have n4_ := Aside0.mk (blk_below (g := gb246) (o := .cells #[.slice A0_0 l0_0.length c0_0, .int .i64 a0_1, .int .i64 a0_2, .bool a0_3] 24 (0, 0)) (bk_ BK246) hb); have n5_ := Aside0.mk (blk_below (g := gb247) (o := .cells #[.int .i64 a1_0, .slice A1_1 l1_1.length c1_1] 27 (0, 0)) (bk_ BK247) hb); have n6_ := Aside0.mk (below_step (by repeat (first | (with_reducible first | exact HB.out | apply below_alloc | apply pw_below_drewN | apply below_drew1 | refine below_set ?_ GE246.out | refine below_set ?_ GE247.out) | exact HB.out)) hb); have n7_ := Aside0.mk (hbox); have n8_ := Aside0.mk ((by rw [hg]; exact (below_size (by repeat (first | (with_reducible first | exact HB.out | apply below_alloc | apply pw_below_drewN | apply below_drew1 | refine below_set ?_ GE246.out | refine below_set ?_ GE247.out) | exact HB.out))) : w.heap.size ≤ gb269)); have n9_ := Aside0.mk ((by rw [hg]; exact (below_size (by repeat (first | (with_reducible first | exact HB.out | apply below_alloc | apply pw_below_drewN | apply below_drew1 | refine below_set ?_ GE246.out | refine below_set ?_ GE247.out) | exact HB.out))) : w.heap.size ≤ gb269)); have n10_ := Aside0.mk ((by rw [hg]; exact Nat.ne_of_lt (blk_lt (g := gb246) (o := .cells #[.slice A0_0 l0_0.length c0_0, .int .i64 a0_1, .int .i64 a0_2, .bool a0_3] 24 (0, 0)) (bk_ BK246)) : gb246 ≠ gb269)); have n11_ := Aside0.mk ((by rw [hg]; exact Nat.ne_of_gt (blk_lt (g := gb246) (o := .cells #[.slice A0_0 l0_0.length c0_0, .int .i64 a0_1, .int .i64 a0_2, .bool a0_3] 24 (0, 0)) (bk_ BK246)) : gb269 ≠ gb246)); have n12_ := Aside0.mk ((by rw [hg]; exact Nat.ne_of_lt (blk_lt (g := gb247) (o := .cells #[.int .i64 a1_0, .slice A1_1 l1_1.length c1_1] 27 (0, 0)) (bk_ BK247)) : gb247 ≠ gb269)); have n13_ := Aside0.mk ((by rw [hg]; exact Nat.ne_of_gt (blk_lt (g := gb247) (o := .cells #[.int .i64 a1_0, .slice A1_1 l1_1.length c1_1] 27 (0, 0)) (bk_ BK247)) : gb269 ≠ gb247)); clear HO252; clear HO259; clear HO262; clear HO265; clear BK246; clear BK247; clear HB; have HO252 := n0_; have HO259 := n1_; have HO262 := n2_; have HO265 := n3_; have BK246 := n4_; have BK247 := n5_; have HB := n6_; have BK269 := n7_; have GW269 := n8_; have GE269 := n9_; have NB246_269 := n10_; have NB269_246 := n11_; have NB247_269 := n12_; have NB269_247 := n13_; clear n0_ n1_ n2_ n3_ n4_ n5_ n6_ n7_ n8_ n9_ n10_ n11_ n12_ n13_; clear hb hbox hg; obtain ⟨Ao52, co52, eo52⟩ := Kd.R_slice HO265.out; subst eo52; have hnb53 := NB269_246.out; have hnc53 := NB246_269.out; have hnb54 := NB269_247.out; have hnc54 := NB247_269.out; have hcz55_0 : w51.cell? ⟨gb269, 0, none⟩ = some (.slice none 0 0) := (blk_cell BK269.out 0).trans rfl; have hcz55_1 : w51.cell? ⟨gb269, 1, none⟩ = some (.int .i64 0) := (blk_cell BK269.out 1).trans rfl; have hcz55_2 : w51.cell? ⟨gb269, 2, none⟩ = some (.int .i64 0) := (blk_cell BK269.out 2).trans rfl; have hcz55_3 : w51.cell? ⟨gb269, 3, none⟩ = some (.bool false) := (blk_cell BK269.out 3).trans rfl; have hfz55_0 := blk_frozen BK269.out 0; have hfz55_1 := blk_frozen BK269.out 1; have hfz55_2 := blk_frozen BK269.out 2; have hfz55_3 := blk_frozen BK269.out 3; have hcz56_0 : w51.cell? ⟨gb247, 0, none⟩ = some (.int .i64 a1_0) := (blk_cell BK247.out 0).trans rfl; have hcz56_1 : w51.cell? ⟨gb247, 1, none⟩ = some (.slice A1_1 l1_1.length c1_1) := (blk_cell BK247.out 1).trans rfl; have hfz56_0 := blk_frozen BK247.out 0; have hfz56_1 := blk_frozen BK247.out 1) | ((with_reducible refine gate_callee (f := 8) rfl ?_); refine goesL_ (some 32) rfl rfl Tryd.func8 (by kernel_rfl) rfl #[.agg #[.int .i64 a1_0, .slice A1_1 l1_1.length c1_1]] rfl ar_ ?_; (with_reducible refine (laws_toLive.calls k a1_0 _ _ l1_1 t270 t271 _ ?side1 ?side2 A23.out).mono ?_); (case side1 => exact Kd.C_below HR1_1.out (by repeat (first | (with_reducible first | exact HB.out | apply below_alloc | apply pw_below_drewN | apply below_drew1 | refine below_set ?_ GE246.out | refine below_set ?_ GE247.out | refine below_set ?_ GE269.out) | exact HB.out))); (case side2 => exact HC1_1.out); rintro e w57 ⟨v272, rfl, ho0, hb⟩; refine ⟨_, rfl, ?_⟩; have n0_ := Aside0.mk (Kd.R_below (by (with_reducible repeat (first | apply Kd.R_alloc | apply Kd.R_drewN | apply Kd.R_drew)); exact (Kd.R_mono (Kd.R_far (p := ⟨gb269, 3, none⟩) (Kd.R_far (p := ⟨gb269, 2, none⟩) (Kd.R_far (p := ⟨gb269, 1, none⟩) (Kd.R_far (p := ⟨gb269, 0, none⟩) (Kd.R_types HO252.out BK269.out (by decide)) (fun _ hk => hk.2) (.slice Ao52 t263.length co52)) (fun _ hk => hk.2) (.int .i64 t266)) (fun _ hk => hk.2) (.int .i64 t267)) (fun _ hk => hk.2) (.bool t268)) (fun _ h_ => h_.1))) hb); have n1_ := Aside0.mk (Kd.R_elder' (by (with_reducible repeat (first | apply Kd.R_alloc | apply Kd.R_drewN | apply Kd.R_drew)); exact (Kd.R_mono (Kd.R_far (p := ⟨gb269, 3, none⟩) (Kd.R_far (p := ⟨gb269, 2, none⟩) (Kd.R_far (p := ⟨gb269, 1, none⟩) (Kd.R_far (p := ⟨gb269, 0, none⟩) (Kd.R_types HO259.out BK269.out (by decide)) (fun _ hk => hk.2) (.slice Ao52 t263.length co52)) (fun _ hk => hk.2) (.int .i64 t266)) (fun _ hk => hk.2) (.int .i64 t267)) (fun _ hk => hk.2) (.bool t268)) (fun _ h_ => h_.1))) (Kd.R_base ho0) hb); have n2_ := Aside0.mk (Kd.R_below (by (with_reducible repeat (first | apply Kd.R_alloc | apply Kd.R_drewN | apply Kd.R_drew)); exact (Kd.R_mono (Kd.R_far (p := ⟨gb269, 3, none⟩) (Kd.R_far (p := ⟨gb269, 2, none⟩) (Kd.R_far (p := ⟨gb269, 1, none⟩) (Kd.R_far (p := ⟨gb269, 0, none⟩) (Kd.R_types HO262.out BK269.out (by decide)) (fun _ hk => hk.2) (.slice Ao52 t263.length co52)) (fun _ hk => hk.2) (.int .i64 t266)) (fun _ hk => hk.2) (.int .i64 t267)) (fun _ hk => hk.2) (.bool t268)) (fun _ h_ => h_.1))) hb); have n3_ := Aside0.mk (Kd.R_below (by (with_reducible repeat (first | apply Kd.R_alloc | apply Kd.R_drewN | apply Kd.R_drew)); exact (Kd.R_mono (Kd.R_far (p := ⟨gb269, 3, none⟩) (Kd.R_far (p := ⟨gb269, 2, none⟩) (Kd.R_far (p := ⟨gb269, 1, none⟩) (Kd.R_far (p := ⟨gb269, 0, none⟩) (Kd.R_types HO265.out BK269.out (by decide)) (fun _ hk => hk.2) (.slice Ao52 t263.length co52)) (fun _ hk => hk.2) (.int .i64 t266)) (fun _ hk => hk.2) (.int .i64 t267)) (fun _ hk => hk.2) (.bool t268)) (fun _ h_ => h_.1))) hb); have n4_ := Aside0.mk (Kd.R_lower (Kd.R_new' ho0 (Kd.R_lt (by (with_reducible repeat (first | apply Kd.R_alloc | apply Kd.R_drewN | apply Kd.R_drew)); exact (Kd.R_mono (Kd.R_far (p := ⟨gb269, 3, none⟩) (Kd.R_far (p := ⟨gb269, 2, none⟩) (Kd.R_far (p := ⟨gb269, 1, none⟩) (Kd.R_far (p := ⟨gb269, 0, none⟩) (Kd.R_types HO259.out BK269.out (by decide)) (fun _ hk => hk.2) (.slice Ao52 t263.length co52)) (fun _ hk => hk.2) (.int .i64 t266)) (fun _ hk => hk.2) (.int .i64 t267)) (fun _ hk => hk.2) (.bool t268)) (fun _ h_ => h_.1))))) (below_size (by repeat (first | (with_reducible first | exact HB.out | apply below_alloc | apply pw_below_drewN | apply below_drew1 | refine below_set ?_ GE246.out | refine below_set ?_ GE247.out | refine below_set ?_ GE269.out) | exact HB.out)))); have n5_ := Aside0.mk (blk_below (g := gb246) (o := .cells #[.slice A0_0 l0_0.length c0_0, .int .i64 a0_1, .int .i64 a0_2, .bool a0_3] 24 (0, 0)) (by (with_reducible repeat (first | refine blk_drewN ?_ _ | refine blk_drew ?_ | refine blk_alloc ?_ _)); refine blk_far ?_ NB246_269.out _; (with_reducible repeat (first | refine blk_drewN ?_ _ | refine blk_drew ?_ | refine blk_alloc ?_ _)); refine blk_far ?_ NB246_269.out _; (with_reducible repeat (first | refine blk_drewN ?_ _ | refine blk_drew ?_ | refine blk_alloc ?_ _)); refine blk_far ?_ NB246_269.out _; (with_reducible repeat (first | refine blk_drewN ?_ _ | refine blk_drew ?_ | refine blk_alloc ?_ _)); refine blk_far ?_ NB246_269.out _; (with_reducible repeat (first | refine blk_drewN ?_ _ | refine blk_drew ?_ | refine blk_alloc ?_ _)); exact BK246.out) hb); have n6_ := Aside0.mk (blk_below (g := gb247) (o := .cells #[.int .i64 a1_0, .slice A1_1 l1_1.length c1_1] 27 (0, 0)) (by (with_reducible repeat (first | refine blk_drewN ?_ _ | refine blk_drew ?_ | refine blk_alloc ?_ _)); refine blk_far ?_ NB247_269.out _; (with_reducible repeat (first | refine blk_drewN ?_ _ | refine blk_drew ?_ | refine blk_alloc ?_ _)); refine blk_far ?_ NB247_269.out _; (with_reducible repeat (first | refine blk_drewN ?_ _ | refine blk_drew ?_ | refine blk_alloc ?_ _)); refine blk_far ?_ NB247_269.out _; (with_reducible repeat (first | refine blk_drewN ?_ _ | refine blk_drew ?_ | refine blk_alloc ?_ _)); refine blk_far ?_ NB247_269.out _; (with_reducible repeat (first | refine blk_drewN ?_ _ | refine blk_drew ?_ | refine blk_alloc ?_ _)); exact BK247.out) hb); have n7_ := Aside0.mk (blk_below (g := gb269) (o := .cells #[.slice Ao52 t263.length co52, .int .i64 t266, .int .i64 t267, .bool t268] 34 (0, 0)) (by (with_reducible repeat (first | refine blk_drewN ?_ _ | refine blk_drew ?_ | refine blk_alloc ?_ _)); refine blk_put (cs := #[.slice Ao52 t263.length co52, .int .i64 t266, .int .i64 t267, .bool false]) ?_ 3 _ rfl; (with_reducible repeat (first | refine blk_drewN ?_ _ | refine blk_drew ?_ | refine blk_alloc ?_ _)); refine blk_put (cs := #[.slice Ao52 t263.length co52, .int .i64 t266, .int .i64 0, .bool false]) ?_ 2 _ rfl; (with_reducible repeat (first | refine blk_drewN ?_ _ | refine blk_drew ?_ | refine blk_alloc ?_ _)); refine blk_put (cs := #[.slice Ao52 t263.length co52, .int .i64 0, .int .i64 0, .bool false]) ?_ 1 _ rfl; (with_reducible repeat (first | refine blk_drewN ?_ _ | refine blk_drew ?_ | refine blk_alloc ?_ _)); refine blk_put (cs := #[.slice none 0 0, .int .i64 0, .int .i64 0, .bool false]) ?_ 0 _ rfl; (with_reducible repeat (first | refine blk_drewN ?_ _ | refine blk_drew ?_ | refine blk_alloc ?_ _)); exact BK269.out) hb); have n8_ := Aside0.mk (below_step (by repeat (first | (with_reducible first | exact HB.out | apply below_alloc | apply pw_below_drewN | apply below_drew1 | refine below_set ?_ GE246.out | refine below_set ?_ GE247.out | refine below_set ?_ GE269.out) | exact HB.out)) hb); clear HO252; clear HO259; clear HO262; clear HO265; clear BK246; clear BK247; clear BK269; clear HB; have HO252 := n0_; have HO259 := n1_; have HO262 := n2_; have HO265 := n3_; have HO273 := n4_; have BK246 := n5_; have BK247 := n6_; have BK269 := n7_; have HB := n8_; clear n0_ n1_ n2_ n3_ n4_ n5_ n6_ n7_ n8_; (try clear hb); (try clear hb2); (try clear hk); (try clear hi); (try clear ho0)) | ((with_reducible refine gate_dst (N := 8) rfl ?_); refine box_event ?hg (N := 8) ?hd (cs := #[.int .i64 0, .slice none 0 0]) (t := 36) ?hr ?_; (case hd => rfl); (case hg => rfl); (case hr => first | (go_simp; done) | (go_simp; rfl)); intro gb274 hg w58 hbox hb; have n0_ := Aside0.mk (Kd.R_below (rr_ HO252) hb); have n1_ := Aside0.mk (Kd.R_below (rr_ HO259) hb); have n2_ := Aside0.mk (Kd.R_below (rr_ HO262) hb); have n3_ := Aside0.mk (Kd.R_below (rr_ HO265) hb); have n4_ := Aside0.mk (Kd.R_below (rr_ HO273) hb); have n5_ := Aside0.mk (blk_below (g := gb246) (o := .cells #[.slice A0_0 l0_0.length c0_0, .int .i64 a0_1, .int .i64 a0_2, .bool a0_3] 24 (0, 0)) (bk_ BK246) hb); have n6_ := Aside0.mk (blk_below (g := gb247) (o := .cells #[.int .i64 a1_0, .slice A1_1 l1_1.length c1_1] 27 (0, 0)) (bk_ BK247) hb); have n7_ := Aside0.mk (blk_below (g := gb269) (o := .cells #[.slice Ao52 t263.length co52, .int .i64 t266, .int .i64 t267, .bool t268] 34 (0, 0)) (bk_ BK269) hb); have n8_ := Aside0.mk (below_step (by repeat (first | (with_reducible first | exact HB.out | apply below_alloc | apply pw_below_drewN | apply below_drew1 | refine below_set ?_ GE246.out | refine below_set ?_ GE247.out | refine below_set ?_ GE269.out) | exact HB.out)) hb); have n9_ := Aside0.mk (hbox); have n10_ := Aside0.mk ((by rw [hg]; exact (below_size (by repeat (first | (with_reducible first | exact HB.out | apply below_alloc | apply pw_below_drewN | apply below_drew1 | refine below_set ?_ GE246.out | refine below_set ?_ GE247.out | refine below_set ?_ GE269.out) | exact HB.out))) : w.heap.size ≤ gb274)); have n11_ := Aside0.mk ((by rw [hg]; exact (below_size (by repeat (first | (with_reducible first | exact HB.out | apply below_alloc | apply pw_below_drewN | apply below_drew1 | refine below_set ?_ GE246.out | refine below_set ?_ GE247.out | refine below_set ?_ GE269.out) | exact HB.out))) : w.heap.size ≤ gb274)); have n12_ := Aside0.mk ((by rw [hg]; exact Nat.ne_of_lt (blk_lt (g := gb246) (o := .cells #[.slice A0_0 l0_0.length c0_0, .int .i64 a0_1, .int .i64 a0_2, .bool a0_3] 24 (0, 0)) (bk_ BK246)) : gb246 ≠ gb274)); have n13_ := Aside0.mk ((by rw [hg]; exact Nat.ne_of_gt (blk_lt (g := gb246) (o := .cells #[.slice A0_0 l0_0.length c0_0, .int .i64 a0_1, .int .i64 a0_2, .bool a0_3] 24 (0, 0)) (bk_ BK246)) : gb274 ≠ gb246)); have n14_ := Aside0.mk ((by rw [hg]; exact Nat.ne_of_lt (blk_lt (g := gb247) (o := .cells #[.int .i64 a1_0, .slice A1_1 l1_1.length c1_1] 27 (0, 0)) (bk_ BK247)) : gb247 ≠ gb274)); have n15_ := Aside0.mk ((by rw [hg]; exact Nat.ne_of_gt (blk_lt (g := gb247) (o := .cells #[.int .i64 a1_0, .slice A1_1 l1_1.length c1_1] 27 (0, 0)) (bk_ BK247)) : gb274 ≠ gb247)); have n16_ := Aside0.mk ((by rw [hg]; exact Nat.ne_of_lt (blk_lt (g := gb269) (o := .cells #[.slice Ao52 t263.length co52, .int .i64 t266, .int .i64 t267, .bool t268] 34 (0, 0)) (bk_ BK269)) : gb269 ≠ gb274)); have n17_ := Aside0.mk ((by rw [hg]; exact Nat.ne_of_gt (blk_lt (g := gb269) (o := .cells #[.slice Ao52 t263.length co52, .int .i64 t266, .int .i64 t267, .bool t268] 34 (0, 0)) (bk_ BK269)) : gb274 ≠ gb269)); clear HO252; clear HO259; clear HO262; clear HO265; clear HO273; clear BK246; clear BK247; clear BK269; clear HB; have HO252 := n0_; have HO259 := n1_; have HO262 := n2_; have HO265 := n3_; have HO273 := n4_; have BK246 := n5_; have BK247 := n6_; have BK269 := n7_; have HB := n8_; have BK274 := n9_; have GW274 := n10_; have GE274 := n11_; have NB246_274 := n12_; have NB274_246 := n13_; have NB247_274 := n14_; have NB274_247 := n15_; have NB269_274 := n16_; have NB274_269 := n17_; clear n0_ n1_ n2_ n3_ n4_ n5_ n6_ n7_ n8_ n9_ n10_ n11_ n12_ n13_ n14_ n15_ n16_ n17_; clear hb hbox hg; have hnb59 := NB274_246.out; have hnc59 := NB246_274.out; have hnb60 := NB274_247.out; have hnc60 := NB247_274.out; have hnb61 := NB274_269.out; have hnc61 := NB269_274.out; have hcz62_0 : w58.cell? ⟨gb274, 0, none⟩ = some (.int .i64 0) := (blk_cell BK274.out 0).trans rfl; have hcz62_1 : w58.cell? ⟨gb274, 1, none⟩ = some (.slice none 0 0) := (blk_cell BK274.out 1).trans rfl; have hfz62_0 := blk_frozen BK274.out 0; have hfz62_1 := blk_frozen BK274.out 1; obtain ⟨Ao63, co63, eo63⟩ := Kd.R_slice HO273.out; subst eo63; have hcz64_0 : w58.cell? ⟨gb269, 0, none⟩ = some (.slice Ao52 t263.length co52) := (blk_cell BK269.out 0).trans rfl; have hcz64_1 : w58.cell? ⟨gb269, 1, none⟩ = some (.int .i64 t266) := (blk_cell BK269.out 1).trans rfl; have hcz64_2 : w58.cell? ⟨gb269, 2, none⟩ = some (.int .i64 t267) := (blk_cell BK269.out 2).trans rfl; have hcz64_3 : w58.cell? ⟨gb269, 3, none⟩ = some (.bool t268) := (blk_cell BK269.out 3).trans rfl; have hfz64_0 := blk_frozen BK269.out 0; have hfz64_1 := blk_frozen BK269.out 1; have hfz64_2 := blk_frozen BK269.out 2; have hfz64_3 := blk_frozen BK269.out 3) | ((with_reducible refine gate_callee (f := 9) rfl ?_); refine goesL_ (some 35) rfl rfl Tryd.func9 (by kernel_rfl) rfl #[.agg #[.slice Ao52 t263.length co52, .int .i64 t266, .int .i64 t267, .bool t268], .agg #[.int .i64 t270, .slice Ao63 t271.length co63]] rfl ar_ ?_; (with_reducible refine (impl_Orphans.calls k _ _ t263 t266 t267 t268 t270 _ _ t271 t275 _ (HTab.below (by repeat (first | (with_reducible first | exact HB.out | apply below_alloc | apply pw_below_drewN | apply below_drew1 | refine below_set ?_ GE246.out | refine below_set ?_ GE247.out | refine below_set ?_ GE269.out | refine below_set ?_ GE274.out) | exact HB.out))) ?side1 ?side2 ?side3 ?side4 A24.out).mono ?_); (case side1 => refine (Kd.R_reads' (e := 51) (base := w.heap.size) (ok := fun k_ => (True ∧ some k_ ≠ (.slice Ao46 t250.length co46 : Value).ownBlock)) (n := t263.length) (c := co52) ?_).2.2; exact (by (with_reducible repeat (first | apply Kd.R_alloc | apply Kd.R_drewN | apply Kd.R_drew)); exact (Kd.R_mono (Kd.R_far (p := ⟨gb274, 1, none⟩) (Kd.R_far (p := ⟨gb274, 0, none⟩) (Kd.R_types HO265.out BK274.out (by decide)) (fun _ hk => hk.2) (.int .i64 t270)) (fun _ hk => hk.2) (.slice Ao63 t271.length co63)) (fun _ h_ => h_.1)))); (case side2 => exact (Kd.R_reads' HO265.out).2.1); (case side3 => refine (Kd.R_reads' (e := 3) (base := w.heap.size) (ok := fun k_ => (True ∧ some k_ ≠ (.slice Ao47 t257.length co47 : Value).ownBlock)) (n := t271.length) (c := co63) ?_).2.2; exact (by (with_reducible repeat (first | apply Kd.R_alloc | apply Kd.R_drewN | apply Kd.R_drew)); exact (Kd.R_mono (Kd.R_far (p := ⟨gb274, 1, none⟩) (Kd.R_far (p := ⟨gb274, 0, none⟩) (Kd.R_types HO273.out BK274.out (by decide)) (fun _ hk => hk.2) (.int .i64 t270)) (fun _ hk => hk.2) (.slice Ao63 t271.length co63)) (fun _ h_ => h_.1)))); (case side4 => exact (Kd.R_reads' HO273.out).2.1); rintro e w65 ⟨v276, rfl, ho0, hb⟩; refine ⟨_, rfl, ?_⟩; have n0_ := Aside0.mk (Kd.R_below (by (with_reducible repeat (first | apply Kd.R_alloc | apply Kd.R_drewN | apply Kd.R_drew)); exact (Kd.R_mono (Kd.R_far (p := ⟨gb274, 1, none⟩) (Kd.R_far (p := ⟨gb274, 0, none⟩) (Kd.R_types HO252.out BK274.out (by decide)) (fun _ hk => hk.2) (.int .i64 t270)) (fun _ hk => hk.2) (.slice Ao63 t271.length co63)) (fun _ h_ => h_.1))) hb); have n1_ := Aside0.mk (Kd.R_below (by (with_reducible repeat (first | apply Kd.R_alloc | apply Kd.R_drewN | apply Kd.R_drew)); exact (Kd.R_mono (Kd.R_far (p := ⟨gb274, 1, none⟩) (Kd.R_far (p := ⟨gb274, 0, none⟩) (Kd.R_types HO259.out BK274.out (by decide)) (fun _ hk => hk.2) (.int .i64 t270)) (fun _ hk => hk.2) (.slice Ao63 t271.length co63)) (fun _ h_ => h_.1))) hb); have n2_ := Aside0.mk (Kd.R_elder' (by (with_reducible repeat (first | apply Kd.R_alloc | apply Kd.R_drewN | apply Kd.R_drew)); exact (Kd.R_mono (Kd.R_far (p := ⟨gb274, 1, none⟩) (Kd.R_far (p := ⟨gb274, 0, none⟩) (Kd.R_types HO262.out BK274.out (by decide)) (fun _ hk => hk.2) (.int .i64 t270)) (fun _ hk => hk.2) (.slice Ao63 t271.length co63)) (fun _ h_ => h_.1))) (Kd.R_base ho0) hb); have n3_ := Aside0.mk (Kd.R_below (by (with_reducible repeat (first | apply Kd.R_alloc | apply Kd.R_drewN | apply Kd.R_drew)); exact (Kd.R_mono (Kd.R_far (p := ⟨gb274, 1, none⟩) (Kd.R_far (p := ⟨gb274, 0, none⟩) (Kd.R_types HO265.out BK274.out (by decide)) (fun _ hk => hk.2) (.int .i64 t270)) (fun _ hk => hk.2) (.slice Ao63 t271.length co63)) (fun _ h_ => h_.1))) hb); have n4_ := Aside0.mk (Kd.R_below (by (with_reducible repeat (first | apply Kd.R_alloc | apply Kd.R_drewN | apply Kd.R_drew)); exact (Kd.R_mono (Kd.R_far (p := ⟨gb274, 1, none⟩) (Kd.R_far (p := ⟨gb274, 0, none⟩) (Kd.R_types HO273.out BK274.out (by decide)) (fun _ hk => hk.2) (.int .i64 t270)) (fun _ hk => hk.2) (.slice Ao63 t271.length co63)) (fun _ h_ => h_.1))) hb); have n5_ := Aside0.mk (Kd.R_lower (Kd.R_new' ho0 (Kd.R_lt (by (with_reducible repeat (first | apply Kd.R_alloc | apply Kd.R_drewN | apply Kd.R_drew)); exact (Kd.R_mono (Kd.R_far (p := ⟨gb274, 1, none⟩) (Kd.R_far (p := ⟨gb274, 0, none⟩) (Kd.R_types HO262.out BK274.out (by decide)) (fun _ hk => hk.2) (.int .i64 t270)) (fun _ hk => hk.2) (.slice Ao63 t271.length co63)) (fun _ h_ => h_.1))))) (below_size (by repeat (first | (with_reducible first | exact HB.out | apply below_alloc | apply pw_below_drewN | apply below_drew1 | refine below_set ?_ GE246.out | refine below_set ?_ GE247.out | refine below_set ?_ GE269.out | refine below_set ?_ GE274.out) | exact HB.out)))); have n6_ := Aside0.mk (blk_below (g := gb246) (o := .cells #[.slice A0_0 l0_0.length c0_0, .int .i64 a0_1, .int .i64 a0_2, .bool a0_3] 24 (0, 0)) (by (with_reducible repeat (first | refine blk_drewN ?_ _ | refine blk_drew ?_ | refine blk_alloc ?_ _)); refine blk_far ?_ NB246_274.out _; (with_reducible repeat (first | refine blk_drewN ?_ _ | refine blk_drew ?_ | refine blk_alloc ?_ _)); refine blk_far ?_ NB246_274.out _; (with_reducible repeat (first | refine blk_drewN ?_ _ | refine blk_drew ?_ | refine blk_alloc ?_ _)); exact BK246.out) hb); have n7_ := Aside0.mk (blk_below (g := gb247) (o := .cells #[.int .i64 a1_0, .slice A1_1 l1_1.length c1_1] 27 (0, 0)) (by (with_reducible repeat (first | refine blk_drewN ?_ _ | refine blk_drew ?_ | refine blk_alloc ?_ _)); refine blk_far ?_ NB247_274.out _; (with_reducible repeat (first | refine blk_drewN ?_ _ | refine blk_drew ?_ | refine blk_alloc ?_ _)); refine blk_far ?_ NB247_274.out _; (with_reducible repeat (first | refine blk_drewN ?_ _ | refine blk_drew ?_ | refine blk_alloc ?_ _)); exact BK247.out) hb); have n8_ := Aside0.mk (blk_below (g := gb269) (o := .cells #[.slice Ao52 t263.length co52, .int .i64 t266, .int .i64 t267, .bool t268] 34 (0, 0)) (by (with_reducible repeat (first | refine blk_drewN ?_ _ | refine blk_drew ?_ | refine blk_alloc ?_ _)); refine blk_far ?_ NB269_274.out _; (with_reducible repeat (first | refine blk_drewN ?_ _ | refine blk_drew ?_ | refine blk_alloc ?_ _)); refine blk_far ?_ NB269_274.out _; (with_reducible repeat (first | refine blk_drewN ?_ _ | refine blk_drew ?_ | refine blk_alloc ?_ _)); exact BK269.out) hb); have n9_ := Aside0.mk (blk_below (g := gb274) (o := .cells #[.int .i64 t270, .slice Ao63 t271.length co63] 36 (0, 0)) (by (with_reducible repeat (first | refine blk_drewN ?_ _ | refine blk_drew ?_ | refine blk_alloc ?_ _)); refine blk_put (cs := #[.int .i64 t270, .slice none 0 0]) ?_ 1 _ rfl; (with_reducible repeat (first | refine blk_drewN ?_ _ | refine blk_drew ?_ | refine blk_alloc ?_ _)); refine blk_put (cs := #[.int .i64 0, .slice none 0 0]) ?_ 0 _ rfl; (with_reducible repeat (first | refine blk_drewN ?_ _ | refine blk_drew ?_ | refine blk_alloc ?_ _)); exact BK274.out) hb); have n10_ := Aside0.mk (below_step (by repeat (first | (with_reducible first | exact HB.out | apply below_alloc | apply pw_below_drewN | apply below_drew1 | refine below_set ?_ GE246.out | refine below_set ?_ GE247.out | refine below_set ?_ GE269.out | refine below_set ?_ GE274.out) | exact HB.out)) hb); clear HO252; clear HO259; clear HO262; clear HO265; clear HO273; clear BK246; clear BK247; clear BK269; clear BK274; clear HB; have HO252 := n0_; have HO259 := n1_; have HO262 := n2_; have HO265 := n3_; have HO273 := n4_; have HO277 := n5_; have BK246 := n6_; have BK247 := n7_; have BK269 := n8_; have BK274 := n9_; have HB := n10_; clear n0_ n1_ n2_ n3_ n4_ n5_ n6_ n7_ n8_ n9_ n10_; (try clear hb); (try clear hb2); (try clear hk); (try clear hi); (try clear ho0); obtain ⟨Ao66, co66, eo66⟩ := Kd.R_slice HO277.out; subst eo66; obtain ⟨Ao67, co67, eo67⟩ := Kd.R_slice HO262.out; subst eo67) | ((with_reducible refine gate_callee (f := 10) rfl ?_); refine goesL_ (some 38) rfl rfl Tryd.func10 (by kernel_rfl) rfl #[.slice Ao66 t275.length co66, .slice Ao67 t260.length co67] rfl ar_ ?_; (with_reducible refine (laws_eqStringS.calls k _ _ t275 _ _ t260 true _ ?side1 ?side2 ?side3 ?side4 A25.out).mono ?_); (case side1 => repeat (first | exact (Kd.R_reads' HO277.out).2.2 | (with_reducible refine Kd.C_alloc ?_ _) | (with_reducible refine Kd.C_drewN ?_ _) | (with_reducible refine Kd.C_drew ?_))); (case side2 => exact (Kd.R_reads' HO277.out).2.1); (case side3 => repeat (first | exact (Kd.R_reads' HO262.out).2.2 | (with_reducible refine Kd.C_alloc ?_ _) | (with_reducible refine Kd.C_drewN ?_ _) | (with_reducible refine Kd.C_drew ?_))); (case side4 => exact (Kd.R_reads' HO262.out).2.1); rintro e w' ⟨rfl, ⟨nd, rfl⟩⟩; refine ⟨_, rfl, ?_⟩))
      (try (rw [drewN_self w65]; generalize hq_ : World.drewN w65 _ = w65; have n0_ : Aside0 (Kd.R k51 51 w65 w.heap.size (fun k_ => (True ∧ some k_ ≠ (.slice Ao52 t263.length co52 : Value).ownBlock)) (.slice Ao46 t250.length co46) t250) := ⟨by rw [← hq_]; exact (rr_ HO252)⟩; have n1_ : Aside0 (Kd.R (Kd.int .i64) 3 w65 w.heap.size (fun k_ => (True ∧ some k_ ≠ (.slice Ao63 t271.length co63 : Value).ownBlock)) (.slice Ao47 t257.length co47) t257) := ⟨by rw [← hq_]; exact (rr_ HO259)⟩; have n2_ : Aside0 (Kd.R Kd.string 9 w65 w.heap.size (fun k_ => (True ∧ some k_ ≠ (.slice Ao66 t275.length co66 : Value).ownBlock)) (.slice Ao67 t260.length co67) t260) := ⟨by rw [← hq_]; exact (rr_ HO262)⟩; have n3_ : Aside0 (Kd.R k51 51 w65 w.heap.size (fun k_ => (True ∧ some k_ ≠ (.slice Ao46 t250.length co46 : Value).ownBlock)) (.slice Ao52 t263.length co52) t263) := ⟨by rw [← hq_]; exact (rr_ HO265)⟩; have n4_ : Aside0 (Kd.R (Kd.int .i64) 3 w65 w.heap.size (fun k_ => (True ∧ some k_ ≠ (.slice Ao47 t257.length co47 : Value).ownBlock)) (.slice Ao63 t271.length co63) t271) := ⟨by rw [← hq_]; exact (rr_ HO273)⟩; have n5_ : Aside0 (Kd.R Kd.string 9 w65 w.heap.size (fun k_ => (True ∧ some k_ ≠ (.slice Ao67 t260.length co67 : Value).ownBlock)) (.slice Ao66 t275.length co66) t275) := ⟨by rw [← hq_]; exact (rr_ HO277)⟩; have n6_ : Aside0 (w65.heap[gb246]? = some (.cells #[.slice A0_0 l0_0.length c0_0, .int .i64 a0_1, .int .i64 a0_2, .bool a0_3] 24 (0, 0))) := ⟨by rw [← hq_]; exact (bk_ BK246)⟩; have n7_ : Aside0 (w65.heap[gb247]? = some (.cells #[.int .i64 a1_0, .slice A1_1 l1_1.length c1_1] 27 (0, 0))) := ⟨by rw [← hq_]; exact (bk_ BK247)⟩; have n8_ : Aside0 (w65.heap[gb269]? = some (.cells #[.slice Ao52 t263.length co52, .int .i64 t266, .int .i64 t267, .bool t268] 34 (0, 0))) := ⟨by rw [← hq_]; exact (bk_ BK269)⟩; have n9_ : Aside0 (w65.heap[gb274]? = some (.cells #[.int .i64 t270, .slice Ao63 t271.length co63] 36 (0, 0))) := ⟨by rw [← hq_]; exact (bk_ BK274)⟩; have n10_ : Aside0 (Below w.heap.size w w65) := ⟨by rw [← hq_]; exact (by repeat (first | (with_reducible first | exact HB.out | apply below_alloc | apply pw_below_drewN | apply below_drew1 | refine below_set ?_ GE246.out | refine below_set ?_ GE247.out | refine below_set ?_ GE269.out | refine below_set ?_ GE274.out) | exact HB.out))⟩; clear HO252 HO259 HO262 HO265 HO273 HO277 BK246 BK247 BK269 BK274 HB hq_; have HO252 := n0_; have HO259 := n1_; have HO262 := n2_; have HO265 := n3_; have HO273 := n4_; have HO277 := n5_; have BK246 := n6_; have BK247 := n7_; have BK269 := n8_; have BK274 := n9_; have HB := n10_; clear n0_ n1_ n2_ n3_ n4_ n5_ n6_ n7_ n8_ n9_ n10_))
      have n0_ := Aside0.mk (Kd.R_drew HO252.out)
      have n1_ := Aside0.mk (Kd.R_drew HO259.out)
      have n2_ := Aside0.mk (Kd.R_drew HO262.out)
      have n3_ := Aside0.mk (Kd.R_drew HO265.out)
      have n4_ := Aside0.mk (Kd.R_drew HO273.out)
      have n5_ := Aside0.mk (Kd.R_drew HO277.out)
      have n6_ := Aside0.mk (blk_drew BK246.out)
      have n7_ := Aside0.mk (blk_drew BK247.out)
      have n8_ := Aside0.mk (blk_drew BK269.out)
      have n9_ := Aside0.mk (blk_drew BK274.out)
      have n10_ := Aside0.mk (below_drew1 HB.out)
      clear HO252
      clear HO259
      clear HO262
      clear HO265
      clear HO273
      clear HO277
      clear BK246
      clear BK247
      clear BK269
      clear BK274
      clear HB
      have HO252 := n0_
      have HO259 := n1_
      have HO262 := n2_
      have HO265 := n3_
      have HO273 := n4_
      have HO277 := n5_
      have BK246 := n6_
      have BK247 := n7_
      have BK269 := n8_
      have BK274 := n9_
      have HB := n10_
      clear n0_ n1_ n2_ n3_ n4_ n5_ n6_ n7_ n8_ n9_ n10_
      refine start_ (n := 5) (S := fun w' => w'.cell? ⟨gb269, 0, none⟩ = some (.slice Ao52 t263.length co52) ∧ w'.cell? ⟨gb269, 1, none⟩ = some (.int .i64 t266) ∧ w'.cell? ⟨gb269, 2, none⟩ = some (.int .i64 t267) ∧ w'.cell? ⟨gb269, 3, none⟩ = some (.bool t268) ∧ w'.cell? ⟨gb246, 0, none⟩ = some (.slice A0_0 l0_0.length c0_0) ∧ w'.cell? ⟨gb246, 1, none⟩ = some (.int .i64 a0_1) ∧ w'.cell? ⟨gb246, 2, none⟩ = some (.int .i64 a0_2) ∧ w'.cell? ⟨gb246, 3, none⟩ = some (.bool a0_3)) (ds := []) #[o',o',o',o',o'] (by kernel_rfl) rfl rfl ⟨(blk_cell BK269.out 0).trans rfl, (blk_cell BK269.out 1).trans rfl, (blk_cell BK269.out 2).trans rfl, (blk_cell BK269.out 3).trans rfl, (blk_cell BK246.out 0).trans rfl, (blk_cell BK246.out 1).trans rfl, (blk_cell BK246.out 2).trans rfl, (blk_cell BK246.out 3).trans rfl⟩ (fun hHeld => ?_)
      generalize w65.drew = w68 at HO252 HO259 HO262 HO265 HO273 HO277 BK246 BK247 BK269 BK274 HB hHeld ⊢
      refine take_ (i := 0) (N := some 40) (v := ?_) (a' := ?_) #[i',o',o',o',o'] rfl rfl (by kernel_rfl) (fun _ _ _ h => h) (Or.inl ⟨by rfl, ?_⟩) hHeld ?_ ?_
      rotate_left
      ·rintro w' ⟨s0, s1, s2, s3, s4, s5, s6, s7⟩
       go_simp
       with_reducible rfl
      rotate_left
      ·simp only [Act.put, la_, lz_, ls_, i64_w, i32_w]
       rfl
      refine take_ (i := 1) (N := some 41) (v := ?_) (a' := ?_) #[i',i',o',o',o'] rfl rfl (by kernel_rfl) (fun _ _ _ h => h) (Or.inl ⟨by rfl, ?_⟩) hHeld ?_ ?_
      rotate_left
      ·rintro w' ⟨s0, s1, s2, s3, s4, s5, s6, s7⟩
       go_simp
       with_reducible rfl
      rotate_left
      ·simp only [Act.put, la_, lz_, ls_, i64_w, i32_w]
       rfl
      refine one_ (i := 2) (N := some 42) #[i',i',i',o',o'] rfl rfl (by kernel_rfl) (by decide) (fun K hK => ?_)
      refine goes_ Tryd.func7 (by kernel_rfl) rfl #[.agg #[.slice A0_0 l0_0.length c0_0, .int .i64 a0_1, .int .i64 a0_2, .bool a0_3]] (by rfl) rfl rfl ar_ ?_
      with_reducible refine (laws_toDisk.calls k _ _ l0_0 a0_1 a0_2 a0_3 t279 t282 t283 t284 _ ?side1 ?side2 A27.out).mono ?_
      (case side1 => repeat (first | exact (Kd.C_below HR0_0.out HB.out) | (with_reducible refine Kd.C_alloc ?_ _) | (with_reducible refine Kd.C_drewN ?_ _) | (with_reducible refine Kd.C_drew ?_)))
      (case side2 => exact HC0_0.out)
      rintro e w69 ⟨v280, rfl, ho0, hb⟩
      refine ⟨_, rfl, ?_⟩
      have n0_ := Aside0.mk (Kd.R_elder' (rr_ HO252) (Kd.R_base ho0) hb)
      have n1_ := Aside0.mk (Kd.R_below (rr_ HO259) hb)
      have n2_ := Aside0.mk (Kd.R_below (rr_ HO262) hb)
      have n3_ := Aside0.mk (Kd.R_elder' (rr_ HO265) (Kd.R_base ho0) hb)
      have n4_ := Aside0.mk (Kd.R_below (rr_ HO273) hb)
      have n5_ := Aside0.mk (Kd.R_below (rr_ HO277) hb)
      have n6_ := Aside0.mk (Kd.R_lower (Kd.R_new' (Kd.R_new' ho0 (Kd.R_lt (rr_ HO252))) (Kd.R_lt (rr_ HO265))) (below_size (by repeat (first | (with_reducible first | exact HB.out | apply below_alloc | apply pw_below_drewN | apply below_drew1 | refine below_set ?_ GE246.out | refine below_set ?_ GE247.out | refine below_set ?_ GE269.out | refine below_set ?_ GE274.out) | exact HB.out))))
      have n7_ := Aside0.mk (blk_below (g := gb246) (o := .cells #[.slice A0_0 l0_0.length c0_0, .int .i64 a0_1, .int .i64 a0_2, .bool a0_3] 24 (0, 0)) (bk_ BK246) hb)
      have n8_ := Aside0.mk (blk_below (g := gb247) (o := .cells #[.int .i64 a1_0, .slice A1_1 l1_1.length c1_1] 27 (0, 0)) (bk_ BK247) hb)
      have n9_ := Aside0.mk (blk_below (g := gb269) (o := .cells #[.slice Ao52 t263.length co52, .int .i64 t266, .int .i64 t267, .bool t268] 34 (0, 0)) (bk_ BK269) hb)
      have n10_ := Aside0.mk (blk_below (g := gb274) (o := .cells #[.int .i64 t270, .slice Ao63 t271.length co63] 36 (0, 0)) (bk_ BK274) hb)
      have n11_ := Aside0.mk (below_step (by repeat (first | (with_reducible first | exact HB.out | apply below_alloc | apply pw_below_drewN | apply below_drew1 | refine below_set ?_ GE246.out | refine below_set ?_ GE247.out | refine below_set ?_ GE269.out | refine below_set ?_ GE274.out) | exact HB.out)) hb)
      clear HO252
      clear HO259
      clear HO262
      clear HO265
      clear HO273
      clear HO277
      clear BK246
      clear BK247
      clear BK269
      clear BK274
      clear HB
      have HO252 := n0_
      have HO259 := n1_
      have HO262 := n2_
      have HO265 := n3_
      have HO273 := n4_
      have HO277 := n5_
      have HO281 := n6_
      have BK246 := n7_
      have BK247 := n8_
      have BK269 := n9_
      have BK274 := n10_
      have HB := n11_
      clear n0_ n1_ n2_ n3_ n4_ n5_ n6_ n7_ n8_ n9_ n10_ n11_
      (try clear hb)
      (try clear hb2)
      (try clear hk)
      (try clear hi)
      (try clear ho0)
      obtain ⟨Ao70, co70, eo70⟩ := Kd.R_slice HO281.out
      (first | subst eo70 | (injection eo70 with f1_ f2_ f3_; have f4_ := f1_.symm; have f5_ := f3_.symm; clear f1_ f2_ f3_; subst f4_; subst f5_))
      refine hK.out _ _ ⟨(blk_cell BK269.out 0).trans rfl, (blk_cell BK269.out 1).trans rfl, (blk_cell BK269.out 2).trans rfl, (blk_cell BK269.out 3).trans rfl, (blk_cell BK246.out 0).trans rfl, (blk_cell BK246.out 1).trans rfl, (blk_cell BK246.out 2).trans rfl, (blk_cell BK246.out 3).trans rfl⟩ (fun hHeld => ?_)
      clear hK K
      refine norm_ (a' := ?_) ?_ ?_
      rotate_left
      ·show Act.put _ (some 42) _ = _
       simp only [Act.put, la_, lz_, ls_, i64_w, i32_w]
       rfl
      refine one_ (i := 3) (N := some 43) #[i',i',i',i',o'] rfl rfl (by kernel_rfl) (by decide) (fun K hK => ?_)
      refine goes_ Tryd.func11 (by kernel_rfl) rfl #[.agg #[.slice Ao52 t263.length co52, .int .i64 t266, .int .i64 t267, .bool t268], .agg #[.slice Ao70 t279.length co70, .int .i64 t282, .int .i64 t283, .bool t284]] (by rfl) rfl rfl ar_ ?_
      with_reducible refine (laws_eqDisk.calls k _ _ t263 t266 t267 t268 _ _ t279 t282 t283 t284 true _ ?side1 ?side2 ?side3 ?side4 A28.out).mono ?_
      (case side1 => repeat (first | exact (Kd.R_reads' HO265.out).2.2 | (with_reducible refine Kd.C_alloc ?_ _) | (with_reducible refine Kd.C_drewN ?_ _) | (with_reducible refine Kd.C_drew ?_)))
      (case side2 => exact (Kd.R_reads' HO265.out).2.1)
      (case side3 => repeat (first | exact (Kd.R_reads' HO281.out).2.2 | (with_reducible refine Kd.C_alloc ?_ _) | (with_reducible refine Kd.C_drewN ?_ _) | (with_reducible refine Kd.C_drew ?_)))
      (case side4 => exact (Kd.R_reads' HO281.out).2.1)
      rintro e w71 ⟨rfl, hb⟩
      refine ⟨_, rfl, ?_⟩
      have n0_ := Aside0.mk (Kd.R_below (rr_ HO252) hb)
      have n1_ := Aside0.mk (Kd.R_below (rr_ HO259) hb)
      have n2_ := Aside0.mk (Kd.R_below (rr_ HO262) hb)
      have n3_ := Aside0.mk (Kd.R_below (rr_ HO265) hb)
      have n4_ := Aside0.mk (Kd.R_below (rr_ HO273) hb)
      have n5_ := Aside0.mk (Kd.R_below (rr_ HO277) hb)
      have n6_ := Aside0.mk (Kd.R_below (rr_ HO281) hb)
      have n7_ := Aside0.mk (blk_below (g := gb246) (o := .cells #[.slice A0_0 l0_0.length c0_0, .int .i64 a0_1, .int .i64 a0_2, .bool a0_3] 24 (0, 0)) (bk_ BK246) hb)
      have n8_ := Aside0.mk (blk_below (g := gb247) (o := .cells #[.int .i64 a1_0, .slice A1_1 l1_1.length c1_1] 27 (0, 0)) (bk_ BK247) hb)
      have n9_ := Aside0.mk (blk_below (g := gb269) (o := .cells #[.slice Ao52 t263.length co52, .int .i64 t266, .int .i64 t267, .bool t268] 34 (0, 0)) (bk_ BK269) hb)
      have n10_ := Aside0.mk (blk_below (g := gb274) (o := .cells #[.int .i64 t270, .slice Ao63 t271.length co63] 36 (0, 0)) (bk_ BK274) hb)
      have n11_ := Aside0.mk (below_step (by repeat (first | (with_reducible first | exact HB.out | apply below_alloc | apply pw_below_drewN | apply below_drew1 | refine below_set ?_ GE246.out | refine below_set ?_ GE247.out | refine below_set ?_ GE269.out | refine below_set ?_ GE274.out) | exact HB.out)) hb)
      clear HO252
      clear HO259
      clear HO262
      clear HO265
      clear HO273
      clear HO277
      clear HO281
      clear BK246
      clear BK247
      clear BK269
      clear BK274
      clear HB
      have HO252 := n0_
      have HO259 := n1_
      have HO262 := n2_
      have HO265 := n3_
      have HO273 := n4_
      have HO277 := n5_
      have HO281 := n6_
      have BK246 := n7_
      have BK247 := n8_
      have BK269 := n9_
      have BK274 := n10_
      have HB := n11_
      clear n0_ n1_ n2_ n3_ n4_ n5_ n6_ n7_ n8_ n9_ n10_ n11_
      (try clear hb)
      (try clear hb2)
      (try clear hk)
      (try clear hi)
      refine hK.out _ _ ⟨(blk_cell BK269.out 0).trans rfl, (blk_cell BK269.out 1).trans rfl, (blk_cell BK269.out 2).trans rfl, (blk_cell BK269.out 3).trans rfl, (blk_cell BK246.out 0).trans rfl, (blk_cell BK246.out 1).trans rfl, (blk_cell BK246.out 2).trans rfl, (blk_cell BK246.out 3).trans rfl⟩ (fun hHeld => ?_)
      clear hK K
      refine norm_ (a' := ?_) ?_ ?_
      rotate_left
      ·show Act.put _ (some 43) _ = _
       simp only [Act.put, la_, lz_, ls_, i64_w, i32_w]
       rfl
      refine pure_ (i := 4) (N := some 44) (v := ?_) (a' := ?_) #[i',i',i',i',i'] rfl rfl (by kernel_rfl) (fun _ _ _ h => h) (Or.inl ⟨by rfl, ?_⟩) ?_ ?_
      rotate_left;·intro w';go_simp;with_reducible rfl
      rotate_left;·simp only [Act.put, la_, lz_, ls_, i64_w, i32_w];rfl
      refine done_ (by kernel_rfl) ?_
      try go_wp2
      have n0_ := Aside0.mk (Kd.R_drew HO252.out)
      have n1_ := Aside0.mk (Kd.R_drew HO259.out)
      have n2_ := Aside0.mk (Kd.R_drew HO262.out)
      have n3_ := Aside0.mk (Kd.R_drew HO265.out)
      have n4_ := Aside0.mk (Kd.R_drew HO273.out)
      have n5_ := Aside0.mk (Kd.R_drew HO277.out)
      have n6_ := Aside0.mk (Kd.R_drew HO281.out)
      have n7_ := Aside0.mk (blk_drew BK246.out)
      have n8_ := Aside0.mk (blk_drew BK247.out)
      have n9_ := Aside0.mk (blk_drew BK269.out)
      have n10_ := Aside0.mk (blk_drew BK274.out)
      have n11_ := Aside0.mk (below_drew1 HB.out)
      clear HO252
      clear HO259
      clear HO262
      clear HO265
      clear HO273
      clear HO277
      clear HO281
      clear BK246
      clear BK247
      clear BK269
      clear BK274
      clear HB
      have HO252 := n0_
      have HO259 := n1_
      have HO262 := n2_
      have HO265 := n3_
      have HO273 := n4_
      have HO277 := n5_
      have HO281 := n6_
      have BK246 := n7_
      have BK247 := n8_
      have BK269 := n9_
      have BK274 := n10_
      have HB := n11_
      clear n0_ n1_ n2_ n3_ n4_ n5_ n6_ n7_ n8_ n9_ n10_ n11_
      refine start_ (n := 5) (S := fun w' => w'.cell? ⟨gb274, 0, none⟩ = some (.int .i64 t270) ∧ w'.cell? ⟨gb274, 1, none⟩ = some (.slice Ao63 t271.length co63) ∧ w'.cell? ⟨gb247, 0, none⟩ = some (.int .i64 a1_0) ∧ w'.cell? ⟨gb247, 1, none⟩ = some (.slice A1_1 l1_1.length c1_1)) (ds := []) #[o',o',o',o',o'] (by kernel_rfl) rfl rfl ⟨(blk_cell BK274.out 0).trans rfl, (blk_cell BK274.out 1).trans rfl, (blk_cell BK247.out 0).trans rfl, (blk_cell BK247.out 1).trans rfl⟩ (fun hHeld => ?_)
      generalize w71.drew = w72 at HO252 HO259 HO262 HO265 HO273 HO277 HO281 BK246 BK247 BK269 BK274 HB hHeld ⊢
      refine take_ (i := 0) (N := some 45) (v := ?_) (a' := ?_) #[i',o',o',o',o'] rfl rfl (by kernel_rfl) (fun _ _ _ h => h) (Or.inl ⟨by rfl, ?_⟩) hHeld ?_ ?_
      rotate_left
      ·rintro w' ⟨s0, s1, s2, s3⟩
       go_simp
       with_reducible rfl
      rotate_left
      ·simp only [Act.put, la_, lz_, ls_, i64_w, i32_w]
       rfl
      refine take_ (i := 1) (N := some 46) (v := ?_) (a' := ?_) #[i',i',o',o',o'] rfl rfl (by kernel_rfl) (fun _ _ _ h => h) (Or.inl ⟨by rfl, ?_⟩) hHeld ?_ ?_
      rotate_left
      ·rintro w' ⟨s0, s1, s2, s3⟩
       go_simp
       with_reducible rfl
      rotate_left
      ·simp only [Act.put, la_, lz_, ls_, i64_w, i32_w]
       rfl
      refine one_ (i := 2) (N := some 47) #[i',i',i',o',o'] rfl rfl (by kernel_rfl) (by decide) (fun K hK => ?_)
      refine goes_ Tryd.func8 (by kernel_rfl) rfl #[.agg #[.int .i64 a1_0, .slice A1_1 l1_1.length c1_1]] (by rfl) rfl rfl ar_ ?_
      with_reducible refine (laws_toLive.calls k a1_0 _ _ l1_1 t286 t287 _ ?side1 ?side2 A30.out).mono ?_
      (case side1 => repeat (first | exact (Kd.C_below HR1_1.out HB.out) | (with_reducible refine Kd.C_alloc ?_ _) | (with_reducible refine Kd.C_drewN ?_ _) | (with_reducible refine Kd.C_drew ?_)))
      (case side2 => exact HC1_1.out)
      rintro e w73 ⟨v288, rfl, ho0, hb⟩
      refine ⟨_, rfl, ?_⟩
      have n0_ := Aside0.mk (Kd.R_below (rr_ HO252) hb)
      have n1_ := Aside0.mk (Kd.R_elder' (rr_ HO259) (Kd.R_base ho0) hb)
      have n2_ := Aside0.mk (Kd.R_below (rr_ HO262) hb)
      have n3_ := Aside0.mk (Kd.R_below (rr_ HO265) hb)
      have n4_ := Aside0.mk (Kd.R_elder' (rr_ HO273) (Kd.R_base ho0) hb)
      have n5_ := Aside0.mk (Kd.R_below (rr_ HO277) hb)
      have n6_ := Aside0.mk (Kd.R_below (rr_ HO281) hb)
      have n7_ := Aside0.mk (Kd.R_lower (Kd.R_new' (Kd.R_new' ho0 (Kd.R_lt (rr_ HO259))) (Kd.R_lt (rr_ HO273))) (below_size (by repeat (first | (with_reducible first | exact HB.out | apply below_alloc | apply pw_below_drewN | apply below_drew1 | refine below_set ?_ GE246.out | refine below_set ?_ GE247.out | refine below_set ?_ GE269.out | refine below_set ?_ GE274.out) | exact HB.out))))
      have n8_ := Aside0.mk (blk_below (g := gb246) (o := .cells #[.slice A0_0 l0_0.length c0_0, .int .i64 a0_1, .int .i64 a0_2, .bool a0_3] 24 (0, 0)) (bk_ BK246) hb)
      have n9_ := Aside0.mk (blk_below (g := gb247) (o := .cells #[.int .i64 a1_0, .slice A1_1 l1_1.length c1_1] 27 (0, 0)) (bk_ BK247) hb)
      have n10_ := Aside0.mk (blk_below (g := gb269) (o := .cells #[.slice Ao52 t263.length co52, .int .i64 t266, .int .i64 t267, .bool t268] 34 (0, 0)) (bk_ BK269) hb)
      have n11_ := Aside0.mk (blk_below (g := gb274) (o := .cells #[.int .i64 t270, .slice Ao63 t271.length co63] 36 (0, 0)) (bk_ BK274) hb)
      have n12_ := Aside0.mk (below_step (by repeat (first | (with_reducible first | exact HB.out | apply below_alloc | apply pw_below_drewN | apply below_drew1 | refine below_set ?_ GE246.out | refine below_set ?_ GE247.out | refine below_set ?_ GE269.out | refine below_set ?_ GE274.out) | exact HB.out)) hb)
      clear HO252
      clear HO259
      clear HO262
      clear HO265
      clear HO273
      clear HO277
      clear HO281
      clear BK246
      clear BK247
      clear BK269
      clear BK274
      clear HB
      have HO252 := n0_
      have HO259 := n1_
      have HO262 := n2_
      have HO265 := n3_
      have HO273 := n4_
      have HO277 := n5_
      have HO281 := n6_
      have HO289 := n7_
      have BK246 := n8_
      have BK247 := n9_
      have BK269 := n10_
      have BK274 := n11_
      have HB := n12_
      clear n0_ n1_ n2_ n3_ n4_ n5_ n6_ n7_ n8_ n9_ n10_ n11_ n12_
      (try clear hb)
      (try clear hb2)
      (try clear hk)
      (try clear hi)
      (try clear ho0)
      obtain ⟨Ao74, co74, eo74⟩ := Kd.R_slice HO289.out
      (first | subst eo74 | (injection eo74 with f1_ f2_ f3_; have f4_ := f1_.symm; have f5_ := f3_.symm; clear f1_ f2_ f3_; subst f4_; subst f5_))
      refine hK.out _ _ ⟨(blk_cell BK274.out 0).trans rfl, (blk_cell BK274.out 1).trans rfl, (blk_cell BK247.out 0).trans rfl, (blk_cell BK247.out 1).trans rfl⟩ (fun hHeld => ?_)
      clear hK K
      refine norm_ (a' := ?_) ?_ ?_
      rotate_left
      ·show Act.put _ (some 47) _ = _
       simp only [Act.put, la_, lz_, ls_, i64_w, i32_w]
       rfl
      refine one_ (i := 3) (N := some 48) #[i',i',i',i',o'] rfl rfl (by kernel_rfl) (by decide) (fun K hK => ?_)
      refine goes_ Tryd.func12 (by kernel_rfl) rfl #[.agg #[.int .i64 t270, .slice Ao63 t271.length co63], .agg #[.int .i64 t286, .slice Ao74 t287.length co74]] (by rfl) rfl rfl ar_ ?_
      with_reducible refine (laws_eqLive.calls k t270 _ _ t271 t286 _ _ t287 true _ ?side1 ?side2 ?side3 ?side4 A31.out).mono ?_
      (case side1 => repeat (first | exact (Kd.R_reads' HO273.out).2.2 | (with_reducible refine Kd.C_alloc ?_ _) | (with_reducible refine Kd.C_drewN ?_ _) | (with_reducible refine Kd.C_drew ?_)))
      (case side2 => exact (Kd.R_reads' HO273.out).2.1)
      (case side3 => repeat (first | exact (Kd.R_reads' HO289.out).2.2 | (with_reducible refine Kd.C_alloc ?_ _) | (with_reducible refine Kd.C_drewN ?_ _) | (with_reducible refine Kd.C_drew ?_)))
      (case side4 => exact (Kd.R_reads' HO289.out).2.1)
      rintro e w75 ⟨rfl, hb⟩
      refine ⟨_, rfl, ?_⟩
      have n0_ := Aside0.mk (Kd.R_below (rr_ HO252) hb)
      have n1_ := Aside0.mk (Kd.R_below (rr_ HO259) hb)
      have n2_ := Aside0.mk (Kd.R_below (rr_ HO262) hb)
      have n3_ := Aside0.mk (Kd.R_below (rr_ HO265) hb)
      have n4_ := Aside0.mk (Kd.R_below (rr_ HO273) hb)
      have n5_ := Aside0.mk (Kd.R_below (rr_ HO277) hb)
      have n6_ := Aside0.mk (Kd.R_below (rr_ HO281) hb)
      have n7_ := Aside0.mk (Kd.R_below (rr_ HO289) hb)
      have n8_ := Aside0.mk (blk_below (g := gb246) (o := .cells #[.slice A0_0 l0_0.length c0_0, .int .i64 a0_1, .int .i64 a0_2, .bool a0_3] 24 (0, 0)) (bk_ BK246) hb)
      have n9_ := Aside0.mk (blk_below (g := gb247) (o := .cells #[.int .i64 a1_0, .slice A1_1 l1_1.length c1_1] 27 (0, 0)) (bk_ BK247) hb)
      have n10_ := Aside0.mk (blk_below (g := gb269) (o := .cells #[.slice Ao52 t263.length co52, .int .i64 t266, .int .i64 t267, .bool t268] 34 (0, 0)) (bk_ BK269) hb)
      have n11_ := Aside0.mk (blk_below (g := gb274) (o := .cells #[.int .i64 t270, .slice Ao63 t271.length co63] 36 (0, 0)) (bk_ BK274) hb)
      have n12_ := Aside0.mk (below_step (by repeat (first | (with_reducible first | exact HB.out | apply below_alloc | apply pw_below_drewN | apply below_drew1 | refine below_set ?_ GE246.out | refine below_set ?_ GE247.out | refine below_set ?_ GE269.out | refine below_set ?_ GE274.out) | exact HB.out)) hb)
      clear HO252
      clear HO259
      clear HO262
      clear HO265
      clear HO273
      clear HO277
      clear HO281
      clear HO289
      clear BK246
      clear BK247
      clear BK269
      clear BK274
      clear HB
      have HO252 := n0_
      have HO259 := n1_
      have HO262 := n2_
      have HO265 := n3_
      have HO273 := n4_
      have HO277 := n5_
      have HO281 := n6_
      have HO289 := n7_
      have BK246 := n8_
      have BK247 := n9_
      have BK269 := n10_
      have BK274 := n11_
      have HB := n12_
      clear n0_ n1_ n2_ n3_ n4_ n5_ n6_ n7_ n8_ n9_ n10_ n11_ n12_
      (try clear hb)
      (try clear hb2)
      (try clear hk)
      (try clear hi)
      refine hK.out _ _ ⟨(blk_cell BK274.out 0).trans rfl, (blk_cell BK274.out 1).trans rfl, (blk_cell BK247.out 0).trans rfl, (blk_cell BK247.out 1).trans rfl⟩ (fun hHeld => ?_)
      clear hK K
      refine norm_ (a' := ?_) ?_ ?_
      rotate_left
      ·show Act.put _ (some 48) _ = _
       simp only [Act.put, la_, lz_, ls_, i64_w, i32_w]
       rfl
      refine pure_ (i := 4) (N := some 49) (v := ?_) (a' := ?_) #[i',i',i',i',i'] rfl rfl (by kernel_rfl) (fun _ _ _ h => h) (Or.inl ⟨by rfl, ?_⟩) ?_ ?_
      rotate_left;·intro w';go_simp;with_reducible rfl
      rotate_left;·simp only [Act.put, la_, lz_, ls_, i64_w, i32_w];rfl
      refine done_ (by kernel_rfl) ?_
      have hcz76_0 : w75.cell? ⟨gb269, 0, none⟩ = some (.slice Ao52 t263.length co52) := (blk_cell BK269.out 0).trans rfl
      have hcz76_1 : w75.cell? ⟨gb269, 1, none⟩ = some (.int .i64 t266) := (blk_cell BK269.out 1).trans rfl
      have hcz76_2 : w75.cell? ⟨gb269, 2, none⟩ = some (.int .i64 t267) := (blk_cell BK269.out 2).trans rfl
      have hcz76_3 : w75.cell? ⟨gb269, 3, none⟩ = some (.bool t268) := (blk_cell BK269.out 3).trans rfl
      have hfz76_0 := blk_frozen BK269.out 0
      have hfz76_1 := blk_frozen BK269.out 1
      have hfz76_2 := blk_frozen BK269.out 2
      have hfz76_3 := blk_frozen BK269.out 3
      go_upto_region 21 with (first | ((with_reducible refine gate_callee (f := 13) rfl ?_); refine goesL_ (some 52) rfl rfl Tryd.func13 (by kernel_rfl) rfl #[.agg #[.slice Ao52 t263.length co52, .int .i64 t266, .int .i64 t267, .bool t268], .int .i64 1] rfl ar_ ?_; (with_reducible refine (laws_markDisk.calls k (fun k_ => some k_ = (.slice Ao52 t263.length co52 : Value).ownBlock) (.slice Ao52 t263.length co52) t263 t266 t267 t268 1 t291 t292 w _ ?side1 ?side2 A33.out).mono ?_); (case side1 => repeat (first | (with_reducible first | exact HB.out | apply below_alloc | apply pw_below_drewN | apply below_drew1 | refine below_set ?_ GE246.out | refine below_set ?_ GE247.out | refine below_set ?_ GE269.out | refine below_set ?_ GE274.out) | exact HB.out)); (case side2 => exact Kd.R_tight rfl HO265.out); rintro e w77 ⟨rfl, hy0, hb, hkp⟩; refine ⟨_, rfl, ?_⟩; have n0_ := Aside0.mk (blk_kept (bk_ BK246) hkp (fun hs_ => (fun e_ => (Kd.R_ne HO265.out BK246.out (by decide)) e_) hs_)); have n1_ := Aside0.mk (blk_kept (bk_ BK247) hkp (fun hs_ => (fun e_ => (Kd.R_ne HO265.out BK247.out (by decide)) e_) hs_)); have n2_ := Aside0.mk (Kd.R_mono (ok' := fun k_ => some k_ ≠ (.slice Ao52 t263.length co52 : Value).ownBlock ∧ some k_ ≠ (.slice Ao70 t279.length co70 : Value).ownBlock) (Kd.R_keptB (HO252.out) hkp (fun k_ hk_ hs_ => (hk_.1.2) hs_)) (fun k_ hk_ => ⟨hk_.1.1.2, hk_.1.2⟩)); have n3_ := Aside0.mk (Kd.R_mono (ok' := fun k_ => some k_ ≠ (.slice Ao63 t271.length co63 : Value).ownBlock ∧ some k_ ≠ (.slice Ao74 t287.length co74 : Value).ownBlock) (Kd.R_keptB ((Kd.R_apart' HO259.out (Kd.R_typed HO265.out) (by decide))) hkp (fun k_ hk_ hs_ => (hk_.2) hs_)) (fun k_ hk_ => ⟨hk_.1.1.1.2, hk_.1.1.2⟩)); have n4_ := Aside0.mk (Kd.R_mono (ok' := fun k_ => some k_ ≠ (.slice Ao66 t275.length co66 : Value).ownBlock) (Kd.R_keptB ((Kd.R_apart' HO262.out (Kd.R_typed HO265.out) (by decide))) hkp (fun k_ hk_ hs_ => (hk_.2) hs_)) (fun k_ hk_ => hk_.1.1.2)); have n5_ := Aside0.mk (Kd.R_reok rfl hy0 (fun k_ e_ => HO265.out.1 k_ e_)); have n6_ := Aside0.mk (blk_kept (bk_ BK269) hkp (fun hs_ => (fun e_ => (Kd.R_ne HO265.out BK269.out (by decide)) e_) hs_)); have n7_ := Aside0.mk (Kd.R_mono (ok' := fun k_ => some k_ ≠ (.slice Ao47 t257.length co47 : Value).ownBlock ∧ some k_ ≠ (.slice Ao74 t287.length co74 : Value).ownBlock) (Kd.R_keptB ((Kd.R_apart' HO273.out (Kd.R_typed HO265.out) (by decide))) hkp (fun k_ hk_ hs_ => (hk_.2) hs_)) (fun k_ hk_ => ⟨hk_.1.1.1.2, hk_.1.1.2⟩)); have n8_ := Aside0.mk (blk_kept (bk_ BK274) hkp (fun hs_ => (fun e_ => (Kd.R_ne HO265.out BK274.out (by decide)) e_) hs_)); have n9_ := Aside0.mk (Kd.R_mono (ok' := fun k_ => some k_ ≠ (.slice Ao67 t260.length co67 : Value).ownBlock) (Kd.R_keptB ((Kd.R_apart' HO277.out (Kd.R_typed HO265.out) (by decide))) hkp (fun k_ hk_ hs_ => (hk_.2) hs_)) (fun k_ hk_ => hk_.1.1.2)); have n10_ := Aside0.mk (Kd.R_mono (ok' := fun k_ => some k_ ≠ (.slice Ao46 t250.length co46 : Value).ownBlock ∧ some k_ ≠ (.slice Ao52 t263.length co52 : Value).ownBlock) (Kd.R_keptB (HO281.out) hkp (fun k_ hk_ hs_ => (hk_.2) hs_)) (fun k_ hk_ => ⟨hk_.1.1.2, hk_.1.2⟩)); have n11_ := Aside0.mk (Kd.R_mono (ok' := fun k_ => some k_ ≠ (.slice Ao47 t257.length co47 : Value).ownBlock ∧ some k_ ≠ (.slice Ao63 t271.length co63 : Value).ownBlock) (Kd.R_keptB ((Kd.R_apart' HO289.out (Kd.R_typed HO265.out) (by decide))) hkp (fun k_ hk_ hs_ => (hk_.2) hs_)) (fun k_ hk_ => ⟨hk_.1.1.1.2, hk_.1.1.2⟩)); have n12_ := Aside0.mk (hb); clear BK246; clear BK247; clear HO252; clear HO259; clear HO262; clear HO265; clear BK269; clear HO273; clear BK274; clear HO277; clear HO281; clear HO289; clear HB; have BK246 := n0_; have BK247 := n1_; have HO252 := n2_; have HO259 := n3_; have HO262 := n4_; have HO265 := n5_; have BK269 := n6_; have HO273 := n7_; have BK274 := n8_; have HO277 := n9_; have HO281 := n10_; have HO289 := n11_; have HB := n12_; clear n0_ n1_ n2_ n3_ n4_ n5_ n6_ n7_ n8_ n9_ n10_ n11_ n12_; (try clear hb); (try clear hkp); (try clear hy0); have hcz78_0 : w77.cell? ⟨gb274, 0, none⟩ = some (.int .i64 t270) := (blk_cell BK274.out 0).trans rfl; have hcz78_1 : w77.cell? ⟨gb274, 1, none⟩ = some (.slice Ao63 t271.length co63) := (blk_cell BK274.out 1).trans rfl; have hfz78_0 := blk_frozen BK274.out 0; have hfz78_1 := blk_frozen BK274.out 1) | ((with_reducible refine gate_callee (f := 14) rfl ?_); refine goesL_ (some 55) rfl rfl Tryd.func14 (by kernel_rfl) rfl #[.agg #[.int .i64 t270, .slice Ao63 t271.length co63], .int .i64 t291] rfl ar_ ?_; (with_reducible refine (laws_markLive.calls k t270 (fun k_ => some k_ = (.slice Ao63 t271.length co63 : Value).ownBlock) (.slice Ao63 t271.length co63) t271 t291 t293 t294 w _ ?side1 ?side2 A34.out).mono ?_); (case side1 => repeat (first | (with_reducible first | exact HB.out | apply below_alloc | apply pw_below_drewN | apply below_drew1 | refine below_set ?_ GE246.out | refine below_set ?_ GE247.out | refine below_set ?_ GE269.out | refine below_set ?_ GE274.out) | exact HB.out)); (case side2 => exact Kd.R_tight rfl HO273.out); rintro e w79 ⟨rfl, hy0, hb, hkp⟩; refine ⟨_, rfl, ?_⟩; have n0_ := Aside0.mk (blk_kept (bk_ BK246) hkp (fun hs_ => (fun e_ => (Kd.R_ne HO273.out BK246.out (by decide)) e_) hs_)); have n1_ := Aside0.mk (blk_kept (bk_ BK247) hkp (fun hs_ => (fun e_ => (Kd.R_ne HO273.out BK247.out (by decide)) e_) hs_)); have n2_ := Aside0.mk (Kd.R_mono (ok' := fun k_ => some k_ ≠ (.slice Ao52 t263.length co52 : Value).ownBlock ∧ some k_ ≠ (.slice Ao70 t279.length co70 : Value).ownBlock) (Kd.R_keptB ((Kd.R_apart' HO252.out (Kd.R_typed HO273.out) (by decide))) hkp (fun k_ hk_ hs_ => (hk_.2) hs_)) (fun k_ hk_ => ⟨hk_.1.1.1, hk_.1.1.2⟩)); have n3_ := Aside0.mk (Kd.R_mono (ok' := fun k_ => some k_ ≠ (.slice Ao63 t271.length co63 : Value).ownBlock ∧ some k_ ≠ (.slice Ao74 t287.length co74 : Value).ownBlock) (Kd.R_keptB (HO259.out) hkp (fun k_ hk_ hs_ => (hk_.1) hs_)) (fun k_ hk_ => ⟨hk_.1.1, hk_.1.2⟩)); have n4_ := Aside0.mk (Kd.R_mono (ok' := fun k_ => some k_ ≠ (.slice Ao66 t275.length co66 : Value).ownBlock) (Kd.R_keptB ((Kd.R_apart' HO262.out (Kd.R_typed HO273.out) (by decide))) hkp (fun k_ hk_ hs_ => (hk_.2) hs_)) (fun k_ hk_ => hk_.1.1)); have n5_ := Aside0.mk (Kd.R_mono (ok' := fun k_ => some k_ ≠ (.slice Ao46 t250.length co46 : Value).ownBlock ∧ some k_ ≠ (.slice Ao70 t279.length co70 : Value).ownBlock) (Kd.R_keptB ((Kd.R_apart' HO265.out (Kd.R_typed HO273.out) (by decide))) hkp (fun k_ hk_ hs_ => (hk_.2) hs_)) (fun k_ hk_ => ⟨hk_.1.1.1.2, hk_.1.1.2⟩)); have n6_ := Aside0.mk (blk_kept (bk_ BK269) hkp (fun hs_ => (fun e_ => (Kd.R_ne HO273.out BK269.out (by decide)) e_) hs_)); have n7_ := Aside0.mk (Kd.R_reok rfl hy0 (fun k_ e_ => HO273.out.1 k_ e_)); have n8_ := Aside0.mk (blk_kept (bk_ BK274) hkp (fun hs_ => (fun e_ => (Kd.R_ne HO273.out BK274.out (by decide)) e_) hs_)); have n9_ := Aside0.mk (Kd.R_mono (ok' := fun k_ => some k_ ≠ (.slice Ao67 t260.length co67 : Value).ownBlock) (Kd.R_keptB ((Kd.R_apart' HO277.out (Kd.R_typed HO273.out) (by decide))) hkp (fun k_ hk_ hs_ => (hk_.2) hs_)) (fun k_ hk_ => hk_.1.1)); have n10_ := Aside0.mk (Kd.R_mono (ok' := fun k_ => some k_ ≠ (.slice Ao46 t250.length co46 : Value).ownBlock ∧ some k_ ≠ (.slice Ao52 t263.length co52 : Value).ownBlock) (Kd.R_keptB ((Kd.R_apart' HO281.out (Kd.R_typed HO273.out) (by decide))) hkp (fun k_ hk_ hs_ => (hk_.2) hs_)) (fun k_ hk_ => ⟨hk_.1.1.1, hk_.1.1.2⟩)); have n11_ := Aside0.mk (Kd.R_mono (ok' := fun k_ => some k_ ≠ (.slice Ao47 t257.length co47 : Value).ownBlock ∧ some k_ ≠ (.slice Ao63 t271.length co63 : Value).ownBlock) (Kd.R_keptB (HO289.out) hkp (fun k_ hk_ hs_ => (hk_.2) hs_)) (fun k_ hk_ => ⟨hk_.1.1, hk_.1.2⟩)); have n12_ := Aside0.mk (hb); clear BK246; clear BK247; clear HO252; clear HO259; clear HO262; clear HO265; clear BK269; clear HO273; clear BK274; clear HO277; clear HO281; clear HO289; clear HB; have BK246 := n0_; have BK247 := n1_; have HO252 := n2_; have HO259 := n3_; have HO262 := n4_; have HO265 := n5_; have BK269 := n6_; have HO273 := n7_; have BK274 := n8_; have HO277 := n9_; have HO281 := n10_; have HO289 := n11_; have HB := n12_; clear n0_ n1_ n2_ n3_ n4_ n5_ n6_ n7_ n8_ n9_ n10_ n11_ n12_; (try clear hb); (try clear hkp); (try clear hy0)))
      (try simp only [Act.put, la_, lz_, ls_])
      go_cut [63] (fun v63 wc => ∃ (kq : Nat) (x63_34 : Bool), v63 = .bool x63_34 ∧ Aside0 (laws_FnExactOrphans.j0 kq t260 t275 x63_34 l0_0 a0_1 a0_2 a0_3 a1_0 l1_1 = some r) ∧ Aside0 (kq ≤ k) ∧ Aside0 (Kd.R Kd.string 9 wc w.heap.size (fun k_ => some k_ ≠ ((.slice Ao66 t275.length co66) : Value).ownBlock) (.slice Ao67 t260.length co67) t260) ∧ Aside0 (Kd.R Kd.string 9 wc w.heap.size (fun k_ => some k_ ≠ ((.slice Ao67 t260.length co67) : Value).ownBlock) (.slice Ao66 t275.length co66) t275) ∧ Aside0 (Kd.R k51 51 wc w.heap.size (fun _ => True) (.slice Ao52 t263.length co52) t292) ∧ Aside0 (Kd.R (Kd.int .i64) 3 wc w.heap.size (fun _ => True) (.slice Ao63 t271.length co63) t294) ∧ Aside0 (wc.heap[gb246]? = some (.cells #[(.slice A0_0 l0_0.length c0_0), .int .i64 a0_1, .int .i64 a0_2, .bool a0_3] 24 (0, 0))) ∧ Aside0 (wc.heap[gb247]? = some (.cells #[.int .i64 a1_0, (.slice A1_1 l1_1.length c1_1)] 27 (0, 0))) ∧ Aside0 (wc.heap[gb269]? = some (.cells #[(.slice Ao52 t263.length co52), .int .i64 t266, .int .i64 t267, .bool t268] 34 (0, 0))) ∧ Aside0 (wc.heap[gb274]? = some (.cells #[.int .i64 t270, (.slice Ao63 t271.length co63)] 36 (0, 0))) ∧ Aside0 (Below w.heap.size w wc))
      case first =>
       have H := HC35.out
       clear HC35
       by_cases c80 : t293 < 0
       ·rw [if_pos c80] at H
        have c80b0 : decide (t293 < 0) = true := decide_eq_true c80
        clear c80
        (first | rw [c80b0] | (simp only [i64_w, i32_w]; rw [c80b0]) | skip)
        have H' := Aside0.mk H
        clear H
        go_wp2
        go_meet
        case rel => exact ⟨_, (true), rs_, H', ⟨by first | exact Nat.le_refl _ | exact Nat.le_of_succ_le this | omega⟩, ⟨rr_ HO262⟩, ⟨rr_ HO277⟩, ⟨by (with_reducible repeat (first | apply Kd.R_alloc | apply Kd.R_drewN | apply Kd.R_drew)); exact Kd.R_mono HO265.out (fun _ hk => trivial)⟩, ⟨by (with_reducible repeat (first | apply Kd.R_alloc | apply Kd.R_drewN | apply Kd.R_drew)); exact Kd.R_mono HO273.out (fun _ hk => trivial)⟩, ⟨bk_ BK246⟩, ⟨bk_ BK247⟩, ⟨bk_ BK269⟩, ⟨bk_ BK274⟩, ⟨by repeat (first | (with_reducible first | exact HB.out | apply below_alloc | apply pw_below_drewN | apply below_drew1 | refine below_set ?_ GE246.out | refine below_set ?_ GE247.out | refine below_set ?_ GE269.out | refine below_set ?_ GE274.out) | exact HB.out)⟩⟩
       ·rw [if_neg c80] at H
        have c80b0 : decide (t293 < 0) = false := decide_eq_false c80
        clear c80
        (first | rw [c80b0] | (simp only [i64_w, i32_w]; rw [c80b0]) | skip)
        replace H := Option.bind_eq_some_iff.mp H
        obtain ⟨t295, A810, H⟩ := H
        replace H : (laws_FnExactOrphans.j0 k t260 t275 (!t295) l0_0 a0_1 a0_2 a0_3 a1_0 l1_1) = some r := H
        have A81 := Aside0.mk A810
        clear A810
        have H' := Aside0.mk H
        clear H
        go_wp2_with (first | (go_at_call 10; (with_reducible refine (laws_eqStringS.calls k _ _ t275 _ _ t260 t295 _ ?side1 ?side2 ?side3 ?side4 A81.out).mono ?_); (case side1 => repeat (first | exact (Kd.R_reads' HO277.out).2.2 | (with_reducible refine Kd.C_alloc ?_ _) | (with_reducible refine Kd.C_drewN ?_ _) | (with_reducible refine Kd.C_drew ?_))); (case side2 => exact (Kd.R_reads' HO277.out).2.1); (case side3 => repeat (first | exact (Kd.R_reads' HO262.out).2.2 | (with_reducible refine Kd.C_alloc ?_ _) | (with_reducible refine Kd.C_drewN ?_ _) | (with_reducible refine Kd.C_drew ?_))); (case side4 => exact (Kd.R_reads' HO262.out).2.1); rintro e w' ⟨rfl, ⟨nd, rfl⟩⟩))
        go_meet
        case rel => exact ⟨_, (!t295), rs_, H', ⟨by first | exact Nat.le_refl _ | exact Nat.le_of_succ_le this | omega⟩, ⟨rr_ HO262⟩, ⟨rr_ HO277⟩, ⟨by (with_reducible repeat (first | apply Kd.R_alloc | apply Kd.R_drewN | apply Kd.R_drew)); exact Kd.R_mono HO265.out (fun _ hk => trivial)⟩, ⟨by (with_reducible repeat (first | apply Kd.R_alloc | apply Kd.R_drewN | apply Kd.R_drew)); exact Kd.R_mono HO273.out (fun _ hk => trivial)⟩, ⟨bk_ BK246⟩, ⟨bk_ BK247⟩, ⟨bk_ BK269⟩, ⟨bk_ BK274⟩, ⟨by repeat (first | (with_reducible first | exact HB.out | apply below_alloc | apply pw_below_drewN | apply below_drew1 | refine below_set ?_ GE246.out | refine below_set ?_ GE247.out | refine below_set ?_ GE269.out | refine below_set ?_ GE274.out) | exact HB.out)⟩⟩
      case rest =>
       clear HC35
       try clear c1
       try clear c2
       try clear p2
       try clear c3
       try clear c4
       try clear c5
       try clear c6
       try clear c7
       try clear c8
       try clear c9
       try clear c10
       try clear c11
       try clear c12
       try clear c13
       try clear c14
       try clear c29
       try clear c32
       try clear c38
       try clear c53
       try clear c54
       try clear c59
       try clear c60
       try clear c61
       try clear c80
       try clear c80b0
       try clear hcz39_0
       try clear hcz39_1
       try clear hcz39_2
       try clear hcz39_3
       try clear hcz41_0
       try clear hcz41_1
       try clear hcz49_0
       try clear hcz49_1
       try clear hcz49_2
       try clear hcz49_3
       try clear hcz55_0
       try clear hcz55_1
       try clear hcz55_2
       try clear hcz55_3
       try clear hcz56_0
       try clear hcz56_1
       try clear hcz62_0
       try clear hcz62_1
       try clear hcz64_0
       try clear hcz64_1
       try clear hcz64_2
       try clear hcz64_3
       try clear hcz76_0
       try clear hcz76_1
       try clear hcz76_2
       try clear hcz76_3
       try clear hcz78_0
       try clear hcz78_1
       try clear hfz39_0
       try clear hfz39_1
       try clear hfz39_2
       try clear hfz39_3
       try clear hfz41_0
       try clear hfz41_1
       try clear hfz49_0
       try clear hfz49_1
       try clear hfz49_2
       try clear hfz49_3
       try clear hfz55_0
       try clear hfz55_1
       try clear hfz55_2
       try clear hfz55_3
       try clear hfz56_0
       try clear hfz56_1
       try clear hfz62_0
       try clear hfz62_1
       try clear hfz64_0
       try clear hfz64_1
       try clear hfz64_2
       try clear hfz64_3
       try clear hfz76_0
       try clear hfz76_1
       try clear hfz76_2
       try clear hfz76_3
       try clear hfz78_0
       try clear hfz78_1
       obtain ⟨kq, x63_34, rfl, HA, HJ34, HO_6, HO_9, HO_270000, HO_275001, BK246, BK247, BK269, BK274, HB⟩ := hcut
       have hl270000_34 := (Kd.R_reads' HO_270000.out).1
       rw [hl270000_34] at HO_270000
       (try simp only [hl270000_34])
       (try simp only [hl270000_34] at BK246)
       (try simp only [hl270000_34] at BK247)
       (try simp only [hl270000_34] at BK269)
       (try simp only [hl270000_34] at BK274)
       (try simp only [hl270000_34] at HO_6)
       (try simp only [hl270000_34] at HO_9)
       (try simp only [hl270000_34] at HO_275001)
       have hl275001_34 := (Kd.R_reads' HO_275001.out).1
       rw [hl275001_34] at HO_275001
       (try simp only [hl275001_34])
       (try simp only [hl275001_34] at BK246)
       (try simp only [hl275001_34] at BK247)
       (try simp only [hl275001_34] at BK269)
       (try simp only [hl275001_34] at BK274)
       (try simp only [hl275001_34] at HO_6)
       (try simp only [hl275001_34] at HO_9)
       (try simp only [hl275001_34] at HO_270000)
       cases kq with
       | zero => exact absurd HA.out (by simp [laws_FnExactOrphans.j0])
       | succ kj34 =>
        have H := HA.out
        clear HA
        simp only [laws_FnExactOrphans.j0] at H
        by_cases c82 : x63_34 = true
        ·subst c82
         have H1 : (some false) = some r := by rw [if_pos rfl] at H; exact H
         clear H
         have H := H1
         clear H1
         exact absurd ((Option.some.inj H).trans HRT.out) (by decide)
        ·replace c82 := Bool.eq_false_iff.mpr c82
         subst c82
         have H1 : ((laws_markStringS.f kj34 t275 1).bind fun bt296 => ((laws_heldStringS.f kj34 bt296.2 1).bind fun t298 => (if t298 < 0 then (some false) else (if t298 = bt296.1 then ((laws_toDisk.f kj34 l0_0 a0_1 a0_2 a0_3).bind fun bt299 => ((laws_toLive.f kj34 a1_0 l1_1).bind fun bt305 => ((impl_Orphans.f kj34 bt299.1 bt299.2.1 bt299.2.2.1 bt299.2.2.2 bt305.1 bt305.2).bind fun t309 => ((laws_eqStringS.f kj34 t309 t260).bind fun t312 => (if t312 = true then ((laws_heldStringS.f kj34 bt296.2 1).bind fun t313 => (if t313 < 0 then (some false) else (if t313 = bt296.1 then (some true) else (some false)))) else (some false)))))) else (some false))))) = some r := by rw [if_neg (show ¬ (false = true) by decide)] at H; exact H
         clear H
         have H := H1
         clear H1
         replace H := Option.bind_eq_some_iff.mp H
         obtain ⟨⟨t296, t297⟩, A830, H⟩ := H
         replace H : ((laws_heldStringS.f kj34 t297 1).bind fun t298 => (if t298 < 0 then (some false) else (if t298 = t296 then ((laws_toDisk.f kj34 l0_0 a0_1 a0_2 a0_3).bind fun bt299 => ((laws_toLive.f kj34 a1_0 l1_1).bind fun bt305 => ((impl_Orphans.f kj34 bt299.1 bt299.2.1 bt299.2.2.1 bt299.2.2.2 bt305.1 bt305.2).bind fun t309 => ((laws_eqStringS.f kj34 t309 t260).bind fun t312 => (if t312 = true then ((laws_heldStringS.f kj34 t297 1).bind fun t313 => (if t313 < 0 then (some false) else (if t313 = t296 then (some true) else (some false)))) else (some false)))))) else (some false)))) = some r := H
         have A83 := Aside0.mk A830
         clear A830
         replace H := Option.bind_eq_some_iff.mp H
         obtain ⟨t298, A840, H⟩ := H
         replace H : (if t298 < 0 then (some false) else (if t298 = t296 then ((laws_toDisk.f kj34 l0_0 a0_1 a0_2 a0_3).bind fun bt299 => ((laws_toLive.f kj34 a1_0 l1_1).bind fun bt305 => ((impl_Orphans.f kj34 bt299.1 bt299.2.1 bt299.2.2.1 bt299.2.2.2 bt305.1 bt305.2).bind fun t309 => ((laws_eqStringS.f kj34 t309 t260).bind fun t312 => (if t312 = true then ((laws_heldStringS.f kj34 t297 1).bind fun t313 => (if t313 < 0 then (some false) else (if t313 = t296 then (some true) else (some false)))) else (some false)))))) else (some false))) = some r := H
         have A84 := Aside0.mk A840
         clear A840
         by_cases c85 : t298 < 0
         ·rw [if_pos c85] at H
          have c85b0 : decide (t298 < 0) = true := decide_eq_true c85
          clear c85
          exact absurd ((Option.some.inj H).trans HRT.out) (by decide)
         ·rw [if_neg c85] at H
          have c85b0 : decide (t298 < 0) = false := decide_eq_false c85
          clear c85
          by_cases c86 : t298 = t296
          ·rw [if_pos c86] at H
           have c86b0 : (t298 == t296) = true := beq_iff_eq.mpr c86
           have c86b1 : (t298 != t296) = false := bne_eq_false_iff_eq.mpr c86
           clear c86
           replace H := Option.bind_eq_some_iff.mp H
           obtain ⟨⟨t299, t302, t303, t304⟩, A870, H⟩ := H
           replace H : ((laws_toLive.f kj34 a1_0 l1_1).bind fun bt305 => ((impl_Orphans.f kj34 t299 t302 t303 t304 bt305.1 bt305.2).bind fun t309 => ((laws_eqStringS.f kj34 t309 t260).bind fun t312 => (if t312 = true then ((laws_heldStringS.f kj34 t297 1).bind fun t313 => (if t313 < 0 then (some false) else (if t313 = t296 then (some true) else (some false)))) else (some false))))) = some r := H
           have A87 := Aside0.mk A870
           clear A870
           replace H := Option.bind_eq_some_iff.mp H
           obtain ⟨⟨t305, t306⟩, A880, H⟩ := H
           replace H : ((impl_Orphans.f kj34 t299 t302 t303 t304 t305 t306).bind fun t309 => ((laws_eqStringS.f kj34 t309 t260).bind fun t312 => (if t312 = true then ((laws_heldStringS.f kj34 t297 1).bind fun t313 => (if t313 < 0 then (some false) else (if t313 = t296 then (some true) else (some false)))) else (some false)))) = some r := H
           have A88 := Aside0.mk A880
           clear A880
           replace H := Option.bind_eq_some_iff.mp H
           obtain ⟨t309, A890, H⟩ := H
           replace H : ((laws_eqStringS.f kj34 t309 t260).bind fun t312 => (if t312 = true then ((laws_heldStringS.f kj34 t297 1).bind fun t313 => (if t313 < 0 then (some false) else (if t313 = t296 then (some true) else (some false)))) else (some false))) = some r := H
           have A89 := Aside0.mk A890
           clear A890
           replace H := Option.bind_eq_some_iff.mp H
           obtain ⟨t312, A900, H⟩ := H
           replace H : (if t312 = true then ((laws_heldStringS.f kj34 t297 1).bind fun t313 => (if t313 < 0 then (some false) else (if t313 = t296 then (some true) else (some false)))) else (some false)) = some r := H
           have A90 := Aside0.mk A900
           clear A900
           by_cases c91 : t312 = true
           ·subst c91
            have H1 : ((laws_heldStringS.f kj34 t297 1).bind fun t313 => (if t313 < 0 then (some false) else (if t313 = t296 then (some true) else (some false)))) = some r := by rw [if_pos rfl] at H; exact H
            clear H
            have H := H1
            clear H1
            replace H := Option.bind_eq_some_iff.mp H
            obtain ⟨t313, A920, H⟩ := H
            replace H : (if t313 < 0 then (some false) else (if t313 = t296 then (some true) else (some false))) = some r := H
            have A92 := Aside0.mk A920
            clear A920
            by_cases c93 : t313 < 0
            ·rw [if_pos c93] at H
             have c93b0 : decide (t313 < 0) = true := decide_eq_true c93
             clear c93
             exact absurd ((Option.some.inj H).trans HRT.out) (by decide)
            ·rw [if_neg c93] at H
             have c93b0 : decide (t313 < 0) = false := decide_eq_false c93
             clear c93
             by_cases c94 : t313 = t296
             ·rw [if_pos c94] at H
              have c94b0 : (t313 == t296) = true := beq_iff_eq.mpr c94
              have c94b1 : (t313 != t296) = false := bne_eq_false_iff_eq.mpr c94
              clear c94
              obtain rfl := Option.some.inj H
              try go_wp2_with (first | ((with_reducible refine gate_callee (f := 15) rfl ?_); refine goesL_ (some 66) rfl rfl Tryd.func15 (by kernel_rfl) rfl #[.slice Ao66 t275.length co66, .int .i64 1] rfl ar_ ?_; (with_reducible refine (laws_markStringS.calls kj34 (fun k_ => some k_ = (.slice Ao66 t275.length co66 : Value).ownBlock) (.slice Ao66 t275.length co66) t275 1 t296 t297 w _ ?side1 ?side2 A83.out).mono ?_); (case side1 => repeat (first | (with_reducible first | exact HB.out | apply below_alloc | apply pw_below_drewN | apply below_drew1 | refine below_set ?_ GE246.out | refine below_set ?_ GE247.out | refine below_set ?_ GE269.out | refine below_set ?_ GE274.out) | exact HB.out)); (case side2 => exact Kd.R_tight rfl HO_9.out); rintro e w95 ⟨rfl, hy0, hb, hkp⟩; refine ⟨_, rfl, ?_⟩; have n0_ := Aside0.mk (Kd.R_mono (ok' := fun k_ => some k_ ≠ (.slice Ao66 t275.length co66 : Value).ownBlock) (Kd.R_keptB (HO_6.out) hkp (fun k_ hk_ hs_ => (hk_) hs_)) (fun k_ hk_ => hk_.1)); have n1_ := Aside0.mk (Kd.R_reok rfl hy0 (fun k_ e_ => HO_9.out.1 k_ e_)); have n2_ := Aside0.mk (Kd.R_mono (ok' := fun k_ => True) (Kd.R_keptB ((Kd.R_apart' HO_270000.out (Kd.R_typed HO_9.out) (by decide))) hkp (fun k_ hk_ hs_ => (hk_.2) hs_)) (fun k_ hk_ => trivial)); have n3_ := Aside0.mk (Kd.R_mono (ok' := fun k_ => True) (Kd.R_keptB ((Kd.R_apart' HO_275001.out (Kd.R_typed HO_9.out) (by decide))) hkp (fun k_ hk_ hs_ => (hk_.2) hs_)) (fun k_ hk_ => trivial)); have n4_ := Aside0.mk (blk_kept (bk_ BK246) hkp (fun hs_ => (fun e_ => (Kd.R_ne HO_9.out BK246.out (by decide)) e_) hs_)); have n5_ := Aside0.mk (blk_kept (bk_ BK247) hkp (fun hs_ => (fun e_ => (Kd.R_ne HO_9.out BK247.out (by decide)) e_) hs_)); have n6_ := Aside0.mk (blk_kept (bk_ BK269) hkp (fun hs_ => (fun e_ => (Kd.R_ne HO_9.out BK269.out (by decide)) e_) hs_)); have n7_ := Aside0.mk (blk_kept (bk_ BK274) hkp (fun hs_ => (fun e_ => (Kd.R_ne HO_9.out BK274.out (by decide)) e_) hs_)); have n8_ := Aside0.mk (hb); clear HO_6; clear HO_9; clear HO_270000; clear HO_275001; clear BK246; clear BK247; clear BK269; clear BK274; clear HB; have HO_6 := n0_; have HO_9 := n1_; have HO_270000 := n2_; have HO_275001 := n3_; have BK246 := n4_; have BK247 := n5_; have BK269 := n6_; have BK274 := n7_; have HB := n8_; clear n0_ n1_ n2_ n3_ n4_ n5_ n6_ n7_ n8_; (try clear hb); (try clear hkp); (try clear hy0)) | ((with_reducible refine gate_callee (f := 16) rfl ?_); refine goesL_ (some 69) rfl rfl Tryd.func16 (by kernel_rfl) rfl #[.slice Ao66 t297.length co66, .int .i64 1] rfl (by (try simp only [List.map_toArray, List.map_cons, List.map_nil]); first | done | (rw [show t297.length = t275.length from (Kd.R_reads' HO_9.out).1.symm] <;> rfl) | rfl | (simp only [List.length_drop, List.length_take]; rfl)) ?_; (with_reducible refine (laws_heldStringS.calls kj34 _ _ t297 1 t298 _ ?side1 ?side2 A84.out).mono ?_); (case side1 => repeat (first | exact (Kd.R_reads' HO_9.out).2.2 | (with_reducible refine Kd.C_alloc ?_ _) | (with_reducible refine Kd.C_drewN ?_ _) | (with_reducible refine Kd.C_drew ?_))); (case side2 => rw [show t297.length = t275.length from (Kd.R_reads' HO_9.out).1.symm]; exact (Kd.R_reads' HO_9.out).2.1); rintro e w96 ⟨rfl, hb⟩; refine ⟨_, rfl, ?_⟩; have n0_ := Aside0.mk (Kd.R_below (rr_ HO_6) hb); have n1_ := Aside0.mk (Kd.R_below (rr_ HO_9) hb); have n2_ := Aside0.mk (Kd.R_below (rr_ HO_270000) hb); have n3_ := Aside0.mk (Kd.R_below (rr_ HO_275001) hb); have n4_ := Aside0.mk (blk_below (g := gb246) (o := .cells #[.slice A0_0 l0_0.length c0_0, .int .i64 a0_1, .int .i64 a0_2, .bool a0_3] 24 (0, 0)) (bk_ BK246) hb); have n5_ := Aside0.mk (blk_below (g := gb247) (o := .cells #[.int .i64 a1_0, .slice A1_1 l1_1.length c1_1] 27 (0, 0)) (bk_ BK247) hb); have n6_ := Aside0.mk (blk_below (g := gb269) (o := .cells #[.slice Ao52 t292.length co52, .int .i64 t266, .int .i64 t267, .bool t268] 34 (0, 0)) (bk_ BK269) hb); have n7_ := Aside0.mk (blk_below (g := gb274) (o := .cells #[.int .i64 t270, .slice Ao63 t294.length co63] 36 (0, 0)) (bk_ BK274) hb); have n8_ := Aside0.mk (below_step (by repeat (first | (with_reducible first | exact HB.out | apply below_alloc | apply pw_below_drewN | apply below_drew1 | refine below_set ?_ GE246.out | refine below_set ?_ GE247.out | refine below_set ?_ GE269.out | refine below_set ?_ GE274.out) | exact HB.out)) hb); clear HO_6; clear HO_9; clear HO_270000; clear HO_275001; clear BK246; clear BK247; clear BK269; clear BK274; clear HB; have HO_6 := n0_; have HO_9 := n1_; have HO_270000 := n2_; have HO_275001 := n3_; have BK246 := n4_; have BK247 := n5_; have BK269 := n6_; have BK274 := n7_; have HB := n8_; clear n0_ n1_ n2_ n3_ n4_ n5_ n6_ n7_ n8_; (try clear hb); (try clear hb2); (try clear hk); (try clear hi)))
              have n0_ := Aside0.mk (Kd.R_drew HO_6.out)
              have n1_ := Aside0.mk (Kd.R_drew HO_9.out)
              have n2_ := Aside0.mk (Kd.R_drew HO_270000.out)
              have n3_ := Aside0.mk (Kd.R_drew HO_275001.out)
              have n4_ := Aside0.mk (blk_drew BK246.out)
              have n5_ := Aside0.mk (blk_drew BK247.out)
              have n6_ := Aside0.mk (blk_drew BK269.out)
              have n7_ := Aside0.mk (blk_drew BK274.out)
              have n8_ := Aside0.mk (below_drew1 HB.out)
              clear HO_6
              clear HO_9
              clear HO_270000
              clear HO_275001
              clear BK246
              clear BK247
              clear BK269
              clear BK274
              clear HB
              have HO_6 := n0_
              have HO_9 := n1_
              have HO_270000 := n2_
              have HO_275001 := n3_
              have BK246 := n4_
              have BK247 := n5_
              have BK269 := n6_
              have BK274 := n7_
              have HB := n8_
              clear n0_ n1_ n2_ n3_ n4_ n5_ n6_ n7_ n8_
              refine start_ (n := 6) (S := fun w' => w'.cell? ⟨gb246, 0, none⟩ = some (.slice A0_0 l0_0.length c0_0) ∧ w'.cell? ⟨gb246, 1, none⟩ = some (.int .i64 a0_1) ∧ w'.cell? ⟨gb246, 2, none⟩ = some (.int .i64 a0_2) ∧ w'.cell? ⟨gb246, 3, none⟩ = some (.bool a0_3) ∧ w'.cell? ⟨gb247, 0, none⟩ = some (.int .i64 a1_0) ∧ w'.cell? ⟨gb247, 1, none⟩ = some (.slice A1_1 l1_1.length c1_1)) (ds := []) #[o',o',o',o',o',o'] (by kernel_rfl) rfl rfl ⟨(blk_cell BK246.out 0).trans rfl, (blk_cell BK246.out 1).trans rfl, (blk_cell BK246.out 2).trans rfl, (blk_cell BK246.out 3).trans rfl, (blk_cell BK247.out 0).trans rfl, (blk_cell BK247.out 1).trans rfl⟩ (fun hHeld => ?_)
              generalize w96.drew = w97 at HO_6 HO_9 HO_270000 HO_275001 BK246 BK247 BK269 BK274 HB hHeld ⊢
              refine take_ (i := 0) (N := some 75) (v := ?_) (a' := ?_) #[i',o',o',o',o',o'] rfl rfl (by kernel_rfl) (fun _ _ _ h => h) (Or.inl ⟨by rfl, ?_⟩) hHeld ?_ ?_
              rotate_left
              ·rintro w' ⟨s0, s1, s2, s3, s4, s5⟩
               go_simp
               with_reducible rfl
              rotate_left
              ·simp only [Act.put, la_, lz_, ls_, i64_w, i32_w]
               rfl
              refine take_ (i := 2) (N := some 77) (v := ?_) (a' := ?_) #[i',o',i',o',o',o'] rfl rfl (by kernel_rfl) (fun _ _ _ h => h) (Or.inl ⟨by rfl, ?_⟩) hHeld ?_ ?_
              rotate_left
              ·rintro w' ⟨s0, s1, s2, s3, s4, s5⟩
               go_simp
               with_reducible rfl
              rotate_left
              ·simp only [Act.put, la_, lz_, ls_, i64_w, i32_w]
               rfl
              refine one_ (i := 1) (N := some 76) #[i',i',i',o',o',o'] rfl rfl (by kernel_rfl) (by decide) (fun K hK => ?_)
              refine goes_ Tryd.func7 (by kernel_rfl) rfl #[.agg #[.slice A0_0 l0_0.length c0_0, .int .i64 a0_1, .int .i64 a0_2, .bool a0_3]] (by rfl) rfl rfl ar_ ?_
              with_reducible refine (laws_toDisk.calls kj34 _ _ l0_0 a0_1 a0_2 a0_3 t299 t302 t303 t304 _ ?side1 ?side2 A87.out).mono ?_
              (case side1 => repeat (first | exact (Kd.C_below HR0_0.out HB.out) | (with_reducible refine Kd.C_alloc ?_ _) | (with_reducible refine Kd.C_drewN ?_ _) | (with_reducible refine Kd.C_drew ?_)))
              (case side2 => exact HC0_0.out)
              rintro e w98 ⟨v300, rfl, ho0, hb⟩
              refine ⟨_, rfl, ?_⟩
              have n0_ := Aside0.mk (Kd.R_below (rr_ HO_6) hb)
              have n1_ := Aside0.mk (Kd.R_below (rr_ HO_9) hb)
              have n2_ := Aside0.mk (Kd.R_elder' (rr_ HO_270000) (Kd.R_base ho0) hb)
              have n3_ := Aside0.mk (Kd.R_below (rr_ HO_275001) hb)
              have n4_ := Aside0.mk (Kd.R_lower (Kd.R_new' ho0 (Kd.R_lt (rr_ HO_270000))) (below_size (by repeat (first | (with_reducible first | exact HB.out | apply below_alloc | apply pw_below_drewN | apply below_drew1 | refine below_set ?_ GE246.out | refine below_set ?_ GE247.out | refine below_set ?_ GE269.out | refine below_set ?_ GE274.out) | exact HB.out))))
              have n5_ := Aside0.mk (blk_below (g := gb246) (o := .cells #[.slice A0_0 l0_0.length c0_0, .int .i64 a0_1, .int .i64 a0_2, .bool a0_3] 24 (0, 0)) (bk_ BK246) hb)
              have n6_ := Aside0.mk (blk_below (g := gb247) (o := .cells #[.int .i64 a1_0, .slice A1_1 l1_1.length c1_1] 27 (0, 0)) (bk_ BK247) hb)
              have n7_ := Aside0.mk (blk_below (g := gb269) (o := .cells #[.slice Ao52 t292.length co52, .int .i64 t266, .int .i64 t267, .bool t268] 34 (0, 0)) (bk_ BK269) hb)
              have n8_ := Aside0.mk (blk_below (g := gb274) (o := .cells #[.int .i64 t270, .slice Ao63 t294.length co63] 36 (0, 0)) (bk_ BK274) hb)
              have n9_ := Aside0.mk (below_step (by repeat (first | (with_reducible first | exact HB.out | apply below_alloc | apply pw_below_drewN | apply below_drew1 | refine below_set ?_ GE246.out | refine below_set ?_ GE247.out | refine below_set ?_ GE269.out | refine below_set ?_ GE274.out) | exact HB.out)) hb)
              clear HO_6
              clear HO_9
              clear HO_270000
              clear HO_275001
              clear BK246
              clear BK247
              clear BK269
              clear BK274
              clear HB
              have HO_6 := n0_
              have HO_9 := n1_
              have HO_270000 := n2_
              have HO_275001 := n3_
              have HO301 := n4_
              have BK246 := n5_
              have BK247 := n6_
              have BK269 := n7_
              have BK274 := n8_
              have HB := n9_
              clear n0_ n1_ n2_ n3_ n4_ n5_ n6_ n7_ n8_ n9_
              (try clear hb)
              (try clear hb2)
              (try clear hk)
              (try clear hi)
              (try clear ho0)
              refine hK.out _ _ ⟨(blk_cell BK246.out 0).trans rfl, (blk_cell BK246.out 1).trans rfl, (blk_cell BK246.out 2).trans rfl, (blk_cell BK246.out 3).trans rfl, (blk_cell BK247.out 0).trans rfl, (blk_cell BK247.out 1).trans rfl⟩ (fun hHeld => ?_)
              clear hK K
              refine norm_ (a' := ?_) ?_ ?_
              rotate_left
              ·show Act.put _ (some 76) _ = _
               simp only [Act.put, la_, lz_, ls_, i64_w, i32_w]
               rfl
              refine one_ (i := 3) (N := some 78) #[i',i',i',i',o',o'] rfl rfl (by kernel_rfl) (by decide) (fun K hK => ?_)
              refine goes_ Tryd.func8 (by kernel_rfl) rfl #[.agg #[.int .i64 a1_0, .slice A1_1 l1_1.length c1_1]] (by rfl) rfl rfl ar_ ?_
              with_reducible refine (laws_toLive.calls kj34 a1_0 _ _ l1_1 t305 t306 _ ?side1 ?side2 A88.out).mono ?_
              (case side1 => repeat (first | exact (Kd.C_below HR1_1.out HB.out) | (with_reducible refine Kd.C_alloc ?_ _) | (with_reducible refine Kd.C_drewN ?_ _) | (with_reducible refine Kd.C_drew ?_)))
              (case side2 => exact HC1_1.out)
              rintro e w99 ⟨v307, rfl, ho0, hb⟩
              refine ⟨_, rfl, ?_⟩
              have n0_ := Aside0.mk (Kd.R_below (rr_ HO_6) hb)
              have n1_ := Aside0.mk (Kd.R_below (rr_ HO_9) hb)
              have n2_ := Aside0.mk (Kd.R_below (rr_ HO_270000) hb)
              have n3_ := Aside0.mk (Kd.R_elder' (rr_ HO_275001) (Kd.R_base ho0) hb)
              have n4_ := Aside0.mk (Kd.R_below (rr_ HO301) hb)
              have n5_ := Aside0.mk (Kd.R_lower (Kd.R_new' ho0 (Kd.R_lt (rr_ HO_275001))) (below_size (by repeat (first | (with_reducible first | exact HB.out | apply below_alloc | apply pw_below_drewN | apply below_drew1 | refine below_set ?_ GE246.out | refine below_set ?_ GE247.out | refine below_set ?_ GE269.out | refine below_set ?_ GE274.out) | exact HB.out))))
              have n6_ := Aside0.mk (blk_below (g := gb246) (o := .cells #[.slice A0_0 l0_0.length c0_0, .int .i64 a0_1, .int .i64 a0_2, .bool a0_3] 24 (0, 0)) (bk_ BK246) hb)
              have n7_ := Aside0.mk (blk_below (g := gb247) (o := .cells #[.int .i64 a1_0, .slice A1_1 l1_1.length c1_1] 27 (0, 0)) (bk_ BK247) hb)
              have n8_ := Aside0.mk (blk_below (g := gb269) (o := .cells #[.slice Ao52 t292.length co52, .int .i64 t266, .int .i64 t267, .bool t268] 34 (0, 0)) (bk_ BK269) hb)
              have n9_ := Aside0.mk (blk_below (g := gb274) (o := .cells #[.int .i64 t270, .slice Ao63 t294.length co63] 36 (0, 0)) (bk_ BK274) hb)
              have n10_ := Aside0.mk (below_step (by repeat (first | (with_reducible first | exact HB.out | apply below_alloc | apply pw_below_drewN | apply below_drew1 | refine below_set ?_ GE246.out | refine below_set ?_ GE247.out | refine below_set ?_ GE269.out | refine below_set ?_ GE274.out) | exact HB.out)) hb)
              clear HO_6
              clear HO_9
              clear HO_270000
              clear HO_275001
              clear HO301
              clear BK246
              clear BK247
              clear BK269
              clear BK274
              clear HB
              have HO_6 := n0_
              have HO_9 := n1_
              have HO_270000 := n2_
              have HO_275001 := n3_
              have HO301 := n4_
              have HO308 := n5_
              have BK246 := n6_
              have BK247 := n7_
              have BK269 := n8_
              have BK274 := n9_
              have HB := n10_
              clear n0_ n1_ n2_ n3_ n4_ n5_ n6_ n7_ n8_ n9_ n10_
              (try clear hb)
              (try clear hb2)
              (try clear hk)
              (try clear hi)
              (try clear ho0)
              obtain ⟨Ao100, co100, eo100⟩ := Kd.R_slice HO301.out
              (first | subst eo100 | (injection eo100 with f1_ f2_ f3_; have f4_ := f1_.symm; have f5_ := f3_.symm; clear f1_ f2_ f3_; subst f4_; subst f5_))
              obtain ⟨Ao101, co101, eo101⟩ := Kd.R_slice HO308.out
              (first | subst eo101 | (injection eo101 with f1_ f2_ f3_; have f4_ := f1_.symm; have f5_ := f3_.symm; clear f1_ f2_ f3_; subst f4_; subst f5_))
              refine hK.out _ _ ⟨(blk_cell BK246.out 0).trans rfl, (blk_cell BK246.out 1).trans rfl, (blk_cell BK246.out 2).trans rfl, (blk_cell BK246.out 3).trans rfl, (blk_cell BK247.out 0).trans rfl, (blk_cell BK247.out 1).trans rfl⟩ (fun hHeld => ?_)
              clear hK K
              refine norm_ (a' := ?_) ?_ ?_
              rotate_left
              ·show Act.put _ (some 78) _ = _
               simp only [Act.put, la_, lz_, ls_, i64_w, i32_w]
               rfl
              refine one_ (i := 4) (N := some 79) #[i',i',i',i',i',o'] rfl rfl (by kernel_rfl) (by decide) (fun K hK => ?_)
              refine goes_ Tryd.func9 (by kernel_rfl) rfl #[.agg #[.slice Ao100 t299.length co100, .int .i64 t302, .int .i64 t303, .bool t304], .agg #[.int .i64 t305, .slice Ao101 t306.length co101]] (by rfl) rfl rfl ar_ ?_
              with_reducible refine (impl_Orphans.calls kj34 _ _ t299 t302 t303 t304 t305 _ _ t306 t309 _ (HTab.below (by repeat (first | (with_reducible first | exact HB.out | apply below_alloc | apply pw_below_drewN | apply below_drew1 | refine below_set ?_ GE246.out | refine below_set ?_ GE247.out | refine below_set ?_ GE269.out | refine below_set ?_ GE274.out) | exact HB.out))) ?side1 ?side2 ?side3 ?side4 A89.out).mono ?_
              (case side1 => repeat (first | exact (Kd.R_reads' HO301.out).2.2 | (with_reducible refine Kd.C_alloc ?_ _) | (with_reducible refine Kd.C_drewN ?_ _) | (with_reducible refine Kd.C_drew ?_)))
              (case side2 => exact (Kd.R_reads' HO301.out).2.1)
              (case side3 => repeat (first | exact (Kd.R_reads' HO308.out).2.2 | (with_reducible refine Kd.C_alloc ?_ _) | (with_reducible refine Kd.C_drewN ?_ _) | (with_reducible refine Kd.C_drew ?_)))
              (case side4 => exact (Kd.R_reads' HO308.out).2.1)
              rintro e w102 ⟨v310, rfl, ho0, hb⟩
              refine ⟨_, rfl, ?_⟩
              have n0_ := Aside0.mk (Kd.R_elder' (rr_ HO_6) (Kd.R_base ho0) hb)
              have n1_ := Aside0.mk (Kd.R_elder' (rr_ HO_9) (Kd.R_base ho0) hb)
              have n2_ := Aside0.mk (Kd.R_below (rr_ HO_270000) hb)
              have n3_ := Aside0.mk (Kd.R_below (rr_ HO_275001) hb)
              have n4_ := Aside0.mk (Kd.R_below (rr_ HO301) hb)
              have n5_ := Aside0.mk (Kd.R_below (rr_ HO308) hb)
              have n6_ := Aside0.mk (Kd.R_lower (Kd.R_new' (Kd.R_new' ho0 (Kd.R_lt (rr_ HO_6))) (Kd.R_lt (rr_ HO_9))) (below_size (by repeat (first | (with_reducible first | exact HB.out | apply below_alloc | apply pw_below_drewN | apply below_drew1 | refine below_set ?_ GE246.out | refine below_set ?_ GE247.out | refine below_set ?_ GE269.out | refine below_set ?_ GE274.out) | exact HB.out))))
              have n7_ := Aside0.mk (blk_below (g := gb246) (o := .cells #[.slice A0_0 l0_0.length c0_0, .int .i64 a0_1, .int .i64 a0_2, .bool a0_3] 24 (0, 0)) (bk_ BK246) hb)
              have n8_ := Aside0.mk (blk_below (g := gb247) (o := .cells #[.int .i64 a1_0, .slice A1_1 l1_1.length c1_1] 27 (0, 0)) (bk_ BK247) hb)
              have n9_ := Aside0.mk (blk_below (g := gb269) (o := .cells #[.slice Ao52 t292.length co52, .int .i64 t266, .int .i64 t267, .bool t268] 34 (0, 0)) (bk_ BK269) hb)
              have n10_ := Aside0.mk (blk_below (g := gb274) (o := .cells #[.int .i64 t270, .slice Ao63 t294.length co63] 36 (0, 0)) (bk_ BK274) hb)
              have n11_ := Aside0.mk (below_step (by repeat (first | (with_reducible first | exact HB.out | apply below_alloc | apply pw_below_drewN | apply below_drew1 | refine below_set ?_ GE246.out | refine below_set ?_ GE247.out | refine below_set ?_ GE269.out | refine below_set ?_ GE274.out) | exact HB.out)) hb)
              clear HO_6
              clear HO_9
              clear HO_270000
              clear HO_275001
              clear HO301
              clear HO308
              clear BK246
              clear BK247
              clear BK269
              clear BK274
              clear HB
              have HO_6 := n0_
              have HO_9 := n1_
              have HO_270000 := n2_
              have HO_275001 := n3_
              have HO301 := n4_
              have HO308 := n5_
              have HO311 := n6_
              have BK246 := n7_
              have BK247 := n8_
              have BK269 := n9_
              have BK274 := n10_
              have HB := n11_
              clear n0_ n1_ n2_ n3_ n4_ n5_ n6_ n7_ n8_ n9_ n10_ n11_
              (try clear hb)
              (try clear hb2)
              (try clear hk)
              (try clear hi)
              (try clear ho0)
              refine hK.out _ _ ⟨(blk_cell BK246.out 0).trans rfl, (blk_cell BK246.out 1).trans rfl, (blk_cell BK246.out 2).trans rfl, (blk_cell BK246.out 3).trans rfl, (blk_cell BK247.out 0).trans rfl, (blk_cell BK247.out 1).trans rfl⟩ (fun hHeld => ?_)
              clear hK K
              refine norm_ (a' := ?_) ?_ ?_
              rotate_left
              ·show Act.put _ (some 79) _ = _
               simp only [Act.put, la_, lz_, ls_, i64_w, i32_w]
               rfl
              refine pure_ (i := 5) (N := some 13) (v := ?_) (a' := ?_) #[i',i',i',i',i',i'] rfl rfl (by kernel_rfl) (fun _ _ _ h => h) (Or.inl ⟨by rfl, ?_⟩) ?_ ?_
              rotate_left;·intro w';go_simp;with_reducible rfl
              rotate_left;·simp only [Act.put, la_, lz_, ls_, i64_w, i32_w];rfl
              refine done_ (by kernel_rfl) ?_
              obtain ⟨Ao103, co103, eo103⟩ := Kd.R_slice HO311.out
              subst eo103
              try go_wp2_with (first | ((with_reducible refine gate_callee (f := 10) rfl ?_); refine goesL_ (some 82) rfl rfl Tryd.func10 (by kernel_rfl) rfl #[.slice Ao103 t309.length co103, .slice Ao67 t260.length co67] rfl ar_ ?_; (with_reducible refine (laws_eqStringS.calls kj34 _ _ t309 _ _ t260 true _ ?side1 ?side2 ?side3 ?side4 A90.out).mono ?_); (case side1 => repeat (first | exact (Kd.R_reads' HO311.out).2.2 | (with_reducible refine Kd.C_alloc ?_ _) | (with_reducible refine Kd.C_drewN ?_ _) | (with_reducible refine Kd.C_drew ?_))); (case side2 => exact (Kd.R_reads' HO311.out).2.1); (case side3 => repeat (first | exact (Kd.R_reads' HO_6.out).2.2 | (with_reducible refine Kd.C_alloc ?_ _) | (with_reducible refine Kd.C_drewN ?_ _) | (with_reducible refine Kd.C_drew ?_))); (case side4 => exact (Kd.R_reads' HO_6.out).2.1); rintro e w' ⟨rfl, ⟨nd, rfl⟩⟩; refine ⟨_, rfl, ?_⟩) | ((with_reducible refine gate_callee (f := 16) rfl ?_); refine goesL_ (some 86) rfl rfl Tryd.func16 (by kernel_rfl) rfl #[.slice Ao66 t297.length co66, .int .i64 1] rfl (by (try simp only [List.map_toArray, List.map_cons, List.map_nil]); first | done | (rw [show t297.length = t275.length from (Kd.R_reads' HO_9.out).1.symm] <;> rfl) | rfl | (simp only [List.length_drop, List.length_take]; rfl)) ?_; (with_reducible refine (laws_heldStringS.calls kj34 _ _ t297 1 t313 _ ?side1 ?side2 A92.out).mono ?_); (case side1 => repeat (first | exact (Kd.R_reads' HO_9.out).2.2 | (with_reducible refine Kd.C_alloc ?_ _) | (with_reducible refine Kd.C_drewN ?_ _) | (with_reducible refine Kd.C_drew ?_))); (case side2 => rw [show t297.length = t275.length from (Kd.R_reads' HO_9.out).1.symm]; exact (Kd.R_reads' HO_9.out).2.1); rintro e w104 ⟨rfl, hb⟩; refine ⟨_, rfl, ?_⟩; have n0_ := Aside0.mk (Kd.R_below (rr_ HO_6) hb); have n1_ := Aside0.mk (Kd.R_below (rr_ HO_9) hb); have n2_ := Aside0.mk (Kd.R_below (rr_ HO_270000) hb); have n3_ := Aside0.mk (Kd.R_below (rr_ HO_275001) hb); have n4_ := Aside0.mk (Kd.R_below (rr_ HO301) hb); have n5_ := Aside0.mk (Kd.R_below (rr_ HO308) hb); have n6_ := Aside0.mk (Kd.R_below (rr_ HO311) hb); have n7_ := Aside0.mk (blk_below (g := gb246) (o := .cells #[.slice A0_0 l0_0.length c0_0, .int .i64 a0_1, .int .i64 a0_2, .bool a0_3] 24 (0, 0)) (bk_ BK246) hb); have n8_ := Aside0.mk (blk_below (g := gb247) (o := .cells #[.int .i64 a1_0, .slice A1_1 l1_1.length c1_1] 27 (0, 0)) (bk_ BK247) hb); have n9_ := Aside0.mk (blk_below (g := gb269) (o := .cells #[.slice Ao52 t292.length co52, .int .i64 t266, .int .i64 t267, .bool t268] 34 (0, 0)) (bk_ BK269) hb); have n10_ := Aside0.mk (blk_below (g := gb274) (o := .cells #[.int .i64 t270, .slice Ao63 t294.length co63] 36 (0, 0)) (bk_ BK274) hb); have n11_ := Aside0.mk (below_step (by repeat (first | (with_reducible first | exact HB.out | apply below_alloc | apply pw_below_drewN | apply below_drew1 | refine below_set ?_ GE246.out | refine below_set ?_ GE247.out | refine below_set ?_ GE269.out | refine below_set ?_ GE274.out) | exact HB.out)) hb); clear HO_6; clear HO_9; clear HO_270000; clear HO_275001; clear HO301; clear HO308; clear HO311; clear BK246; clear BK247; clear BK269; clear BK274; clear HB; have HO_6 := n0_; have HO_9 := n1_; have HO_270000 := n2_; have HO_275001 := n3_; have HO301 := n4_; have HO308 := n5_; have HO311 := n6_; have BK246 := n7_; have BK247 := n8_; have BK269 := n9_; have BK274 := n10_; have HB := n11_; clear n0_ n1_ n2_ n3_ n4_ n5_ n6_ n7_ n8_ n9_ n10_ n11_; (try clear hb); (try clear hb2); (try clear hk); (try clear hi)))
              go_ret
              exact ⟨re_, by repeat (first | (with_reducible first | exact HB.out | apply below_alloc | apply pw_below_drewN | apply below_drew1 | refine below_set ?_ GE246.out | refine below_set ?_ GE247.out | refine below_set ?_ GE269.out | refine below_set ?_ GE274.out) | exact HB.out)⟩
             ·rw [if_neg c94] at H
              have c94b0 : (t313 == t296) = false := beq_eq_false_iff_ne.mpr c94
              have c94b1 : (t313 != t296) = true := bne_iff_ne.mpr c94
              exact absurd ((Option.some.inj H).trans HRT.out) (by decide)
           ·replace c91 := Bool.eq_false_iff.mpr c91
            subst c91
            have H1 : (some false) = some r := by rw [if_neg (show ¬ (false = true) by decide)] at H; exact H
            clear H
            have H := H1
            clear H1
            exact absurd ((Option.some.inj H).trans HRT.out) (by decide)
          ·rw [if_neg c86] at H
           have c86b0 : (t298 == t296) = false := beq_eq_false_iff_ne.mpr c86
           have c86b1 : (t298 != t296) = true := bne_iff_ne.mpr c86
           exact absurd ((Option.some.inj H).trans HRT.out) (by decide)
     ·replace c32 := Bool.eq_false_iff.mpr c32
      subst c32
      have H1 : (some false) = some r := by rw [if_neg (show ¬ (false = true) by decide)] at H; exact H
      clear H
      have H := H1
      clear H1
      exact absurd ((Option.some.inj H).trans HRT.out) (by decide)
    ·replace c29 := Bool.eq_false_iff.mpr c29
     subst c29
     have H1 : (some false) = some r := by rw [if_neg (show ¬ (false = true) by decide)] at H; exact H
     clear H
     have H := H1
     clear H1
     exact absurd ((Option.some.inj H).trans HRT.out) (by decide)
   ·replace c26 := Bool.eq_false_iff.mpr c26
    subst c26
    have H1 : (some false) = some r := by rw [if_neg (show ¬ (false = true) by decide)] at H; exact H
    clear H
    have H := H1
    clear H1
    exact absurd ((Option.some.inj H).trans HRT.out) (by decide)

/-- THE ONE PURE STATEMENT of laws_FnExactOrphans. -/
def laws_FnExactOrphans.Pure : Prop := ∀ (l0_0 : List (S60)) (a0_1 : Int) (a0_2 : Int) (a0_3 : Bool) (a1_0 : Int) (l1_1 : List Int), (l0_0.length ≤ maxLen ∧ ∀ z ∈ l0_0, (z.f0.size ≤ maxLen) ∧ (z.f1.size ≤ maxLen) ∧ ((Lit.int .i64 z.f2).wf = true)) → ((Lit.int .i64 a0_1).wf = true) → ((Lit.int .i64 a0_2).wf = true) → ((Lit.int .i64 a1_0).wf = true) → (l1_1.length ≤ maxLen ∧ ∀ z ∈ l1_1, (Lit.int .i64 z).wf = true) → ∃ k, laws_FnExactOrphans.f k l0_0 a0_1 a0_2 a0_3 a1_0 l1_1 = some true

end Go.Proofs.YtodmaebgogjpdaaDoor.PFnExactOrphans
