-- Laid by a program of this session, a copy of the kit's printer with additions (wip/patch_print.py): myhead. Lean checks it.
import Derived.Test.YtebeafcdabkkfabPFnExactSealedx0
namespace Go.Proofs.Ytebeafcdabkkfab.PFnExactSealed
open Go.RowKit Go.Proofs.YtebeafcdabkkfabW.PrintWords Go.Proofs.YtebeafcdabkkfabW.PrintLast Go.Proofs.YtebeafcdabkkfabW.PrintMore
attribute [local go_sem] max2_int min2_int max_two min_two max_three min_three max_four min_four   -- for this text's walks alone
set_option linter.unusedVariables false
set_option linter.unusedSimpArgs false

/-! ### impl_ownOf: function 51 -/
mutual
def impl_ownOf.l0 : Nat → List (S82) → List (S82) → Int → Int → Int → Int → ByteArray → ByteArray → Int → Int → Option ((List (S82)))
 | 0, _, _, _, _, _, _, _, _, _, _ => none
 | k + 1, x5, x9, x10, x11, x269000, x269001, x269002, x269003, x269004, x269005 => if x11 < x10 then (if 0 ≤ x11 then (if x11 < (x9.length : Int) then (if x269000 = 3 then (impl_ownOf.j1 k x5 x9 x10 x11 (((rd_T82 x9 x11).f3.f1) != x269001) x269000 x269001 x269002 x269003 x269004 x269005 ((rd_T82 x9 x11).f0) ((rd_T82 x9 x11).f1) ((rd_T82 x9 x11).f2) ((rd_T82 x9 x11).f3.f0) ((rd_T82 x9 x11).f3.f1) ((rd_T82 x9 x11).f3.f2) ((rd_T82 x9 x11).f3.f3) ((rd_T82 x9 x11).f3.f4) ((rd_T82 x9 x11).f3.f5) ((rd_T82 x9 x11).f3.f0) ((rd_T82 x9 x11).f3.f1) ((rd_T82 x9 x11).f3.f2) ((rd_T82 x9 x11).f3.f3) ((rd_T82 x9 x11).f3.f4) ((rd_T82 x9 x11).f3.f5)) else (impl_ownOf.j1 k x5 x9 x10 x11 false x269000 x269001 x269002 x269003 x269004 x269005 ((rd_T82 x9 x11).f0) ((rd_T82 x9 x11).f1) ((rd_T82 x9 x11).f2) ((rd_T82 x9 x11).f3.f0) ((rd_T82 x9 x11).f3.f1) ((rd_T82 x9 x11).f3.f2) ((rd_T82 x9 x11).f3.f3) ((rd_T82 x9 x11).f3.f4) ((rd_T82 x9 x11).f3.f5) ((rd_T82 x9 x11).f3.f0) ((rd_T82 x9 x11).f3.f1) ((rd_T82 x9 x11).f3.f2) ((rd_T82 x9 x11).f3.f3) ((rd_T82 x9 x11).f3.f4) ((rd_T82 x9 x11).f3.f5))) else (none)) else (none)) else (some x5)
def impl_ownOf.j1 : Nat → List (S82) → List (S82) → Int → Int → Bool → Int → Int → ByteArray → ByteArray → Int → Int → Int → Int → Int → Int → Int → ByteArray → ByteArray → Int → Int → Int → Int → ByteArray → ByteArray → Int → Int → Option ((List (S82)))
 | 0, _, _, _, _, _, _, _, _, _, _, _, _, _, _, _, _, _, _, _, _, _, _, _, _, _, _ => none
 | k + 1, x5, x9, x10, x11, x17, x269000, x269001, x269002, x269003, x269004, x269005, x271000, x271001, x271002, x271003, x271004, x271005, x271006, x271007, x271008, x272000, x272001, x272002, x272003, x272004, x272005 => if x17 = true then (impl_ownOf.l0 k x5 x9 x10 (wrap64 (x11 + 1)) x269000 x269001 x269002 x269003 x269004 x269005) else (if x272000 = x269000 then (impl_ownOf.l0 k ([] : List (S82)) x9 x10 (wrap64 (x11 + 1)) x269000 x269001 x269002 x269003 x269004 x269005) else (if x269000 = 3 then (if x272000 = 1 then (impl_ownOf.j2 k x5 x9 x10 x11 true x269000 x269001 x269002 x269003 x269004 x269005 x271000 x271001 x271002 x271003 x271004 x271005 x271006 x271007 x271008 x272000 x272001 x272002 x272003 x272004 x272005) else (impl_ownOf.j2 k x5 x9 x10 x11 (x272000 == 2) x269000 x269001 x269002 x269003 x269004 x269005 x271000 x271001 x271002 x271003 x271004 x271005 x271006 x271007 x271008 x272000 x272001 x272002 x272003 x272004 x272005)) else (impl_ownOf.j2 k x5 x9 x10 x11 false x269000 x269001 x269002 x269003 x269004 x269005 x271000 x271001 x271002 x271003 x271004 x271005 x271006 x271007 x271008 x272000 x272001 x272002 x272003 x272004 x272005)))
def impl_ownOf.j2 : Nat → List (S82) → List (S82) → Int → Int → Bool → Int → Int → ByteArray → ByteArray → Int → Int → Int → Int → Int → Int → Int → ByteArray → ByteArray → Int → Int → Int → Int → ByteArray → ByteArray → Int → Int → Option ((List (S82)))
 | 0, _, _, _, _, _, _, _, _, _, _, _, _, _, _, _, _, _, _, _, _, _, _, _, _, _, _ => none
 | k + 1, x5, x9, x10, x11, x34, x269000, x269001, x269002, x269003, x269004, x269005, x271000, x271001, x271002, x271003, x271004, x271005, x271006, x271007, x271008, x272000, x272001, x272002, x272003, x272004, x272005 => if x34 = true then (if x5.length < 1599289640401 then (impl_ownOf.l0 k (x5 ++ [(⟨x271000, x271001, x271002, (⟨x271003, x271004, x271005, x271006, x271007, x271008⟩ : S47)⟩ : S82)]) x9 x10 (wrap64 (x11 + 1)) x269000 x269001 x269002 x269003 x269004 x269005) else (none)) else (if x269000 = 5 then (if x272000 = 4 then (if x5.length < 1599289640401 then (impl_ownOf.l0 k (x5 ++ [(⟨x271000, x271001, x271002, (⟨x271003, x271004, x271005, x271006, x271007, x271008⟩ : S47)⟩ : S82)]) x9 x10 (wrap64 (x11 + 1)) x269000 x269001 x269002 x269003 x269004 x269005) else (none)) else (impl_ownOf.l0 k x5 x9 x10 (wrap64 (x11 + 1)) x269000 x269001 x269002 x269003 x269004 x269005)) else (impl_ownOf.l0 k x5 x9 x10 (wrap64 (x11 + 1)) x269000 x269001 x269002 x269003 x269004 x269005))
end
def impl_ownOf.f (k : Nat) (l0 : List (S82)) (a1_0 : Int) (a1_1 : Int) (a1_2 : ByteArray) (a1_3 : ByteArray) (a1_4 : Int) (a1_5 : Int) : Option ((List (S82))) := impl_ownOf.l0 k ([] : List (S82)) l0 (l0.length : Int) 0 a1_0 a1_1 a1_2 a1_3 a1_4 a1_5
theorem impl_ownOf.mono_l : ∀ k, (∀ y0 y1 y2 y3 y4 y5 y6 y7 y8 y9, LeO (impl_ownOf.l0 k y0 y1 y2 y3 y4 y5 y6 y7 y8 y9) (impl_ownOf.l0 (k + 1) y0 y1 y2 y3 y4 y5 y6 y7 y8 y9)) ∧ (∀ y0 y1 y2 y3 y4 y5 y6 y7 y8 y9 y10 y11 y12 y13 y14 y15 y16 y17 y18 y19 y20 y21 y22 y23 y24 y25, LeO (impl_ownOf.j1 k y0 y1 y2 y3 y4 y5 y6 y7 y8 y9 y10 y11 y12 y13 y14 y15 y16 y17 y18 y19 y20 y21 y22 y23 y24 y25) (impl_ownOf.j1 (k + 1) y0 y1 y2 y3 y4 y5 y6 y7 y8 y9 y10 y11 y12 y13 y14 y15 y16 y17 y18 y19 y20 y21 y22 y23 y24 y25)) ∧ (∀ y0 y1 y2 y3 y4 y5 y6 y7 y8 y9 y10 y11 y12 y13 y14 y15 y16 y17 y18 y19 y20 y21 y22 y23 y24 y25, LeO (impl_ownOf.j2 k y0 y1 y2 y3 y4 y5 y6 y7 y8 y9 y10 y11 y12 y13 y14 y15 y16 y17 y18 y19 y20 y21 y22 y23 y24 y25) (impl_ownOf.j2 (k + 1) y0 y1 y2 y3 y4 y5 y6 y7 y8 y9 y10 y11 y12 y13 y14 y15 y16 y17 y18 y19 y20 y21 y22 y23 y24 y25))
 | 0 => ⟨fun _ _ _ _ _ _ _ _ _ _ r h => by simp [impl_ownOf.l0] at h, fun _ _ _ _ _ _ _ _ _ _ _ _ _ _ _ _ _ _ _ _ _ _ _ _ _ _ r h => by simp [impl_ownOf.j1] at h, fun _ _ _ _ _ _ _ _ _ _ _ _ _ _ _ _ _ _ _ _ _ _ _ _ _ _ r h => by simp [impl_ownOf.j2] at h⟩
 | k + 1 => by
  obtain ⟨ih0, ih1, ih2⟩ := impl_ownOf.mono_l k
  refine ⟨?_, ?_, ?_⟩
  ·intro y0 y1 y2 y3 y4 y5 y6 y7 y8 y9
   unfold impl_ownOf.l0
   repeat' first
   | (with_reducible exact ih0 _ _ _ _ _ _ _ _ _ _)
   | (with_reducible exact ih1 _ _ _ _ _ _ _ _ _ _ _ _ _ _ _ _ _ _ _ _ _ _ _ _ _ _)
   | (with_reducible exact ih2 _ _ _ _ _ _ _ _ _ _ _ _ _ _ _ _ _ _ _ _ _ _ _ _ _ _)
   | (with_reducible exact LeO.refl _)
   | (with_reducible exact LeO.none _)
   | (with_reducible refine LeO.ite ?_ ?_)
   | (with_reducible refine LeO.bind ?_ (fun _ => ?_))
   | exact ih0 _ _ _ _ _ _ _ _ _ _
   | exact ih1 _ _ _ _ _ _ _ _ _ _ _ _ _ _ _ _ _ _ _ _ _ _ _ _ _ _
   | exact ih2 _ _ _ _ _ _ _ _ _ _ _ _ _ _ _ _ _ _ _ _ _ _ _ _ _ _
   | exact LeO.none _
   | refine LeO.ite ?_ ?_
   | refine LeO.bind ?_ (fun _ => ?_)
  ·intro y0 y1 y2 y3 y4 y5 y6 y7 y8 y9 y10 y11 y12 y13 y14 y15 y16 y17 y18 y19 y20 y21 y22 y23 y24 y25
   unfold impl_ownOf.j1
   repeat' first
   | (with_reducible exact ih0 _ _ _ _ _ _ _ _ _ _)
   | (with_reducible exact ih1 _ _ _ _ _ _ _ _ _ _ _ _ _ _ _ _ _ _ _ _ _ _ _ _ _ _)
   | (with_reducible exact ih2 _ _ _ _ _ _ _ _ _ _ _ _ _ _ _ _ _ _ _ _ _ _ _ _ _ _)
   | (with_reducible exact LeO.refl _)
   | (with_reducible exact LeO.none _)
   | (with_reducible refine LeO.ite ?_ ?_)
   | (with_reducible refine LeO.bind ?_ (fun _ => ?_))
   | exact ih0 _ _ _ _ _ _ _ _ _ _
   | exact ih1 _ _ _ _ _ _ _ _ _ _ _ _ _ _ _ _ _ _ _ _ _ _ _ _ _ _
   | exact ih2 _ _ _ _ _ _ _ _ _ _ _ _ _ _ _ _ _ _ _ _ _ _ _ _ _ _
   | exact LeO.none _
   | refine LeO.ite ?_ ?_
   | refine LeO.bind ?_ (fun _ => ?_)
  ·intro y0 y1 y2 y3 y4 y5 y6 y7 y8 y9 y10 y11 y12 y13 y14 y15 y16 y17 y18 y19 y20 y21 y22 y23 y24 y25
   unfold impl_ownOf.j2
   repeat' first
   | (with_reducible exact ih0 _ _ _ _ _ _ _ _ _ _)
   | (with_reducible exact ih1 _ _ _ _ _ _ _ _ _ _ _ _ _ _ _ _ _ _ _ _ _ _ _ _ _ _)
   | (with_reducible exact ih2 _ _ _ _ _ _ _ _ _ _ _ _ _ _ _ _ _ _ _ _ _ _ _ _ _ _)
   | (with_reducible exact LeO.refl _)
   | (with_reducible exact LeO.none _)
   | (with_reducible refine LeO.ite ?_ ?_)
   | (with_reducible refine LeO.bind ?_ (fun _ => ?_))
   | exact ih0 _ _ _ _ _ _ _ _ _ _
   | exact ih1 _ _ _ _ _ _ _ _ _ _ _ _ _ _ _ _ _ _ _ _ _ _ _ _ _ _
   | exact ih2 _ _ _ _ _ _ _ _ _ _ _ _ _ _ _ _ _ _ _ _ _ _ _ _ _ _
   | exact LeO.none _
   | refine LeO.ite ?_ ?_
   | refine LeO.bind ?_ (fun _ => ?_)
theorem impl_ownOf.mono : ∀ a0 a1 a2 a3 a4 a5 a6 k, LeO (impl_ownOf.f k a0 a1 a2 a3 a4 a5 a6) (impl_ownOf.f (k + 1) a0 a1 a2 a3 a4 a5 a6) := by
 intro a0 a1 a2 a3 a4 a5 a6 k
 obtain ⟨ih0, ih1, ih2⟩ := impl_ownOf.mono_l k
 unfold impl_ownOf.f
 repeat' first
   | (with_reducible exact ih0 _ _ _ _ _ _ _ _ _ _)
   | (with_reducible exact ih1 _ _ _ _ _ _ _ _ _ _ _ _ _ _ _ _ _ _ _ _ _ _ _ _ _ _)
   | (with_reducible exact ih2 _ _ _ _ _ _ _ _ _ _ _ _ _ _ _ _ _ _ _ _ _ _ _ _ _ _)
   | (with_reducible exact LeO.refl _)
   | (with_reducible exact LeO.none _)
   | (with_reducible refine LeO.ite ?_ ?_)
   | (with_reducible refine LeO.bind ?_ (fun _ => ?_))
   | exact ih0 _ _ _ _ _ _ _ _ _ _
   | exact ih1 _ _ _ _ _ _ _ _ _ _ _ _ _ _ _ _ _ _ _ _ _ _ _ _ _ _
   | exact ih2 _ _ _ _ _ _ _ _ _ _ _ _ _ _ _ _ _ _ _ _ _ _ _ _ _ _
   | exact LeO.none _
   | refine LeO.ite ?_ ?_
   | refine LeO.bind ?_ (fun _ => ?_)
set_option maxHeartbeats 8000000 in
set_option maxRecDepth 100000 in
theorem impl_ownOf.calls (k : Nat) (A0 : Option Addr) (c0 : Nat) (l0 : List (S82)) (a1_0 : Int) (a1_1 : Int) (a1_2 : ByteArray) (a1_3 : ByteArray) (a1_4 : Int) (a1_5 : Int) (r : List (S82)) (w : World) (hr0 : Kd.C k82 w A0 l0.length l0) (hc0 : l0.length ≤ c0) (h : impl_ownOf.f k l0 a1_0 a1_1 a1_2 a1_3 a1_4 a1_5 = some r) :
  Calls Try.prog 51 #[.slice A0 l0.length c0, .agg #[.int .i64 a1_0, .int .i64 a1_1, .string a1_2, .string a1_3, .int .i64 a1_4, .int .i64 a1_5]] w fun e w' => ∃ v0_ : Value, e = .returned (v0_) ∧ Kd.R k82 82 w' w.heap.size (fun _ => True) v0_ r ∧ Below w.heap.size w w' := by
 have hu47 := Try.underlying47
 have hu82 := Try.underlying82
 have HR0 := Aside0.mk hr0
 have HC0 := Aside0.mk hc0
 clear hr0 hc0
 have HB := Aside0.mk (Below.refl w.heap.size w)
 have H : (impl_ownOf.l0 k ([] : List (S82)) l0 (l0.length : Int) 0 a1_0 a1_1 a1_2 a1_3 a1_4 a1_5) = some r := h
 clear h
 have H' := Aside0.mk H
 clear H
 go_enter Try.func51, Try.ntmps51
 go_wp2_with (first | ((with_reducible refine gate_dst (N := 3) rfl ?_); refine box_event ?hg (N := 3) ?hd (cs := #[.int .i64 a1_0, .int .i64 a1_1, .string a1_2, .string a1_3, .int .i64 a1_4, .int .i64 a1_5]) (t := 47) ?hr ?_; (case hd => rfl); (case hg => rfl); (case hr => first | (go_simp; done) | (go_simp; rfl)); intro gb268 hg w3 hbox hb; have n0_ := Aside0.mk (below_step (hb_ HB) hb); have n1_ := Aside0.mk (hbox); have n2_ := Aside0.mk ((by rw [hg]; exact (below_size (hb_ HB)) : w.heap.size ≤ gb268)); have n3_ := Aside0.mk ((by rw [hg]; exact (below_size (hb_ HB)) : w.heap.size ≤ gb268)); clear HB; have HB := n0_; have BK268 := n1_; have GW268 := n2_; have GE268 := n3_; clear n0_ n1_ n2_ n3_; clear hb hbox hg))
 go_loopg [5, 11] k (fun kq v5 v11 w' => ∃ (x5_1 : List (S82)) (x11_1 : Int), v11 = .int .i64 x11_1 ∧ Aside0 (impl_ownOf.l0 kq x5_1 l0 (l0.length : Int) x11_1 a1_0 a1_1 a1_2 a1_3 a1_4 a1_5 = some r) ∧ Aside0 (kq ≤ k) ∧ Aside0 (Kd.R k82 82 w' w.heap.size (fun _ => True) v5 x5_1) ∧ Aside0 (w'.heap[gb268]? = some (.cells #[.int .i64 a1_0, .int .i64 a1_1, .string a1_2, .string a1_3, .int .i64 a1_4, .int .i64 a1_5] 47 (0, 0))) ∧ Aside0 (Below w.heap.size w w'))
 case atStart => exact ⟨(([] : List (S82))), (0), rs_, H', ⟨Nat.le_refl _⟩, ⟨by first | exact Kd.R_nil _ _ _ _ _ | exact Kd.N_nil _ _ _ _ _ | exact Kd.V_nil _ _ _ _ _ | exact Kd.Q_nil _ _ _ _ _ | exact Kd.S_nil _ _ _ _ _⟩, ⟨bk_ BK268⟩, ⟨hs_ HB GE268⟩⟩
 case round =>
  clear H'
  try clear p2
  obtain ⟨x5_1, x11_1, rfl, HA, HK1, HO_5, BK268, HB⟩ := hrel
  cases gk with
  | zero => exact absurd HA.out (by simp [impl_ownOf.l0])
  | succ k1 =>
   have H := HA.out
   clear HA
   simp only [impl_ownOf.l0] at H
   by_cases c4 : x11_1 < (l0.length : Int)
   ·rw [if_pos c4] at H
    have c4b0 : decide (x11_1 < (l0.length : Int)) = true := decide_eq_true c4
    clear c4
    by_cases c5 : 0 ≤ x11_1
    ·rw [if_pos c5] at H
     have c5b0 : decide (0 ≤ x11_1) = true := decide_eq_true c5
     clear c5
     by_cases c6 : x11_1 < (l0.length : Int)
     ·rw [if_pos c6] at H
      have c6b0 : decide (x11_1 < (l0.length : Int)) = true := decide_eq_true c6
      clear c6
      have HC7 := Aside0.mk H
      clear H
      have p269 : 0 ≤ (x11_1 : Int) := of_decide_eq_true as_
      have q269 : x11_1 < (l0.length : Int) := of_decide_eq_true as_
      obtain ⟨ad269, e269, hx269_0, hx269_1, hx269_2, hx269_3, hx269_4, hx269_5, hx269_6, hx269_7, hx269_8⟩ := at_T82 HR0.out x11_1 p269 q269
      cases e269
      replace hx269_0 := (HB.out.cell (World.block_lt_of_cell? w _ hx269_0)).trans hx269_0
      replace hx269_1 := (HB.out.cell (World.block_lt_of_cell? w _ hx269_1)).trans hx269_1
      replace hx269_2 := (HB.out.cell (World.block_lt_of_cell? w _ hx269_2)).trans hx269_2
      replace hx269_3 := (HB.out.cell (World.block_lt_of_cell? w _ hx269_3)).trans hx269_3
      replace hx269_4 := (HB.out.cell (World.block_lt_of_cell? w _ hx269_4)).trans hx269_4
      replace hx269_5 := (HB.out.cell (World.block_lt_of_cell? w _ hx269_5)).trans hx269_5
      replace hx269_6 := (HB.out.cell (World.block_lt_of_cell? w _ hx269_6)).trans hx269_6
      replace hx269_7 := (HB.out.cell (World.block_lt_of_cell? w _ hx269_7)).trans hx269_7
      replace hx269_8 := (HB.out.cell (World.block_lt_of_cell? w _ hx269_8)).trans hx269_8
      replace p269 := eq_true p269
      replace q269 := eq_true q269
      go_upto_region 6 with (first | ((with_reducible refine gate_dst (N := 7) rfl ?_); refine box_event ?hg (N := 7) ?hd (cs := #[.int .i64 0, .int .i64 0, .int .i64 0, .int .i64 0, .int .i64 0, .string (⟨#[]⟩ : ByteArray), .string (⟨#[]⟩ : ByteArray), .int .i64 0, .int .i64 0]) (t := 82) ?hr ?_; (case hd => rfl); (case hg => rfl); (case hr => first | (go_simp; done) | (go_simp; rfl)); intro gb270 hg w8 hbox hb; have n0_ := Aside0.mk (Kd.R_below (Kd.R_elderB (rr_ HO_5) gb270 (Nat.le_of_eq hg.symm)) hb); have n1_ := Aside0.mk (blk_below (g := gb268) (o := .cells #[.int .i64 a1_0, .int .i64 a1_1, .string a1_2, .string a1_3, .int .i64 a1_4, .int .i64 a1_5] 47 (0, 0)) (bk_ BK268) hb); have n2_ := Aside0.mk (below_step (hs_ HB GE268) hb); have n3_ := Aside0.mk (hbox); have n4_ := Aside0.mk ((by rw [hg]; exact (below_size (hs_ HB GE268)) : w.heap.size ≤ gb270)); have n5_ := Aside0.mk ((by rw [hg]; exact (below_size (hs_ HB GE268)) : w.heap.size ≤ gb270)); have n6_ := Aside0.mk ((by rw [hg]; exact Nat.ne_of_lt (blk_lt (g := gb268) (o := .cells #[.int .i64 a1_0, .int .i64 a1_1, .string a1_2, .string a1_3, .int .i64 a1_4, .int .i64 a1_5] 47 (0, 0)) (bk_ BK268)) : gb268 ≠ gb270)); have n7_ := Aside0.mk ((by rw [hg]; exact Nat.ne_of_gt (blk_lt (g := gb268) (o := .cells #[.int .i64 a1_0, .int .i64 a1_1, .string a1_2, .string a1_3, .int .i64 a1_4, .int .i64 a1_5] 47 (0, 0)) (bk_ BK268)) : gb270 ≠ gb268)); clear HO_5; clear BK268; clear HB; have HO_5 := n0_; have BK268 := n1_; have HB := n2_; have BK270 := n3_; have GW270 := n4_; have GE270 := n5_; have NB268_270 := n6_; have NB270_268 := n7_; clear n0_ n1_ n2_ n3_ n4_ n5_ n6_ n7_; clear hb hbox hg; have hnb9 := NB270_268.out; have hnc9 := NB268_270.out; have hcz10_0 : w8.cell? ⟨gb270, 0, none⟩ = some (.int .i64 0) := (blk_cell BK270.out 0).trans rfl; have hcz10_1 : w8.cell? ⟨gb270, 1, none⟩ = some (.int .i64 0) := (blk_cell BK270.out 1).trans rfl; have hcz10_2 : w8.cell? ⟨gb270, 2, none⟩ = some (.int .i64 0) := (blk_cell BK270.out 2).trans rfl; have hcz10_3 : w8.cell? ⟨gb270, 3, none⟩ = some (.int .i64 0) := (blk_cell BK270.out 3).trans rfl; have hcz10_4 : w8.cell? ⟨gb270, 4, none⟩ = some (.int .i64 0) := (blk_cell BK270.out 4).trans rfl; have hcz10_5 : w8.cell? ⟨gb270, 5, none⟩ = some (.string (⟨#[]⟩ : ByteArray)) := (blk_cell BK270.out 5).trans rfl; have hcz10_6 : w8.cell? ⟨gb270, 6, none⟩ = some (.string (⟨#[]⟩ : ByteArray)) := (blk_cell BK270.out 6).trans rfl; have hcz10_7 : w8.cell? ⟨gb270, 7, none⟩ = some (.int .i64 0) := (blk_cell BK270.out 7).trans rfl; have hcz10_8 : w8.cell? ⟨gb270, 8, none⟩ = some (.int .i64 0) := (blk_cell BK270.out 8).trans rfl; have hfz10_0 := blk_frozen BK270.out 0; have hfz10_1 := blk_frozen BK270.out 1; have hfz10_2 := blk_frozen BK270.out 2; have hfz10_3 := blk_frozen BK270.out 3; have hfz10_4 := blk_frozen BK270.out 4; have hfz10_5 := blk_frozen BK270.out 5; have hfz10_6 := blk_frozen BK270.out 6; have hfz10_7 := blk_frozen BK270.out 7; have hfz10_8 := blk_frozen BK270.out 8) | ((with_reducible refine gate_dst (N := 8) rfl ?_); refine box_event ?hg (N := 8) ?hd (cs := #[.int .i64 0, .int .i64 0, .string (⟨#[]⟩ : ByteArray), .string (⟨#[]⟩ : ByteArray), .int .i64 0, .int .i64 0]) (t := 47) ?hr ?_; (case hd => rfl); (case hg => rfl); (case hr => first | (go_simp; done) | (go_simp; rfl)); intro gb271 hg w11 hbox hb; have n0_ := Aside0.mk (Kd.R_below (by (with_reducible repeat (first | apply Kd.R_alloc | apply Kd.R_drewN | apply Kd.R_drew)); exact (Kd.R_mono (Kd.R_far (p := ⟨gb270, 8, none⟩) (Kd.R_far (p := ⟨gb270, 7, none⟩) (Kd.R_far (p := ⟨gb270, 6, none⟩) (Kd.R_far (p := ⟨gb270, 5, none⟩) (Kd.R_far (p := ⟨gb270, 4, none⟩) (Kd.R_far (p := ⟨gb270, 3, none⟩) (Kd.R_far (p := ⟨gb270, 2, none⟩) (Kd.R_far (p := ⟨gb270, 1, none⟩) (Kd.R_far (p := ⟨gb270, 0, none⟩) (Kd.R_mono HO_5.out (fun k_ hk => (⟨hk, hk.2⟩ : _ ∧ k_ ≠ gb270))) (fun _ hk => hk.2) (.int .i64 ((rd_T82 l0 x11_1).f0))) (fun _ hk => hk.2) (.int .i64 ((rd_T82 l0 x11_1).f1))) (fun _ hk => hk.2) (.int .i64 ((rd_T82 l0 x11_1).f2))) (fun _ hk => hk.2) (.int .i64 ((rd_T82 l0 x11_1).f3.f0))) (fun _ hk => hk.2) (.int .i64 ((rd_T82 l0 x11_1).f3.f1))) (fun _ hk => hk.2) (.string ((rd_T82 l0 x11_1).f3.f2))) (fun _ hk => hk.2) (.string ((rd_T82 l0 x11_1).f3.f3))) (fun _ hk => hk.2) (.int .i64 ((rd_T82 l0 x11_1).f3.f4))) (fun _ hk => hk.2) (.int .i64 ((rd_T82 l0 x11_1).f3.f5))) (fun _ h_ => h_.1))) hb); have n1_ := Aside0.mk (blk_below (g := gb268) (o := .cells #[.int .i64 a1_0, .int .i64 a1_1, .string a1_2, .string a1_3, .int .i64 a1_4, .int .i64 a1_5] 47 (0, 0)) (by (with_reducible repeat (first | refine blk_drewN ?_ _ | refine blk_drew ?_ | refine blk_alloc ?_ _)); refine blk_far ?_ NB268_270.out _; (with_reducible repeat (first | refine blk_drewN ?_ _ | refine blk_drew ?_ | refine blk_alloc ?_ _)); refine blk_far ?_ NB268_270.out _; (with_reducible repeat (first | refine blk_drewN ?_ _ | refine blk_drew ?_ | refine blk_alloc ?_ _)); refine blk_far ?_ NB268_270.out _; (with_reducible repeat (first | refine blk_drewN ?_ _ | refine blk_drew ?_ | refine blk_alloc ?_ _)); refine blk_far ?_ NB268_270.out _; (with_reducible repeat (first | refine blk_drewN ?_ _ | refine blk_drew ?_ | refine blk_alloc ?_ _)); refine blk_far ?_ NB268_270.out _; (with_reducible repeat (first | refine blk_drewN ?_ _ | refine blk_drew ?_ | refine blk_alloc ?_ _)); refine blk_far ?_ NB268_270.out _; (with_reducible repeat (first | refine blk_drewN ?_ _ | refine blk_drew ?_ | refine blk_alloc ?_ _)); refine blk_far ?_ NB268_270.out _; (with_reducible repeat (first | refine blk_drewN ?_ _ | refine blk_drew ?_ | refine blk_alloc ?_ _)); refine blk_far ?_ NB268_270.out _; (with_reducible repeat (first | refine blk_drewN ?_ _ | refine blk_drew ?_ | refine blk_alloc ?_ _)); refine blk_far ?_ NB268_270.out _; (with_reducible repeat (first | refine blk_drewN ?_ _ | refine blk_drew ?_ | refine blk_alloc ?_ _)); exact BK268.out) hb); have n2_ := Aside0.mk (blk_below (g := gb270) (o := .cells #[.int .i64 ((rd_T82 l0 x11_1).f0), .int .i64 ((rd_T82 l0 x11_1).f1), .int .i64 ((rd_T82 l0 x11_1).f2), .int .i64 ((rd_T82 l0 x11_1).f3.f0), .int .i64 ((rd_T82 l0 x11_1).f3.f1), .string ((rd_T82 l0 x11_1).f3.f2), .string ((rd_T82 l0 x11_1).f3.f3), .int .i64 ((rd_T82 l0 x11_1).f3.f4), .int .i64 ((rd_T82 l0 x11_1).f3.f5)] 82 (0, 0)) (by (with_reducible repeat (first | refine blk_drewN ?_ _ | refine blk_drew ?_ | refine blk_alloc ?_ _)); refine blk_put (cs := #[.int .i64 ((rd_T82 l0 x11_1).f0), .int .i64 ((rd_T82 l0 x11_1).f1), .int .i64 ((rd_T82 l0 x11_1).f2), .int .i64 ((rd_T82 l0 x11_1).f3.f0), .int .i64 ((rd_T82 l0 x11_1).f3.f1), .string ((rd_T82 l0 x11_1).f3.f2), .string ((rd_T82 l0 x11_1).f3.f3), .int .i64 ((rd_T82 l0 x11_1).f3.f4), .int .i64 0]) ?_ 8 _ rfl; (with_reducible repeat (first | refine blk_drewN ?_ _ | refine blk_drew ?_ | refine blk_alloc ?_ _)); refine blk_put (cs := #[.int .i64 ((rd_T82 l0 x11_1).f0), .int .i64 ((rd_T82 l0 x11_1).f1), .int .i64 ((rd_T82 l0 x11_1).f2), .int .i64 ((rd_T82 l0 x11_1).f3.f0), .int .i64 ((rd_T82 l0 x11_1).f3.f1), .string ((rd_T82 l0 x11_1).f3.f2), .string ((rd_T82 l0 x11_1).f3.f3), .int .i64 0, .int .i64 0]) ?_ 7 _ rfl; (with_reducible repeat (first | refine blk_drewN ?_ _ | refine blk_drew ?_ | refine blk_alloc ?_ _)); refine blk_put (cs := #[.int .i64 ((rd_T82 l0 x11_1).f0), .int .i64 ((rd_T82 l0 x11_1).f1), .int .i64 ((rd_T82 l0 x11_1).f2), .int .i64 ((rd_T82 l0 x11_1).f3.f0), .int .i64 ((rd_T82 l0 x11_1).f3.f1), .string ((rd_T82 l0 x11_1).f3.f2), .string (⟨#[]⟩ : ByteArray), .int .i64 0, .int .i64 0]) ?_ 6 _ rfl; (with_reducible repeat (first | refine blk_drewN ?_ _ | refine blk_drew ?_ | refine blk_alloc ?_ _)); refine blk_put (cs := #[.int .i64 ((rd_T82 l0 x11_1).f0), .int .i64 ((rd_T82 l0 x11_1).f1), .int .i64 ((rd_T82 l0 x11_1).f2), .int .i64 ((rd_T82 l0 x11_1).f3.f0), .int .i64 ((rd_T82 l0 x11_1).f3.f1), .string (⟨#[]⟩ : ByteArray), .string (⟨#[]⟩ : ByteArray), .int .i64 0, .int .i64 0]) ?_ 5 _ rfl; (with_reducible repeat (first | refine blk_drewN ?_ _ | refine blk_drew ?_ | refine blk_alloc ?_ _)); refine blk_put (cs := #[.int .i64 ((rd_T82 l0 x11_1).f0), .int .i64 ((rd_T82 l0 x11_1).f1), .int .i64 ((rd_T82 l0 x11_1).f2), .int .i64 ((rd_T82 l0 x11_1).f3.f0), .int .i64 0, .string (⟨#[]⟩ : ByteArray), .string (⟨#[]⟩ : ByteArray), .int .i64 0, .int .i64 0]) ?_ 4 _ rfl; (with_reducible repeat (first | refine blk_drewN ?_ _ | refine blk_drew ?_ | refine blk_alloc ?_ _)); refine blk_put (cs := #[.int .i64 ((rd_T82 l0 x11_1).f0), .int .i64 ((rd_T82 l0 x11_1).f1), .int .i64 ((rd_T82 l0 x11_1).f2), .int .i64 0, .int .i64 0, .string (⟨#[]⟩ : ByteArray), .string (⟨#[]⟩ : ByteArray), .int .i64 0, .int .i64 0]) ?_ 3 _ rfl; (with_reducible repeat (first | refine blk_drewN ?_ _ | refine blk_drew ?_ | refine blk_alloc ?_ _)); refine blk_put (cs := #[.int .i64 ((rd_T82 l0 x11_1).f0), .int .i64 ((rd_T82 l0 x11_1).f1), .int .i64 0, .int .i64 0, .int .i64 0, .string (⟨#[]⟩ : ByteArray), .string (⟨#[]⟩ : ByteArray), .int .i64 0, .int .i64 0]) ?_ 2 _ rfl; (with_reducible repeat (first | refine blk_drewN ?_ _ | refine blk_drew ?_ | refine blk_alloc ?_ _)); refine blk_put (cs := #[.int .i64 ((rd_T82 l0 x11_1).f0), .int .i64 0, .int .i64 0, .int .i64 0, .int .i64 0, .string (⟨#[]⟩ : ByteArray), .string (⟨#[]⟩ : ByteArray), .int .i64 0, .int .i64 0]) ?_ 1 _ rfl; (with_reducible repeat (first | refine blk_drewN ?_ _ | refine blk_drew ?_ | refine blk_alloc ?_ _)); refine blk_put (cs := #[.int .i64 0, .int .i64 0, .int .i64 0, .int .i64 0, .int .i64 0, .string (⟨#[]⟩ : ByteArray), .string (⟨#[]⟩ : ByteArray), .int .i64 0, .int .i64 0]) ?_ 0 _ rfl; (with_reducible repeat (first | refine blk_drewN ?_ _ | refine blk_drew ?_ | refine blk_alloc ?_ _)); exact BK270.out) hb); have n3_ := Aside0.mk (below_step (by repeat (first | (with_reducible first | exact HB.out | apply below_alloc | apply pw_below_drewN | apply below_drew1 | refine below_set ?_ GE268.out | refine below_set ?_ GE270.out) | exact HB.out)) hb); have n4_ := Aside0.mk (hbox); have n5_ := Aside0.mk ((by rw [hg]; exact (below_size (by repeat (first | (with_reducible first | exact HB.out | apply below_alloc | apply pw_below_drewN | apply below_drew1 | refine below_set ?_ GE268.out | refine below_set ?_ GE270.out) | exact HB.out))) : w.heap.size ≤ gb271)); have n6_ := Aside0.mk ((by rw [hg]; exact (below_size (by repeat (first | (with_reducible first | exact HB.out | apply below_alloc | apply pw_below_drewN | apply below_drew1 | refine below_set ?_ GE268.out | refine below_set ?_ GE270.out) | exact HB.out))) : w.heap.size ≤ gb271)); have n7_ := Aside0.mk ((by rw [hg]; exact Nat.ne_of_lt (blk_lt (g := gb268) (o := .cells #[.int .i64 a1_0, .int .i64 a1_1, .string a1_2, .string a1_3, .int .i64 a1_4, .int .i64 a1_5] 47 (0, 0)) (by (with_reducible repeat (first | refine blk_drewN ?_ _ | refine blk_drew ?_ | refine blk_alloc ?_ _)); refine blk_far ?_ NB268_270.out _; (with_reducible repeat (first | refine blk_drewN ?_ _ | refine blk_drew ?_ | refine blk_alloc ?_ _)); refine blk_far ?_ NB268_270.out _; (with_reducible repeat (first | refine blk_drewN ?_ _ | refine blk_drew ?_ | refine blk_alloc ?_ _)); refine blk_far ?_ NB268_270.out _; (with_reducible repeat (first | refine blk_drewN ?_ _ | refine blk_drew ?_ | refine blk_alloc ?_ _)); refine blk_far ?_ NB268_270.out _; (with_reducible repeat (first | refine blk_drewN ?_ _ | refine blk_drew ?_ | refine blk_alloc ?_ _)); refine blk_far ?_ NB268_270.out _; (with_reducible repeat (first | refine blk_drewN ?_ _ | refine blk_drew ?_ | refine blk_alloc ?_ _)); refine blk_far ?_ NB268_270.out _; (with_reducible repeat (first | refine blk_drewN ?_ _ | refine blk_drew ?_ | refine blk_alloc ?_ _)); refine blk_far ?_ NB268_270.out _; (with_reducible repeat (first | refine blk_drewN ?_ _ | refine blk_drew ?_ | refine blk_alloc ?_ _)); refine blk_far ?_ NB268_270.out _; (with_reducible repeat (first | refine blk_drewN ?_ _ | refine blk_drew ?_ | refine blk_alloc ?_ _)); refine blk_far ?_ NB268_270.out _; (with_reducible repeat (first | refine blk_drewN ?_ _ | refine blk_drew ?_ | refine blk_alloc ?_ _)); exact BK268.out)) : gb268 ≠ gb271)); have n8_ := Aside0.mk ((by rw [hg]; exact Nat.ne_of_gt (blk_lt (g := gb268) (o := .cells #[.int .i64 a1_0, .int .i64 a1_1, .string a1_2, .string a1_3, .int .i64 a1_4, .int .i64 a1_5] 47 (0, 0)) (by (with_reducible repeat (first | refine blk_drewN ?_ _ | refine blk_drew ?_ | refine blk_alloc ?_ _)); refine blk_far ?_ NB268_270.out _; (with_reducible repeat (first | refine blk_drewN ?_ _ | refine blk_drew ?_ | refine blk_alloc ?_ _)); refine blk_far ?_ NB268_270.out _; (with_reducible repeat (first | refine blk_drewN ?_ _ | refine blk_drew ?_ | refine blk_alloc ?_ _)); refine blk_far ?_ NB268_270.out _; (with_reducible repeat (first | refine blk_drewN ?_ _ | refine blk_drew ?_ | refine blk_alloc ?_ _)); refine blk_far ?_ NB268_270.out _; (with_reducible repeat (first | refine blk_drewN ?_ _ | refine blk_drew ?_ | refine blk_alloc ?_ _)); refine blk_far ?_ NB268_270.out _; (with_reducible repeat (first | refine blk_drewN ?_ _ | refine blk_drew ?_ | refine blk_alloc ?_ _)); refine blk_far ?_ NB268_270.out _; (with_reducible repeat (first | refine blk_drewN ?_ _ | refine blk_drew ?_ | refine blk_alloc ?_ _)); refine blk_far ?_ NB268_270.out _; (with_reducible repeat (first | refine blk_drewN ?_ _ | refine blk_drew ?_ | refine blk_alloc ?_ _)); refine blk_far ?_ NB268_270.out _; (with_reducible repeat (first | refine blk_drewN ?_ _ | refine blk_drew ?_ | refine blk_alloc ?_ _)); refine blk_far ?_ NB268_270.out _; (with_reducible repeat (first | refine blk_drewN ?_ _ | refine blk_drew ?_ | refine blk_alloc ?_ _)); exact BK268.out)) : gb271 ≠ gb268)); have n9_ := Aside0.mk ((by rw [hg]; exact Nat.ne_of_lt (blk_lt (g := gb270) (o := .cells #[.int .i64 ((rd_T82 l0 x11_1).f0), .int .i64 ((rd_T82 l0 x11_1).f1), .int .i64 ((rd_T82 l0 x11_1).f2), .int .i64 ((rd_T82 l0 x11_1).f3.f0), .int .i64 ((rd_T82 l0 x11_1).f3.f1), .string ((rd_T82 l0 x11_1).f3.f2), .string ((rd_T82 l0 x11_1).f3.f3), .int .i64 ((rd_T82 l0 x11_1).f3.f4), .int .i64 ((rd_T82 l0 x11_1).f3.f5)] 82 (0, 0)) (by (with_reducible repeat (first | refine blk_drewN ?_ _ | refine blk_drew ?_ | refine blk_alloc ?_ _)); refine blk_put (cs := #[.int .i64 ((rd_T82 l0 x11_1).f0), .int .i64 ((rd_T82 l0 x11_1).f1), .int .i64 ((rd_T82 l0 x11_1).f2), .int .i64 ((rd_T82 l0 x11_1).f3.f0), .int .i64 ((rd_T82 l0 x11_1).f3.f1), .string ((rd_T82 l0 x11_1).f3.f2), .string ((rd_T82 l0 x11_1).f3.f3), .int .i64 ((rd_T82 l0 x11_1).f3.f4), .int .i64 0]) ?_ 8 _ rfl; (with_reducible repeat (first | refine blk_drewN ?_ _ | refine blk_drew ?_ | refine blk_alloc ?_ _)); refine blk_put (cs := #[.int .i64 ((rd_T82 l0 x11_1).f0), .int .i64 ((rd_T82 l0 x11_1).f1), .int .i64 ((rd_T82 l0 x11_1).f2), .int .i64 ((rd_T82 l0 x11_1).f3.f0), .int .i64 ((rd_T82 l0 x11_1).f3.f1), .string ((rd_T82 l0 x11_1).f3.f2), .string ((rd_T82 l0 x11_1).f3.f3), .int .i64 0, .int .i64 0]) ?_ 7 _ rfl; (with_reducible repeat (first | refine blk_drewN ?_ _ | refine blk_drew ?_ | refine blk_alloc ?_ _)); refine blk_put (cs := #[.int .i64 ((rd_T82 l0 x11_1).f0), .int .i64 ((rd_T82 l0 x11_1).f1), .int .i64 ((rd_T82 l0 x11_1).f2), .int .i64 ((rd_T82 l0 x11_1).f3.f0), .int .i64 ((rd_T82 l0 x11_1).f3.f1), .string ((rd_T82 l0 x11_1).f3.f2), .string (⟨#[]⟩ : ByteArray), .int .i64 0, .int .i64 0]) ?_ 6 _ rfl; (with_reducible repeat (first | refine blk_drewN ?_ _ | refine blk_drew ?_ | refine blk_alloc ?_ _)); refine blk_put (cs := #[.int .i64 ((rd_T82 l0 x11_1).f0), .int .i64 ((rd_T82 l0 x11_1).f1), .int .i64 ((rd_T82 l0 x11_1).f2), .int .i64 ((rd_T82 l0 x11_1).f3.f0), .int .i64 ((rd_T82 l0 x11_1).f3.f1), .string (⟨#[]⟩ : ByteArray), .string (⟨#[]⟩ : ByteArray), .int .i64 0, .int .i64 0]) ?_ 5 _ rfl; (with_reducible repeat (first | refine blk_drewN ?_ _ | refine blk_drew ?_ | refine blk_alloc ?_ _)); refine blk_put (cs := #[.int .i64 ((rd_T82 l0 x11_1).f0), .int .i64 ((rd_T82 l0 x11_1).f1), .int .i64 ((rd_T82 l0 x11_1).f2), .int .i64 ((rd_T82 l0 x11_1).f3.f0), .int .i64 0, .string (⟨#[]⟩ : ByteArray), .string (⟨#[]⟩ : ByteArray), .int .i64 0, .int .i64 0]) ?_ 4 _ rfl; (with_reducible repeat (first | refine blk_drewN ?_ _ | refine blk_drew ?_ | refine blk_alloc ?_ _)); refine blk_put (cs := #[.int .i64 ((rd_T82 l0 x11_1).f0), .int .i64 ((rd_T82 l0 x11_1).f1), .int .i64 ((rd_T82 l0 x11_1).f2), .int .i64 0, .int .i64 0, .string (⟨#[]⟩ : ByteArray), .string (⟨#[]⟩ : ByteArray), .int .i64 0, .int .i64 0]) ?_ 3 _ rfl; (with_reducible repeat (first | refine blk_drewN ?_ _ | refine blk_drew ?_ | refine blk_alloc ?_ _)); refine blk_put (cs := #[.int .i64 ((rd_T82 l0 x11_1).f0), .int .i64 ((rd_T82 l0 x11_1).f1), .int .i64 0, .int .i64 0, .int .i64 0, .string (⟨#[]⟩ : ByteArray), .string (⟨#[]⟩ : ByteArray), .int .i64 0, .int .i64 0]) ?_ 2 _ rfl; (with_reducible repeat (first | refine blk_drewN ?_ _ | refine blk_drew ?_ | refine blk_alloc ?_ _)); refine blk_put (cs := #[.int .i64 ((rd_T82 l0 x11_1).f0), .int .i64 0, .int .i64 0, .int .i64 0, .int .i64 0, .string (⟨#[]⟩ : ByteArray), .string (⟨#[]⟩ : ByteArray), .int .i64 0, .int .i64 0]) ?_ 1 _ rfl; (with_reducible repeat (first | refine blk_drewN ?_ _ | refine blk_drew ?_ | refine blk_alloc ?_ _)); refine blk_put (cs := #[.int .i64 0, .int .i64 0, .int .i64 0, .int .i64 0, .int .i64 0, .string (⟨#[]⟩ : ByteArray), .string (⟨#[]⟩ : ByteArray), .int .i64 0, .int .i64 0]) ?_ 0 _ rfl; (with_reducible repeat (first | refine blk_drewN ?_ _ | refine blk_drew ?_ | refine blk_alloc ?_ _)); exact BK270.out)) : gb270 ≠ gb271)); have n10_ := Aside0.mk ((by rw [hg]; exact Nat.ne_of_gt (blk_lt (g := gb270) (o := .cells #[.int .i64 ((rd_T82 l0 x11_1).f0), .int .i64 ((rd_T82 l0 x11_1).f1), .int .i64 ((rd_T82 l0 x11_1).f2), .int .i64 ((rd_T82 l0 x11_1).f3.f0), .int .i64 ((rd_T82 l0 x11_1).f3.f1), .string ((rd_T82 l0 x11_1).f3.f2), .string ((rd_T82 l0 x11_1).f3.f3), .int .i64 ((rd_T82 l0 x11_1).f3.f4), .int .i64 ((rd_T82 l0 x11_1).f3.f5)] 82 (0, 0)) (by (with_reducible repeat (first | refine blk_drewN ?_ _ | refine blk_drew ?_ | refine blk_alloc ?_ _)); refine blk_put (cs := #[.int .i64 ((rd_T82 l0 x11_1).f0), .int .i64 ((rd_T82 l0 x11_1).f1), .int .i64 ((rd_T82 l0 x11_1).f2), .int .i64 ((rd_T82 l0 x11_1).f3.f0), .int .i64 ((rd_T82 l0 x11_1).f3.f1), .string ((rd_T82 l0 x11_1).f3.f2), .string ((rd_T82 l0 x11_1).f3.f3), .int .i64 ((rd_T82 l0 x11_1).f3.f4), .int .i64 0]) ?_ 8 _ rfl; (with_reducible repeat (first | refine blk_drewN ?_ _ | refine blk_drew ?_ | refine blk_alloc ?_ _)); refine blk_put (cs := #[.int .i64 ((rd_T82 l0 x11_1).f0), .int .i64 ((rd_T82 l0 x11_1).f1), .int .i64 ((rd_T82 l0 x11_1).f2), .int .i64 ((rd_T82 l0 x11_1).f3.f0), .int .i64 ((rd_T82 l0 x11_1).f3.f1), .string ((rd_T82 l0 x11_1).f3.f2), .string ((rd_T82 l0 x11_1).f3.f3), .int .i64 0, .int .i64 0]) ?_ 7 _ rfl; (with_reducible repeat (first | refine blk_drewN ?_ _ | refine blk_drew ?_ | refine blk_alloc ?_ _)); refine blk_put (cs := #[.int .i64 ((rd_T82 l0 x11_1).f0), .int .i64 ((rd_T82 l0 x11_1).f1), .int .i64 ((rd_T82 l0 x11_1).f2), .int .i64 ((rd_T82 l0 x11_1).f3.f0), .int .i64 ((rd_T82 l0 x11_1).f3.f1), .string ((rd_T82 l0 x11_1).f3.f2), .string (⟨#[]⟩ : ByteArray), .int .i64 0, .int .i64 0]) ?_ 6 _ rfl; (with_reducible repeat (first | refine blk_drewN ?_ _ | refine blk_drew ?_ | refine blk_alloc ?_ _)); refine blk_put (cs := #[.int .i64 ((rd_T82 l0 x11_1).f0), .int .i64 ((rd_T82 l0 x11_1).f1), .int .i64 ((rd_T82 l0 x11_1).f2), .int .i64 ((rd_T82 l0 x11_1).f3.f0), .int .i64 ((rd_T82 l0 x11_1).f3.f1), .string (⟨#[]⟩ : ByteArray), .string (⟨#[]⟩ : ByteArray), .int .i64 0, .int .i64 0]) ?_ 5 _ rfl; (with_reducible repeat (first | refine blk_drewN ?_ _ | refine blk_drew ?_ | refine blk_alloc ?_ _)); refine blk_put (cs := #[.int .i64 ((rd_T82 l0 x11_1).f0), .int .i64 ((rd_T82 l0 x11_1).f1), .int .i64 ((rd_T82 l0 x11_1).f2), .int .i64 ((rd_T82 l0 x11_1).f3.f0), .int .i64 0, .string (⟨#[]⟩ : ByteArray), .string (⟨#[]⟩ : ByteArray), .int .i64 0, .int .i64 0]) ?_ 4 _ rfl; (with_reducible repeat (first | refine blk_drewN ?_ _ | refine blk_drew ?_ | refine blk_alloc ?_ _)); refine blk_put (cs := #[.int .i64 ((rd_T82 l0 x11_1).f0), .int .i64 ((rd_T82 l0 x11_1).f1), .int .i64 ((rd_T82 l0 x11_1).f2), .int .i64 0, .int .i64 0, .string (⟨#[]⟩ : ByteArray), .string (⟨#[]⟩ : ByteArray), .int .i64 0, .int .i64 0]) ?_ 3 _ rfl; (with_reducible repeat (first | refine blk_drewN ?_ _ | refine blk_drew ?_ | refine blk_alloc ?_ _)); refine blk_put (cs := #[.int .i64 ((rd_T82 l0 x11_1).f0), .int .i64 ((rd_T82 l0 x11_1).f1), .int .i64 0, .int .i64 0, .int .i64 0, .string (⟨#[]⟩ : ByteArray), .string (⟨#[]⟩ : ByteArray), .int .i64 0, .int .i64 0]) ?_ 2 _ rfl; (with_reducible repeat (first | refine blk_drewN ?_ _ | refine blk_drew ?_ | refine blk_alloc ?_ _)); refine blk_put (cs := #[.int .i64 ((rd_T82 l0 x11_1).f0), .int .i64 0, .int .i64 0, .int .i64 0, .int .i64 0, .string (⟨#[]⟩ : ByteArray), .string (⟨#[]⟩ : ByteArray), .int .i64 0, .int .i64 0]) ?_ 1 _ rfl; (with_reducible repeat (first | refine blk_drewN ?_ _ | refine blk_drew ?_ | refine blk_alloc ?_ _)); refine blk_put (cs := #[.int .i64 0, .int .i64 0, .int .i64 0, .int .i64 0, .int .i64 0, .string (⟨#[]⟩ : ByteArray), .string (⟨#[]⟩ : ByteArray), .int .i64 0, .int .i64 0]) ?_ 0 _ rfl; (with_reducible repeat (first | refine blk_drewN ?_ _ | refine blk_drew ?_ | refine blk_alloc ?_ _)); exact BK270.out)) : gb271 ≠ gb270)); clear HO_5; clear BK268; clear BK270; clear HB; have HO_5 := n0_; have BK268 := n1_; have BK270 := n2_; have HB := n3_; have BK271 := n4_; have GW271 := n5_; have GE271 := n6_; have NB268_271 := n7_; have NB271_268 := n8_; have NB270_271 := n9_; have NB271_270 := n10_; clear n0_ n1_ n2_ n3_ n4_ n5_ n6_ n7_ n8_ n9_ n10_; clear hb hbox hg; have hnb12 := NB271_268.out; have hnc12 := NB268_271.out; have hnb13 := NB271_270.out; have hnc13 := NB270_271.out; have hcz14_0 : w11.cell? ⟨gb271, 0, none⟩ = some (.int .i64 0) := (blk_cell BK271.out 0).trans rfl; have hcz14_1 : w11.cell? ⟨gb271, 1, none⟩ = some (.int .i64 0) := (blk_cell BK271.out 1).trans rfl; have hcz14_2 : w11.cell? ⟨gb271, 2, none⟩ = some (.string (⟨#[]⟩ : ByteArray)) := (blk_cell BK271.out 2).trans rfl; have hcz14_3 : w11.cell? ⟨gb271, 3, none⟩ = some (.string (⟨#[]⟩ : ByteArray)) := (blk_cell BK271.out 3).trans rfl; have hcz14_4 : w11.cell? ⟨gb271, 4, none⟩ = some (.int .i64 0) := (blk_cell BK271.out 4).trans rfl; have hcz14_5 : w11.cell? ⟨gb271, 5, none⟩ = some (.int .i64 0) := (blk_cell BK271.out 5).trans rfl; have hfz14_0 := blk_frozen BK271.out 0; have hfz14_1 := blk_frozen BK271.out 1; have hfz14_2 := blk_frozen BK271.out 2; have hfz14_3 := blk_frozen BK271.out 3; have hfz14_4 := blk_frozen BK271.out 4; have hfz14_5 := blk_frozen BK271.out 5))
      (try simp only [Act.put, la_, lz_, ls_])
      go_cut [17] (fun v17 wc => ∃ (kq : Nat) (x17_6 : Bool), v17 = .bool x17_6 ∧ Aside0 (impl_ownOf.j1 kq x5_1 l0 (l0.length : Int) x11_1 x17_6 a1_0 a1_1 a1_2 a1_3 a1_4 a1_5 ((rd_T82 l0 x11_1).f0) ((rd_T82 l0 x11_1).f1) ((rd_T82 l0 x11_1).f2) ((rd_T82 l0 x11_1).f3.f0) ((rd_T82 l0 x11_1).f3.f1) ((rd_T82 l0 x11_1).f3.f2) ((rd_T82 l0 x11_1).f3.f3) ((rd_T82 l0 x11_1).f3.f4) ((rd_T82 l0 x11_1).f3.f5) ((rd_T82 l0 x11_1).f3.f0) ((rd_T82 l0 x11_1).f3.f1) ((rd_T82 l0 x11_1).f3.f2) ((rd_T82 l0 x11_1).f3.f3) ((rd_T82 l0 x11_1).f3.f4) ((rd_T82 l0 x11_1).f3.f5) = some r) ∧ Aside0 (kq ≤ k1) ∧ Aside0 (Kd.R k82 82 wc w.heap.size (fun k_ => k_ ≠ gb270) u5 x5_1) ∧ Aside0 (wc.heap[gb268]? = some (.cells #[.int .i64 a1_0, .int .i64 a1_1, .string a1_2, .string a1_3, .int .i64 a1_4, .int .i64 a1_5] 47 (0, 0))) ∧ Aside0 (wc.heap[gb270]? = some (.cells #[.int .i64 ((rd_T82 l0 x11_1).f0), .int .i64 ((rd_T82 l0 x11_1).f1), .int .i64 ((rd_T82 l0 x11_1).f2), .int .i64 ((rd_T82 l0 x11_1).f3.f0), .int .i64 ((rd_T82 l0 x11_1).f3.f1), .string ((rd_T82 l0 x11_1).f3.f2), .string ((rd_T82 l0 x11_1).f3.f3), .int .i64 ((rd_T82 l0 x11_1).f3.f4), .int .i64 ((rd_T82 l0 x11_1).f3.f5)] 82 (0, 0))) ∧ Aside0 (wc.heap[gb271]? = some (.cells #[.int .i64 ((rd_T82 l0 x11_1).f3.f0), .int .i64 ((rd_T82 l0 x11_1).f3.f1), .string ((rd_T82 l0 x11_1).f3.f2), .string ((rd_T82 l0 x11_1).f3.f3), .int .i64 ((rd_T82 l0 x11_1).f3.f4), .int .i64 ((rd_T82 l0 x11_1).f3.f5)] 47 (0, 0))) ∧ Aside0 (Below w.heap.size w wc))
      case first =>
       have H := HC7.out
       clear HC7
       by_cases c15 : a1_0 = 3
       ·rw [if_pos c15] at H
        have c15b0 : (a1_0 == 3) = true := beq_iff_eq.mpr c15
        have c15b1 : (a1_0 != 3) = false := bne_eq_false_iff_eq.mpr c15
        clear c15
        (first | rw [c15b0] | (simp only [i64_w, i32_w]; rw [c15b0]) | skip)
        have H' := Aside0.mk H
        clear H
        have hnb16 := NB268_270.out
        have hnc16 := NB270_268.out
        have hnb17 := NB268_271.out
        have hnc17 := NB271_268.out
        have hcz18_0 : w11.cell? ⟨gb268, 0, none⟩ = some (.int .i64 a1_0) := (blk_cell BK268.out 0).trans rfl
        have hcz18_1 : w11.cell? ⟨gb268, 1, none⟩ = some (.int .i64 a1_1) := (blk_cell BK268.out 1).trans rfl
        have hcz18_2 : w11.cell? ⟨gb268, 2, none⟩ = some (.string a1_2) := (blk_cell BK268.out 2).trans rfl
        have hcz18_3 : w11.cell? ⟨gb268, 3, none⟩ = some (.string a1_3) := (blk_cell BK268.out 3).trans rfl
        have hcz18_4 : w11.cell? ⟨gb268, 4, none⟩ = some (.int .i64 a1_4) := (blk_cell BK268.out 4).trans rfl
        have hcz18_5 : w11.cell? ⟨gb268, 5, none⟩ = some (.int .i64 a1_5) := (blk_cell BK268.out 5).trans rfl
        have hfz18_0 := blk_frozen BK268.out 0
        have hfz18_1 := blk_frozen BK268.out 1
        have hfz18_2 := blk_frozen BK268.out 2
        have hfz18_3 := blk_frozen BK268.out 3
        have hfz18_4 := blk_frozen BK268.out 4
        have hfz18_5 := blk_frozen BK268.out 5
        have hnb19 := NB271_270.out
        have hnc19 := NB270_271.out
        have hcz20_0 : w11.cell? ⟨gb271, 0, none⟩ = some (.int .i64 0) := (blk_cell BK271.out 0).trans rfl
        have hcz20_1 : w11.cell? ⟨gb271, 1, none⟩ = some (.int .i64 0) := (blk_cell BK271.out 1).trans rfl
        have hcz20_2 : w11.cell? ⟨gb271, 2, none⟩ = some (.string (⟨#[]⟩ : ByteArray)) := (blk_cell BK271.out 2).trans rfl
        have hcz20_3 : w11.cell? ⟨gb271, 3, none⟩ = some (.string (⟨#[]⟩ : ByteArray)) := (blk_cell BK271.out 3).trans rfl
        have hcz20_4 : w11.cell? ⟨gb271, 4, none⟩ = some (.int .i64 0) := (blk_cell BK271.out 4).trans rfl
        have hcz20_5 : w11.cell? ⟨gb271, 5, none⟩ = some (.int .i64 0) := (blk_cell BK271.out 5).trans rfl
        have hfz20_0 := blk_frozen BK271.out 0
        have hfz20_1 := blk_frozen BK271.out 1
        have hfz20_2 := blk_frozen BK271.out 2
        have hfz20_3 := blk_frozen BK271.out 3
        have hfz20_4 := blk_frozen BK271.out 4
        have hfz20_5 := blk_frozen BK271.out 5
        go_wp2
        go_meet
        case rel => exact ⟨_, ((((rd_T82 l0 x11_1).f3.f1) != a1_1)), rs_, H', ⟨by have := HK1.out; first | exact Nat.le_refl _ | exact Nat.le_of_succ_le this | omega⟩, ⟨by (with_reducible repeat (first | apply Kd.R_alloc | apply Kd.R_drewN | apply Kd.R_drew)); exact Kd.R_mono (Kd.R_far (p := ⟨gb271, 5, none⟩) (Kd.R_far (p := ⟨gb271, 4, none⟩) (Kd.R_far (p := ⟨gb271, 3, none⟩) (Kd.R_far (p := ⟨gb271, 2, none⟩) (Kd.R_far (p := ⟨gb271, 1, none⟩) (Kd.R_far (p := ⟨gb271, 0, none⟩) (Kd.R_types HO_5.out BK271.out (by decide)) (fun _ hk => hk.2) (.int .i64 ((rd_T82 l0 x11_1).f3.f0))) (fun _ hk => hk.2) (.int .i64 ((rd_T82 l0 x11_1).f3.f1))) (fun _ hk => hk.2) (.string ((rd_T82 l0 x11_1).f3.f2))) (fun _ hk => hk.2) (.string ((rd_T82 l0 x11_1).f3.f3))) (fun _ hk => hk.2) (.int .i64 ((rd_T82 l0 x11_1).f3.f4))) (fun _ hk => hk.2) (.int .i64 ((rd_T82 l0 x11_1).f3.f5))) (fun _ hk => hk.1.2)⟩, ⟨by (with_reducible repeat (first | refine blk_drewN ?_ _ | refine blk_drew ?_ | refine blk_alloc ?_ _)); refine blk_far ?_ NB268_271.out _; (with_reducible repeat (first | refine blk_drewN ?_ _ | refine blk_drew ?_ | refine blk_alloc ?_ _)); refine blk_far ?_ NB268_271.out _; (with_reducible repeat (first | refine blk_drewN ?_ _ | refine blk_drew ?_ | refine blk_alloc ?_ _)); refine blk_far ?_ NB268_271.out _; (with_reducible repeat (first | refine blk_drewN ?_ _ | refine blk_drew ?_ | refine blk_alloc ?_ _)); refine blk_far ?_ NB268_271.out _; (with_reducible repeat (first | refine blk_drewN ?_ _ | refine blk_drew ?_ | refine blk_alloc ?_ _)); refine blk_far ?_ NB268_271.out _; (with_reducible repeat (first | refine blk_drewN ?_ _ | refine blk_drew ?_ | refine blk_alloc ?_ _)); refine blk_far ?_ NB268_271.out _; (with_reducible repeat (first | refine blk_drewN ?_ _ | refine blk_drew ?_ | refine blk_alloc ?_ _)); exact BK268.out⟩, ⟨by (with_reducible repeat (first | refine blk_drewN ?_ _ | refine blk_drew ?_ | refine blk_alloc ?_ _)); refine blk_far ?_ NB270_271.out _; (with_reducible repeat (first | refine blk_drewN ?_ _ | refine blk_drew ?_ | refine blk_alloc ?_ _)); refine blk_far ?_ NB270_271.out _; (with_reducible repeat (first | refine blk_drewN ?_ _ | refine blk_drew ?_ | refine blk_alloc ?_ _)); refine blk_far ?_ NB270_271.out _; (with_reducible repeat (first | refine blk_drewN ?_ _ | refine blk_drew ?_ | refine blk_alloc ?_ _)); refine blk_far ?_ NB270_271.out _; (with_reducible repeat (first | refine blk_drewN ?_ _ | refine blk_drew ?_ | refine blk_alloc ?_ _)); refine blk_far ?_ NB270_271.out _; (with_reducible repeat (first | refine blk_drewN ?_ _ | refine blk_drew ?_ | refine blk_alloc ?_ _)); refine blk_far ?_ NB270_271.out _; (with_reducible repeat (first | refine blk_drewN ?_ _ | refine blk_drew ?_ | refine blk_alloc ?_ _)); exact BK270.out⟩, ⟨by (with_reducible repeat (first | refine blk_drewN ?_ _ | refine blk_drew ?_ | refine blk_alloc ?_ _)); refine blk_put (cs := #[.int .i64 ((rd_T82 l0 x11_1).f3.f0), .int .i64 ((rd_T82 l0 x11_1).f3.f1), .string ((rd_T82 l0 x11_1).f3.f2), .string ((rd_T82 l0 x11_1).f3.f3), .int .i64 ((rd_T82 l0 x11_1).f3.f4), .int .i64 0]) ?_ 5 _ rfl; (with_reducible repeat (first | refine blk_drewN ?_ _ | refine blk_drew ?_ | refine blk_alloc ?_ _)); refine blk_put (cs := #[.int .i64 ((rd_T82 l0 x11_1).f3.f0), .int .i64 ((rd_T82 l0 x11_1).f3.f1), .string ((rd_T82 l0 x11_1).f3.f2), .string ((rd_T82 l0 x11_1).f3.f3), .int .i64 0, .int .i64 0]) ?_ 4 _ rfl; (with_reducible repeat (first | refine blk_drewN ?_ _ | refine blk_drew ?_ | refine blk_alloc ?_ _)); refine blk_put (cs := #[.int .i64 ((rd_T82 l0 x11_1).f3.f0), .int .i64 ((rd_T82 l0 x11_1).f3.f1), .string ((rd_T82 l0 x11_1).f3.f2), .string (⟨#[]⟩ : ByteArray), .int .i64 0, .int .i64 0]) ?_ 3 _ rfl; (with_reducible repeat (first | refine blk_drewN ?_ _ | refine blk_drew ?_ | refine blk_alloc ?_ _)); refine blk_put (cs := #[.int .i64 ((rd_T82 l0 x11_1).f3.f0), .int .i64 ((rd_T82 l0 x11_1).f3.f1), .string (⟨#[]⟩ : ByteArray), .string (⟨#[]⟩ : ByteArray), .int .i64 0, .int .i64 0]) ?_ 2 _ rfl; (with_reducible repeat (first | refine blk_drewN ?_ _ | refine blk_drew ?_ | refine blk_alloc ?_ _)); refine blk_put (cs := #[.int .i64 ((rd_T82 l0 x11_1).f3.f0), .int .i64 0, .string (⟨#[]⟩ : ByteArray), .string (⟨#[]⟩ : ByteArray), .int .i64 0, .int .i64 0]) ?_ 1 _ rfl; (with_reducible repeat (first | refine blk_drewN ?_ _ | refine blk_drew ?_ | refine blk_alloc ?_ _)); refine blk_put (cs := #[.int .i64 0, .int .i64 0, .string (⟨#[]⟩ : ByteArray), .string (⟨#[]⟩ : ByteArray), .int .i64 0, .int .i64 0]) ?_ 0 _ rfl; (with_reducible repeat (first | refine blk_drewN ?_ _ | refine blk_drew ?_ | refine blk_alloc ?_ _)); exact BK271.out⟩, ⟨by repeat (first | (with_reducible first | exact HB.out | apply below_alloc | apply pw_below_drewN | apply below_drew1 | refine below_set ?_ GE268.out | refine below_set ?_ GE270.out | refine below_set ?_ GE271.out) | exact HB.out)⟩⟩
       ·rw [if_neg c15] at H
        have c15b0 : (a1_0 == 3) = false := beq_eq_false_iff_ne.mpr c15
        have c15b1 : (a1_0 != 3) = true := bne_iff_ne.mpr c15
        (first | rw [c15b0] | (simp only [i64_w, i32_w]; rw [c15b0]) | skip)
        have H' := Aside0.mk H
        clear H
        have hnb21 := NB268_270.out
        have hnc21 := NB270_268.out
        have hnb22 := NB268_271.out
        have hnc22 := NB271_268.out
        have hcz23_0 : w11.cell? ⟨gb268, 0, none⟩ = some (.int .i64 a1_0) := (blk_cell BK268.out 0).trans rfl
        have hcz23_1 : w11.cell? ⟨gb268, 1, none⟩ = some (.int .i64 a1_1) := (blk_cell BK268.out 1).trans rfl
        have hcz23_2 : w11.cell? ⟨gb268, 2, none⟩ = some (.string a1_2) := (blk_cell BK268.out 2).trans rfl
        have hcz23_3 : w11.cell? ⟨gb268, 3, none⟩ = some (.string a1_3) := (blk_cell BK268.out 3).trans rfl
        have hcz23_4 : w11.cell? ⟨gb268, 4, none⟩ = some (.int .i64 a1_4) := (blk_cell BK268.out 4).trans rfl
        have hcz23_5 : w11.cell? ⟨gb268, 5, none⟩ = some (.int .i64 a1_5) := (blk_cell BK268.out 5).trans rfl
        have hfz23_0 := blk_frozen BK268.out 0
        have hfz23_1 := blk_frozen BK268.out 1
        have hfz23_2 := blk_frozen BK268.out 2
        have hfz23_3 := blk_frozen BK268.out 3
        have hfz23_4 := blk_frozen BK268.out 4
        have hfz23_5 := blk_frozen BK268.out 5
        go_wp2
        go_meet
        case rel => exact ⟨_, (false), rs_, H', ⟨by have := HK1.out; first | exact Nat.le_refl _ | exact Nat.le_of_succ_le this | omega⟩, ⟨by (with_reducible repeat (first | apply Kd.R_alloc | apply Kd.R_drewN | apply Kd.R_drew)); exact Kd.R_mono (Kd.R_far (p := ⟨gb271, 5, none⟩) (Kd.R_far (p := ⟨gb271, 4, none⟩) (Kd.R_far (p := ⟨gb271, 3, none⟩) (Kd.R_far (p := ⟨gb271, 2, none⟩) (Kd.R_far (p := ⟨gb271, 1, none⟩) (Kd.R_far (p := ⟨gb271, 0, none⟩) (Kd.R_types HO_5.out BK271.out (by decide)) (fun _ hk => hk.2) (.int .i64 ((rd_T82 l0 x11_1).f3.f0))) (fun _ hk => hk.2) (.int .i64 ((rd_T82 l0 x11_1).f3.f1))) (fun _ hk => hk.2) (.string ((rd_T82 l0 x11_1).f3.f2))) (fun _ hk => hk.2) (.string ((rd_T82 l0 x11_1).f3.f3))) (fun _ hk => hk.2) (.int .i64 ((rd_T82 l0 x11_1).f3.f4))) (fun _ hk => hk.2) (.int .i64 ((rd_T82 l0 x11_1).f3.f5))) (fun _ hk => hk.1.2)⟩, ⟨by (with_reducible repeat (first | refine blk_drewN ?_ _ | refine blk_drew ?_ | refine blk_alloc ?_ _)); refine blk_far ?_ NB268_271.out _; (with_reducible repeat (first | refine blk_drewN ?_ _ | refine blk_drew ?_ | refine blk_alloc ?_ _)); refine blk_far ?_ NB268_271.out _; (with_reducible repeat (first | refine blk_drewN ?_ _ | refine blk_drew ?_ | refine blk_alloc ?_ _)); refine blk_far ?_ NB268_271.out _; (with_reducible repeat (first | refine blk_drewN ?_ _ | refine blk_drew ?_ | refine blk_alloc ?_ _)); refine blk_far ?_ NB268_271.out _; (with_reducible repeat (first | refine blk_drewN ?_ _ | refine blk_drew ?_ | refine blk_alloc ?_ _)); refine blk_far ?_ NB268_271.out _; (with_reducible repeat (first | refine blk_drewN ?_ _ | refine blk_drew ?_ | refine blk_alloc ?_ _)); refine blk_far ?_ NB268_271.out _; (with_reducible repeat (first | refine blk_drewN ?_ _ | refine blk_drew ?_ | refine blk_alloc ?_ _)); exact BK268.out⟩, ⟨by (with_reducible repeat (first | refine blk_drewN ?_ _ | refine blk_drew ?_ | refine blk_alloc ?_ _)); refine blk_far ?_ NB270_271.out _; (with_reducible repeat (first | refine blk_drewN ?_ _ | refine blk_drew ?_ | refine blk_alloc ?_ _)); refine blk_far ?_ NB270_271.out _; (with_reducible repeat (first | refine blk_drewN ?_ _ | refine blk_drew ?_ | refine blk_alloc ?_ _)); refine blk_far ?_ NB270_271.out _; (with_reducible repeat (first | refine blk_drewN ?_ _ | refine blk_drew ?_ | refine blk_alloc ?_ _)); refine blk_far ?_ NB270_271.out _; (with_reducible repeat (first | refine blk_drewN ?_ _ | refine blk_drew ?_ | refine blk_alloc ?_ _)); refine blk_far ?_ NB270_271.out _; (with_reducible repeat (first | refine blk_drewN ?_ _ | refine blk_drew ?_ | refine blk_alloc ?_ _)); refine blk_far ?_ NB270_271.out _; (with_reducible repeat (first | refine blk_drewN ?_ _ | refine blk_drew ?_ | refine blk_alloc ?_ _)); exact BK270.out⟩, ⟨by (with_reducible repeat (first | refine blk_drewN ?_ _ | refine blk_drew ?_ | refine blk_alloc ?_ _)); refine blk_put (cs := #[.int .i64 ((rd_T82 l0 x11_1).f3.f0), .int .i64 ((rd_T82 l0 x11_1).f3.f1), .string ((rd_T82 l0 x11_1).f3.f2), .string ((rd_T82 l0 x11_1).f3.f3), .int .i64 ((rd_T82 l0 x11_1).f3.f4), .int .i64 0]) ?_ 5 _ rfl; (with_reducible repeat (first | refine blk_drewN ?_ _ | refine blk_drew ?_ | refine blk_alloc ?_ _)); refine blk_put (cs := #[.int .i64 ((rd_T82 l0 x11_1).f3.f0), .int .i64 ((rd_T82 l0 x11_1).f3.f1), .string ((rd_T82 l0 x11_1).f3.f2), .string ((rd_T82 l0 x11_1).f3.f3), .int .i64 0, .int .i64 0]) ?_ 4 _ rfl; (with_reducible repeat (first | refine blk_drewN ?_ _ | refine blk_drew ?_ | refine blk_alloc ?_ _)); refine blk_put (cs := #[.int .i64 ((rd_T82 l0 x11_1).f3.f0), .int .i64 ((rd_T82 l0 x11_1).f3.f1), .string ((rd_T82 l0 x11_1).f3.f2), .string (⟨#[]⟩ : ByteArray), .int .i64 0, .int .i64 0]) ?_ 3 _ rfl; (with_reducible repeat (first | refine blk_drewN ?_ _ | refine blk_drew ?_ | refine blk_alloc ?_ _)); refine blk_put (cs := #[.int .i64 ((rd_T82 l0 x11_1).f3.f0), .int .i64 ((rd_T82 l0 x11_1).f3.f1), .string (⟨#[]⟩ : ByteArray), .string (⟨#[]⟩ : ByteArray), .int .i64 0, .int .i64 0]) ?_ 2 _ rfl; (with_reducible repeat (first | refine blk_drewN ?_ _ | refine blk_drew ?_ | refine blk_alloc ?_ _)); refine blk_put (cs := #[.int .i64 ((rd_T82 l0 x11_1).f3.f0), .int .i64 0, .string (⟨#[]⟩ : ByteArray), .string (⟨#[]⟩ : ByteArray), .int .i64 0, .int .i64 0]) ?_ 1 _ rfl; (with_reducible repeat (first | refine blk_drewN ?_ _ | refine blk_drew ?_ | refine blk_alloc ?_ _)); refine blk_put (cs := #[.int .i64 0, .int .i64 0, .string (⟨#[]⟩ : ByteArray), .string (⟨#[]⟩ : ByteArray), .int .i64 0, .int .i64 0]) ?_ 0 _ rfl; (with_reducible repeat (first | refine blk_drewN ?_ _ | refine blk_drew ?_ | refine blk_alloc ?_ _)); exact BK271.out⟩, ⟨by repeat (first | (with_reducible first | exact HB.out | apply below_alloc | apply pw_below_drewN | apply below_drew1 | refine below_set ?_ GE268.out | refine below_set ?_ GE270.out | refine below_set ?_ GE271.out) | exact HB.out)⟩⟩
      case rest =>
       clear HC7
       try clear c1
       try clear c2
       try clear p2
       try clear q2
       try clear hx2
       try clear c4
       try clear c4b0
       try clear c5
       try clear c5b0
       try clear c6
       try clear c6b0
       try clear c9
       try clear c12
       try clear c13
       try clear c15
       try clear c15b0
       try clear c15b1
       try clear c16
       try clear c17
       try clear c19
       try clear c21
       try clear c22
       try clear hcz10_0
       try clear hcz10_1
       try clear hcz10_2
       try clear hcz10_3
       try clear hcz10_4
       try clear hcz10_5
       try clear hcz10_6
       try clear hcz10_7
       try clear hcz10_8
       try clear hcz14_0
       try clear hcz14_1
       try clear hcz14_2
       try clear hcz14_3
       try clear hcz14_4
       try clear hcz14_5
       try clear hcz18_0
       try clear hcz18_1
       try clear hcz18_2
       try clear hcz18_3
       try clear hcz18_4
       try clear hcz18_5
       try clear hcz20_0
       try clear hcz20_1
       try clear hcz20_2
       try clear hcz20_3
       try clear hcz20_4
       try clear hcz20_5
       try clear hcz23_0
       try clear hcz23_1
       try clear hcz23_2
       try clear hcz23_3
       try clear hcz23_4
       try clear hcz23_5
       try clear hfz10_0
       try clear hfz10_1
       try clear hfz10_2
       try clear hfz10_3
       try clear hfz10_4
       try clear hfz10_5
       try clear hfz10_6
       try clear hfz10_7
       try clear hfz10_8
       try clear hfz14_0
       try clear hfz14_1
       try clear hfz14_2
       try clear hfz14_3
       try clear hfz14_4
       try clear hfz14_5
       try clear hfz18_0
       try clear hfz18_1
       try clear hfz18_2
       try clear hfz18_3
       try clear hfz18_4
       try clear hfz18_5
       try clear hfz20_0
       try clear hfz20_1
       try clear hfz20_2
       try clear hfz20_3
       try clear hfz20_4
       try clear hfz20_5
       try clear hfz23_0
       try clear hfz23_1
       try clear hfz23_2
       try clear hfz23_3
       try clear hfz23_4
       try clear hfz23_5
       try clear hx269_0
       try clear hx269_1
       try clear hx269_2
       try clear hx269_3
       try clear hx269_4
       try clear hx269_5
       try clear hx269_6
       try clear hx269_7
       try clear hx269_8
       try clear p2
       try clear p269
       try clear q269
       obtain ⟨kq, x17_6, rfl, HA, HJ6, HO_5, BK268, BK270, BK271, HB⟩ := hcut
       cases kq with
       | zero => exact absurd HA.out (by simp [impl_ownOf.j1])
       | succ kj6 =>
        have H := HA.out
        clear HA
        simp only [impl_ownOf.j1] at H
        by_cases c24 : x17_6 = true
        ·subst c24
         have H1 : (impl_ownOf.l0 kj6 x5_1 l0 (l0.length : Int) (wrap64 (x11_1 + 1)) a1_0 a1_1 a1_2 a1_3 a1_4 a1_5) = some r := by rw [if_pos rfl] at H; exact H
         clear H
         have H := H1
         clear H1
         have H' := Aside0.mk H
         clear H
         go_wp2
         go_roundg kj6
         case measure => have := HK1.out; have := HJ6.out; omega
         case rel => exact ⟨(x5_1), (wrap64 (x11_1 + 1)), rs_, H', ⟨by have := HK1.out; have := HJ6.out; omega⟩, ⟨by (with_reducible repeat (first | apply Kd.R_alloc | apply Kd.R_drewN | apply Kd.R_drew)); exact Kd.R_mono HO_5.out (fun _ hk => trivial)⟩, ⟨bk_ BK268⟩, ⟨by repeat (first | (with_reducible first | exact HB.out | apply below_alloc | apply pw_below_drewN | apply below_drew1 | refine below_set ?_ GE268.out | refine below_set ?_ GE270.out | refine below_set ?_ GE271.out) | exact HB.out)⟩⟩
        ·replace c24 := Bool.eq_false_iff.mpr c24
         subst c24
         have H1 : (if ((rd_T82 l0 x11_1).f3.f0) = a1_0 then (impl_ownOf.l0 kj6 ([] : List (S82)) l0 (l0.length : Int) (wrap64 (x11_1 + 1)) a1_0 a1_1 a1_2 a1_3 a1_4 a1_5) else (if a1_0 = 3 then (if ((rd_T82 l0 x11_1).f3.f0) = 1 then (impl_ownOf.j2 kj6 x5_1 l0 (l0.length : Int) x11_1 true a1_0 a1_1 a1_2 a1_3 a1_4 a1_5 ((rd_T82 l0 x11_1).f0) ((rd_T82 l0 x11_1).f1) ((rd_T82 l0 x11_1).f2) ((rd_T82 l0 x11_1).f3.f0) ((rd_T82 l0 x11_1).f3.f1) ((rd_T82 l0 x11_1).f3.f2) ((rd_T82 l0 x11_1).f3.f3) ((rd_T82 l0 x11_1).f3.f4) ((rd_T82 l0 x11_1).f3.f5) ((rd_T82 l0 x11_1).f3.f0) ((rd_T82 l0 x11_1).f3.f1) ((rd_T82 l0 x11_1).f3.f2) ((rd_T82 l0 x11_1).f3.f3) ((rd_T82 l0 x11_1).f3.f4) ((rd_T82 l0 x11_1).f3.f5)) else (impl_ownOf.j2 kj6 x5_1 l0 (l0.length : Int) x11_1 (((rd_T82 l0 x11_1).f3.f0) == 2) a1_0 a1_1 a1_2 a1_3 a1_4 a1_5 ((rd_T82 l0 x11_1).f0) ((rd_T82 l0 x11_1).f1) ((rd_T82 l0 x11_1).f2) ((rd_T82 l0 x11_1).f3.f0) ((rd_T82 l0 x11_1).f3.f1) ((rd_T82 l0 x11_1).f3.f2) ((rd_T82 l0 x11_1).f3.f3) ((rd_T82 l0 x11_1).f3.f4) ((rd_T82 l0 x11_1).f3.f5) ((rd_T82 l0 x11_1).f3.f0) ((rd_T82 l0 x11_1).f3.f1) ((rd_T82 l0 x11_1).f3.f2) ((rd_T82 l0 x11_1).f3.f3) ((rd_T82 l0 x11_1).f3.f4) ((rd_T82 l0 x11_1).f3.f5))) else (impl_ownOf.j2 kj6 x5_1 l0 (l0.length : Int) x11_1 false a1_0 a1_1 a1_2 a1_3 a1_4 a1_5 ((rd_T82 l0 x11_1).f0) ((rd_T82 l0 x11_1).f1) ((rd_T82 l0 x11_1).f2) ((rd_T82 l0 x11_1).f3.f0) ((rd_T82 l0 x11_1).f3.f1) ((rd_T82 l0 x11_1).f3.f2) ((rd_T82 l0 x11_1).f3.f3) ((rd_T82 l0 x11_1).f3.f4) ((rd_T82 l0 x11_1).f3.f5) ((rd_T82 l0 x11_1).f3.f0) ((rd_T82 l0 x11_1).f3.f1) ((rd_T82 l0 x11_1).f3.f2) ((rd_T82 l0 x11_1).f3.f3) ((rd_T82 l0 x11_1).f3.f4) ((rd_T82 l0 x11_1).f3.f5)))) = some r := by rw [if_neg (show ¬ (false = true) by decide)] at H; exact H
         clear H
         have H := H1
         clear H1
         by_cases c25 : ((rd_T82 l0 x11_1).f3.f0) = a1_0
         ·rw [if_pos c25] at H
          have c25b0 : (((rd_T82 l0 x11_1).f3.f0) == a1_0) = true := beq_iff_eq.mpr c25
          have c25b1 : (((rd_T82 l0 x11_1).f3.f0) != a1_0) = false := bne_eq_false_iff_eq.mpr c25
          clear c25
          have H' := Aside0.mk H
          clear H
          have hnb26 := NB271_268.out
          have hnc26 := NB268_271.out
          have hnb27 := NB271_270.out
          have hnc27 := NB270_271.out
          have hcz28_0 : wc.cell? ⟨gb271, 0, none⟩ = some (.int .i64 ((rd_T82 l0 x11_1).f3.f0)) := (blk_cell BK271.out 0).trans rfl
          have hcz28_1 : wc.cell? ⟨gb271, 1, none⟩ = some (.int .i64 ((rd_T82 l0 x11_1).f3.f1)) := (blk_cell BK271.out 1).trans rfl
          have hcz28_2 : wc.cell? ⟨gb271, 2, none⟩ = some (.string ((rd_T82 l0 x11_1).f3.f2)) := (blk_cell BK271.out 2).trans rfl
          have hcz28_3 : wc.cell? ⟨gb271, 3, none⟩ = some (.string ((rd_T82 l0 x11_1).f3.f3)) := (blk_cell BK271.out 3).trans rfl
          have hcz28_4 : wc.cell? ⟨gb271, 4, none⟩ = some (.int .i64 ((rd_T82 l0 x11_1).f3.f4)) := (blk_cell BK271.out 4).trans rfl
          have hcz28_5 : wc.cell? ⟨gb271, 5, none⟩ = some (.int .i64 ((rd_T82 l0 x11_1).f3.f5)) := (blk_cell BK271.out 5).trans rfl
          have hfz28_0 := blk_frozen BK271.out 0
          have hfz28_1 := blk_frozen BK271.out 1
          have hfz28_2 := blk_frozen BK271.out 2
          have hfz28_3 := blk_frozen BK271.out 3
          have hfz28_4 := blk_frozen BK271.out 4
          have hfz28_5 := blk_frozen BK271.out 5
          have hnb29 := NB268_270.out
          have hnc29 := NB270_268.out
          have hcz30_0 : wc.cell? ⟨gb268, 0, none⟩ = some (.int .i64 a1_0) := (blk_cell BK268.out 0).trans rfl
          have hcz30_1 : wc.cell? ⟨gb268, 1, none⟩ = some (.int .i64 a1_1) := (blk_cell BK268.out 1).trans rfl
          have hcz30_2 : wc.cell? ⟨gb268, 2, none⟩ = some (.string a1_2) := (blk_cell BK268.out 2).trans rfl
          have hcz30_3 : wc.cell? ⟨gb268, 3, none⟩ = some (.string a1_3) := (blk_cell BK268.out 3).trans rfl
          have hcz30_4 : wc.cell? ⟨gb268, 4, none⟩ = some (.int .i64 a1_4) := (blk_cell BK268.out 4).trans rfl
          have hcz30_5 : wc.cell? ⟨gb268, 5, none⟩ = some (.int .i64 a1_5) := (blk_cell BK268.out 5).trans rfl
          have hfz30_0 := blk_frozen BK268.out 0
          have hfz30_1 := blk_frozen BK268.out 1
          have hfz30_2 := blk_frozen BK268.out 2
          have hfz30_3 := blk_frozen BK268.out 3
          have hfz30_4 := blk_frozen BK268.out 4
          have hfz30_5 := blk_frozen BK268.out 5
          go_wp2
          go_roundg kj6
          case measure => have := HK1.out; have := HJ6.out; omega
          case rel => exact ⟨(([] : List (S82))), (wrap64 (x11_1 + 1)), rs_, H', ⟨by have := HK1.out; have := HJ6.out; omega⟩, ⟨by first | exact Kd.R_nil _ _ _ _ _ | exact Kd.N_nil _ _ _ _ _ | exact Kd.V_nil _ _ _ _ _ | exact Kd.Q_nil _ _ _ _ _ | exact Kd.S_nil _ _ _ _ _⟩, ⟨bk_ BK268⟩, ⟨by repeat (first | (with_reducible first | exact HB.out | apply below_alloc | apply pw_below_drewN | apply below_drew1 | refine below_set ?_ GE268.out | refine below_set ?_ GE270.out | refine below_set ?_ GE271.out) | exact HB.out)⟩⟩
         ·rw [if_neg c25] at H
          have c25b0 : (((rd_T82 l0 x11_1).f3.f0) == a1_0) = false := beq_eq_false_iff_ne.mpr c25
          have c25b1 : (((rd_T82 l0 x11_1).f3.f0) != a1_0) = true := bne_iff_ne.mpr c25
          have HC31 := Aside0.mk H
          clear H
          have hnb32 := NB271_268.out
          have hnc32 := NB268_271.out
          have hnb33 := NB271_270.out
          have hnc33 := NB270_271.out
          have hcz34_0 : wc.cell? ⟨gb271, 0, none⟩ = some (.int .i64 ((rd_T82 l0 x11_1).f3.f0)) := (blk_cell BK271.out 0).trans rfl
          have hcz34_1 : wc.cell? ⟨gb271, 1, none⟩ = some (.int .i64 ((rd_T82 l0 x11_1).f3.f1)) := (blk_cell BK271.out 1).trans rfl
          have hcz34_2 : wc.cell? ⟨gb271, 2, none⟩ = some (.string ((rd_T82 l0 x11_1).f3.f2)) := (blk_cell BK271.out 2).trans rfl
          have hcz34_3 : wc.cell? ⟨gb271, 3, none⟩ = some (.string ((rd_T82 l0 x11_1).f3.f3)) := (blk_cell BK271.out 3).trans rfl
          have hcz34_4 : wc.cell? ⟨gb271, 4, none⟩ = some (.int .i64 ((rd_T82 l0 x11_1).f3.f4)) := (blk_cell BK271.out 4).trans rfl
          have hcz34_5 : wc.cell? ⟨gb271, 5, none⟩ = some (.int .i64 ((rd_T82 l0 x11_1).f3.f5)) := (blk_cell BK271.out 5).trans rfl
          have hfz34_0 := blk_frozen BK271.out 0
          have hfz34_1 := blk_frozen BK271.out 1
          have hfz34_2 := blk_frozen BK271.out 2
          have hfz34_3 := blk_frozen BK271.out 3
          have hfz34_4 := blk_frozen BK271.out 4
          have hfz34_5 := blk_frozen BK271.out 5
          have hnb35 := NB268_270.out
          have hnc35 := NB270_268.out
          have hcz36_0 : wc.cell? ⟨gb268, 0, none⟩ = some (.int .i64 a1_0) := (blk_cell BK268.out 0).trans rfl
          have hcz36_1 : wc.cell? ⟨gb268, 1, none⟩ = some (.int .i64 a1_1) := (blk_cell BK268.out 1).trans rfl
          have hcz36_2 : wc.cell? ⟨gb268, 2, none⟩ = some (.string a1_2) := (blk_cell BK268.out 2).trans rfl
          have hcz36_3 : wc.cell? ⟨gb268, 3, none⟩ = some (.string a1_3) := (blk_cell BK268.out 3).trans rfl
          have hcz36_4 : wc.cell? ⟨gb268, 4, none⟩ = some (.int .i64 a1_4) := (blk_cell BK268.out 4).trans rfl
          have hcz36_5 : wc.cell? ⟨gb268, 5, none⟩ = some (.int .i64 a1_5) := (blk_cell BK268.out 5).trans rfl
          have hfz36_0 := blk_frozen BK268.out 0
          have hfz36_1 := blk_frozen BK268.out 1
          have hfz36_2 := blk_frozen BK268.out 2
          have hfz36_3 := blk_frozen BK268.out 3
          have hfz36_4 := blk_frozen BK268.out 4
          have hfz36_5 := blk_frozen BK268.out 5
          go_upto_region 9 with (fail)
          go_cut [34] (fun v34 wc => ∃ (kq : Nat) (x34_30 : Bool), v34 = .bool x34_30 ∧ Aside0 (impl_ownOf.j2 kq x5_1 l0 (l0.length : Int) x11_1 x34_30 a1_0 a1_1 a1_2 a1_3 a1_4 a1_5 ((rd_T82 l0 x11_1).f0) ((rd_T82 l0 x11_1).f1) ((rd_T82 l0 x11_1).f2) ((rd_T82 l0 x11_1).f3.f0) ((rd_T82 l0 x11_1).f3.f1) ((rd_T82 l0 x11_1).f3.f2) ((rd_T82 l0 x11_1).f3.f3) ((rd_T82 l0 x11_1).f3.f4) ((rd_T82 l0 x11_1).f3.f5) ((rd_T82 l0 x11_1).f3.f0) ((rd_T82 l0 x11_1).f3.f1) ((rd_T82 l0 x11_1).f3.f2) ((rd_T82 l0 x11_1).f3.f3) ((rd_T82 l0 x11_1).f3.f4) ((rd_T82 l0 x11_1).f3.f5) = some r) ∧ Aside0 (kq ≤ kj6) ∧ Aside0 (Kd.R k82 82 wc w.heap.size (fun k_ => k_ ≠ gb270) u5 x5_1) ∧ Aside0 (wc.heap[gb268]? = some (.cells #[.int .i64 a1_0, .int .i64 a1_1, .string a1_2, .string a1_3, .int .i64 a1_4, .int .i64 a1_5] 47 (0, 0))) ∧ Aside0 (wc.heap[gb270]? = some (.cells #[.int .i64 ((rd_T82 l0 x11_1).f0), .int .i64 ((rd_T82 l0 x11_1).f1), .int .i64 ((rd_T82 l0 x11_1).f2), .int .i64 ((rd_T82 l0 x11_1).f3.f0), .int .i64 ((rd_T82 l0 x11_1).f3.f1), .string ((rd_T82 l0 x11_1).f3.f2), .string ((rd_T82 l0 x11_1).f3.f3), .int .i64 ((rd_T82 l0 x11_1).f3.f4), .int .i64 ((rd_T82 l0 x11_1).f3.f5)] 82 (0, 0))) ∧ Aside0 (wc.heap[gb271]? = some (.cells #[.int .i64 ((rd_T82 l0 x11_1).f3.f0), .int .i64 ((rd_T82 l0 x11_1).f3.f1), .string ((rd_T82 l0 x11_1).f3.f2), .string ((rd_T82 l0 x11_1).f3.f3), .int .i64 ((rd_T82 l0 x11_1).f3.f4), .int .i64 ((rd_T82 l0 x11_1).f3.f5)] 47 (0, 0))) ∧ Aside0 (Below w.heap.size w wc))
          case first =>
           have H := HC31.out
           clear HC31
           by_cases c37 : a1_0 = 3
           ·rw [if_pos c37] at H
            have c37b0 : (a1_0 == 3) = true := beq_iff_eq.mpr c37
            have c37b1 : (a1_0 != 3) = false := bne_eq_false_iff_eq.mpr c37
            clear c37
            (first | rw [c37b0] | (simp only [i64_w, i32_w]; rw [c37b0]) | skip)
            by_cases c38 : ((rd_T82 l0 x11_1).f3.f0) = 1
            ·rw [if_pos c38] at H
             have c38b0 : (((rd_T82 l0 x11_1).f3.f0) == 1) = true := beq_iff_eq.mpr c38
             have c38b1 : (((rd_T82 l0 x11_1).f3.f0) != 1) = false := bne_eq_false_iff_eq.mpr c38
             clear c38
             have H' := Aside0.mk H
             clear H
             have hnb39 := NB268_270.out
             have hnc39 := NB270_268.out
             have hnb40 := NB268_271.out
             have hnc40 := NB271_268.out
             have hcz41_0 : wc.cell? ⟨gb268, 0, none⟩ = some (.int .i64 a1_0) := (blk_cell BK268.out 0).trans rfl
             have hcz41_1 : wc.cell? ⟨gb268, 1, none⟩ = some (.int .i64 a1_1) := (blk_cell BK268.out 1).trans rfl
             have hcz41_2 : wc.cell? ⟨gb268, 2, none⟩ = some (.string a1_2) := (blk_cell BK268.out 2).trans rfl
             have hcz41_3 : wc.cell? ⟨gb268, 3, none⟩ = some (.string a1_3) := (blk_cell BK268.out 3).trans rfl
             have hcz41_4 : wc.cell? ⟨gb268, 4, none⟩ = some (.int .i64 a1_4) := (blk_cell BK268.out 4).trans rfl
             have hcz41_5 : wc.cell? ⟨gb268, 5, none⟩ = some (.int .i64 a1_5) := (blk_cell BK268.out 5).trans rfl
             have hfz41_0 := blk_frozen BK268.out 0
             have hfz41_1 := blk_frozen BK268.out 1
             have hfz41_2 := blk_frozen BK268.out 2
             have hfz41_3 := blk_frozen BK268.out 3
             have hfz41_4 := blk_frozen BK268.out 4
             have hfz41_5 := blk_frozen BK268.out 5
             have hnb42 := NB271_270.out
             have hnc42 := NB270_271.out
             have hcz43_0 : wc.cell? ⟨gb271, 0, none⟩ = some (.int .i64 ((rd_T82 l0 x11_1).f3.f0)) := (blk_cell BK271.out 0).trans rfl
             have hcz43_1 : wc.cell? ⟨gb271, 1, none⟩ = some (.int .i64 ((rd_T82 l0 x11_1).f3.f1)) := (blk_cell BK271.out 1).trans rfl
             have hcz43_2 : wc.cell? ⟨gb271, 2, none⟩ = some (.string ((rd_T82 l0 x11_1).f3.f2)) := (blk_cell BK271.out 2).trans rfl
             have hcz43_3 : wc.cell? ⟨gb271, 3, none⟩ = some (.string ((rd_T82 l0 x11_1).f3.f3)) := (blk_cell BK271.out 3).trans rfl
             have hcz43_4 : wc.cell? ⟨gb271, 4, none⟩ = some (.int .i64 ((rd_T82 l0 x11_1).f3.f4)) := (blk_cell BK271.out 4).trans rfl
             have hcz43_5 : wc.cell? ⟨gb271, 5, none⟩ = some (.int .i64 ((rd_T82 l0 x11_1).f3.f5)) := (blk_cell BK271.out 5).trans rfl
             have hfz43_0 := blk_frozen BK271.out 0
             have hfz43_1 := blk_frozen BK271.out 1
             have hfz43_2 := blk_frozen BK271.out 2
             have hfz43_3 := blk_frozen BK271.out 3
             have hfz43_4 := blk_frozen BK271.out 4
             have hfz43_5 := blk_frozen BK271.out 5
             go_wp2
             go_meet
             case rel => exact ⟨_, (true), rs_, H', ⟨by have := HK1.out; have := HJ6.out; first | exact Nat.le_refl _ | exact Nat.le_of_succ_le this | omega⟩, ⟨rr_ HO_5⟩, ⟨bk_ BK268⟩, ⟨bk_ BK270⟩, ⟨bk_ BK271⟩, ⟨by repeat (first | (with_reducible first | exact HB.out | apply below_alloc | apply pw_below_drewN | apply below_drew1 | refine below_set ?_ GE268.out | refine below_set ?_ GE270.out | refine below_set ?_ GE271.out) | exact HB.out)⟩⟩
            ·rw [if_neg c38] at H
             have c38b0 : (((rd_T82 l0 x11_1).f3.f0) == 1) = false := beq_eq_false_iff_ne.mpr c38
             have c38b1 : (((rd_T82 l0 x11_1).f3.f0) != 1) = true := bne_iff_ne.mpr c38
             have H' := Aside0.mk H
             clear H
             have hnb44 := NB268_270.out
             have hnc44 := NB270_268.out
             have hnb45 := NB268_271.out
             have hnc45 := NB271_268.out
             have hcz46_0 : wc.cell? ⟨gb268, 0, none⟩ = some (.int .i64 a1_0) := (blk_cell BK268.out 0).trans rfl
             have hcz46_1 : wc.cell? ⟨gb268, 1, none⟩ = some (.int .i64 a1_1) := (blk_cell BK268.out 1).trans rfl
             have hcz46_2 : wc.cell? ⟨gb268, 2, none⟩ = some (.string a1_2) := (blk_cell BK268.out 2).trans rfl
             have hcz46_3 : wc.cell? ⟨gb268, 3, none⟩ = some (.string a1_3) := (blk_cell BK268.out 3).trans rfl
             have hcz46_4 : wc.cell? ⟨gb268, 4, none⟩ = some (.int .i64 a1_4) := (blk_cell BK268.out 4).trans rfl
             have hcz46_5 : wc.cell? ⟨gb268, 5, none⟩ = some (.int .i64 a1_5) := (blk_cell BK268.out 5).trans rfl
             have hfz46_0 := blk_frozen BK268.out 0
             have hfz46_1 := blk_frozen BK268.out 1
             have hfz46_2 := blk_frozen BK268.out 2
             have hfz46_3 := blk_frozen BK268.out 3
             have hfz46_4 := blk_frozen BK268.out 4
             have hfz46_5 := blk_frozen BK268.out 5
             have hnb47 := NB271_270.out
             have hnc47 := NB270_271.out
             have hcz48_0 : wc.cell? ⟨gb271, 0, none⟩ = some (.int .i64 ((rd_T82 l0 x11_1).f3.f0)) := (blk_cell BK271.out 0).trans rfl
             have hcz48_1 : wc.cell? ⟨gb271, 1, none⟩ = some (.int .i64 ((rd_T82 l0 x11_1).f3.f1)) := (blk_cell BK271.out 1).trans rfl
             have hcz48_2 : wc.cell? ⟨gb271, 2, none⟩ = some (.string ((rd_T82 l0 x11_1).f3.f2)) := (blk_cell BK271.out 2).trans rfl
             have hcz48_3 : wc.cell? ⟨gb271, 3, none⟩ = some (.string ((rd_T82 l0 x11_1).f3.f3)) := (blk_cell BK271.out 3).trans rfl
             have hcz48_4 : wc.cell? ⟨gb271, 4, none⟩ = some (.int .i64 ((rd_T82 l0 x11_1).f3.f4)) := (blk_cell BK271.out 4).trans rfl
             have hcz48_5 : wc.cell? ⟨gb271, 5, none⟩ = some (.int .i64 ((rd_T82 l0 x11_1).f3.f5)) := (blk_cell BK271.out 5).trans rfl
             have hfz48_0 := blk_frozen BK271.out 0
             have hfz48_1 := blk_frozen BK271.out 1
             have hfz48_2 := blk_frozen BK271.out 2
             have hfz48_3 := blk_frozen BK271.out 3
             have hfz48_4 := blk_frozen BK271.out 4
             have hfz48_5 := blk_frozen BK271.out 5
             go_wp2
             go_meet
             case rel => exact ⟨_, ((((rd_T82 l0 x11_1).f3.f0) == 2)), rs_, H', ⟨by have := HK1.out; have := HJ6.out; first | exact Nat.le_refl _ | exact Nat.le_of_succ_le this | omega⟩, ⟨rr_ HO_5⟩, ⟨bk_ BK268⟩, ⟨bk_ BK270⟩, ⟨bk_ BK271⟩, ⟨by repeat (first | (with_reducible first | exact HB.out | apply below_alloc | apply pw_below_drewN | apply below_drew1 | refine below_set ?_ GE268.out | refine below_set ?_ GE270.out | refine below_set ?_ GE271.out) | exact HB.out)⟩⟩
           ·rw [if_neg c37] at H
            have c37b0 : (a1_0 == 3) = false := beq_eq_false_iff_ne.mpr c37
            have c37b1 : (a1_0 != 3) = true := bne_iff_ne.mpr c37
            (first | rw [c37b0] | (simp only [i64_w, i32_w]; rw [c37b0]) | skip)
            have H' := Aside0.mk H
            clear H
            have hnb49 := NB268_270.out
            have hnc49 := NB270_268.out
            have hnb50 := NB268_271.out
            have hnc50 := NB271_268.out
            have hcz51_0 : wc.cell? ⟨gb268, 0, none⟩ = some (.int .i64 a1_0) := (blk_cell BK268.out 0).trans rfl
            have hcz51_1 : wc.cell? ⟨gb268, 1, none⟩ = some (.int .i64 a1_1) := (blk_cell BK268.out 1).trans rfl
            have hcz51_2 : wc.cell? ⟨gb268, 2, none⟩ = some (.string a1_2) := (blk_cell BK268.out 2).trans rfl
            have hcz51_3 : wc.cell? ⟨gb268, 3, none⟩ = some (.string a1_3) := (blk_cell BK268.out 3).trans rfl
            have hcz51_4 : wc.cell? ⟨gb268, 4, none⟩ = some (.int .i64 a1_4) := (blk_cell BK268.out 4).trans rfl
            have hcz51_5 : wc.cell? ⟨gb268, 5, none⟩ = some (.int .i64 a1_5) := (blk_cell BK268.out 5).trans rfl
            have hfz51_0 := blk_frozen BK268.out 0
            have hfz51_1 := blk_frozen BK268.out 1
            have hfz51_2 := blk_frozen BK268.out 2
            have hfz51_3 := blk_frozen BK268.out 3
            have hfz51_4 := blk_frozen BK268.out 4
            have hfz51_5 := blk_frozen BK268.out 5
            go_wp2
            go_meet
            case rel => exact ⟨_, (false), rs_, H', ⟨by have := HK1.out; have := HJ6.out; first | exact Nat.le_refl _ | exact Nat.le_of_succ_le this | omega⟩, ⟨rr_ HO_5⟩, ⟨bk_ BK268⟩, ⟨bk_ BK270⟩, ⟨bk_ BK271⟩, ⟨by repeat (first | (with_reducible first | exact HB.out | apply below_alloc | apply pw_below_drewN | apply below_drew1 | refine below_set ?_ GE268.out | refine below_set ?_ GE270.out | refine below_set ?_ GE271.out) | exact HB.out)⟩⟩
          case rest =>
           clear HC31
           try clear c1
           try clear c2
           try clear p2
           try clear q2
           try clear hx2
           try clear c3
           try clear c4
           try clear c4b0
           try clear c5
           try clear c5b0
           try clear c6
           try clear c6b0
           try clear p6
           try clear c9
           try clear c12
           try clear c13
           try clear c15
           try clear c15b0
           try clear c15b1
           try clear c16
           try clear c17
           try clear c19
           try clear c21
           try clear c22
           try clear c24
           try clear c25
           try clear c25b0
           try clear c25b1
           try clear c26
           try clear p26
           try clear q26
           try clear hx26
           try clear c27
           try clear c29
           try clear c32
           try clear c33
           try clear c35
           try clear c37
           try clear c37b0
           try clear c37b1
           try clear c38
           try clear c38b0
           try clear c38b1
           try clear c39
           try clear c40
           try clear c42
           try clear c44
           try clear c45
           try clear c47
           try clear c49
           try clear c50
           try clear c51
           try clear hcz10_0
           try clear hcz10_1
           try clear hcz10_2
           try clear hcz10_3
           try clear hcz10_4
           try clear hcz10_5
           try clear hcz10_6
           try clear hcz10_7
           try clear hcz10_8
           try clear hcz14_0
           try clear hcz14_1
           try clear hcz14_2
           try clear hcz14_3
           try clear hcz14_4
           try clear hcz14_5
           try clear hcz18_0
           try clear hcz18_1
           try clear hcz18_2
           try clear hcz18_3
           try clear hcz18_4
           try clear hcz18_5
           try clear hcz20_0
           try clear hcz20_1
           try clear hcz20_2
           try clear hcz20_3
           try clear hcz20_4
           try clear hcz20_5
           try clear hcz23_0
           try clear hcz23_1
           try clear hcz23_2
           try clear hcz23_3
           try clear hcz23_4
           try clear hcz23_5
           try clear hcz28_0
           try clear hcz28_1
           try clear hcz28_2
           try clear hcz28_3
           try clear hcz28_4
           try clear hcz28_5
           try clear hcz30_0
           try clear hcz30_1
           try clear hcz30_2
           try clear hcz30_3
           try clear hcz30_4
           try clear hcz30_5
           try clear hcz34_0
           try clear hcz34_1
           try clear hcz34_2
           try clear hcz34_3
           try clear hcz34_4
           try clear hcz34_5
           try clear hcz36_0
           try clear hcz36_1
           try clear hcz36_2
           try clear hcz36_3
           try clear hcz36_4
           try clear hcz36_5
           try clear hcz41_0
           try clear hcz41_1
           try clear hcz41_2
           try clear hcz41_3
           try clear hcz41_4
           try clear hcz41_5
           try clear hcz43_0
           try clear hcz43_1
           try clear hcz43_2
           try clear hcz43_3
           try clear hcz43_4
           try clear hcz43_5
           try clear hcz46_0
           try clear hcz46_1
           try clear hcz46_2
           try clear hcz46_3
           try clear hcz46_4
           try clear hcz46_5
           try clear hcz48_0
           try clear hcz48_1
           try clear hcz48_2
           try clear hcz48_3
           try clear hcz48_4
           try clear hcz48_5
           try clear hcz51_0
           try clear hcz51_1
           try clear hcz51_2
           try clear hcz51_3
           try clear hcz51_4
           try clear hcz51_5
           try clear hfz10_0
           try clear hfz10_1
           try clear hfz10_2
           try clear hfz10_3
           try clear hfz10_4
           try clear hfz10_5
           try clear hfz10_6
           try clear hfz10_7
           try clear hfz10_8
           try clear hfz14_0
           try clear hfz14_1
           try clear hfz14_2
           try clear hfz14_3
           try clear hfz14_4
           try clear hfz14_5
           try clear hfz18_0
           try clear hfz18_1
           try clear hfz18_2
           try clear hfz18_3
           try clear hfz18_4
           try clear hfz18_5
           try clear hfz20_0
           try clear hfz20_1
           try clear hfz20_2
           try clear hfz20_3
           try clear hfz20_4
           try clear hfz20_5
           try clear hfz23_0
           try clear hfz23_1
           try clear hfz23_2
           try clear hfz23_3
           try clear hfz23_4
           try clear hfz23_5
           try clear hfz28_0
           try clear hfz28_1
           try clear hfz28_2
           try clear hfz28_3
           try clear hfz28_4
           try clear hfz28_5
           try clear hfz30_0
           try clear hfz30_1
           try clear hfz30_2
           try clear hfz30_3
           try clear hfz30_4
           try clear hfz30_5
           try clear hfz34_0
           try clear hfz34_1
           try clear hfz34_2
           try clear hfz34_3
           try clear hfz34_4
           try clear hfz34_5
           try clear hfz36_0
           try clear hfz36_1
           try clear hfz36_2
           try clear hfz36_3
           try clear hfz36_4
           try clear hfz36_5
           try clear hfz41_0
           try clear hfz41_1
           try clear hfz41_2
           try clear hfz41_3
           try clear hfz41_4
           try clear hfz41_5
           try clear hfz43_0
           try clear hfz43_1
           try clear hfz43_2
           try clear hfz43_3
           try clear hfz43_4
           try clear hfz43_5
           try clear hfz46_0
           try clear hfz46_1
           try clear hfz46_2
           try clear hfz46_3
           try clear hfz46_4
           try clear hfz46_5
           try clear hfz48_0
           try clear hfz48_1
           try clear hfz48_2
           try clear hfz48_3
           try clear hfz48_4
           try clear hfz48_5
           try clear hfz51_0
           try clear hfz51_1
           try clear hfz51_2
           try clear hfz51_3
           try clear hfz51_4
           try clear hfz51_5
           try clear hx269_0
           try clear hx269_1
           try clear hx269_2
           try clear hx269_3
           try clear hx269_4
           try clear hx269_5
           try clear hx269_6
           try clear hx269_7
           try clear hx269_8
           try clear p2
           try clear p269
           try clear q2
           try clear q269
           obtain ⟨kq, x34_30, rfl, HA, HJ30, HO_5, BK268, BK270, BK271, HB⟩ := hcut
           cases kq with
           | zero => exact absurd HA.out (by simp [impl_ownOf.j2])
           | succ kj30 =>
            have H := HA.out
            clear HA
            simp only [impl_ownOf.j2] at H
            by_cases c52 : x34_30 = true
            ·subst c52
             have H1 : (if x5_1.length < 1599289640401 then (impl_ownOf.l0 kj30 (x5_1 ++ [(⟨((rd_T82 l0 x11_1).f0), ((rd_T82 l0 x11_1).f1), ((rd_T82 l0 x11_1).f2), (⟨((rd_T82 l0 x11_1).f3.f0), ((rd_T82 l0 x11_1).f3.f1), ((rd_T82 l0 x11_1).f3.f2), ((rd_T82 l0 x11_1).f3.f3), ((rd_T82 l0 x11_1).f3.f4), ((rd_T82 l0 x11_1).f3.f5)⟩ : S47)⟩ : S82)]) l0 (l0.length : Int) (wrap64 (x11_1 + 1)) a1_0 a1_1 a1_2 a1_3 a1_4 a1_5) else (none)) = some r := by rw [if_pos rfl] at H; exact H
             clear H
             have H := H1
             clear H1
             by_cases c53 : x5_1.length < 1599289640401
             ·rw [if_pos c53] at H
              have LMc53 := Aside0.mk c53
              clear c53
              obtain ⟨y272, hy272⟩ : ∃ y_ : List (S82), y_ = (x5_1 ++ [(⟨((rd_T82 l0 x11_1).f0), ((rd_T82 l0 x11_1).f1), ((rd_T82 l0 x11_1).f2), (⟨((rd_T82 l0 x11_1).f3.f0), ((rd_T82 l0 x11_1).f3.f1), ((rd_T82 l0 x11_1).f3.f2), ((rd_T82 l0 x11_1).f3.f3), ((rd_T82 l0 x11_1).f3.f4), ((rd_T82 l0 x11_1).f3.f5)⟩ : S47)⟩ : S82)]) := ⟨_, rfl⟩
              replace H : (impl_ownOf.l0 kj30 y272 l0 (l0.length : Int) (wrap64 (x11_1 + 1)) a1_0 a1_1 a1_2 a1_3 a1_4 a1_5) = some r := by first | (rw [hy272]; with_reducible exact H) | (have H2_ := (Option.bind_some _ _).symm.trans H; rw [hy272]; with_reducible exact H2_) | (have H2_ := (Option.bind_some _ _).symm.trans H; with_reducible exact H2_) | with_reducible exact H | (rw [hy272]; exact H) | exact H
              have Ny272 := Aside0.mk hy272
              clear hy272
              have H' := Aside0.mk H
              clear H
              have hnb54 := NB270_268.out
              have hnc54 := NB268_270.out
              have hnb55 := NB270_271.out
              have hnc55 := NB271_270.out
              have hcz56_0 : wc.cell? ⟨gb270, 0, none⟩ = some (.int .i64 ((rd_T82 l0 x11_1).f0)) := (blk_cell BK270.out 0).trans rfl
              have hcz56_1 : wc.cell? ⟨gb270, 1, none⟩ = some (.int .i64 ((rd_T82 l0 x11_1).f1)) := (blk_cell BK270.out 1).trans rfl
              have hcz56_2 : wc.cell? ⟨gb270, 2, none⟩ = some (.int .i64 ((rd_T82 l0 x11_1).f2)) := (blk_cell BK270.out 2).trans rfl
              have hcz56_3 : wc.cell? ⟨gb270, 3, none⟩ = some (.int .i64 ((rd_T82 l0 x11_1).f3.f0)) := (blk_cell BK270.out 3).trans rfl
              have hcz56_4 : wc.cell? ⟨gb270, 4, none⟩ = some (.int .i64 ((rd_T82 l0 x11_1).f3.f1)) := (blk_cell BK270.out 4).trans rfl
              have hcz56_5 : wc.cell? ⟨gb270, 5, none⟩ = some (.string ((rd_T82 l0 x11_1).f3.f2)) := (blk_cell BK270.out 5).trans rfl
              have hcz56_6 : wc.cell? ⟨gb270, 6, none⟩ = some (.string ((rd_T82 l0 x11_1).f3.f3)) := (blk_cell BK270.out 6).trans rfl
              have hcz56_7 : wc.cell? ⟨gb270, 7, none⟩ = some (.int .i64 ((rd_T82 l0 x11_1).f3.f4)) := (blk_cell BK270.out 7).trans rfl
              have hcz56_8 : wc.cell? ⟨gb270, 8, none⟩ = some (.int .i64 ((rd_T82 l0 x11_1).f3.f5)) := (blk_cell BK270.out 8).trans rfl
              have hfz56_0 := blk_frozen BK270.out 0
              have hfz56_1 := blk_frozen BK270.out 1
              have hfz56_2 := blk_frozen BK270.out 2
              have hfz56_3 := blk_frozen BK270.out 3
              have hfz56_4 := blk_frozen BK270.out 4
              have hfz56_5 := blk_frozen BK270.out 5
              have hfz56_6 := blk_frozen BK270.out 6
              have hfz56_7 := blk_frozen BK270.out 7
              have hfz56_8 := blk_frozen BK270.out 8
              go_wp2_with (first | ((with_reducible refine gate_builtin (b := .append) (xs := #[.tmp 56, .tmp 58]) rfl ?_); at_builtin; refine Kd.R_append k82 (w0 := w) w.heap.size rfl (.tmp 56) (.tmp 58) 26 82 (.agg #[(.int .i64 0), (.int .i64 0), (.int .i64 0), (.int .i64 0), (.int .i64 0), (.string ⟨#[]⟩), (.string ⟨#[]⟩), (.int .i64 0), (.int .i64 0)]) 88 rfl Try.underlying26 info82 rfl (by decide) (by omega) u5 x5_1 (⟨((rd_T82 l0 x11_1).f0), ((rd_T82 l0 x11_1).f1), ((rd_T82 l0 x11_1).f2), (⟨((rd_T82 l0 x11_1).f3.f0), ((rd_T82 l0 x11_1).f3.f1), ((rd_T82 l0 x11_1).f3.f2), ((rd_T82 l0 x11_1).f3.f3), ((rd_T82 l0 x11_1).f3.f4), ((rd_T82 l0 x11_1).f3.f5)⟩ : S47)⟩ : S82) [.int .i64 ((rd_T82 l0 x11_1).f0), .int .i64 ((rd_T82 l0 x11_1).f1), .int .i64 ((rd_T82 l0 x11_1).f2), .int .i64 ((rd_T82 l0 x11_1).f3.f0), .int .i64 ((rd_T82 l0 x11_1).f3.f1), .string ((rd_T82 l0 x11_1).f3.f2), .string ((rd_T82 l0 x11_1).f3.f3), .int .i64 ((rd_T82 l0 x11_1).f3.f4), .int .i64 ((rd_T82 l0 x11_1).f3.f5)] (fun k_ => k_ ≠ gb270) (fun _ => False) rfl rfl ?aP (fun _ hk => hk.elim) ?aF ?aO ?aB ?aS ?aL ?_; (case aP => exact k82_mkM _ _ _ (⟨((rd_T82 l0 x11_1).f0), ((rd_T82 l0 x11_1).f1), ((rd_T82 l0 x11_1).f2), (⟨((rd_T82 l0 x11_1).f3.f0), ((rd_T82 l0 x11_1).f3.f1), ((rd_T82 l0 x11_1).f3.f2), ((rd_T82 l0 x11_1).f3.f3), ((rd_T82 l0 x11_1).f3.f4), ((rd_T82 l0 x11_1).f3.f5)⟩ : S47)⟩ : S82)); (case aB => exact (by repeat (first | (with_reducible first | exact HB.out | apply below_alloc | apply pw_below_drewN | apply below_drew1 | refine below_set ?_ GE268.out | refine below_set ?_ GE270.out | refine below_set ?_ GE271.out) | exact HB.out))); (case aF => exact (fun k_ hk => Kd.freshB (g := gb270) (o := .cells #[.int .i64 ((rd_T82 l0 x11_1).f0), .int .i64 ((rd_T82 l0 x11_1).f1), .int .i64 ((rd_T82 l0 x11_1).f2), .int .i64 ((rd_T82 l0 x11_1).f3.f0), .int .i64 ((rd_T82 l0 x11_1).f3.f1), .string ((rd_T82 l0 x11_1).f3.f2), .string ((rd_T82 l0 x11_1).f3.f3), .int .i64 ((rd_T82 l0 x11_1).f3.f4), .int .i64 ((rd_T82 l0 x11_1).f3.f5)] 82 (0, 0)) (bk_ BK270) k_ hk)); (case aO => exact (rr_ HO_5)); (case aS => exact (below_size (by repeat (first | (with_reducible first | exact HB.out | apply below_alloc | apply pw_below_drewN | apply below_drew1 | refine below_set ?_ GE268.out | refine below_set ?_ GE270.out | refine below_set ?_ GE271.out) | exact HB.out)))); (case aL => have := LMc53.out; omega); intro v273 w57 ho hb hg hat; rw [← Ny272.out] at ho; have n0_ := Aside0.mk (blk_grown (g := gb268) (o := .cells #[.int .i64 a1_0, .int .i64 a1_1, .string a1_2, .string a1_3, .int .i64 a1_4, .int .i64 a1_5] 47 (0, 0)) (bk_ BK268) hg (Kd.R_ne HO_5.out BK268.out (by decide))); have n1_ := Aside0.mk (blk_grown (g := gb270) (o := .cells #[.int .i64 ((rd_T82 l0 x11_1).f0), .int .i64 ((rd_T82 l0 x11_1).f1), .int .i64 ((rd_T82 l0 x11_1).f2), .int .i64 ((rd_T82 l0 x11_1).f3.f0), .int .i64 ((rd_T82 l0 x11_1).f3.f1), .string ((rd_T82 l0 x11_1).f3.f2), .string ((rd_T82 l0 x11_1).f3.f3), .int .i64 ((rd_T82 l0 x11_1).f3.f4), .int .i64 ((rd_T82 l0 x11_1).f3.f5)] 82 (0, 0)) (bk_ BK270) hg (Kd.R_away HO_5.out (fun _ hk => hk))); have n2_ := Aside0.mk (blk_grown (g := gb271) (o := .cells #[.int .i64 ((rd_T82 l0 x11_1).f3.f0), .int .i64 ((rd_T82 l0 x11_1).f3.f1), .string ((rd_T82 l0 x11_1).f3.f2), .string ((rd_T82 l0 x11_1).f3.f3), .int .i64 ((rd_T82 l0 x11_1).f3.f4), .int .i64 ((rd_T82 l0 x11_1).f3.f5)] 47 (0, 0)) (bk_ BK271) hg (Kd.R_ne HO_5.out BK271.out (by decide))); have n3_ := Aside0.mk (hb); have n4_ := Aside0.mk (ho); clear BK268; clear BK270; clear BK271; clear HB; clear HO_5; have BK268 := n0_; have BK270 := n1_; have BK271 := n2_; have HB := n3_; have HO274 := n4_; clear n0_ n1_ n2_ n3_ n4_; clear ho hb hg hat))
              go_roundg kj30
              case measure => have := HK1.out; have := HJ6.out; have := HJ30.out; omega
              case rel => exact ⟨(y272), (wrap64 (x11_1 + 1)), rs_, H', ⟨by have := HK1.out; have := HJ6.out; have := HJ30.out; omega⟩, ⟨by (with_reducible repeat (first | apply Kd.R_alloc | apply Kd.R_drewN | apply Kd.R_drew)); exact Kd.R_mono HO274.out (fun _ hk => trivial)⟩, ⟨bk_ BK268⟩, ⟨by repeat (first | (with_reducible first | exact HB.out | apply below_alloc | apply pw_below_drewN | apply below_drew1 | refine below_set ?_ GE268.out | refine below_set ?_ GE270.out | refine below_set ?_ GE271.out) | exact HB.out)⟩⟩
             ·rw [if_neg c53] at H
              exact absurd H (by simp)
            ·replace c52 := Bool.eq_false_iff.mpr c52
             subst c52
             have H1 : (if a1_0 = 5 then (if ((rd_T82 l0 x11_1).f3.f0) = 4 then (if x5_1.length < 1599289640401 then (impl_ownOf.l0 kj30 (x5_1 ++ [(⟨((rd_T82 l0 x11_1).f0), ((rd_T82 l0 x11_1).f1), ((rd_T82 l0 x11_1).f2), (⟨((rd_T82 l0 x11_1).f3.f0), ((rd_T82 l0 x11_1).f3.f1), ((rd_T82 l0 x11_1).f3.f2), ((rd_T82 l0 x11_1).f3.f3), ((rd_T82 l0 x11_1).f3.f4), ((rd_T82 l0 x11_1).f3.f5)⟩ : S47)⟩ : S82)]) l0 (l0.length : Int) (wrap64 (x11_1 + 1)) a1_0 a1_1 a1_2 a1_3 a1_4 a1_5) else (none)) else (impl_ownOf.l0 kj30 x5_1 l0 (l0.length : Int) (wrap64 (x11_1 + 1)) a1_0 a1_1 a1_2 a1_3 a1_4 a1_5)) else (impl_ownOf.l0 kj30 x5_1 l0 (l0.length : Int) (wrap64 (x11_1 + 1)) a1_0 a1_1 a1_2 a1_3 a1_4 a1_5)) = some r := by rw [if_neg (show ¬ (false = true) by decide)] at H; exact H
             clear H
             have H := H1
             clear H1
             by_cases c58 : a1_0 = 5
             ·rw [if_pos c58] at H
              have c58b0 : (a1_0 == 5) = true := beq_iff_eq.mpr c58
              have c58b1 : (a1_0 != 5) = false := bne_eq_false_iff_eq.mpr c58
              clear c58
              by_cases c59 : ((rd_T82 l0 x11_1).f3.f0) = 4
              ·rw [if_pos c59] at H
               have c59b0 : (((rd_T82 l0 x11_1).f3.f0) == 4) = true := beq_iff_eq.mpr c59
               have c59b1 : (((rd_T82 l0 x11_1).f3.f0) != 4) = false := bne_eq_false_iff_eq.mpr c59
               clear c59
               by_cases c60 : x5_1.length < 1599289640401
               ·rw [if_pos c60] at H
                have LMc60 := Aside0.mk c60
                clear c60
                obtain ⟨y275, hy275⟩ : ∃ y_ : List (S82), y_ = (x5_1 ++ [(⟨((rd_T82 l0 x11_1).f0), ((rd_T82 l0 x11_1).f1), ((rd_T82 l0 x11_1).f2), (⟨((rd_T82 l0 x11_1).f3.f0), ((rd_T82 l0 x11_1).f3.f1), ((rd_T82 l0 x11_1).f3.f2), ((rd_T82 l0 x11_1).f3.f3), ((rd_T82 l0 x11_1).f3.f4), ((rd_T82 l0 x11_1).f3.f5)⟩ : S47)⟩ : S82)]) := ⟨_, rfl⟩
                replace H : (impl_ownOf.l0 kj30 y275 l0 (l0.length : Int) (wrap64 (x11_1 + 1)) a1_0 a1_1 a1_2 a1_3 a1_4 a1_5) = some r := by first | (rw [hy275]; with_reducible exact H) | (have H2_ := (Option.bind_some _ _).symm.trans H; rw [hy275]; with_reducible exact H2_) | (have H2_ := (Option.bind_some _ _).symm.trans H; with_reducible exact H2_) | with_reducible exact H | (rw [hy275]; exact H) | exact H
                have Ny275 := Aside0.mk hy275
                clear hy275
                have H' := Aside0.mk H
                clear H
                have hnb61 := NB268_270.out
                have hnc61 := NB270_268.out
                have hnb62 := NB268_271.out
                have hnc62 := NB271_268.out
                have hcz63_0 : wc.cell? ⟨gb268, 0, none⟩ = some (.int .i64 a1_0) := (blk_cell BK268.out 0).trans rfl
                have hcz63_1 : wc.cell? ⟨gb268, 1, none⟩ = some (.int .i64 a1_1) := (blk_cell BK268.out 1).trans rfl
                have hcz63_2 : wc.cell? ⟨gb268, 2, none⟩ = some (.string a1_2) := (blk_cell BK268.out 2).trans rfl
                have hcz63_3 : wc.cell? ⟨gb268, 3, none⟩ = some (.string a1_3) := (blk_cell BK268.out 3).trans rfl
                have hcz63_4 : wc.cell? ⟨gb268, 4, none⟩ = some (.int .i64 a1_4) := (blk_cell BK268.out 4).trans rfl
                have hcz63_5 : wc.cell? ⟨gb268, 5, none⟩ = some (.int .i64 a1_5) := (blk_cell BK268.out 5).trans rfl
                have hfz63_0 := blk_frozen BK268.out 0
                have hfz63_1 := blk_frozen BK268.out 1
                have hfz63_2 := blk_frozen BK268.out 2
                have hfz63_3 := blk_frozen BK268.out 3
                have hfz63_4 := blk_frozen BK268.out 4
                have hfz63_5 := blk_frozen BK268.out 5
                have hnb64 := NB271_270.out
                have hnc64 := NB270_271.out
                have hcz65_0 : wc.cell? ⟨gb271, 0, none⟩ = some (.int .i64 ((rd_T82 l0 x11_1).f3.f0)) := (blk_cell BK271.out 0).trans rfl
                have hcz65_1 : wc.cell? ⟨gb271, 1, none⟩ = some (.int .i64 ((rd_T82 l0 x11_1).f3.f1)) := (blk_cell BK271.out 1).trans rfl
                have hcz65_2 : wc.cell? ⟨gb271, 2, none⟩ = some (.string ((rd_T82 l0 x11_1).f3.f2)) := (blk_cell BK271.out 2).trans rfl
                have hcz65_3 : wc.cell? ⟨gb271, 3, none⟩ = some (.string ((rd_T82 l0 x11_1).f3.f3)) := (blk_cell BK271.out 3).trans rfl
                have hcz65_4 : wc.cell? ⟨gb271, 4, none⟩ = some (.int .i64 ((rd_T82 l0 x11_1).f3.f4)) := (blk_cell BK271.out 4).trans rfl
                have hcz65_5 : wc.cell? ⟨gb271, 5, none⟩ = some (.int .i64 ((rd_T82 l0 x11_1).f3.f5)) := (blk_cell BK271.out 5).trans rfl
                have hfz65_0 := blk_frozen BK271.out 0
                have hfz65_1 := blk_frozen BK271.out 1
                have hfz65_2 := blk_frozen BK271.out 2
                have hfz65_3 := blk_frozen BK271.out 3
                have hfz65_4 := blk_frozen BK271.out 4
                have hfz65_5 := blk_frozen BK271.out 5
                have hcz66_0 : wc.cell? ⟨gb270, 0, none⟩ = some (.int .i64 ((rd_T82 l0 x11_1).f0)) := (blk_cell BK270.out 0).trans rfl
                have hcz66_1 : wc.cell? ⟨gb270, 1, none⟩ = some (.int .i64 ((rd_T82 l0 x11_1).f1)) := (blk_cell BK270.out 1).trans rfl
                have hcz66_2 : wc.cell? ⟨gb270, 2, none⟩ = some (.int .i64 ((rd_T82 l0 x11_1).f2)) := (blk_cell BK270.out 2).trans rfl
                have hcz66_3 : wc.cell? ⟨gb270, 3, none⟩ = some (.int .i64 ((rd_T82 l0 x11_1).f3.f0)) := (blk_cell BK270.out 3).trans rfl
                have hcz66_4 : wc.cell? ⟨gb270, 4, none⟩ = some (.int .i64 ((rd_T82 l0 x11_1).f3.f1)) := (blk_cell BK270.out 4).trans rfl
                have hcz66_5 : wc.cell? ⟨gb270, 5, none⟩ = some (.string ((rd_T82 l0 x11_1).f3.f2)) := (blk_cell BK270.out 5).trans rfl
                have hcz66_6 : wc.cell? ⟨gb270, 6, none⟩ = some (.string ((rd_T82 l0 x11_1).f3.f3)) := (blk_cell BK270.out 6).trans rfl
                have hcz66_7 : wc.cell? ⟨gb270, 7, none⟩ = some (.int .i64 ((rd_T82 l0 x11_1).f3.f4)) := (blk_cell BK270.out 7).trans rfl
                have hcz66_8 : wc.cell? ⟨gb270, 8, none⟩ = some (.int .i64 ((rd_T82 l0 x11_1).f3.f5)) := (blk_cell BK270.out 8).trans rfl
                have hfz66_0 := blk_frozen BK270.out 0
                have hfz66_1 := blk_frozen BK270.out 1
                have hfz66_2 := blk_frozen BK270.out 2
                have hfz66_3 := blk_frozen BK270.out 3
                have hfz66_4 := blk_frozen BK270.out 4
                have hfz66_5 := blk_frozen BK270.out 5
                have hfz66_6 := blk_frozen BK270.out 6
                have hfz66_7 := blk_frozen BK270.out 7
                have hfz66_8 := blk_frozen BK270.out 8
                go_wp2_with (first | ((with_reducible refine gate_builtin (b := .append) (xs := #[.tmp 56, .tmp 58]) rfl ?_); at_builtin; refine Kd.R_append k82 (w0 := w) w.heap.size rfl (.tmp 56) (.tmp 58) 26 82 (.agg #[(.int .i64 0), (.int .i64 0), (.int .i64 0), (.int .i64 0), (.int .i64 0), (.string ⟨#[]⟩), (.string ⟨#[]⟩), (.int .i64 0), (.int .i64 0)]) 88 rfl Try.underlying26 info82 rfl (by decide) (by omega) u5 x5_1 (⟨((rd_T82 l0 x11_1).f0), ((rd_T82 l0 x11_1).f1), ((rd_T82 l0 x11_1).f2), (⟨((rd_T82 l0 x11_1).f3.f0), ((rd_T82 l0 x11_1).f3.f1), ((rd_T82 l0 x11_1).f3.f2), ((rd_T82 l0 x11_1).f3.f3), ((rd_T82 l0 x11_1).f3.f4), ((rd_T82 l0 x11_1).f3.f5)⟩ : S47)⟩ : S82) [.int .i64 ((rd_T82 l0 x11_1).f0), .int .i64 ((rd_T82 l0 x11_1).f1), .int .i64 ((rd_T82 l0 x11_1).f2), .int .i64 ((rd_T82 l0 x11_1).f3.f0), .int .i64 ((rd_T82 l0 x11_1).f3.f1), .string ((rd_T82 l0 x11_1).f3.f2), .string ((rd_T82 l0 x11_1).f3.f3), .int .i64 ((rd_T82 l0 x11_1).f3.f4), .int .i64 ((rd_T82 l0 x11_1).f3.f5)] (fun k_ => k_ ≠ gb270) (fun _ => False) rfl rfl ?aP (fun _ hk => hk.elim) ?aF ?aO ?aB ?aS ?aL ?_; (case aP => exact k82_mkM _ _ _ (⟨((rd_T82 l0 x11_1).f0), ((rd_T82 l0 x11_1).f1), ((rd_T82 l0 x11_1).f2), (⟨((rd_T82 l0 x11_1).f3.f0), ((rd_T82 l0 x11_1).f3.f1), ((rd_T82 l0 x11_1).f3.f2), ((rd_T82 l0 x11_1).f3.f3), ((rd_T82 l0 x11_1).f3.f4), ((rd_T82 l0 x11_1).f3.f5)⟩ : S47)⟩ : S82)); (case aB => exact (by repeat (first | (with_reducible first | exact HB.out | apply below_alloc | apply pw_below_drewN | apply below_drew1 | refine below_set ?_ GE268.out | refine below_set ?_ GE270.out | refine below_set ?_ GE271.out) | exact HB.out))); (case aF => exact (fun k_ hk => Kd.freshB (g := gb270) (o := .cells #[.int .i64 ((rd_T82 l0 x11_1).f0), .int .i64 ((rd_T82 l0 x11_1).f1), .int .i64 ((rd_T82 l0 x11_1).f2), .int .i64 ((rd_T82 l0 x11_1).f3.f0), .int .i64 ((rd_T82 l0 x11_1).f3.f1), .string ((rd_T82 l0 x11_1).f3.f2), .string ((rd_T82 l0 x11_1).f3.f3), .int .i64 ((rd_T82 l0 x11_1).f3.f4), .int .i64 ((rd_T82 l0 x11_1).f3.f5)] 82 (0, 0)) (bk_ BK270) k_ hk)); (case aO => exact (rr_ HO_5)); (case aS => exact (below_size (by repeat (first | (with_reducible first | exact HB.out | apply below_alloc | apply pw_below_drewN | apply below_drew1 | refine below_set ?_ GE268.out | refine below_set ?_ GE270.out | refine below_set ?_ GE271.out) | exact HB.out)))); (case aL => have := LMc60.out; omega); intro v276 w67 ho hb hg hat; rw [← Ny275.out] at ho; have n0_ := Aside0.mk (blk_grown (g := gb268) (o := .cells #[.int .i64 a1_0, .int .i64 a1_1, .string a1_2, .string a1_3, .int .i64 a1_4, .int .i64 a1_5] 47 (0, 0)) (bk_ BK268) hg (Kd.R_ne HO_5.out BK268.out (by decide))); have n1_ := Aside0.mk (blk_grown (g := gb270) (o := .cells #[.int .i64 ((rd_T82 l0 x11_1).f0), .int .i64 ((rd_T82 l0 x11_1).f1), .int .i64 ((rd_T82 l0 x11_1).f2), .int .i64 ((rd_T82 l0 x11_1).f3.f0), .int .i64 ((rd_T82 l0 x11_1).f3.f1), .string ((rd_T82 l0 x11_1).f3.f2), .string ((rd_T82 l0 x11_1).f3.f3), .int .i64 ((rd_T82 l0 x11_1).f3.f4), .int .i64 ((rd_T82 l0 x11_1).f3.f5)] 82 (0, 0)) (bk_ BK270) hg (Kd.R_away HO_5.out (fun _ hk => hk))); have n2_ := Aside0.mk (blk_grown (g := gb271) (o := .cells #[.int .i64 ((rd_T82 l0 x11_1).f3.f0), .int .i64 ((rd_T82 l0 x11_1).f3.f1), .string ((rd_T82 l0 x11_1).f3.f2), .string ((rd_T82 l0 x11_1).f3.f3), .int .i64 ((rd_T82 l0 x11_1).f3.f4), .int .i64 ((rd_T82 l0 x11_1).f3.f5)] 47 (0, 0)) (bk_ BK271) hg (Kd.R_ne HO_5.out BK271.out (by decide))); have n3_ := Aside0.mk (hb); have n4_ := Aside0.mk (ho); clear BK268; clear BK270; clear BK271; clear HB; clear HO_5; have BK268 := n0_; have BK270 := n1_; have BK271 := n2_; have HB := n3_; have HO277 := n4_; clear n0_ n1_ n2_ n3_ n4_; clear ho hb hg hat))
                go_roundg kj30
                case measure => have := HK1.out; have := HJ6.out; have := HJ30.out; omega
                case rel => exact ⟨(y275), (wrap64 (x11_1 + 1)), rs_, H', ⟨by have := HK1.out; have := HJ6.out; have := HJ30.out; omega⟩, ⟨by (with_reducible repeat (first | apply Kd.R_alloc | apply Kd.R_drewN | apply Kd.R_drew)); exact Kd.R_mono HO277.out (fun _ hk => trivial)⟩, ⟨bk_ BK268⟩, ⟨by repeat (first | (with_reducible first | exact HB.out | apply below_alloc | apply pw_below_drewN | apply below_drew1 | refine below_set ?_ GE268.out | refine below_set ?_ GE270.out | refine below_set ?_ GE271.out) | exact HB.out)⟩⟩
               ·rw [if_neg c60] at H
                exact absurd H (by simp)
              ·rw [if_neg c59] at H
               have c59b0 : (((rd_T82 l0 x11_1).f3.f0) == 4) = false := beq_eq_false_iff_ne.mpr c59
               have c59b1 : (((rd_T82 l0 x11_1).f3.f0) != 4) = true := bne_iff_ne.mpr c59
               have H' := Aside0.mk H
               clear H
               have hnb68 := NB268_270.out
               have hnc68 := NB270_268.out
               have hnb69 := NB268_271.out
               have hnc69 := NB271_268.out
               have hcz70_0 : wc.cell? ⟨gb268, 0, none⟩ = some (.int .i64 a1_0) := (blk_cell BK268.out 0).trans rfl
               have hcz70_1 : wc.cell? ⟨gb268, 1, none⟩ = some (.int .i64 a1_1) := (blk_cell BK268.out 1).trans rfl
               have hcz70_2 : wc.cell? ⟨gb268, 2, none⟩ = some (.string a1_2) := (blk_cell BK268.out 2).trans rfl
               have hcz70_3 : wc.cell? ⟨gb268, 3, none⟩ = some (.string a1_3) := (blk_cell BK268.out 3).trans rfl
               have hcz70_4 : wc.cell? ⟨gb268, 4, none⟩ = some (.int .i64 a1_4) := (blk_cell BK268.out 4).trans rfl
               have hcz70_5 : wc.cell? ⟨gb268, 5, none⟩ = some (.int .i64 a1_5) := (blk_cell BK268.out 5).trans rfl
               have hfz70_0 := blk_frozen BK268.out 0
               have hfz70_1 := blk_frozen BK268.out 1
               have hfz70_2 := blk_frozen BK268.out 2
               have hfz70_3 := blk_frozen BK268.out 3
               have hfz70_4 := blk_frozen BK268.out 4
               have hfz70_5 := blk_frozen BK268.out 5
               have hnb71 := NB271_270.out
               have hnc71 := NB270_271.out
               have hcz72_0 : wc.cell? ⟨gb271, 0, none⟩ = some (.int .i64 ((rd_T82 l0 x11_1).f3.f0)) := (blk_cell BK271.out 0).trans rfl
               have hcz72_1 : wc.cell? ⟨gb271, 1, none⟩ = some (.int .i64 ((rd_T82 l0 x11_1).f3.f1)) := (blk_cell BK271.out 1).trans rfl
               have hcz72_2 : wc.cell? ⟨gb271, 2, none⟩ = some (.string ((rd_T82 l0 x11_1).f3.f2)) := (blk_cell BK271.out 2).trans rfl
               have hcz72_3 : wc.cell? ⟨gb271, 3, none⟩ = some (.string ((rd_T82 l0 x11_1).f3.f3)) := (blk_cell BK271.out 3).trans rfl
               have hcz72_4 : wc.cell? ⟨gb271, 4, none⟩ = some (.int .i64 ((rd_T82 l0 x11_1).f3.f4)) := (blk_cell BK271.out 4).trans rfl
               have hcz72_5 : wc.cell? ⟨gb271, 5, none⟩ = some (.int .i64 ((rd_T82 l0 x11_1).f3.f5)) := (blk_cell BK271.out 5).trans rfl
               have hfz72_0 := blk_frozen BK271.out 0
               have hfz72_1 := blk_frozen BK271.out 1
               have hfz72_2 := blk_frozen BK271.out 2
               have hfz72_3 := blk_frozen BK271.out 3
               have hfz72_4 := blk_frozen BK271.out 4
               have hfz72_5 := blk_frozen BK271.out 5
               go_wp2
               go_roundg kj30
               case measure => have := HK1.out; have := HJ6.out; have := HJ30.out; omega
               case rel => exact ⟨(x5_1), (wrap64 (x11_1 + 1)), rs_, H', ⟨by have := HK1.out; have := HJ6.out; have := HJ30.out; omega⟩, ⟨by (with_reducible repeat (first | apply Kd.R_alloc | apply Kd.R_drewN | apply Kd.R_drew)); exact Kd.R_mono HO_5.out (fun _ hk => trivial)⟩, ⟨bk_ BK268⟩, ⟨by repeat (first | (with_reducible first | exact HB.out | apply below_alloc | apply pw_below_drewN | apply below_drew1 | refine below_set ?_ GE268.out | refine below_set ?_ GE270.out | refine below_set ?_ GE271.out) | exact HB.out)⟩⟩
             ·rw [if_neg c58] at H
              have c58b0 : (a1_0 == 5) = false := beq_eq_false_iff_ne.mpr c58
              have c58b1 : (a1_0 != 5) = true := bne_iff_ne.mpr c58
              have H' := Aside0.mk H
              clear H
              have hnb73 := NB268_270.out
              have hnc73 := NB270_268.out
              have hnb74 := NB268_271.out
              have hnc74 := NB271_268.out
              have hcz75_0 : wc.cell? ⟨gb268, 0, none⟩ = some (.int .i64 a1_0) := (blk_cell BK268.out 0).trans rfl
              have hcz75_1 : wc.cell? ⟨gb268, 1, none⟩ = some (.int .i64 a1_1) := (blk_cell BK268.out 1).trans rfl
              have hcz75_2 : wc.cell? ⟨gb268, 2, none⟩ = some (.string a1_2) := (blk_cell BK268.out 2).trans rfl
              have hcz75_3 : wc.cell? ⟨gb268, 3, none⟩ = some (.string a1_3) := (blk_cell BK268.out 3).trans rfl
              have hcz75_4 : wc.cell? ⟨gb268, 4, none⟩ = some (.int .i64 a1_4) := (blk_cell BK268.out 4).trans rfl
              have hcz75_5 : wc.cell? ⟨gb268, 5, none⟩ = some (.int .i64 a1_5) := (blk_cell BK268.out 5).trans rfl
              have hfz75_0 := blk_frozen BK268.out 0
              have hfz75_1 := blk_frozen BK268.out 1
              have hfz75_2 := blk_frozen BK268.out 2
              have hfz75_3 := blk_frozen BK268.out 3
              have hfz75_4 := blk_frozen BK268.out 4
              have hfz75_5 := blk_frozen BK268.out 5
              go_wp2
              go_roundg kj30
              case measure => have := HK1.out; have := HJ6.out; have := HJ30.out; omega
              case rel => exact ⟨(x5_1), (wrap64 (x11_1 + 1)), rs_, H', ⟨by have := HK1.out; have := HJ6.out; have := HJ30.out; omega⟩, ⟨by (with_reducible repeat (first | apply Kd.R_alloc | apply Kd.R_drewN | apply Kd.R_drew)); exact Kd.R_mono HO_5.out (fun _ hk => trivial)⟩, ⟨bk_ BK268⟩, ⟨by repeat (first | (with_reducible first | exact HB.out | apply below_alloc | apply pw_below_drewN | apply below_drew1 | refine below_set ?_ GE268.out | refine below_set ?_ GE270.out | refine below_set ?_ GE271.out) | exact HB.out)⟩⟩
     ·rw [if_neg c6] at H
      exact absurd H (by simp)
    ·rw [if_neg c5] at H
     exact absurd H (by simp)
   ·rw [if_neg c4] at H
    have c4b0 : decide (x11_1 < (l0.length : Int)) = false := decide_eq_false c4
    clear c4
    obtain rfl := Option.some.inj H
    go_wp2
    go_ret
    exact ⟨_, by first | rfl | (simp [errW_none, errW_some] <;> rfl) | (simp [*, errW_none, errW_some] <;> rfl), rr_ HO_5, hs_ HB GE268⟩

end Go.Proofs.Ytebeafcdabkkfab.PFnExactSealed
