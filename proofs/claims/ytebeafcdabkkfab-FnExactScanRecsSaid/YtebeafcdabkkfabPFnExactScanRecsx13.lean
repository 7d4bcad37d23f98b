-- Laid by a program of this session, a copy of the kit's printer with additions (wip/patch_print.py): myhead. Lean checks it.
import Derived.Test.YtebeafcdabkkfabPFnExactScanRecsx0
import Derived.Test.YtebeafcdabkkfabPFnExactScanRecsx6
import Derived.Test.YtebeafcdabkkfabPFnExactScanRecsx10
import Derived.Test.YtebeafcdabkkfabPFnExactScanRecsx11
import Derived.Test.YtebeafcdabkkfabPFnExactScanRecsx12
namespace Go.Proofs.Ytebeafcdabkkfab.PFnExactScanRecs
open Go.RowKit Go.Proofs.YtebeafcdabkkfabW.PrintWords Go.Proofs.YtebeafcdabkkfabW.PrintLast Go.Proofs.YtebeafcdabkkfabW.PrintMore
attribute [local go_sem] max2_int min2_int max_two min_two max_three min_three max_four min_four   -- for this text's walks alone
set_option linter.unusedVariables false
set_option linter.unusedSimpArgs false

/-! ### laws_FnExactScanRecs: function 4 -/
mutual
def laws_FnExactScanRecs.j0 : Nat → ByteArray → List (S51) → Int → List (S51) → Bool → Option (Bool)
 | 0, _, _, _, _, _ => none
 | k + 1, x0, x3, x4, x5, x32 => if x32 = true then (some false) else ((laws_markSpotS.f k x5 1).bind fun bt305 => ((laws_heldSpotS.f k bt305.2 1).bind fun t307 => (if t307 < 0 then (some false) else (if t307 = bt305.1 then ((impl_ScanRecs.f k x0).bind fun bt308 => ((laws_eqSpotS.f k bt308.1 x3).bind fun t312 => (if t312 = true then (laws_FnExactScanRecs.j1 k bt305.2 bt305.1 (bt308.2 != x4)) else (laws_FnExactScanRecs.j1 k bt305.2 bt305.1 true)))) else (some false)))))
def laws_FnExactScanRecs.j1 : Nat → List (S51) → Int → Bool → Option (Bool)
 | 0, _, _, _ => none
 | k + 1, x5, x7, x57 => if x57 = true then (some false) else ((laws_heldSpotS.f k x5 1).bind fun t313 => (if t313 < 0 then (some false) else (if t313 = x7 then (some true) else (some false))))
end
def laws_FnExactScanRecs.f (k : Nat) (a0 : ByteArray) : Option (Bool) := if (a0.size : Int) > 1048576 then (some true) else ((spec_ScanRecs.f k a0).bind fun bt296 => ((impl_ScanRecs.f k a0).bind fun bt300 => ((laws_eqSpotS.f k bt300.1 bt296.1).bind fun t304 => (if t304 = true then (laws_FnExactScanRecs.j0 k a0 bt296.1 bt296.2 bt300.1 (bt300.2 != bt296.2)) else (laws_FnExactScanRecs.j0 k a0 bt296.1 bt296.2 bt300.1 true)))))
theorem laws_FnExactScanRecs.mono_l : ∀ k, (∀ y0 y1 y2 y3 y4, LeO (laws_FnExactScanRecs.j0 k y0 y1 y2 y3 y4) (laws_FnExactScanRecs.j0 (k + 1) y0 y1 y2 y3 y4)) ∧ (∀ y0 y1 y2, LeO (laws_FnExactScanRecs.j1 k y0 y1 y2) (laws_FnExactScanRecs.j1 (k + 1) y0 y1 y2))
 | 0 => ⟨fun _ _ _ _ _ r h => by simp [laws_FnExactScanRecs.j0] at h, fun _ _ _ r h => by simp [laws_FnExactScanRecs.j1] at h⟩
 | k + 1 => by
  obtain ⟨ih0, ih1⟩ := laws_FnExactScanRecs.mono_l k
  refine ⟨?_, ?_⟩
  ·intro y0 y1 y2 y3 y4
   unfold laws_FnExactScanRecs.j0
   repeat' first
   | (with_reducible exact ih0 _ _ _ _ _)
   | (with_reducible exact ih1 _ _ _)
   | (with_reducible exact impl_ScanRecs.mono _ _)
   | (with_reducible exact laws_eqSpotS.mono _ _ _)
   | (with_reducible exact laws_heldSpotS.mono _ _ _)
   | (with_reducible exact laws_markSpotS.mono _ _ _)
   | (with_reducible exact spec_ScanRecs.mono _ _)
   | (with_reducible exact LeO.refl _)
   | (with_reducible exact LeO.none _)
   | (with_reducible refine LeO.ite ?_ ?_)
   | (with_reducible refine LeO.bind ?_ (fun _ => ?_))
   | exact ih0 _ _ _ _ _
   | exact ih1 _ _ _
   | exact impl_ScanRecs.mono _ _
   | exact laws_eqSpotS.mono _ _ _
   | exact laws_heldSpotS.mono _ _ _
   | exact laws_markSpotS.mono _ _ _
   | exact spec_ScanRecs.mono _ _
   | exact LeO.none _
   | refine LeO.ite ?_ ?_
   | refine LeO.bind ?_ (fun _ => ?_)
  ·intro y0 y1 y2
   unfold laws_FnExactScanRecs.j1
   repeat' first
   | (with_reducible exact ih0 _ _ _ _ _)
   | (with_reducible exact ih1 _ _ _)
   | (with_reducible exact impl_ScanRecs.mono _ _)
   | (with_reducible exact laws_eqSpotS.mono _ _ _)
   | (with_reducible exact laws_heldSpotS.mono _ _ _)
   | (with_reducible exact laws_markSpotS.mono _ _ _)
   | (with_reducible exact spec_ScanRecs.mono _ _)
   | (with_reducible exact LeO.refl _)
   | (with_reducible exact LeO.none _)
   | (with_reducible refine LeO.ite ?_ ?_)
   | (with_reducible refine LeO.bind ?_ (fun _ => ?_))
   | exact ih0 _ _ _ _ _
   | exact ih1 _ _ _
   | exact impl_ScanRecs.mono _ _
   | exact laws_eqSpotS.mono _ _ _
   | exact laws_heldSpotS.mono _ _ _
   | exact laws_markSpotS.mono _ _ _
   | exact spec_ScanRecs.mono _ _
   | exact LeO.none _
   | refine LeO.ite ?_ ?_
   | refine LeO.bind ?_ (fun _ => ?_)
theorem laws_FnExactScanRecs.mono : ∀ a0 k, LeO (laws_FnExactScanRecs.f k a0) (laws_FnExactScanRecs.f (k + 1) a0) := by
 intro a0 k
 obtain ⟨ih0, ih1⟩ := laws_FnExactScanRecs.mono_l k
 unfold laws_FnExactScanRecs.f
 repeat' first
   | (with_reducible exact ih0 _ _ _ _ _)
   | (with_reducible exact ih1 _ _ _)
   | (with_reducible exact impl_ScanRecs.mono _ _)
   | (with_reducible exact laws_eqSpotS.mono _ _ _)
   | (with_reducible exact laws_heldSpotS.mono _ _ _)
   | (with_reducible exact laws_markSpotS.mono _ _ _)
   | (with_reducible exact spec_ScanRecs.mono _ _)
   | (with_reducible exact LeO.refl _)
   | (with_reducible exact LeO.none _)
   | (with_reducible refine LeO.ite ?_ ?_)
   | (with_reducible refine LeO.bind ?_ (fun _ => ?_))
   | exact ih0 _ _ _ _ _
   | exact ih1 _ _ _
   | exact impl_ScanRecs.mono _ _
   | exact laws_eqSpotS.mono _ _ _
   | exact laws_heldSpotS.mono _ _ _
   | exact laws_markSpotS.mono _ _ _
   | exact spec_ScanRecs.mono _ _
   | exact LeO.none _
   | refine LeO.ite ?_ ?_
   | refine LeO.bind ?_ (fun _ => ?_)
set_option maxHeartbeats 8000000 in
set_option maxRecDepth 100000 in
theorem laws_FnExactScanRecs.calls (k : Nat) (a0 : ByteArray) (r : Bool) (w : World) (hrt : r = true) (h : laws_FnExactScanRecs.f k a0 = some r) :
  Calls Try.prog 4 #[.string a0] w fun e w' => e = .returned (.bool r) ∧ Below w.heap.size w w' := by
 have HRT := Aside0.mk hrt
 clear hrt
 have HB := Aside0.mk (Below.refl w.heap.size w)
 have H : (if (a0.size : Int) > 1048576 then (some true) else ((spec_ScanRecs.f k a0).bind fun bt296 => ((impl_ScanRecs.f k a0).bind fun bt300 => ((laws_eqSpotS.f k bt300.1 bt296.1).bind fun t304 => (if t304 = true then (laws_FnExactScanRecs.j0 k a0 bt296.1 bt296.2 bt300.1 (bt300.2 != bt296.2)) else (laws_FnExactScanRecs.j0 k a0 bt296.1 bt296.2 bt300.1 true)))))) = some r := h
 clear h
 by_cases c2 : (a0.size : Int) > 1048576
 ·rw [if_pos c2] at H
  have c2b0 : decide (1048576 < (a0.size : Int)) = true := decide_eq_true c2
  have c2b1 : decide (1048576 < a0.size) = true := decide_eq_true (by omega)
  clear c2
  obtain rfl := Option.some.inj H
  go_enter Try.func4, Try.ntmps4
  go_wp2
  go_ret
  exact ⟨re_, hb_ HB⟩
 ·rw [if_neg c2] at H
  have c2b0 : decide (1048576 < (a0.size : Int)) = false := decide_eq_false c2
  have c2b1 : decide (1048576 < a0.size) = false := decide_eq_false (by omega)
  clear c2
  replace H := Option.bind_eq_some_iff.mp H
  obtain ⟨⟨t296, t297⟩, A30, H⟩ := H
  replace H : ((impl_ScanRecs.f k a0).bind fun bt300 => ((laws_eqSpotS.f k bt300.1 t296).bind fun t304 => (if t304 = true then (laws_FnExactScanRecs.j0 k a0 t296 t297 bt300.1 (bt300.2 != t297)) else (laws_FnExactScanRecs.j0 k a0 t296 t297 bt300.1 true)))) = some r := H
  have A3 := Aside0.mk A30
  clear A30
  replace H := Option.bind_eq_some_iff.mp H
  obtain ⟨⟨t300, t301⟩, A40, H⟩ := H
  replace H : ((laws_eqSpotS.f k t300 t296).bind fun t304 => (if t304 = true then (laws_FnExactScanRecs.j0 k a0 t296 t297 t300 (t301 != t297)) else (laws_FnExactScanRecs.j0 k a0 t296 t297 t300 true))) = some r := H
  have A4 := Aside0.mk A40
  clear A40
  have HC5 := Aside0.mk H
  clear H
  go_enter Try.func4, Try.ntmps4
  go_upto_region 5 with (first | ((with_reducible refine gate_callee (f := 18) rfl ?_); refine goesL_ (some 16) rfl rfl Try.func18 (by kernel_rfl) rfl #[.string a0] rfl ar_ ?_; (with_reducible refine (spec_ScanRecs.calls k a0 t296 t297 _ A3.out).mono ?_); rintro e w6 ⟨v298, rfl, ho0, hb⟩; refine ⟨_, rfl, ?_⟩; have n0_ := Aside0.mk (Kd.R_lower ho0 (below_size (hb_ HB))); have n1_ := Aside0.mk (below_step (hb_ HB) hb); clear HB; have HO299 := n0_; have HB := n1_; clear n0_ n1_; (try clear hb); (try clear hb2); (try clear hk); (try clear hi); (try clear ho0)) | ((with_reducible refine gate_callee (f := 19) rfl ?_); refine goesL_ (some 21) rfl rfl Try.func19 (by kernel_rfl) rfl #[.string a0] rfl ar_ ?_; (with_reducible refine (impl_ScanRecs.calls k a0 t300 t301 _ A4.out).mono ?_); rintro e w7 ⟨v302, rfl, ho0, hb⟩; refine ⟨_, rfl, ?_⟩; have n0_ := Aside0.mk (Kd.R_elder' (rr_ HO299) (Kd.R_base ho0) hb); have n1_ := Aside0.mk (Kd.R_lower (Kd.R_new' ho0 (Kd.R_lt (rr_ HO299))) (below_size (hb_ HB))); have n2_ := Aside0.mk (below_step (hb_ HB) hb); clear HO299; clear HB; have HO299 := n0_; have HO303 := n1_; have HB := n2_; clear n0_ n1_ n2_; (try clear hb); (try clear hb2); (try clear hk); (try clear hi); (try clear ho0)))
  (try simp only [Act.put, la_, lz_, ls_])
  go_cut [32] (fun v32 wc => ∃ (kq : Nat) (x32_4 : Bool), v32 = .bool x32_4 ∧ Aside0 (laws_FnExactScanRecs.j0 kq a0 t296 t297 t300 x32_4 = some r) ∧ Aside0 (kq ≤ k) ∧ Aside0 (Kd.R k51 51 wc w.heap.size (fun k_ => some k_ ≠ (v302 : Value).ownBlock) v298 t296) ∧ Aside0 (Kd.R k51 51 wc w.heap.size (fun k_ => some k_ ≠ (v298 : Value).ownBlock) v302 t300) ∧ Aside0 (Below w.heap.size w wc))
  case first =>
   have H := HC5.out
   clear HC5
   replace H := Option.bind_eq_some_iff.mp H
   obtain ⟨t304, A80, H⟩ := H
   replace H : (if t304 = true then (laws_FnExactScanRecs.j0 k a0 t296 t297 t300 (t301 != t297)) else (laws_FnExactScanRecs.j0 k a0 t296 t297 t300 true)) = some r := H
   have A8 := Aside0.mk A80
   clear A80
   by_cases c9 : t304 = true
   ·subst c9
    have H1 : (laws_FnExactScanRecs.j0 k a0 t296 t297 t300 (t301 != t297)) = some r := by rw [if_pos rfl] at H; exact H
    clear H
    have H := H1
    clear H1
    have H' := Aside0.mk H
    clear H
    obtain ⟨Ao10, co10, eo10⟩ := Kd.R_slice HO303.out
    subst eo10
    obtain ⟨Ao11, co11, eo11⟩ := Kd.R_slice HO299.out
    subst eo11
    go_wp2_with (first | ((with_reducible refine gate_callee (f := 20) rfl ?_); refine goesL_ (some 26) rfl rfl Try.func20 (by kernel_rfl) rfl #[.slice Ao10 t300.length co10, .slice Ao11 t296.length co11] rfl ar_ ?_; (with_reducible refine (laws_eqSpotS.calls k _ _ t300 _ _ t296 true _ ?side1 ?side2 ?side3 ?side4 A8.out).mono ?_); (case side1 => repeat (first | exact (Kd.R_reads' HO303.out).2.2 | (with_reducible refine Kd.C_alloc ?_ _) | (with_reducible refine Kd.C_drewN ?_ _) | (with_reducible refine Kd.C_drew ?_))); (case side2 => exact (Kd.R_reads' HO303.out).2.1); (case side3 => repeat (first | exact (Kd.R_reads' HO299.out).2.2 | (with_reducible refine Kd.C_alloc ?_ _) | (with_reducible refine Kd.C_drewN ?_ _) | (with_reducible refine Kd.C_drew ?_))); (case side4 => exact (Kd.R_reads' HO299.out).2.1); rintro e w12 ⟨rfl, hb⟩; refine ⟨_, rfl, ?_⟩; have n0_ := Aside0.mk (Kd.R_below (rr_ HO299) hb); have n1_ := Aside0.mk (Kd.R_below (rr_ HO303) hb); have n2_ := Aside0.mk (below_step (hb_ HB) hb); clear HO299; clear HO303; clear HB; have HO299 := n0_; have HO303 := n1_; have HB := n2_; clear n0_ n1_ n2_; (try clear hb); (try clear hb2); (try clear hk); (try clear hi)))
    go_meet
    case rel => exact ⟨_, ((t301 != t297)), rs_, H', ⟨by first | exact Nat.le_refl _ | exact Nat.le_of_succ_le this | omega⟩, ⟨by (with_reducible repeat (first | apply Kd.R_alloc | apply Kd.R_drewN | apply Kd.R_drew)); exact Kd.R_mono HO299.out (fun _ hk => hk.2)⟩, ⟨by (with_reducible repeat (first | apply Kd.R_alloc | apply Kd.R_drewN | apply Kd.R_drew)); exact Kd.R_mono HO303.out (fun _ hk => hk.2)⟩, ⟨hb_ HB⟩⟩
   ·replace c9 := Bool.eq_false_iff.mpr c9
    subst c9
    have H1 : (laws_FnExactScanRecs.j0 k a0 t296 t297 t300 true) = some r := by rw [if_neg (show ¬ (false = true) by decide)] at H; exact H
    clear H
    have H := H1
    clear H1
    have H' := Aside0.mk H
    clear H
    obtain ⟨Ao13, co13, eo13⟩ := Kd.R_slice HO303.out
    subst eo13
    obtain ⟨Ao14, co14, eo14⟩ := Kd.R_slice HO299.out
    subst eo14
    go_wp2_with (first | ((with_reducible refine gate_callee (f := 20) rfl ?_); refine goesL_ (some 26) rfl rfl Try.func20 (by kernel_rfl) rfl #[.slice Ao13 t300.length co13, .slice Ao14 t296.length co14] rfl ar_ ?_; (with_reducible refine (laws_eqSpotS.calls k _ _ t300 _ _ t296 false _ ?side1 ?side2 ?side3 ?side4 A8.out).mono ?_); (case side1 => repeat (first | exact (Kd.R_reads' HO303.out).2.2 | (with_reducible refine Kd.C_alloc ?_ _) | (with_reducible refine Kd.C_drewN ?_ _) | (with_reducible refine Kd.C_drew ?_))); (case side2 => exact (Kd.R_reads' HO303.out).2.1); (case side3 => repeat (first | exact (Kd.R_reads' HO299.out).2.2 | (with_reducible refine Kd.C_alloc ?_ _) | (with_reducible refine Kd.C_drewN ?_ _) | (with_reducible refine Kd.C_drew ?_))); (case side4 => exact (Kd.R_reads' HO299.out).2.1); rintro e w15 ⟨rfl, hb⟩; refine ⟨_, rfl, ?_⟩; have n0_ := Aside0.mk (Kd.R_below (rr_ HO299) hb); have n1_ := Aside0.mk (Kd.R_below (rr_ HO303) hb); have n2_ := Aside0.mk (below_step (hb_ HB) hb); clear HO299; clear HO303; clear HB; have HO299 := n0_; have HO303 := n1_; have HB := n2_; clear n0_ n1_ n2_; (try clear hb); (try clear hb2); (try clear hk); (try clear hi)))
    go_meet
    case rel => exact ⟨_, (true), rs_, H', ⟨by first | exact Nat.le_refl _ | exact Nat.le_of_succ_le this | omega⟩, ⟨by (with_reducible repeat (first | apply Kd.R_alloc | apply Kd.R_drewN | apply Kd.R_drew)); exact Kd.R_mono HO299.out (fun _ hk => hk.2)⟩, ⟨by (with_reducible repeat (first | apply Kd.R_alloc | apply Kd.R_drewN | apply Kd.R_drew)); exact Kd.R_mono HO303.out (fun _ hk => hk.2)⟩, ⟨hb_ HB⟩⟩
  case rest =>
   clear HC5
   try clear c1
   try clear c2
   try clear c2b0
   try clear c2b1
   try clear p2
   try clear c4
   try clear c9
   obtain ⟨kq, x32_4, rfl, HA, HJ4, HO_3, HO_5, HB⟩ := hcut
   cases kq with
   | zero => exact absurd HA.out (by simp [laws_FnExactScanRecs.j0])
   | succ kj4 =>
    have H := HA.out
    clear HA
    simp only [laws_FnExactScanRecs.j0] at H
    by_cases c16 : x32_4 = true
    ·subst c16
     have H1 : (some false) = some r := by rw [if_pos rfl] at H; exact H
     clear H
     have H := H1
     clear H1
     exact absurd ((Option.some.inj H).trans HRT.out) (by decide)
    ·replace c16 := Bool.eq_false_iff.mpr c16
     subst c16
     have H1 : ((laws_markSpotS.f kj4 t300 1).bind fun bt305 => ((laws_heldSpotS.f kj4 bt305.2 1).bind fun t307 => (if t307 < 0 then (some false) else (if t307 = bt305.1 then ((impl_ScanRecs.f kj4 a0).bind fun bt308 => ((laws_eqSpotS.f kj4 bt308.1 t296).bind fun t312 => (if t312 = true then (laws_FnExactScanRecs.j1 kj4 bt305.2 bt305.1 (bt308.2 != t297)) else (laws_FnExactScanRecs.j1 kj4 bt305.2 bt305.1 true)))) else (some false))))) = some r := by rw [if_neg (show ¬ (false = true) by decide)] at H; exact H
     clear H
     have H := H1
     clear H1
     replace H := Option.bind_eq_some_iff.mp H
     obtain ⟨⟨t305, t306⟩, A170, H⟩ := H
     replace H : ((laws_heldSpotS.f kj4 t306 1).bind fun t307 => (if t307 < 0 then (some false) else (if t307 = t305 then ((impl_ScanRecs.f kj4 a0).bind fun bt308 => ((laws_eqSpotS.f kj4 bt308.1 t296).bind fun t312 => (if t312 = true then (laws_FnExactScanRecs.j1 kj4 t306 t305 (bt308.2 != t297)) else (laws_FnExactScanRecs.j1 kj4 t306 t305 true)))) else (some false)))) = some r := H
     have A17 := Aside0.mk A170
     clear A170
     replace H := Option.bind_eq_some_iff.mp H
     obtain ⟨t307, A180, H⟩ := H
     replace H : (if t307 < 0 then (some false) else (if t307 = t305 then ((impl_ScanRecs.f kj4 a0).bind fun bt308 => ((laws_eqSpotS.f kj4 bt308.1 t296).bind fun t312 => (if t312 = true then (laws_FnExactScanRecs.j1 kj4 t306 t305 (bt308.2 != t297)) else (laws_FnExactScanRecs.j1 kj4 t306 t305 true)))) else (some false))) = some r := H
     have A18 := Aside0.mk A180
     clear A180
     by_cases c19 : t307 < 0
     ·rw [if_pos c19] at H
      have c19b0 : decide (t307 < 0) = true := decide_eq_true c19
      clear c19
      exact absurd ((Option.some.inj H).trans HRT.out) (by decide)
     ·rw [if_neg c19] at H
      have c19b0 : decide (t307 < 0) = false := decide_eq_false c19
      clear c19
      by_cases c20 : t307 = t305
      ·rw [if_pos c20] at H
       have c20b0 : (t307 == t305) = true := beq_iff_eq.mpr c20
       have c20b1 : (t307 != t305) = false := bne_eq_false_iff_eq.mpr c20
       clear c20
       replace H := Option.bind_eq_some_iff.mp H
       obtain ⟨⟨t308, t309⟩, A210, H⟩ := H
       replace H : ((laws_eqSpotS.f kj4 t308 t296).bind fun t312 => (if t312 = true then (laws_FnExactScanRecs.j1 kj4 t306 t305 (t309 != t297)) else (laws_FnExactScanRecs.j1 kj4 t306 t305 true))) = some r := H
       have A21 := Aside0.mk A210
       clear A210
       have HC22 := Aside0.mk H
       clear H
       obtain ⟨Ao23, co23, eo23⟩ := Kd.R_slice HO_5.out
       subst eo23
       go_upto_region 16 with (first | ((with_reducible refine gate_callee (f := 21) rfl ?_); refine goesL_ (some 35) rfl rfl Try.func21 (by kernel_rfl) rfl #[.slice Ao23 t300.length co23, .int .i64 1] rfl ar_ ?_; (with_reducible refine (laws_markSpotS.calls kj4 (fun k_ => some k_ = (.slice Ao23 t300.length co23 : Value).ownBlock) (.slice Ao23 t300.length co23) t300 1 t305 t306 w _ ?side1 ?side2 A17.out).mono ?_); (case side1 => repeat (first | (with_reducible first | exact HB.out | apply below_alloc | apply pw_below_drewN | apply below_drew1) | exact HB.out)); (case side2 => exact Kd.R_tight rfl HO_5.out); rintro e w24 ⟨rfl, hy0, hb, hkp⟩; refine ⟨_, rfl, ?_⟩; have n0_ := Aside0.mk (Kd.R_mono (ok' := fun k_ => some k_ ≠ (.slice Ao23 t300.length co23 : Value).ownBlock) (Kd.R_keptB (HO_3.out) hkp (fun k_ hk_ hs_ => (hk_) hs_)) (fun k_ hk_ => hk_.1)); have n1_ := Aside0.mk (Kd.R_reok rfl hy0 (fun k_ e_ => HO_5.out.1 k_ e_)); have n2_ := Aside0.mk (hb); clear HO_3; clear HO_5; clear HB; have HO_3 := n0_; have HO_5 := n1_; have HB := n2_; clear n0_ n1_ n2_; (try clear hb); (try clear hkp); (try clear hy0)) | ((with_reducible refine gate_callee (f := 22) rfl ?_); refine goesL_ (some 38) rfl rfl Try.func22 (by kernel_rfl) rfl #[.slice Ao23 t306.length co23, .int .i64 1] rfl (by (try simp only [List.map_toArray, List.map_cons, List.map_nil]); first | done | (rw [show t306.length = t300.length from (Kd.R_reads' HO_5.out).1.symm] <;> rfl) | rfl | (simp only [List.length_drop, List.length_take]; rfl)) ?_; (with_reducible refine (laws_heldSpotS.calls kj4 _ _ t306 1 t307 _ ?side1 ?side2 A18.out).mono ?_); (case side1 => repeat (first | exact (Kd.R_reads' HO_5.out).2.2 | (with_reducible refine Kd.C_alloc ?_ _) | (with_reducible refine Kd.C_drewN ?_ _) | (with_reducible refine Kd.C_drew ?_))); (case side2 => rw [show t306.length = t300.length from (Kd.R_reads' HO_5.out).1.symm]; exact (Kd.R_reads' HO_5.out).2.1); rintro e w25 ⟨rfl, hb⟩; refine ⟨_, rfl, ?_⟩; have n0_ := Aside0.mk (Kd.R_below (rr_ HO_3) hb); have n1_ := Aside0.mk (Kd.R_below (rr_ HO_5) hb); have n2_ := Aside0.mk (below_step (hb_ HB) hb); clear HO_3; clear HO_5; clear HB; have HO_3 := n0_; have HO_5 := n1_; have HB := n2_; clear n0_ n1_ n2_; (try clear hb); (try clear hb2); (try clear hk); (try clear hi)) | ((with_reducible refine gate_callee (f := 19) rfl ?_); refine goesL_ (some 46) rfl rfl Try.func19 (by kernel_rfl) rfl #[.string a0] rfl ar_ ?_; (with_reducible refine (impl_ScanRecs.calls kj4 a0 t308 t309 _ A21.out).mono ?_); rintro e w26 ⟨v310, rfl, ho0, hb⟩; refine ⟨_, rfl, ?_⟩; have n0_ := Aside0.mk (Kd.R_elder' (rr_ HO_3) (Kd.R_base ho0) hb); have n1_ := Aside0.mk (Kd.R_elder' (rr_ HO_5) (Kd.R_base ho0) hb); have n2_ := Aside0.mk (Kd.R_lower (Kd.R_new' (Kd.R_new' ho0 (Kd.R_lt (rr_ HO_3))) (Kd.R_lt (rr_ HO_5))) (below_size (hb_ HB))); have n3_ := Aside0.mk (below_step (hb_ HB) hb); clear HO_3; clear HO_5; clear HB; have HO_3 := n0_; have HO_5 := n1_; have HO311 := n2_; have HB := n3_; clear n0_ n1_ n2_ n3_; (try clear hb); (try clear hb2); (try clear hk); (try clear hi); (try clear ho0)))
       (try simp only [Act.put, la_, lz_, ls_])
       go_cut [57] (fun v57 wc => ∃ (kq : Nat) (x57_21 : Bool), v57 = .bool x57_21 ∧ Aside0 (laws_FnExactScanRecs.j1 kq t306 t305 x57_21 = some r) ∧ Aside0 (kq ≤ kj4) ∧ Aside0 (Kd.R k51 51 wc w.heap.size (fun _ => True) (.slice Ao23 t300.length co23) t306) ∧ Aside0 (Below w.heap.size w wc))
       case first =>
        have H := HC22.out
        clear HC22
        replace H := Option.bind_eq_some_iff.mp H
        obtain ⟨t312, A270, H⟩ := H
        replace H : (if t312 = true then (laws_FnExactScanRecs.j1 kj4 t306 t305 (t309 != t297)) else (laws_FnExactScanRecs.j1 kj4 t306 t305 true)) = some r := H
        have A27 := Aside0.mk A270
        clear A270
        by_cases c28 : t312 = true
        ·subst c28
         have H1 : (laws_FnExactScanRecs.j1 kj4 t306 t305 (t309 != t297)) = some r := by rw [if_pos rfl] at H; exact H
         clear H
         have H := H1
         clear H1
         have H' := Aside0.mk H
         clear H
         obtain ⟨Ao29, co29, eo29⟩ := Kd.R_slice HO311.out
         subst eo29
         obtain ⟨Ao30, co30, eo30⟩ := Kd.R_slice HO_3.out
         subst eo30
         go_wp2_with (first | ((with_reducible refine gate_callee (f := 20) rfl ?_); refine goesL_ (some 51) rfl rfl Try.func20 (by kernel_rfl) rfl #[.slice Ao29 t308.length co29, .slice Ao30 t296.length co30] rfl ar_ ?_; (with_reducible refine (laws_eqSpotS.calls kj4 _ _ t308 _ _ t296 true _ ?side1 ?side2 ?side3 ?side4 A27.out).mono ?_); (case side1 => repeat (first | exact (Kd.R_reads' HO311.out).2.2 | (with_reducible refine Kd.C_alloc ?_ _) | (with_reducible refine Kd.C_drewN ?_ _) | (with_reducible refine Kd.C_drew ?_))); (case side2 => exact (Kd.R_reads' HO311.out).2.1); (case side3 => repeat (first | exact (Kd.R_reads' HO_3.out).2.2 | (with_reducible refine Kd.C_alloc ?_ _) | (with_reducible refine Kd.C_drewN ?_ _) | (with_reducible refine Kd.C_drew ?_))); (case side4 => exact (Kd.R_reads' HO_3.out).2.1); rintro e w31 ⟨rfl, hb⟩; refine ⟨_, rfl, ?_⟩; have n0_ := Aside0.mk (Kd.R_below (rr_ HO_3) hb); have n1_ := Aside0.mk (Kd.R_below (rr_ HO_5) hb); have n2_ := Aside0.mk (Kd.R_below (rr_ HO311) hb); have n3_ := Aside0.mk (below_step (hb_ HB) hb); clear HO_3; clear HO_5; clear HO311; clear HB; have HO_3 := n0_; have HO_5 := n1_; have HO311 := n2_; have HB := n3_; clear n0_ n1_ n2_ n3_; (try clear hb); (try clear hb2); (try clear hk); (try clear hi)))
         go_meet
         case rel => exact ⟨_, ((t309 != t297)), rs_, H', ⟨by have := HJ4.out; first | exact Nat.le_refl _ | exact Nat.le_of_succ_le this | omega⟩, ⟨by (with_reducible repeat (first | apply Kd.R_alloc | apply Kd.R_drewN | apply Kd.R_drew)); exact Kd.R_mono HO_5.out (fun _ hk => trivial)⟩, ⟨hb_ HB⟩⟩
        ·replace c28 := Bool.eq_false_iff.mpr c28
         subst c28
         have H1 : (laws_FnExactScanRecs.j1 kj4 t306 t305 true) = some r := by rw [if_neg (show ¬ (false = true) by decide)] at H; exact H
         clear H
         have H := H1
         clear H1
         have H' := Aside0.mk H
         clear H
         obtain ⟨Ao32, co32, eo32⟩ := Kd.R_slice HO311.out
         subst eo32
         obtain ⟨Ao33, co33, eo33⟩ := Kd.R_slice HO_3.out
         subst eo33
         go_wp2_with (first | ((with_reducible refine gate_callee (f := 20) rfl ?_); refine goesL_ (some 51) rfl rfl Try.func20 (by kernel_rfl) rfl #[.slice Ao32 t308.length co32, .slice Ao33 t296.length co33] rfl ar_ ?_; (with_reducible refine (laws_eqSpotS.calls kj4 _ _ t308 _ _ t296 false _ ?side1 ?side2 ?side3 ?side4 A27.out).mono ?_); (case side1 => repeat (first | exact (Kd.R_reads' HO311.out).2.2 | (with_reducible refine Kd.C_alloc ?_ _) | (with_reducible refine Kd.C_drewN ?_ _) | (with_reducible refine Kd.C_drew ?_))); (case side2 => exact (Kd.R_reads' HO311.out).2.1); (case side3 => repeat (first | exact (Kd.R_reads' HO_3.out).2.2 | (with_reducible refine Kd.C_alloc ?_ _) | (with_reducible refine Kd.C_drewN ?_ _) | (with_reducible refine Kd.C_drew ?_))); (case side4 => exact (Kd.R_reads' HO_3.out).2.1); rintro e w34 ⟨rfl, hb⟩; refine ⟨_, rfl, ?_⟩; have n0_ := Aside0.mk (Kd.R_below (rr_ HO_3) hb); have n1_ := Aside0.mk (Kd.R_below (rr_ HO_5) hb); have n2_ := Aside0.mk (Kd.R_below (rr_ HO311) hb); have n3_ := Aside0.mk (below_step (hb_ HB) hb); clear HO_3; clear HO_5; clear HO311; clear HB; have HO_3 := n0_; have HO_5 := n1_; have HO311 := n2_; have HB := n3_; clear n0_ n1_ n2_ n3_; (try clear hb); (try clear hb2); (try clear hk); (try clear hi)))
         go_meet
         case rel => exact ⟨_, (true), rs_, H', ⟨by have := HJ4.out; first | exact Nat.le_refl _ | exact Nat.le_of_succ_le this | omega⟩, ⟨by (with_reducible repeat (first | apply Kd.R_alloc | apply Kd.R_drewN | apply Kd.R_drew)); exact Kd.R_mono HO_5.out (fun _ hk => trivial)⟩, ⟨hb_ HB⟩⟩
       case rest =>
        clear HC22
        try clear c1
        try clear c2
        try clear c2b0
        try clear c2b1
        try clear p2
        try clear c4
        try clear c9
        try clear c16
        try clear c18
        try clear c19
        try clear c19b0
        try clear c20
        try clear c20b0
        try clear c20b1
        try clear c21
        try clear c22
        try clear c28
        try clear p2
        obtain ⟨kq, x57_21, rfl, HA, HJ21, HO_5, HB⟩ := hcut
        have hl5_21 := (Kd.R_reads' HO_5.out).1
        rw [hl5_21] at HO_5
        (try simp only [hl5_21])
        cases kq with
        | zero => exact absurd HA.out (by simp [laws_FnExactScanRecs.j1])
        | succ kj21 =>
         have H := HA.out
         clear HA
         simp only [laws_FnExactScanRecs.j1] at H
         by_cases c35 : x57_21 = true
         ·subst c35
          have H1 : (some false) = some r := by rw [if_pos rfl] at H; exact H
          clear H
          have H := H1
          clear H1
          exact absurd ((Option.some.inj H).trans HRT.out) (by decide)
         ·replace c35 := Bool.eq_false_iff.mpr c35
          subst c35
          have H1 : ((laws_heldSpotS.f kj21 t306 1).bind fun t313 => (if t313 < 0 then (some false) else (if t313 = t305 then (some true) else (some false)))) = some r := by rw [if_neg (show ¬ (false = true) by decide)] at H; exact H
          clear H
          have H := H1
          clear H1
          replace H := Option.bind_eq_some_iff.mp H
          obtain ⟨t313, A360, H⟩ := H
          replace H : (if t313 < 0 then (some false) else (if t313 = t305 then (some true) else (some false))) = some r := H
          have A36 := Aside0.mk A360
          clear A360
          by_cases c37 : t313 < 0
          ·rw [if_pos c37] at H
           have c37b0 : decide (t313 < 0) = true := decide_eq_true c37
           clear c37
           exact absurd ((Option.some.inj H).trans HRT.out) (by decide)
          ·rw [if_neg c37] at H
           have c37b0 : decide (t313 < 0) = false := decide_eq_false c37
           clear c37
           by_cases c38 : t313 = t305
           ·rw [if_pos c38] at H
            have c38b0 : (t313 == t305) = true := beq_iff_eq.mpr c38
            have c38b1 : (t313 != t305) = false := bne_eq_false_iff_eq.mpr c38
            clear c38
            obtain rfl := Option.some.inj H
            go_wp2_with (first | ((with_reducible refine gate_callee (f := 22) rfl ?_); refine goesL_ (some 60) rfl rfl Try.func22 (by kernel_rfl) rfl #[.slice Ao23 t306.length co23, .int .i64 1] rfl ar_ ?_; (with_reducible refine (laws_heldSpotS.calls kj21 _ _ t306 1 t313 _ ?side1 ?side2 A36.out).mono ?_); (case side1 => repeat (first | exact (Kd.R_reads' HO_5.out).2.2 | (with_reducible refine Kd.C_alloc ?_ _) | (with_reducible refine Kd.C_drewN ?_ _) | (with_reducible refine Kd.C_drew ?_))); (case side2 => exact (Kd.R_reads' HO_5.out).2.1); rintro e w39 ⟨rfl, hb⟩; refine ⟨_, rfl, ?_⟩; have n0_ := Aside0.mk (Kd.R_below (rr_ HO_5) hb); have n1_ := Aside0.mk (below_step (hb_ HB) hb); clear HO_5; clear HB; have HO_5 := n0_; have HB := n1_; clear n0_ n1_; (try clear hb); (try clear hb2); (try clear hk); (try clear hi)))
            go_ret
            exact ⟨re_, hb_ HB⟩
           ·rw [if_neg c38] at H
            have c38b0 : (t313 == t305) = false := beq_eq_false_iff_ne.mpr c38
            have c38b1 : (t313 != t305) = true := bne_iff_ne.mpr c38
            exact absurd ((Option.some.inj H).trans HRT.out) (by decide)
      ·rw [if_neg c20] at H
       have c20b0 : (t307 == t305) = false := beq_eq_false_iff_ne.mpr c20
       have c20b1 : (t307 != t305) = true := bne_iff_ne.mpr c20
       exact absurd ((Option.some.inj H).trans HRT.out) (by decide)

/-- THE ONE PURE STATEMENT of laws_FnExactScanRecs: yours. -/
def laws_FnExactScanRecs.Pure : Prop := ∀ (a0 : ByteArray), a0.size ≤ 140737488351232 → ∃ k, laws_FnExactScanRecs.f k a0 = some true
theorem laws_FnExactScanRecs.walk (P : laws_FnExactScanRecs.Pure) (a0 : ByteArray) (w : World) (w0 : a0.size ≤ 140737488351232) :
  Calls Try.prog 4 #[.string a0] w fun e w' => e = .returned (.bool true) ∧ Below w.heap.size w w' := by
 obtain ⟨k, h⟩ := P a0 w0
 refine (laws_FnExactScanRecs.calls k a0 true w rfl h).mono ?_
 rintro e w' ⟨rfl, hd⟩
 exact ⟨rfl, hd⟩

end Go.Proofs.Ytebeafcdabkkfab.PFnExactScanRecs
