-- Laid by a program of this session, a copy of the kit's printer with additions (wip/patch_print.py): myhead. Lean checks it.
import Derived.Test.YtcnmdjibogojnaaPFnExactRegroupx0
import Derived.Test.YtcnmdjibogojnaaPFnExactRegroupx2
import Derived.Test.YtcnmdjibogojnaaPFnExactRegroupx9
import Derived.Test.YtcnmdjibogojnaaPFnExactRegroupx10
import Derived.Test.YtcnmdjibogojnaaPFnExactRegroupx19
import Derived.Test.YtcnmdjibogojnaaPFnExactRegroupx20
import Derived.Test.YtcnmdjibogojnaaPFnExactRegroupx21
import Derived.Test.YtcnmdjibogojnaaPFnExactRegroupx22
namespace Go.Proofs.Ytcnmdjibogojnaa.PFnExactRegroup
open Go.RowKit Go.Proofs.YtcnmdjibogojnaaW.PrintWords Go.Proofs.YtcnmdjibogojnaaW.PrintLast Go.Proofs.YtcnmdjibogojnaaW.PrintMore
attribute [local go_sem] max2_int min2_int max_two min_two max_three min_three max_four min_four   -- for this text's walks alone
set_option linter.unusedVariables false
set_option linter.unusedSimpArgs false

/-! ### laws_heldGroup: function 14 -/
def laws_heldGroup.f (k : Nat) (l0_0 : List (S71)) (a0_1 : Int) (a0_2 : Int) (a1 : Int) : Option (Int) := (laws_heldEntryS.f k l0_0 a1).bind fun t492 => (if t492 < 0 then (some (-1)) else (some t492))
set_option maxHeartbeats 80000000 in
set_option maxRecDepth 100000 in
theorem laws_heldGroup.calls (k : Nat) (A0_0 : Option Addr) (c0_0 : Nat) (l0_0 : List (S71)) (a0_1 : Int) (a0_2 : Int) (a1 : Int) (r : Int) (w : World) (hr0_0 : Kd.C k71 w A0_0 l0_0.length l0_0) (hc0_0 : l0_0.length ≤ c0_0) (h : laws_heldGroup.f k l0_0 a0_1 a0_2 a1 = some r) :
  Calls Try.prog 14 #[.agg #[.slice A0_0 l0_0.length c0_0, .int .i64 a0_1, .int .i64 a0_2], .int .i64 a1] w fun e w' => e = .returned (.int .i64 r) ∧ Below w.heap.size w w' := by
 have hu30 := Try.underlying30
 have HR0_0 := Aside0.mk hr0_0
 have HC0_0 := Aside0.mk hc0_0
 clear hr0_0 hc0_0
 have HB := Aside0.mk (Below.refl w.heap.size w)
 unfold laws_heldGroup.f at h; have H := h
 clear h
 replace H := Option.bind_eq_some_iff.mp H
 obtain ⟨t492, A30, H⟩ := H
 have A3 := Aside0.mk A30
 clear A30
 by_cases c4 : t492 < 0
 ·rw [if_pos c4] at H
  have c4b0 : decide (t492 < 0) = true := decide_eq_true c4
  clear c4
  obtain rfl := Option.some.inj H
  go_enter Try.func14, Try.ntmps14
  go_wp2_with (first | ((with_reducible refine gate_dst (N := 2) rfl ?_); refine box_event ?hg (N := 2) ?hd (cs := #[.slice A0_0 l0_0.length c0_0, .int .i64 a0_1, .int .i64 a0_2]) (t := 30) ?hr ?_; (case hd => rfl); (case hg => rfl); (case hr => first | (go_simp; done) | (go_simp; rfl)); intro gb491 hg w5 hbox hb; have BK491 := Aside0.mk (hbox); have GE491 := ge_ hg (hb_ HB); replace HB := bs_ HB hb; clear hb hbox hg; obtain ⟨hcz6_0, hcz6_1, hcz6_2, hfz6_0, hfz6_1, hfz6_2⟩ := bc3_ BK491) | ((with_reducible refine gate_callee (f := 31) rfl ?_); refine goesL_ (some 8) rfl rfl Try.func31 (by kernel_rfl) rfl #[.slice A0_0 l0_0.length c0_0, .int .i64 a1] rfl ar_ ?_; (with_reducible refine (laws_heldEntryS.calls k _ _ l0_0 a1 t492 _ ?side1 ?side2 A3.out).mono ?_); (case side1 => repeat (first | exact (Kd.C_below HR0_0.out HB.out) | (with_reducible refine Kd.C_alloc ?_ _) | (with_reducible refine Kd.C_drewN ?_ _) | (with_reducible refine Kd.C_drew ?_))); (case side2 => exact HC0_0.out); rintro e w7 ⟨rfl, hb⟩; refine ⟨_, rfl, ?_⟩; replace BK491 := bb_ BK491 hb; replace HB := bt_ HB GE491 hb; (try clear hb); (try clear hb2); (try clear hk); (try clear hi)))
  go_ret
  exact ⟨re_, hs_ HB GE491⟩
 ·rw [if_neg c4] at H
  have c4b0 : decide (t492 < 0) = false := decide_eq_false c4
  clear c4
  obtain rfl := Option.some.inj H
  go_enter Try.func14, Try.ntmps14
  go_wp2_with (first | ((with_reducible refine gate_dst (N := 2) rfl ?_); refine box_event ?hg (N := 2) ?hd (cs := #[.slice A0_0 l0_0.length c0_0, .int .i64 a0_1, .int .i64 a0_2]) (t := 30) ?hr ?_; (case hd => rfl); (case hg => rfl); (case hr => first | (go_simp; done) | (go_simp; rfl)); intro gb491 hg w8 hbox hb; have BK491 := Aside0.mk (hbox); have GE491 := ge_ hg (hb_ HB); replace HB := bs_ HB hb; clear hb hbox hg; obtain ⟨hcz9_0, hcz9_1, hcz9_2, hfz9_0, hfz9_1, hfz9_2⟩ := bc3_ BK491) | ((with_reducible refine gate_callee (f := 31) rfl ?_); refine goesL_ (some 8) rfl rfl Try.func31 (by kernel_rfl) rfl #[.slice A0_0 l0_0.length c0_0, .int .i64 a1] rfl ar_ ?_; (with_reducible refine (laws_heldEntryS.calls k _ _ l0_0 a1 t492 _ ?side1 ?side2 A3.out).mono ?_); (case side1 => repeat (first | exact (Kd.C_below HR0_0.out HB.out) | (with_reducible refine Kd.C_alloc ?_ _) | (with_reducible refine Kd.C_drewN ?_ _) | (with_reducible refine Kd.C_drew ?_))); (case side2 => exact HC0_0.out); rintro e w10 ⟨rfl, hb⟩; refine ⟨_, rfl, ?_⟩; replace BK491 := bb_ BK491 hb; replace HB := bt_ HB GE491 hb; (try clear hb); (try clear hb2); (try clear hk); (try clear hi)))
  go_ret
  exact ⟨re_, hs_ HB GE491⟩

/-! ### laws_FnExactRegroup: function 3 -/
def laws_FnExactRegroup.j0 : Nat → List (S45) → Bool → List (S64) → Int → Int → List (S71) → Int → Int → List (S71) → Int → Int → Option (Bool)
 | 0, _, _, _, _, _, _, _, _, _, _, _ => none
 | k + 1, x1, x63, x494000, x494001, x494002, x510000, x510001, x510002, x525000, x525001, x525002 => if x63 = true then (some false) else ((laws_markGroup.f k x525000 x525001 x525002 1).bind fun bt541 => ((laws_heldGroup.f k bt541.2 x525001 x525002 1).bind fun t543 => (if t543 < 0 then (some false) else (if t543 = bt541.1 then ((laws_toGroup.f k x494000 x494001 x494002).bind fun bt544 => ((laws_toPlaceS.f k x1).bind fun t549 => ((impl_Regroup.f k bt544.1 bt544.2.1 bt544.2.2 t549).bind fun bt552 => ((laws_eqGroup.f k bt552.1 bt552.2.1 bt552.2.2 x510000 x510001 x510002).bind fun t558 => (if t558 = true then ((laws_heldGroup.f k bt541.2 x525001 x525002 1).bind fun t559 => (if t559 < 0 then (some false) else (if t559 = bt541.1 then (some true) else (some false)))) else (some false)))))) else (some false)))))
def laws_FnExactRegroup.f (k : Nat) (l0_0 : List (S64)) (a0_1 : Int) (a0_2 : Int) (l1 : List (S45)) : Option (Bool) := (laws_szGroup.f k l0_0 a0_1 a0_2 1048576).bind fun t494 => (if t494 < 0 then (some true) else ((laws_szPlaceS.f k l1 t494).bind fun t495 => (if t495 < 0 then (some true) else ((laws_toGroup.f k l0_0 a0_1 a0_2).bind fun bt496 => ((laws_toPlaceS.f k l1).bind fun t501 => ((spec_Regroup.f k bt496.1 bt496.2.1 bt496.2.2 t501).bind fun bt504 => ((laws_toGroup.f k l0_0 a0_1 a0_2).bind fun bt510 => ((laws_toPlaceS.f k l1).bind fun t516 => ((impl_Regroup.f k bt510.1 bt510.2.1 bt510.2.2 t516).bind fun bt519 => ((laws_eqGroup.f k bt519.1 bt519.2.1 bt519.2.2 bt504.1 bt504.2.1 bt504.2.2).bind fun t525 => (if t525 = true then ((laws_toGroup.f k l0_0 a0_1 a0_2).bind fun bt526 => ((laws_eqGroup.f k bt510.1 bt510.2.1 bt510.2.2 bt526.1 bt526.2.1 bt526.2.2).bind fun t531 => (if t531 = true then ((laws_toPlaceS.f k l1).bind fun t532 => ((laws_eqPlaceS.f k t516 t532).bind fun t535 => (if t535 = true then ((laws_markGroup.f k bt510.1 bt510.2.1 bt510.2.2 1).bind fun bt536 => ((laws_markPlaceS.f k t516 bt536.1).bind fun bt538 => (if bt538.1 < 0 then (laws_FnExactRegroup.j0 k l1 true l0_0 a0_1 a0_2 bt504.1 bt504.2.1 bt504.2.2 bt519.1 bt519.2.1 bt519.2.2) else ((laws_eqGroup.f k bt519.1 bt519.2.1 bt519.2.2 bt504.1 bt504.2.1 bt504.2.2).bind fun t540 => (laws_FnExactRegroup.j0 k l1 (!t540) l0_0 a0_1 a0_2 bt504.1 bt504.2.1 bt504.2.2 bt519.1 bt519.2.1 bt519.2.2))))) else (some false)))) else (some false)))) else (some false))))))))))))
set_option maxHeartbeats 80000000 in
set_option maxRecDepth 100000 in
theorem laws_FnExactRegroup.calls (k : Nat) (A0_0 : Option Addr) (c0_0 : Nat) (l0_0 : List (S64)) (a0_1 : Int) (a0_2 : Int) (A1 : Option Addr) (c1 : Nat) (l1 : List (S45)) (r : Bool) (w : World) (hr0_0 : Kd.C k64 w A0_0 l0_0.length l0_0) (hc0_0 : l0_0.length ≤ c0_0) (hr1 : Kd.C k45 w A1 l1.length l1) (hc1 : l1.length ≤ c1) (hrt : r = true) (h : laws_FnExactRegroup.f k l0_0 a0_1 a0_2 l1 = some r) :
  Calls Try.prog 3 #[.agg #[.slice A0_0 l0_0.length c0_0, .int .i64 a0_1, .int .i64 a0_2], .slice A1 l1.length c1] w fun e w' => e = .returned (.bool r) ∧ Below w.heap.size w w' := by
 have hu24 := Try.underlying24
 have hu30 := Try.underlying30
 have HRT := Aside0.mk hrt
 clear hrt
 have HR0_0 := Aside0.mk hr0_0
 have HC0_0 := Aside0.mk hc0_0
 clear hr0_0 hc0_0
 have HR1 := Aside0.mk hr1
 have HC1 := Aside0.mk hc1
 clear hr1 hc1
 have HB := Aside0.mk (Below.refl w.heap.size w)
 unfold laws_FnExactRegroup.f at h; have H := h
 clear h
 replace H := Option.bind_eq_some_iff.mp H
 obtain ⟨t494, A30, H⟩ := H
 have A3 := Aside0.mk A30
 clear A30
 by_cases c4 : t494 < 0
 ·rw [if_pos c4] at H
  have c4b0 : decide (t494 < 0) = true := decide_eq_true c4
  clear c4
  obtain rfl := Option.some.inj H
  go_enter Try.func3, Try.ntmps3
  go_wp2_with (first | ((with_reducible refine gate_dst (N := 2) rfl ?_); refine box_event ?hg (N := 2) ?hd (cs := #[.slice A0_0 l0_0.length c0_0, .int .i64 a0_1, .int .i64 a0_2]) (t := 24) ?hr ?_; (case hd => rfl); (case hg => rfl); (case hr => first | (go_simp; done) | (go_simp; rfl)); intro gb493 hg w5 hbox hb; have BK493 := Aside0.mk (hbox); have GE493 := ge_ hg (hb_ HB); replace HB := bs_ HB hb; clear hb hbox hg; obtain ⟨hcz6_0, hcz6_1, hcz6_2, hfz6_0, hfz6_1, hfz6_2⟩ := bc3_ BK493) | ((with_reducible refine gate_callee (f := 4) rfl ?_); refine goesL_ (some 16) rfl rfl Try.func4 (by kernel_rfl) rfl #[.agg #[.slice A0_0 l0_0.length c0_0, .int .i64 a0_1, .int .i64 a0_2], .int .i64 1048576] rfl ar_ ?_; (with_reducible refine (laws_szGroup.calls k _ _ l0_0 a0_1 a0_2 1048576 t494 _ ?side1 ?side2 A3.out).mono ?_); (case side1 => repeat (first | exact (Kd.C_below HR0_0.out HB.out) | (with_reducible refine Kd.C_alloc ?_ _) | (with_reducible refine Kd.C_drewN ?_ _) | (with_reducible refine Kd.C_drew ?_))); (case side2 => exact HC0_0.out); rintro e w7 ⟨rfl, hb⟩; refine ⟨_, rfl, ?_⟩; replace BK493 := bb_ BK493 hb; replace HB := bt_ HB GE493 hb; (try clear hb); (try clear hb2); (try clear hk); (try clear hi)))
  go_ret
  exact ⟨re_, hs_ HB GE493⟩
 ·rw [if_neg c4] at H
  have c4b0 : decide (t494 < 0) = false := decide_eq_false c4
  clear c4
  replace H := Option.bind_eq_some_iff.mp H
  obtain ⟨t495, A80, H⟩ := H
  have A8 := Aside0.mk A80
  clear A80
  by_cases c9 : t495 < 0
  ·rw [if_pos c9] at H
   have c9b0 : decide (t495 < 0) = true := decide_eq_true c9
   clear c9
   obtain rfl := Option.some.inj H
   go_enter Try.func3, Try.ntmps3
   go_wp2_with (first | ((with_reducible refine gate_dst (N := 2) rfl ?_); refine box_event ?hg (N := 2) ?hd (cs := #[.slice A0_0 l0_0.length c0_0, .int .i64 a0_1, .int .i64 a0_2]) (t := 24) ?hr ?_; (case hd => rfl); (case hg => rfl); (case hr => first | (go_simp; done) | (go_simp; rfl)); intro gb493 hg w10 hbox hb; have BK493 := Aside0.mk (hbox); have GE493 := ge_ hg (hb_ HB); replace HB := bs_ HB hb; clear hb hbox hg; obtain ⟨hcz11_0, hcz11_1, hcz11_2, hfz11_0, hfz11_1, hfz11_2⟩ := bc3_ BK493) | ((with_reducible refine gate_callee (f := 4) rfl ?_); refine goesL_ (some 16) rfl rfl Try.func4 (by kernel_rfl) rfl #[.agg #[.slice A0_0 l0_0.length c0_0, .int .i64 a0_1, .int .i64 a0_2], .int .i64 1048576] rfl ar_ ?_; (with_reducible refine (laws_szGroup.calls k _ _ l0_0 a0_1 a0_2 1048576 t494 _ ?side1 ?side2 A3.out).mono ?_); (case side1 => repeat (first | exact (Kd.C_below HR0_0.out HB.out) | (with_reducible refine Kd.C_alloc ?_ _) | (with_reducible refine Kd.C_drewN ?_ _) | (with_reducible refine Kd.C_drew ?_))); (case side2 => exact HC0_0.out); rintro e w12 ⟨rfl, hb⟩; refine ⟨_, rfl, ?_⟩; replace BK493 := bb_ BK493 hb; replace HB := bt_ HB GE493 hb; (try clear hb); (try clear hb2); (try clear hk); (try clear hi)) | ((with_reducible refine gate_callee (f := 5) rfl ?_); refine goesL_ (some 21) rfl rfl Try.func5 (by kernel_rfl) rfl #[.slice A1 l1.length c1, .int .i64 t494] rfl ar_ ?_; (with_reducible refine (laws_szPlaceS.calls k _ _ l1 t494 t495 _ ?side1 ?side2 A8.out).mono ?_); (case side1 => repeat (first | exact (Kd.C_below HR1.out HB.out) | (with_reducible refine Kd.C_alloc ?_ _) | (with_reducible refine Kd.C_drewN ?_ _) | (with_reducible refine Kd.C_drew ?_))); (case side2 => exact HC1.out); rintro e w13 ⟨rfl, hb⟩; refine ⟨_, rfl, ?_⟩; replace BK493 := bb_ BK493 hb; replace HB := bt_ HB GE493 hb; (try clear hb); (try clear hb2); (try clear hk); (try clear hi)))
   go_ret
   exact ⟨re_, hs_ HB GE493⟩
  ·rw [if_neg c9] at H
   have c9b0 : decide (t495 < 0) = false := decide_eq_false c9
   clear c9
   replace H := Option.bind_eq_some_iff.mp H
   obtain ⟨⟨t496, t499, t500⟩, A140, H⟩ := H
   have A14 := Aside0.mk A140
   clear A140
   replace H := Option.bind_eq_some_iff.mp H
   obtain ⟨t501, A150, H⟩ := H
   have A15 := Aside0.mk A150
   clear A150
   replace H := Option.bind_eq_some_iff.mp H
   obtain ⟨⟨t504, t507, t508⟩, A160, H⟩ := H
   have A16 := Aside0.mk A160
   clear A160
   replace H := Option.bind_eq_some_iff.mp H
   obtain ⟨⟨t510, t513, t514⟩, A170, H⟩ := H
   have A17 := Aside0.mk A170
   clear A170
   replace H := Option.bind_eq_some_iff.mp H
   obtain ⟨t516, A180, H⟩ := H
   have A18 := Aside0.mk A180
   clear A180
   replace H := Option.bind_eq_some_iff.mp H
   obtain ⟨⟨t519, t522, t523⟩, A190, H⟩ := H
   have A19 := Aside0.mk A190
   clear A190
   replace H := Option.bind_eq_some_iff.mp H
   obtain ⟨t525, A200, H⟩ := H
   have A20 := Aside0.mk A200
   clear A200
   by_cases c21 : t525 = true
   ·subst c21
    rw [if_pos rfl] at H
    replace H := Option.bind_eq_some_iff.mp H
    obtain ⟨⟨t526, t529, t530⟩, A220, H⟩ := H
    have A22 := Aside0.mk A220
    clear A220
    replace H := Option.bind_eq_some_iff.mp H
    obtain ⟨t531, A230, H⟩ := H
    have A23 := Aside0.mk A230
    clear A230
    by_cases c24 : t531 = true
    ·subst c24
     rw [if_pos rfl] at H
     replace H := Option.bind_eq_some_iff.mp H
     obtain ⟨t532, A250, H⟩ := H
     have A25 := Aside0.mk A250
     clear A250
     replace H := Option.bind_eq_some_iff.mp H
     obtain ⟨t535, A260, H⟩ := H
     have A26 := Aside0.mk A260
     clear A260
     by_cases c27 : t535 = true
     ·subst c27
      rw [if_pos rfl] at H
      replace H := Option.bind_eq_some_iff.mp H
      obtain ⟨⟨t536, t537⟩, A280, H⟩ := H
      have A28 := Aside0.mk A280
      clear A280
      replace H := Option.bind_eq_some_iff.mp H
      obtain ⟨⟨t538, t539⟩, A290, H⟩ := H
      have A29 := Aside0.mk A290
      clear A290
      have HC30 := Aside0.mk H
      clear H
      go_enter Try.func3, Try.ntmps3
      try go_wp2_with (first | ((with_reducible refine gate_dst (N := 2) rfl ?_); refine box_event ?hg (N := 2) ?hd (cs := #[.slice A0_0 l0_0.length c0_0, .int .i64 a0_1, .int .i64 a0_2]) (t := 24) ?hr ?_; (case hd => rfl); (case hg => rfl); (case hr => first | (go_simp; done) | (go_simp; rfl)); intro gb493 hg w31 hbox hb; have BK493 := Aside0.mk (hbox); have GE493 := ge_ hg (hb_ HB); replace HB := bs_ HB hb; clear hb hbox hg; obtain ⟨hcz32_0, hcz32_1, hcz32_2, hfz32_0, hfz32_1, hfz32_2⟩ := bc3_ BK493) | ((with_reducible refine gate_callee (f := 4) rfl ?_); refine goesL_ (some 16) rfl rfl Try.func4 (by kernel_rfl) rfl #[.agg #[.slice A0_0 l0_0.length c0_0, .int .i64 a0_1, .int .i64 a0_2], .int .i64 1048576] rfl ar_ ?_; (with_reducible refine (laws_szGroup.calls k _ _ l0_0 a0_1 a0_2 1048576 t494 _ ?side1 ?side2 A3.out).mono ?_); (case side1 => repeat (first | exact (Kd.C_below HR0_0.out HB.out) | (with_reducible refine Kd.C_alloc ?_ _) | (with_reducible refine Kd.C_drewN ?_ _) | (with_reducible refine Kd.C_drew ?_))); (case side2 => exact HC0_0.out); rintro e w33 ⟨rfl, hb⟩; refine ⟨_, rfl, ?_⟩; replace BK493 := bb_ BK493 hb; replace HB := bt_ HB GE493 hb; (try clear hb); (try clear hb2); (try clear hk); (try clear hi)) | ((with_reducible refine gate_callee (f := 5) rfl ?_); refine goesL_ (some 21) rfl rfl Try.func5 (by kernel_rfl) rfl #[.slice A1 l1.length c1, .int .i64 t494] rfl ar_ ?_; (with_reducible refine (laws_szPlaceS.calls k _ _ l1 t494 t495 _ ?side1 ?side2 A8.out).mono ?_); (case side1 => repeat (first | exact (Kd.C_below HR1.out HB.out) | (with_reducible refine Kd.C_alloc ?_ _) | (with_reducible refine Kd.C_drewN ?_ _) | (with_reducible refine Kd.C_drew ?_))); (case side2 => exact HC1.out); rintro e w34 ⟨rfl, hb⟩; refine ⟨_, rfl, ?_⟩; replace BK493 := bb_ BK493 hb; replace HB := bt_ HB GE493 hb; (try clear hb); (try clear hb2); (try clear hk); (try clear hi); obtain ⟨hcz35_0, hcz35_1, hcz35_2, hfz35_0, hfz35_1, hfz35_2⟩ := bc3_ BK493) | ((with_reducible refine gate_callee (f := 7) rfl ?_); refine goesL_ (some 25) rfl rfl Try.func7 (by kernel_rfl) rfl #[.agg #[.slice A0_0 l0_0.length c0_0, .int .i64 a0_1, .int .i64 a0_2]] rfl ar_ ?_; (with_reducible refine (laws_toGroup.calls k _ _ l0_0 a0_1 a0_2 t496 t499 t500 _ ?side1 ?side2 A14.out).mono ?_); (case side1 => repeat (first | exact (Kd.C_below HR0_0.out HB.out) | (with_reducible refine Kd.C_alloc ?_ _) | (with_reducible refine Kd.C_drewN ?_ _) | (with_reducible refine Kd.C_drew ?_))); (case side2 => exact HC0_0.out); rintro e w36 ⟨v497, rfl, ho0, hb⟩; refine ⟨_, rfl, ?_⟩; have HO498 := Aside0.mk (Kd.R_lower ho0 (below_size (hs_ HB GE493))); replace BK493 := bb_ BK493 hb; replace HB := bt_ HB GE493 hb; (try clear hb); (try clear hb2); (try clear hk); (try clear hi); (try clear ho0)) | ((with_reducible refine gate_callee (f := 8) rfl ?_); refine goesL_ (some 27) rfl rfl Try.func8 (by kernel_rfl) rfl #[.slice A1 l1.length c1] rfl ar_ ?_; (with_reducible refine (laws_toPlaceS.calls k _ _ l1 t501 _ ?side1 ?side2 A15.out).mono ?_); (case side1 => repeat (first | exact (Kd.C_below HR1.out HB.out) | (with_reducible refine Kd.C_alloc ?_ _) | (with_reducible refine Kd.C_drewN ?_ _) | (with_reducible refine Kd.C_drew ?_))); (case side2 => exact HC1.out); rintro e w37 ⟨v502, rfl, ho0, hb⟩; refine ⟨_, rfl, ?_⟩; replace HO498 := rb_ HO498 hb; have HO503 := Aside0.mk (Kd.R_lower ho0 (below_size (hs_ HB GE493))); replace BK493 := bb_ BK493 hb; replace HB := bt_ HB GE493 hb; (try clear hb); (try clear hb2); (try clear hk); (try clear hi); (try clear ho0); obtain ⟨Ao38, co38, eo38⟩ := Kd.R_slice HO498.out; subst eo38; obtain ⟨Ao39, co39, eo39⟩ := Kd.R_slice HO503.out; subst eo39) | ((with_reducible refine gate_callee (f := 6) rfl ?_); refine goesL_ (some 28) rfl rfl Try.func6 (by kernel_rfl) rfl #[.agg #[.slice Ao38 t496.length co38, .int .i64 t499, .int .i64 t500], .slice Ao39 t501.length co39] rfl ar_ ?_; (with_reducible refine (spec_Regroup.calls k _ _ t496 t499 t500 _ _ t501 t504 t507 t508 _ ?side1 ?side2 ?side3 ?side4 A16.out).mono ?_); (case side1 => repeat (first | exact (Kd.R_reads' HO498.out).2.2 | (with_reducible refine Kd.C_alloc ?_ _) | (with_reducible refine Kd.C_drewN ?_ _) | (with_reducible refine Kd.C_drew ?_))); (case side2 => exact (Kd.R_reads' HO498.out).2.1); (case side3 => repeat (first | exact (Kd.R_reads' HO503.out).2.2 | (with_reducible refine Kd.C_alloc ?_ _) | (with_reducible refine Kd.C_drewN ?_ _) | (with_reducible refine Kd.C_drew ?_))); (case side4 => exact (Kd.R_reads' HO503.out).2.1); rintro e w40 ⟨v505, rfl, ho0, hb⟩; refine ⟨_, rfl, ?_⟩; replace HO503 := rb_ HO503 hb; have HO506 := Aside0.mk (Kd.R_lower (Kd.R_new' ho0 (Kd.R_lt (rr_ HO498))) (below_size (hs_ HB GE493))); replace HO498 := Aside0.mk (Kd.R_elder' (rr_ HO498) (Kd.R_base ho0) hb); replace BK493 := bb_ BK493 hb; replace HB := bt_ HB GE493 hb; (try clear hb); (try clear hb2); (try clear hk); (try clear hi); (try clear ho0)) | ((with_reducible refine gate_dst (N := 6) rfl ?_); refine box_event ?hg (N := 6) ?hd (cs := #[.slice none 0 0, .int .i64 0, .int .i64 0]) (t := 30) ?hr ?_; (case hd => rfl); (case hg => rfl); (case hr => first | (go_simp; done) | (go_simp; rfl)); intro gb509 hg w41 hbox hb; replace HO498 := rb_ HO498 hb; replace HO503 := rb_ HO503 hb; replace HO506 := rb_ HO506 hb; have BK509 := Aside0.mk (hbox); have GE509 := ge_ hg (hs_ HB GE493); replace HB := bt_ HB GE493 hb; have NB493_509 := nl_ BK493 hg; have NB509_493 := ng_ BK493 hg; replace BK493 := bb_ BK493 hb; clear hb hbox hg; obtain ⟨Ao42, co42, eo42⟩ := Kd.R_slice HO506.out; subst eo42; have hnb43 := NB509_493.out; have hnc43 := NB493_509.out; obtain ⟨hcz44_0, hcz44_1, hcz44_2, hfz44_0, hfz44_1, hfz44_2⟩ := bc3_ BK509; obtain ⟨hcz45_0, hcz45_1, hcz45_2, hfz45_0, hfz45_1, hfz45_2⟩ := bc3_ BK493) | ((with_reducible refine gate_callee (f := 7) rfl ?_); refine goesL_ (some 30) rfl rfl Try.func7 (by kernel_rfl) rfl #[.agg #[.slice A0_0 l0_0.length c0_0, .int .i64 a0_1, .int .i64 a0_2]] rfl ar_ ?_; (with_reducible refine (laws_toGroup.calls k _ _ l0_0 a0_1 a0_2 t510 t513 t514 _ ?side1 ?side2 A17.out).mono ?_); (case side1 => exact Kd.C_below HR0_0.out (hu_ HB GE493 GE509)); (case side2 => exact HC0_0.out); rintro e w46 ⟨v511, rfl, ho0, hb⟩; refine ⟨_, rfl, ?_⟩; replace HO503 := rfb_ HO503 BK509 hb; have HO512 := Aside0.mk (Kd.R_lower (Kd.R_new' (Kd.R_new' ho0 (Kd.R_lt (by (with_reducible repeat (first | apply Kd.R_alloc | apply Kd.R_drewN | apply Kd.R_drew)); exact (Kd.R_mono (Kd.R_far (p := ⟨gb509, 2, none⟩) (Kd.R_far (p := ⟨gb509, 1, none⟩) (Kd.R_far (p := ⟨gb509, 0, none⟩) (Kd.R_types HO498.out BK509.out (by decide)) (fun _ hk => hk.2) (.slice Ao42 t504.length co42)) (fun _ hk => hk.2) (.int .i64 t507)) (fun _ hk => hk.2) (.int .i64 t508)) (fun _ h_ => h_.1))))) (Kd.R_lt (by (with_reducible repeat (first | apply Kd.R_alloc | apply Kd.R_drewN | apply Kd.R_drew)); exact (Kd.R_mono (Kd.R_far (p := ⟨gb509, 2, none⟩) (Kd.R_far (p := ⟨gb509, 1, none⟩) (Kd.R_far (p := ⟨gb509, 0, none⟩) (Kd.R_types HO506.out BK509.out (by decide)) (fun _ hk => hk.2) (.slice Ao42 t504.length co42)) (fun _ hk => hk.2) (.int .i64 t507)) (fun _ hk => hk.2) (.int .i64 t508)) (fun _ h_ => h_.1))))) (below_size (hu_ HB GE493 GE509))); replace HO498 := Aside0.mk (Kd.R_elder' (by (with_reducible repeat (first | apply Kd.R_alloc | apply Kd.R_drewN | apply Kd.R_drew)); exact (Kd.R_mono (Kd.R_far (p := ⟨gb509, 2, none⟩) (Kd.R_far (p := ⟨gb509, 1, none⟩) (Kd.R_far (p := ⟨gb509, 0, none⟩) (Kd.R_types HO498.out BK509.out (by decide)) (fun _ hk => hk.2) (.slice Ao42 t504.length co42)) (fun _ hk => hk.2) (.int .i64 t507)) (fun _ hk => hk.2) (.int .i64 t508)) (fun _ h_ => h_.1))) (Kd.R_base ho0) hb); replace HO506 := Aside0.mk (Kd.R_elder' (by (with_reducible repeat (first | apply Kd.R_alloc | apply Kd.R_drewN | apply Kd.R_drew)); exact (Kd.R_mono (Kd.R_far (p := ⟨gb509, 2, none⟩) (Kd.R_far (p := ⟨gb509, 1, none⟩) (Kd.R_far (p := ⟨gb509, 0, none⟩) (Kd.R_types HO506.out BK509.out (by decide)) (fun _ hk => hk.2) (.slice Ao42 t504.length co42)) (fun _ hk => hk.2) (.int .i64 t507)) (fun _ hk => hk.2) (.int .i64 t508)) (fun _ h_ => h_.1))) (Kd.R_base ho0) hb); replace BK493 := bf_ BK493 NB493_509 hb; replace BK509 := bp_ #[.slice Ao42 t504.length co42, .int .i64 t507, .int .i64 t508] BK509 hb; replace HB := bu_ HB GE493 GE509 hb; (try clear hb); (try clear hb2); (try clear hk); (try clear hi); (try clear ho0)) | ((with_reducible refine gate_dst (N := 7) rfl ?_); refine box_event ?hg (N := 7) ?hd (cs := #[.slice none 0 0, .int .i64 0, .int .i64 0]) (t := 30) ?hr ?_; (case hd => rfl); (case hg => rfl); (case hr => first | (go_simp; done) | (go_simp; rfl)); intro gb515 hg w47 hbox hb; replace HO498 := rb_ HO498 hb; replace HO503 := rb_ HO503 hb; replace HO506 := rb_ HO506 hb; replace HO512 := rb_ HO512 hb; have BK515 := Aside0.mk (hbox); have GE515 := ge_ hg (hu_ HB GE493 GE509); replace HB := bu_ HB GE493 GE509 hb; have NB493_515 := nl_ BK493 hg; have NB515_493 := ng_ BK493 hg; replace BK493 := bb_ BK493 hb; have NB509_515 := nl_ BK509 hg; have NB515_509 := ng_ BK509 hg; replace BK509 := bb_ BK509 hb; clear hb hbox hg; obtain ⟨Ao48, co48, eo48⟩ := Kd.R_slice HO512.out; subst eo48; have hnb49 := NB515_493.out; have hnc49 := NB493_515.out; have hnb50 := NB515_509.out; have hnc50 := NB509_515.out; obtain ⟨hcz51_0, hcz51_1, hcz51_2, hfz51_0, hfz51_1, hfz51_2⟩ := bc3_ BK515) | ((with_reducible refine gate_callee (f := 8) rfl ?_); refine goesL_ (some 32) rfl rfl Try.func8 (by kernel_rfl) rfl #[.slice A1 l1.length c1] rfl ar_ ?_; (with_reducible refine (laws_toPlaceS.calls k _ _ l1 t516 _ ?side1 ?side2 A18.out).mono ?_); (case side1 => exact Kd.C_below HR1.out (hv_ HB GE493 GE509 GE515)); (case side2 => exact HC1.out); rintro e w52 ⟨v517, rfl, ho0, hb⟩; refine ⟨_, rfl, ?_⟩; replace HO498 := rfb_ HO498 BK515 hb; replace HO506 := rfb_ HO506 BK515 hb; replace HO512 := rfb_ HO512 BK515 hb; have HO518 := Aside0.mk (Kd.R_lower (Kd.R_new' ho0 (Kd.R_lt (by (with_reducible repeat (first | apply Kd.R_alloc | apply Kd.R_drewN | apply Kd.R_drew)); exact (Kd.R_mono (Kd.R_far (p := ⟨gb515, 2, none⟩) (Kd.R_far (p := ⟨gb515, 1, none⟩) (Kd.R_far (p := ⟨gb515, 0, none⟩) (Kd.R_types HO503.out BK515.out (by decide)) (fun _ hk => hk.2) (.slice Ao48 t510.length co48)) (fun _ hk => hk.2) (.int .i64 t513)) (fun _ hk => hk.2) (.int .i64 t514)) (fun _ h_ => h_.1))))) (below_size (hv_ HB GE493 GE509 GE515))); replace HO503 := Aside0.mk (Kd.R_elder' (by (with_reducible repeat (first | apply Kd.R_alloc | apply Kd.R_drewN | apply Kd.R_drew)); exact (Kd.R_mono (Kd.R_far (p := ⟨gb515, 2, none⟩) (Kd.R_far (p := ⟨gb515, 1, none⟩) (Kd.R_far (p := ⟨gb515, 0, none⟩) (Kd.R_types HO503.out BK515.out (by decide)) (fun _ hk => hk.2) (.slice Ao48 t510.length co48)) (fun _ hk => hk.2) (.int .i64 t513)) (fun _ hk => hk.2) (.int .i64 t514)) (fun _ h_ => h_.1))) (Kd.R_base ho0) hb); replace BK493 := bf_ BK493 NB493_515 hb; replace BK509 := bf_ BK509 NB509_515 hb; replace BK515 := bp_ #[.slice Ao48 t510.length co48, .int .i64 t513, .int .i64 t514] BK515 hb; replace HB := Aside0.mk (below_step (hv_ HB GE493 GE509 GE515) hb); (try clear hb); (try clear hb2); (try clear hk); (try clear hi); (try clear ho0); obtain ⟨hcz53_0, hcz53_1, hcz53_2, hfz53_0, hfz53_1, hfz53_2⟩ := bc3_ BK515; obtain ⟨Ao54, co54, eo54⟩ := Kd.R_slice HO518.out; subst eo54) | ((with_reducible refine gate_callee (f := 9) rfl ?_); refine goesL_ (some 35) rfl rfl Try.func9 (by kernel_rfl) rfl #[.agg #[.slice Ao48 t510.length co48, .int .i64 t513, .int .i64 t514], .slice Ao54 t516.length co54] rfl ar_ ?_; (with_reducible refine (impl_Regroup.calls k _ _ t510 t513 t514 _ _ t516 t519 t522 t523 _ ?side1 ?side2 ?side3 ?side4 A19.out).mono ?_); (case side1 => repeat (first | exact (Kd.R_reads' HO512.out).2.2 | (with_reducible refine Kd.C_alloc ?_ _) | (with_reducible refine Kd.C_drewN ?_ _) | (with_reducible refine Kd.C_drew ?_))); (case side2 => exact (Kd.R_reads' HO512.out).2.1); (case side3 => repeat (first | exact (Kd.R_reads' HO518.out).2.2 | (with_reducible refine Kd.C_alloc ?_ _) | (with_reducible refine Kd.C_drewN ?_ _) | (with_reducible refine Kd.C_drew ?_))); (case side4 => exact (Kd.R_reads' HO518.out).2.1); rintro e w55 ⟨v520, rfl, ho0, hb⟩; refine ⟨_, rfl, ?_⟩; replace HO503 := rb_ HO503 hb; replace HO518 := rb_ HO518 hb; have HO521 := Aside0.mk (Kd.R_lower (Kd.R_new' (Kd.R_new' (Kd.R_new' ho0 (Kd.R_lt (rr_ HO498))) (Kd.R_lt (rr_ HO506))) (Kd.R_lt (rr_ HO512))) (below_size (hv_ HB GE493 GE509 GE515))); replace HO498 := Aside0.mk (Kd.R_elder' (rr_ HO498) (Kd.R_base ho0) hb); replace HO506 := Aside0.mk (Kd.R_elder' (rr_ HO506) (Kd.R_base ho0) hb); replace HO512 := Aside0.mk (Kd.R_elder' (rr_ HO512) (Kd.R_base ho0) hb); replace BK493 := bb_ BK493 hb; replace BK509 := bb_ BK509 hb; replace BK515 := bb_ BK515 hb; replace HB := Aside0.mk (below_step (hv_ HB GE493 GE509 GE515) hb); (try clear hb); (try clear hb2); (try clear hk); (try clear hi); (try clear ho0)) | ((with_reducible refine gate_dst (N := 9) rfl ?_); refine box_event ?hg (N := 9) ?hd (cs := #[.slice none 0 0, .int .i64 0, .int .i64 0]) (t := 30) ?hr ?_; (case hd => rfl); (case hg => rfl); (case hr => first | (go_simp; done) | (go_simp; rfl)); intro gb524 hg w56 hbox hb; replace HO498 := rb_ HO498 hb; replace HO503 := rb_ HO503 hb; replace HO506 := rb_ HO506 hb; replace HO512 := rb_ HO512 hb; replace HO518 := rb_ HO518 hb; replace HO521 := rb_ HO521 hb; have BK524 := Aside0.mk (hbox); have GE524 := ge_ hg (hv_ HB GE493 GE509 GE515); replace HB := Aside0.mk (below_step (hv_ HB GE493 GE509 GE515) hb); have NB493_524 := nl_ BK493 hg; have NB524_493 := ng_ BK493 hg; replace BK493 := bb_ BK493 hb; have NB509_524 := nl_ BK509 hg; have NB524_509 := ng_ BK509 hg; replace BK509 := bb_ BK509 hb; have NB515_524 := nl_ BK515 hg; have NB524_515 := ng_ BK515 hg; replace BK515 := bb_ BK515 hb; clear hb hbox hg; obtain ⟨Ao57, co57, eo57⟩ := Kd.R_slice HO521.out; subst eo57; have hnb58 := NB524_493.out; have hnc58 := NB493_524.out; have hnb59 := NB524_509.out; have hnc59 := NB509_524.out; have hnb60 := NB524_515.out; have hnc60 := NB515_524.out; obtain ⟨hcz61_0, hcz61_1, hcz61_2, hfz61_0, hfz61_1, hfz61_2⟩ := bc3_ BK524; obtain ⟨hcz62_0, hcz62_1, hcz62_2, hfz62_0, hfz62_1, hfz62_2⟩ := bc3_ BK509) | ((with_reducible refine gate_callee (f := 10) rfl ?_); refine goesL_ (some 38) rfl rfl Try.func10 (by kernel_rfl) rfl #[.agg #[.slice Ao57 t519.length co57, .int .i64 t522, .int .i64 t523], .agg #[.slice Ao42 t504.length co42, .int .i64 t507, .int .i64 t508]] rfl ar_ ?_; (with_reducible refine (laws_eqGroup.calls k _ _ t519 t522 t523 _ _ t504 t507 t508 true _ ?side1 ?side2 ?side3 ?side4 A20.out).mono ?_); (case side1 => refine (Kd.R_reads' (e := 71) (base := w.heap.size) (ok := fun k_ => (((True ∧ some k_ ≠ (.slice Ao38 t496.length co38 : Value).ownBlock) ∧ some k_ ≠ (.slice Ao42 t504.length co42 : Value).ownBlock) ∧ some k_ ≠ (.slice Ao48 t510.length co48 : Value).ownBlock)) (n := t519.length) (c := co57) ?_).2.2; exact (by (with_reducible repeat (first | apply Kd.R_alloc | apply Kd.R_drewN | apply Kd.R_drew)); exact (Kd.R_mono (Kd.R_far (p := ⟨gb524, 2, none⟩) (Kd.R_far (p := ⟨gb524, 1, none⟩) (Kd.R_far (p := ⟨gb524, 0, none⟩) (Kd.R_types HO521.out BK524.out (by decide)) (fun _ hk => hk.2) (.slice Ao57 t519.length co57)) (fun _ hk => hk.2) (.int .i64 t522)) (fun _ hk => hk.2) (.int .i64 t523)) (fun _ h_ => h_.1)))); (case side2 => exact (Kd.R_reads' HO521.out).2.1); (case side3 => refine (Kd.R_reads' (e := 71) (base := w.heap.size) (ok := fun k_ => (((True ∧ some k_ ≠ (.slice Ao38 t496.length co38 : Value).ownBlock) ∧ some k_ ≠ (.slice Ao48 t510.length co48 : Value).ownBlock) ∧ some k_ ≠ (.slice Ao57 t519.length co57 : Value).ownBlock)) (n := t504.length) (c := co42) ?_).2.2; exact (by (with_reducible repeat (first | apply Kd.R_alloc | apply Kd.R_drewN | apply Kd.R_drew)); exact (Kd.R_mono (Kd.R_far (p := ⟨gb524, 2, none⟩) (Kd.R_far (p := ⟨gb524, 1, none⟩) (Kd.R_far (p := ⟨gb524, 0, none⟩) (Kd.R_types HO506.out BK524.out (by decide)) (fun _ hk => hk.2) (.slice Ao57 t519.length co57)) (fun _ hk => hk.2) (.int .i64 t522)) (fun _ hk => hk.2) (.int .i64 t523)) (fun _ h_ => h_.1)))); (case side4 => exact (Kd.R_reads' HO506.out).2.1); rintro e w63 ⟨rfl, hb⟩; refine ⟨_, rfl, ?_⟩; replace HO498 := rfb_ HO498 BK524 hb; replace HO503 := rfb_ HO503 BK524 hb; replace HO506 := rfb_ HO506 BK524 hb; replace HO512 := rfb_ HO512 BK524 hb; replace HO518 := rfb_ HO518 BK524 hb; replace HO521 := rfb_ HO521 BK524 hb; replace BK493 := bf_ BK493 NB493_524 hb; replace BK509 := bf_ BK509 NB509_524 hb; replace BK515 := bf_ BK515 NB515_524 hb; replace BK524 := bp_ #[.slice Ao57 t519.length co57, .int .i64 t522, .int .i64 t523] BK524 hb; replace HB := Aside0.mk (below_step (hw_ HB GE493 GE509 GE515 GE524) hb); (try clear hb); (try clear hb2); (try clear hk); (try clear hi)))
      replace HO498 := rd_ HO498
      replace HO503 := rd_ HO503
      replace HO506 := rd_ HO506
      replace HO512 := rd_ HO512
      replace HO518 := rd_ HO518
      replace HO521 := rd_ HO521
      replace BK493 := bd_ BK493
      replace BK509 := bd_ BK509
      replace BK515 := bd_ BK515
      replace BK524 := bd_ BK524
      replace HB := hd_ HB
      refine start_ (n := 5) (S := k3_ gb515 (.slice Ao48 t510.length co48) (.int .i64 t513) (.int .i64 t514) (k3e_ gb493 (.slice A0_0 l0_0.length c0_0) (.int .i64 a0_1) (.int .i64 a0_2))) (ds := []) #[o',o',o',o',o'] (by kernel_rfl) rfl rfl (p3_ BK515 (p3e_ BK493)) (fun hHeld => ?_)
      generalize w63.drew = w64 at HO498 HO503 HO506 HO512 HO518 HO521 BK493 BK509 BK515 BK524 HB hHeld ⊢
      refine take_ (i := 0) (N := some 40) (v := ?_) (a' := ?_) #[i',o',o',o',o'] rfl rfl (by kernel_rfl) (fun _ _ _ h => h) (Or.inl ⟨by rfl, ?_⟩) hHeld ?_ ?_
      rotate_left
      ·rintro w' ⟨s0, s1, s2, s3, s4, s5⟩
       go_simp
       with_reducible rfl
      rotate_left
      ·simp only [Act.put, la_, lz_, ls_, i64_w, i32_w]
       rfl
      refine take_ (i := 1) (N := some 41) (v := ?_) (a' := ?_) #[i',i',o',o',o'] rfl rfl (by kernel_rfl) (fun _ _ _ h => h) (Or.inl ⟨by rfl, ?_⟩) hHeld ?_ ?_
      rotate_left
      ·rintro w' ⟨s0, s1, s2, s3, s4, s5⟩
       go_simp
       with_reducible rfl
      rotate_left
      ·simp only [Act.put, la_, lz_, ls_, i64_w, i32_w]
       rfl
      refine one_ (i := 2) (N := some 42) #[i',i',i',o',o'] rfl rfl (by kernel_rfl) (by decide) (fun K hK => ?_)
      refine goes_ Try.func7 (by kernel_rfl) rfl #[.agg #[.slice A0_0 l0_0.length c0_0, .int .i64 a0_1, .int .i64 a0_2]] (by rfl) rfl rfl ar_ ?_
      with_reducible refine (laws_toGroup.calls k _ _ l0_0 a0_1 a0_2 t526 t529 t530 _ ?side1 ?side2 A22.out).mono ?_
      (case side1 => repeat (first | exact (Kd.C_below HR0_0.out HB.out) | (with_reducible refine Kd.C_alloc ?_ _) | (with_reducible refine Kd.C_drewN ?_ _) | (with_reducible refine Kd.C_drew ?_)))
      (case side2 => exact HC0_0.out)
      rintro e w65 ⟨v527, rfl, ho0, hb⟩
      refine ⟨_, rfl, ?_⟩
      replace HO503 := rb_ HO503 hb
      replace HO518 := rb_ HO518 hb
      have HO528 := Aside0.mk (Kd.R_lower (Kd.R_new' (Kd.R_new' (Kd.R_new' (Kd.R_new' ho0 (Kd.R_lt (rr_ HO498))) (Kd.R_lt (rr_ HO506))) (Kd.R_lt (rr_ HO512))) (Kd.R_lt (rr_ HO521))) (below_size (hw_ HB GE493 GE509 GE515 GE524)))
      replace HO498 := Aside0.mk (Kd.R_elder' (rr_ HO498) (Kd.R_base ho0) hb)
      replace HO506 := Aside0.mk (Kd.R_elder' (rr_ HO506) (Kd.R_base ho0) hb)
      replace HO512 := Aside0.mk (Kd.R_elder' (rr_ HO512) (Kd.R_base ho0) hb)
      replace HO521 := Aside0.mk (Kd.R_elder' (rr_ HO521) (Kd.R_base ho0) hb)
      replace BK493 := bb_ BK493 hb
      replace BK509 := bb_ BK509 hb
      replace BK515 := bb_ BK515 hb
      replace BK524 := bb_ BK524 hb
      replace HB := Aside0.mk (below_step (hw_ HB GE493 GE509 GE515 GE524) hb)
      (try clear hb)
      (try clear hb2)
      (try clear hk)
      (try clear hi)
      (try clear ho0)
      obtain ⟨Ao66, co66, eo66⟩ := Kd.R_slice HO528.out
      (first | subst eo66 | (injection eo66 with f1_ f2_ f3_; have f4_ := f1_.symm; have f5_ := f3_.symm; clear f1_ f2_ f3_; subst f4_; subst f5_))
      refine hK.out _ _ (p3_ BK515 (p3e_ BK493)) (fun hHeld => ?_)
      clear hK K
      refine norm_ (a' := ?_) ?_ ?_
      rotate_left
      ·show Act.put _ (some 42) _ = _
       simp only [Act.put, la_, lz_, ls_, i64_w, i32_w]
       rfl
      refine one_ (i := 3) (N := some 43) #[i',i',i',i',o'] rfl rfl (by kernel_rfl) (by decide) (fun K hK => ?_)
      refine goes_ Try.func10 (by kernel_rfl) rfl #[.agg #[.slice Ao48 t510.length co48, .int .i64 t513, .int .i64 t514], .agg #[.slice Ao66 t526.length co66, .int .i64 t529, .int .i64 t530]] (by rfl) rfl rfl ar_ ?_
      with_reducible refine (laws_eqGroup.calls k _ _ t510 t513 t514 _ _ t526 t529 t530 true _ ?side1 ?side2 ?side3 ?side4 A23.out).mono ?_
      (case side1 => repeat (first | exact (Kd.R_reads' HO512.out).2.2 | (with_reducible refine Kd.C_alloc ?_ _) | (with_reducible refine Kd.C_drewN ?_ _) | (with_reducible refine Kd.C_drew ?_)))
      (case side2 => exact (Kd.R_reads' HO512.out).2.1)
      (case side3 => repeat (first | exact (Kd.R_reads' HO528.out).2.2 | (with_reducible refine Kd.C_alloc ?_ _) | (with_reducible refine Kd.C_drewN ?_ _) | (with_reducible refine Kd.C_drew ?_)))
      (case side4 => exact (Kd.R_reads' HO528.out).2.1)
      rintro e w67 ⟨rfl, hb⟩
      refine ⟨_, rfl, ?_⟩
      replace HO498 := rb_ HO498 hb
      replace HO503 := rb_ HO503 hb
      replace HO506 := rb_ HO506 hb
      replace HO512 := rb_ HO512 hb
      replace HO518 := rb_ HO518 hb
      replace HO521 := rb_ HO521 hb
      replace HO528 := rb_ HO528 hb
      replace BK493 := bb_ BK493 hb
      replace BK509 := bb_ BK509 hb
      replace BK515 := bb_ BK515 hb
      replace BK524 := bb_ BK524 hb
      replace HB := Aside0.mk (below_step (hw_ HB GE493 GE509 GE515 GE524) hb)
      (try clear hb)
      (try clear hb2)
      (try clear hk)
      (try clear hi)
      refine hK.out _ _ (p3_ BK515 (p3e_ BK493)) (fun hHeld => ?_)
      clear hK K
      refine norm_ (a' := ?_) ?_ ?_
      rotate_left
      ·show Act.put _ (some 43) _ = _
       simp only [Act.put, la_, lz_, ls_, i64_w, i32_w]
       rfl
      refine pure_ (i := 4) (N := some 44) (v := ?_) (a' := ?_) #[i',i',i',i',i'] rfl rfl (by kernel_rfl) (fun _ _ _ h => h) (Or.inl ⟨by rfl, ?_⟩) ?_ ?_
      rotate_left;·intro w';go_simp;with_reducible rfl
      rotate_left;·simp only [Act.put, la_, lz_, ls_, i64_w, i32_w];rfl
      refine done_ (by kernel_rfl) ?_
      go_upto_region 21 with (first | ((with_reducible refine gate_callee (f := 8) rfl ?_); refine goesL_ (some 47) rfl rfl Try.func8 (by kernel_rfl) rfl #[.slice A1 l1.length c1] rfl ar_ ?_; (with_reducible refine (laws_toPlaceS.calls k _ _ l1 t532 _ ?side1 ?side2 A25.out).mono ?_); (case side1 => repeat (first | exact (Kd.C_below HR1.out HB.out) | (with_reducible refine Kd.C_alloc ?_ _) | (with_reducible refine Kd.C_drewN ?_ _) | (with_reducible refine Kd.C_drew ?_))); (case side2 => exact HC1.out); rintro e w68 ⟨v533, rfl, ho0, hb⟩; refine ⟨_, rfl, ?_⟩; replace HO498 := rb_ HO498 hb; replace HO506 := rb_ HO506 hb; replace HO512 := rb_ HO512 hb; replace HO521 := rb_ HO521 hb; replace HO528 := rb_ HO528 hb; have HO534 := Aside0.mk (Kd.R_lower (Kd.R_new' (Kd.R_new' ho0 (Kd.R_lt (rr_ HO503))) (Kd.R_lt (rr_ HO518))) (below_size (hw_ HB GE493 GE509 GE515 GE524))); replace HO503 := Aside0.mk (Kd.R_elder' (rr_ HO503) (Kd.R_base ho0) hb); replace HO518 := Aside0.mk (Kd.R_elder' (rr_ HO518) (Kd.R_base ho0) hb); replace BK493 := bb_ BK493 hb; replace BK509 := bb_ BK509 hb; replace BK515 := bb_ BK515 hb; replace BK524 := bb_ BK524 hb; replace HB := Aside0.mk (below_step (hw_ HB GE493 GE509 GE515 GE524) hb); (try clear hb); (try clear hb2); (try clear hk); (try clear hi); (try clear ho0); obtain ⟨Ao69, co69, eo69⟩ := Kd.R_slice HO534.out; subst eo69) | ((with_reducible refine gate_callee (f := 11) rfl ?_); refine goesL_ (some 48) rfl rfl Try.func11 (by kernel_rfl) rfl #[.slice Ao54 t516.length co54, .slice Ao69 t532.length co69] rfl ar_ ?_; (with_reducible refine (laws_eqPlaceS.calls k _ _ t516 _ _ t532 true _ ?side1 ?side2 ?side3 ?side4 A26.out).mono ?_); (case side1 => repeat (first | exact (Kd.R_reads' HO518.out).2.2 | (with_reducible refine Kd.C_alloc ?_ _) | (with_reducible refine Kd.C_drewN ?_ _) | (with_reducible refine Kd.C_drew ?_))); (case side2 => exact (Kd.R_reads' HO518.out).2.1); (case side3 => repeat (first | exact (Kd.R_reads' HO534.out).2.2 | (with_reducible refine Kd.C_alloc ?_ _) | (with_reducible refine Kd.C_drewN ?_ _) | (with_reducible refine Kd.C_drew ?_))); (case side4 => exact (Kd.R_reads' HO534.out).2.1); rintro e w70 ⟨rfl, hb⟩; refine ⟨_, rfl, ?_⟩; replace HO498 := rb_ HO498 hb; replace HO503 := rb_ HO503 hb; replace HO506 := rb_ HO506 hb; replace HO512 := rb_ HO512 hb; replace HO518 := rb_ HO518 hb; replace HO521 := rb_ HO521 hb; replace HO528 := rb_ HO528 hb; replace HO534 := rb_ HO534 hb; replace BK493 := bb_ BK493 hb; replace BK509 := bb_ BK509 hb; replace BK515 := bb_ BK515 hb; replace BK524 := bb_ BK524 hb; replace HB := Aside0.mk (below_step (hw_ HB GE493 GE509 GE515 GE524) hb); (try clear hb); (try clear hb2); (try clear hk); (try clear hi); obtain ⟨hcz71_0, hcz71_1, hcz71_2, hfz71_0, hfz71_1, hfz71_2⟩ := bc3_ BK515) | ((with_reducible refine gate_callee (f := 12) rfl ?_); refine goesL_ (some 52) rfl rfl Try.func12 (by kernel_rfl) rfl #[.agg #[.slice Ao48 t510.length co48, .int .i64 t513, .int .i64 t514], .int .i64 1] rfl ar_ ?_; (with_reducible refine (laws_markGroup.calls k (fun k_ => some k_ = (.slice Ao48 t510.length co48 : Value).ownBlock) (.slice Ao48 t510.length co48) t510 t513 t514 1 t536 t537 w _ ?side1 ?side2 A28.out).mono ?_); (case side1 => repeat (first | (with_reducible first | exact HB.out | apply below_alloc | apply pw_below_drewN | apply below_drew1 | refine below_set ?_ GE493.out | refine below_set ?_ GE509.out | refine below_set ?_ GE515.out | refine below_set ?_ GE524.out) | exact HB.out)); (case side2 => exact Kd.R_tight rfl HO512.out); rintro e w72 ⟨rfl, hy0, hb, hkp⟩; refine ⟨_, rfl, ?_⟩; replace BK493 := Aside0.mk (blk_kept (bk_ BK493) hkp (fun hs_ => (fun e_ => (Kd.R_ne HO512.out BK493.out (by decide)) e_) hs_)); replace HO498 := Aside0.mk (Kd.R_mono (ok' := fun k_ => some k_ ≠ (.slice Ao42 t504.length co42 : Value).ownBlock ∧ some k_ ≠ (.slice Ao48 t510.length co48 : Value).ownBlock ∧ some k_ ≠ (.slice Ao57 t519.length co57 : Value).ownBlock ∧ some k_ ≠ (.slice Ao66 t526.length co66 : Value).ownBlock) (Kd.R_keptB (HO498.out) hkp (fun k_ hk_ hs_ => (hk_.1.1.2) hs_)) (fun k_ hk_ => ⟨hk_.1.1.1.1.2, hk_.1.1.1.2, hk_.1.1.2, hk_.1.2⟩)); replace HO503 := Aside0.mk (Kd.R_mono (ok' := fun k_ => some k_ ≠ (.slice Ao54 t516.length co54 : Value).ownBlock ∧ some k_ ≠ (.slice Ao69 t532.length co69 : Value).ownBlock) (Kd.R_keptB ((Kd.R_apart' HO503.out (Kd.R_typed HO512.out) (by decide))) hkp (fun k_ hk_ hs_ => (hk_.2) hs_)) (fun k_ hk_ => ⟨hk_.1.1.1.2, hk_.1.1.2⟩)); replace HO506 := Aside0.mk (Kd.R_mono (ok' := fun k_ => some k_ ≠ (.slice Ao38 t496.length co38 : Value).ownBlock ∧ some k_ ≠ (.slice Ao48 t510.length co48 : Value).ownBlock ∧ some k_ ≠ (.slice Ao57 t519.length co57 : Value).ownBlock ∧ some k_ ≠ (.slice Ao66 t526.length co66 : Value).ownBlock) (Kd.R_keptB (HO506.out) hkp (fun k_ hk_ hs_ => (hk_.1.1.2) hs_)) (fun k_ hk_ => ⟨hk_.1.1.1.1.2, hk_.1.1.1.2, hk_.1.1.2, hk_.1.2⟩)); replace BK509 := Aside0.mk (blk_kept (bk_ BK509) hkp (fun hs_ => (fun e_ => (Kd.R_ne HO512.out BK509.out (by decide)) e_) hs_)); replace BK515 := Aside0.mk (blk_kept (bk_ BK515) hkp (fun hs_ => (fun e_ => (Kd.R_ne HO512.out BK515.out (by decide)) e_) hs_)); replace HO518 := Aside0.mk (Kd.R_mono (ok' := fun k_ => some k_ ≠ (.slice Ao39 t501.length co39 : Value).ownBlock ∧ some k_ ≠ (.slice Ao69 t532.length co69 : Value).ownBlock) (Kd.R_keptB ((Kd.R_apart' HO518.out (Kd.R_typed HO512.out) (by decide))) hkp (fun k_ hk_ hs_ => (hk_.2) hs_)) (fun k_ hk_ => ⟨hk_.1.1.1.2, hk_.1.1.2⟩)); replace HO521 := Aside0.mk (Kd.R_mono (ok' := fun k_ => some k_ ≠ (.slice Ao38 t496.length co38 : Value).ownBlock ∧ some k_ ≠ (.slice Ao42 t504.length co42 : Value).ownBlock ∧ some k_ ≠ (.slice Ao48 t510.length co48 : Value).ownBlock ∧ some k_ ≠ (.slice Ao66 t526.length co66 : Value).ownBlock) (Kd.R_keptB (HO521.out) hkp (fun k_ hk_ hs_ => (hk_.1.2) hs_)) (fun k_ hk_ => ⟨hk_.1.1.1.1.2, hk_.1.1.1.2, hk_.1.1.2, hk_.1.2⟩)); replace BK524 := Aside0.mk (blk_kept (bk_ BK524) hkp (fun hs_ => (fun e_ => (Kd.R_ne HO512.out BK524.out (by decide)) e_) hs_)); replace HO528 := Aside0.mk (Kd.R_mono (ok' := fun k_ => some k_ ≠ (.slice Ao38 t496.length co38 : Value).ownBlock ∧ some k_ ≠ (.slice Ao42 t504.length co42 : Value).ownBlock ∧ some k_ ≠ (.slice Ao48 t510.length co48 : Value).ownBlock ∧ some k_ ≠ (.slice Ao57 t519.length co57 : Value).ownBlock) (Kd.R_keptB (HO528.out) hkp (fun k_ hk_ hs_ => (hk_.1.2) hs_)) (fun k_ hk_ => ⟨hk_.1.1.1.1.2, hk_.1.1.1.2, hk_.1.1.2, hk_.1.2⟩)); replace HO534 := Aside0.mk (Kd.R_mono (ok' := fun k_ => some k_ ≠ (.slice Ao39 t501.length co39 : Value).ownBlock ∧ some k_ ≠ (.slice Ao54 t516.length co54 : Value).ownBlock) (Kd.R_keptB ((Kd.R_apart' HO534.out (Kd.R_typed HO512.out) (by decide))) hkp (fun k_ hk_ hs_ => (hk_.2) hs_)) (fun k_ hk_ => ⟨hk_.1.1.1.2, hk_.1.1.2⟩)); replace HO512 := Aside0.mk (Kd.R_reok rfl hy0 (fun k_ e_ => HO512.out.1 k_ e_)); replace HB := Aside0.mk (hb); (try clear hb); (try clear hkp); (try clear hy0)) | ((with_reducible refine gate_callee (f := 13) rfl ?_); refine goesL_ (some 55) rfl rfl Try.func13 (by kernel_rfl) rfl #[.slice Ao54 t516.length co54, .int .i64 t536] rfl ar_ ?_; (with_reducible refine (laws_markPlaceS.calls k (fun k_ => some k_ = (.slice Ao54 t516.length co54 : Value).ownBlock) (.slice Ao54 t516.length co54) t516 t536 t538 t539 w _ ?side1 ?side2 A29.out).mono ?_); (case side1 => repeat (first | (with_reducible first | exact HB.out | apply below_alloc | apply pw_below_drewN | apply below_drew1 | refine below_set ?_ GE493.out | refine below_set ?_ GE509.out | refine below_set ?_ GE515.out | refine below_set ?_ GE524.out) | exact HB.out)); (case side2 => exact Kd.R_tight rfl HO518.out); rintro e w73 ⟨rfl, hy0, hb, hkp⟩; refine ⟨_, rfl, ?_⟩; replace BK493 := Aside0.mk (blk_kept (bk_ BK493) hkp (fun hs_ => (fun e_ => (Kd.R_ne HO518.out BK493.out (by decide)) e_) hs_)); replace HO498 := Aside0.mk (Kd.R_mono (ok' := fun k_ => some k_ ≠ (.slice Ao42 t504.length co42 : Value).ownBlock ∧ some k_ ≠ (.slice Ao48 t510.length co48 : Value).ownBlock ∧ some k_ ≠ (.slice Ao57 t519.length co57 : Value).ownBlock ∧ some k_ ≠ (.slice Ao66 t526.length co66 : Value).ownBlock) (Kd.R_keptB ((Kd.R_apart' HO498.out (Kd.R_typed HO518.out) (by decide))) hkp (fun k_ hk_ hs_ => (hk_.2) hs_)) (fun k_ hk_ => ⟨hk_.1.1.1, hk_.1.1.2.1, hk_.1.1.2.2.1, hk_.1.1.2.2.2⟩)); replace HO503 := Aside0.mk (Kd.R_mono (ok' := fun k_ => some k_ ≠ (.slice Ao54 t516.length co54 : Value).ownBlock ∧ some k_ ≠ (.slice Ao69 t532.length co69 : Value).ownBlock) (Kd.R_keptB (HO503.out) hkp (fun k_ hk_ hs_ => (hk_.1) hs_)) (fun k_ hk_ => ⟨hk_.1.1, hk_.1.2⟩)); replace HO506 := Aside0.mk (Kd.R_mono (ok' := fun k_ => some k_ ≠ (.slice Ao38 t496.length co38 : Value).ownBlock ∧ some k_ ≠ (.slice Ao48 t510.length co48 : Value).ownBlock ∧ some k_ ≠ (.slice Ao57 t519.length co57 : Value).ownBlock ∧ some k_ ≠ (.slice Ao66 t526.length co66 : Value).ownBlock) (Kd.R_keptB ((Kd.R_apart' HO506.out (Kd.R_typed HO518.out) (by decide))) hkp (fun k_ hk_ hs_ => (hk_.2) hs_)) (fun k_ hk_ => ⟨hk_.1.1.1, hk_.1.1.2.1, hk_.1.1.2.2.1, hk_.1.1.2.2.2⟩)); replace BK509 := Aside0.mk (blk_kept (bk_ BK509) hkp (fun hs_ => (fun e_ => (Kd.R_ne HO518.out BK509.out (by decide)) e_) hs_)); replace HO512 := Aside0.mk (Kd.R_mono (ok' := fun k_ => some k_ ≠ (.slice Ao38 t496.length co38 : Value).ownBlock ∧ some k_ ≠ (.slice Ao42 t504.length co42 : Value).ownBlock ∧ some k_ ≠ (.slice Ao57 t519.length co57 : Value).ownBlock ∧ some k_ ≠ (.slice Ao66 t526.length co66 : Value).ownBlock) (Kd.R_keptB ((Kd.R_apart' HO512.out (Kd.R_typed HO518.out) (by decide))) hkp (fun k_ hk_ hs_ => (hk_.2) hs_)) (fun k_ hk_ => ⟨hk_.1.1.1.1.1.2, hk_.1.1.1.1.2, hk_.1.1.1.2, hk_.1.1.2⟩)); replace BK515 := Aside0.mk (blk_kept (bk_ BK515) hkp (fun hs_ => (fun e_ => (Kd.R_ne HO518.out BK515.out (by decide)) e_) hs_)); replace HO521 := Aside0.mk (Kd.R_mono (ok' := fun k_ => some k_ ≠ (.slice Ao38 t496.length co38 : Value).ownBlock ∧ some k_ ≠ (.slice Ao42 t504.length co42 : Value).ownBlock ∧ some k_ ≠ (.slice Ao48 t510.length co48 : Value).ownBlock ∧ some k_ ≠ (.slice Ao66 t526.length co66 : Value).ownBlock) (Kd.R_keptB ((Kd.R_apart' HO521.out (Kd.R_typed HO518.out) (by decide))) hkp (fun k_ hk_ hs_ => (hk_.2) hs_)) (fun k_ hk_ => ⟨hk_.1.1.1, hk_.1.1.2.1, hk_.1.1.2.2.1, hk_.1.1.2.2.2⟩)); replace BK524 := Aside0.mk (blk_kept (bk_ BK524) hkp (fun hs_ => (fun e_ => (Kd.R_ne HO518.out BK524.out (by decide)) e_) hs_)); replace HO528 := Aside0.mk (Kd.R_mono (ok' := fun k_ => some k_ ≠ (.slice Ao38 t496.length co38 : Value).ownBlock ∧ some k_ ≠ (.slice Ao42 t504.length co42 : Value).ownBlock ∧ some k_ ≠ (.slice Ao48 t510.length co48 : Value).ownBlock ∧ some k_ ≠ (.slice Ao57 t519.length co57 : Value).ownBlock) (Kd.R_keptB ((Kd.R_apart' HO528.out (Kd.R_typed HO518.out) (by decide))) hkp (fun k_ hk_ hs_ => (hk_.2) hs_)) (fun k_ hk_ => ⟨hk_.1.1.1, hk_.1.1.2.1, hk_.1.1.2.2.1, hk_.1.1.2.2.2⟩)); replace HO518 := Aside0.mk (Kd.R_reok rfl hy0 (fun k_ e_ => HO518.out.1 k_ e_)); replace HO534 := Aside0.mk (Kd.R_mono (ok' := fun k_ => some k_ ≠ (.slice Ao39 t501.length co39 : Value).ownBlock ∧ some k_ ≠ (.slice Ao54 t516.length co54 : Value).ownBlock) (Kd.R_keptB (HO534.out) hkp (fun k_ hk_ hs_ => (hk_.2) hs_)) (fun k_ hk_ => ⟨hk_.1.1, hk_.1.2⟩)); replace HB := Aside0.mk (hb); (try clear hb); (try clear hkp); (try clear hy0)))
      (try simp only [Act.put, la_, lz_, ls_])
      go_cut [63] (fun v63 wc => ∃ (kq : Nat) (x63_29 : Bool), v63 = .bool x63_29 ∧ Aside0 (laws_FnExactRegroup.j0 kq l1 x63_29 l0_0 a0_1 a0_2 t504 t507 t508 t519 t522 t523 = some r) ∧ Aside0 (kq ≤ k) ∧ Aside0 (Kd.R k71 71 wc w.heap.size (fun k_ => some k_ ≠ ((.slice Ao48 t510.length co48) : Value).ownBlock ∧ some k_ ≠ ((.slice Ao57 t519.length co57) : Value).ownBlock) (.slice Ao42 t504.length co42) t504) ∧ Aside0 (Kd.R k71 71 wc w.heap.size (fun k_ => some k_ ≠ ((.slice Ao42 t504.length co42) : Value).ownBlock ∧ some k_ ≠ ((.slice Ao57 t519.length co57) : Value).ownBlock) (.slice Ao48 t510.length co48) t537) ∧ Aside0 (Kd.R k71 71 wc w.heap.size (fun k_ => some k_ ≠ ((.slice Ao42 t504.length co42) : Value).ownBlock ∧ some k_ ≠ ((.slice Ao48 t510.length co48) : Value).ownBlock) (.slice Ao57 t519.length co57) t519) ∧ Aside0 (wc.heap[gb493]? = some (.cells #[(.slice A0_0 l0_0.length c0_0), .int .i64 a0_1, .int .i64 a0_2] 24 (0, 0))) ∧ Aside0 (wc.heap[gb509]? = some (.cells #[(.slice Ao42 t504.length co42), .int .i64 t507, .int .i64 t508] 30 (0, 0))) ∧ Aside0 (wc.heap[gb515]? = some (.cells #[(.slice Ao48 t510.length co48), .int .i64 t513, .int .i64 t514] 30 (0, 0))) ∧ Aside0 (wc.heap[gb524]? = some (.cells #[(.slice Ao57 t519.length co57), .int .i64 t522, .int .i64 t523] 30 (0, 0))) ∧ Aside0 (Below w.heap.size w wc))
      case first =>
       have H := HC30.out
       clear HC30
       by_cases c74 : t538 < 0
       ·rw [if_pos c74] at H
        have c74b0 : decide (t538 < 0) = true := decide_eq_true c74
        clear c74
        (first | rw [c74b0] | (simp only [i64_w, i32_w]; rw [c74b0]) | skip)
        have H' := Aside0.mk H
        clear H
        go_wp2
        go_meet
        case rel => exact ⟨_, (true), rs_, H', ⟨by first | exact Nat.le_refl _ | exact Nat.le_of_succ_le this | omega⟩, ⟨by (with_reducible repeat (first | apply Kd.R_alloc | apply Kd.R_drewN | apply Kd.R_drew)); exact Kd.R_mono HO506.out (fun _ hk => ⟨hk.2.1, hk.2.2.1⟩)⟩, ⟨by (with_reducible repeat (first | apply Kd.R_alloc | apply Kd.R_drewN | apply Kd.R_drew)); exact Kd.R_mono HO512.out (fun _ hk => ⟨hk.2.1, hk.2.2.1⟩)⟩, ⟨by (with_reducible repeat (first | apply Kd.R_alloc | apply Kd.R_drewN | apply Kd.R_drew)); exact Kd.R_mono HO521.out (fun _ hk => ⟨hk.2.1, hk.2.2.1⟩)⟩, ⟨bk_ BK493⟩, ⟨bk_ BK509⟩, ⟨bk_ BK515⟩, ⟨bk_ BK524⟩, ⟨hz_ HB⟩⟩
       ·rw [if_neg c74] at H
        have c74b0 : decide (t538 < 0) = false := decide_eq_false c74
        clear c74
        (first | rw [c74b0] | (simp only [i64_w, i32_w]; rw [c74b0]) | skip)
        replace H := Option.bind_eq_some_iff.mp H
        obtain ⟨t540, A750, H⟩ := H
        have A75 := Aside0.mk A750
        clear A750
        have H' := Aside0.mk H
        clear H
        have hnb76 := NB524_493.out
        have hnc76 := NB493_524.out
        have hnb77 := NB524_509.out
        have hnc77 := NB509_524.out
        have hnb78 := NB524_515.out
        have hnc78 := NB515_524.out
        obtain ⟨hcz79_0, hcz79_1, hcz79_2, hfz79_0, hfz79_1, hfz79_2⟩ := bc3_ BK524
        have hnb80 := NB509_493.out
        have hnc80 := NB493_509.out
        have hnb81 := NB509_515.out
        have hnc81 := NB515_509.out
        obtain ⟨hcz82_0, hcz82_1, hcz82_2, hfz82_0, hfz82_1, hfz82_2⟩ := bc3_ BK509
        go_wp2_with (first | (go_at_call 10; (with_reducible refine (laws_eqGroup.calls k _ _ t519 t522 t523 _ _ t504 t507 t508 t540 _ ?side1 ?side2 ?side3 ?side4 A75.out).mono ?_); (case side1 => repeat (first | exact (Kd.R_reads' HO521.out).2.2 | (with_reducible refine Kd.C_alloc ?_ _) | (with_reducible refine Kd.C_drewN ?_ _) | (with_reducible refine Kd.C_drew ?_))); (case side2 => exact (Kd.R_reads' HO521.out).2.1); (case side3 => repeat (first | exact (Kd.R_reads' HO506.out).2.2 | (with_reducible refine Kd.C_alloc ?_ _) | (with_reducible refine Kd.C_drewN ?_ _) | (with_reducible refine Kd.C_drew ?_))); (case side4 => exact (Kd.R_reads' HO506.out).2.1); rintro e w83 ⟨rfl, hb⟩; replace HO498 := rb_ HO498 hb; replace HO503 := rb_ HO503 hb; replace HO506 := rb_ HO506 hb; replace HO512 := rb_ HO512 hb; replace HO518 := rb_ HO518 hb; replace HO521 := rb_ HO521 hb; replace HO528 := rb_ HO528 hb; replace HO534 := rb_ HO534 hb; replace BK493 := bb_ BK493 hb; replace BK509 := bb_ BK509 hb; replace BK515 := bb_ BK515 hb; replace BK524 := bb_ BK524 hb; replace HB := Aside0.mk (below_step (hw_ HB GE493 GE509 GE515 GE524) hb); (try clear hb); (try clear hb2); (try clear hk); (try clear hi)))
        go_meet
        case rel => exact ⟨_, (!t540), rs_, H', ⟨by first | exact Nat.le_refl _ | exact Nat.le_of_succ_le this | omega⟩, ⟨by (with_reducible repeat (first | apply Kd.R_alloc | apply Kd.R_drewN | apply Kd.R_drew)); exact Kd.R_mono HO506.out (fun _ hk => ⟨hk.2.1, hk.2.2.1⟩)⟩, ⟨by (with_reducible repeat (first | apply Kd.R_alloc | apply Kd.R_drewN | apply Kd.R_drew)); exact Kd.R_mono HO512.out (fun _ hk => ⟨hk.2.1, hk.2.2.1⟩)⟩, ⟨by (with_reducible repeat (first | apply Kd.R_alloc | apply Kd.R_drewN | apply Kd.R_drew)); exact Kd.R_mono HO521.out (fun _ hk => ⟨hk.2.1, hk.2.2.1⟩)⟩, ⟨bk_ BK493⟩, ⟨bk_ BK509⟩, ⟨bk_ BK515⟩, ⟨bk_ BK524⟩, ⟨hz_ HB⟩⟩
      case rest =>
       clear HC30
       (try clear c1);(try clear c4);(try clear c4b0);(try clear c9);(try clear c9b0);(try clear c21);(try clear c24);(try clear c27);(try clear c74);(try clear c74b0);(try clear hcz11_0 hcz11_1 hcz11_2 hfz11_0 hfz11_1 hfz11_2);(try clear hcz32_0 hcz32_1 hcz32_2 hfz32_0 hfz32_1 hfz32_2);(try clear hcz35_0 hcz35_1 hcz35_2 hfz35_0 hfz35_1 hfz35_2);(try clear hcz44_0 hcz44_1 hcz44_2 hfz44_0 hfz44_1 hfz44_2);(try clear hcz45_0 hcz45_1 hcz45_2 hfz45_0 hfz45_1 hfz45_2);(try clear hcz51_0 hcz51_1 hcz51_2 hfz51_0 hfz51_1 hfz51_2);(try clear hcz53_0 hcz53_1 hcz53_2 hfz53_0 hfz53_1 hfz53_2);(try clear hcz61_0 hcz61_1 hcz61_2 hfz61_0 hfz61_1 hfz61_2);(try clear hcz62_0 hcz62_1 hcz62_2 hfz62_0 hfz62_1 hfz62_2);(try clear hcz6_0 hcz6_1 hcz6_2 hfz6_0 hfz6_1 hfz6_2);(try clear hcz71_0 hcz71_1 hcz71_2 hfz71_0 hfz71_1 hfz71_2);(try clear hcz79_0 hcz79_1 hcz79_2 hfz79_0 hfz79_1 hfz79_2);(try clear hcz82_0 hcz82_1 hcz82_2 hfz82_0 hfz82_1 hfz82_2)
       obtain ⟨kq, x63_29, rfl, HA, HJ29, HO_510000, HO_516000, HO_525000, BK493, BK509, BK515, BK524, HB⟩ := hcut
       have hl516000_29 := (Kd.R_reads' HO_516000.out).1
       rw [hl516000_29] at HO_516000
       (try simp only [hl516000_29])
       (try simp only [hl516000_29] at BK493)
       (try simp only [hl516000_29] at BK509)
       (try simp only [hl516000_29] at BK515)
       (try simp only [hl516000_29] at BK524)
       (try simp only [hl516000_29] at HO_510000)
       (try simp only [hl516000_29] at HO_525000)
       cases kq with
       | zero => exact absurd HA.out (by simp [laws_FnExactRegroup.j0])
       | succ kj29 =>
        have H := HA.out
        clear HA
        simp only [laws_FnExactRegroup.j0] at H
        by_cases c84 : x63_29 = true
        ·subst c84
         rw [if_pos rfl] at H
         exact absurd ((Option.some.inj H).trans HRT.out) (by decide)
        ·replace c84 := Bool.eq_false_iff.mpr c84
         subst c84
         rw [if_neg ff_] at H
         replace H := Option.bind_eq_some_iff.mp H
         obtain ⟨⟨t541, t542⟩, A850, H⟩ := H
         have A85 := Aside0.mk A850
         clear A850
         replace H := Option.bind_eq_some_iff.mp H
         obtain ⟨t543, A860, H⟩ := H
         have A86 := Aside0.mk A860
         clear A860
         by_cases c87 : t543 < 0
         ·rw [if_pos c87] at H
          have c87b0 : decide (t543 < 0) = true := decide_eq_true c87
          clear c87
          exact absurd ((Option.some.inj H).trans HRT.out) (by decide)
         ·rw [if_neg c87] at H
          have c87b0 : decide (t543 < 0) = false := decide_eq_false c87
          clear c87
          by_cases c88 : t543 = t541
          ·rw [if_pos c88] at H
           have c88b0 : (t543 == t541) = true := beq_iff_eq.mpr c88
           have c88b1 : (t543 != t541) = false := bne_eq_false_iff_eq.mpr c88
           clear c88
           replace H := Option.bind_eq_some_iff.mp H
           obtain ⟨⟨t544, t547, t548⟩, A890, H⟩ := H
           have A89 := Aside0.mk A890
           clear A890
           replace H := Option.bind_eq_some_iff.mp H
           obtain ⟨t549, A900, H⟩ := H
           have A90 := Aside0.mk A900
           clear A900
           replace H := Option.bind_eq_some_iff.mp H
           obtain ⟨⟨t552, t555, t556⟩, A910, H⟩ := H
           have A91 := Aside0.mk A910
           clear A910
           replace H := Option.bind_eq_some_iff.mp H
           obtain ⟨t558, A920, H⟩ := H
           have A92 := Aside0.mk A920
           clear A920
           by_cases c93 : t558 = true
           ·subst c93
            rw [if_pos rfl] at H
            replace H := Option.bind_eq_some_iff.mp H
            obtain ⟨t559, A940, H⟩ := H
            have A94 := Aside0.mk A940
            clear A940
            by_cases c95 : t559 < 0
            ·rw [if_pos c95] at H
             have c95b0 : decide (t559 < 0) = true := decide_eq_true c95
             clear c95
             exact absurd ((Option.some.inj H).trans HRT.out) (by decide)
            ·rw [if_neg c95] at H
             have c95b0 : decide (t559 < 0) = false := decide_eq_false c95
             clear c95
             by_cases c96 : t559 = t541
             ·rw [if_pos c96] at H
              have c96b0 : (t559 == t541) = true := beq_iff_eq.mpr c96
              have c96b1 : (t559 != t541) = false := bne_eq_false_iff_eq.mpr c96
              clear c96
              obtain rfl := Option.some.inj H
              have hnb97 := NB524_493.out
              have hnc97 := NB493_524.out
              have hnb98 := NB524_509.out
              have hnc98 := NB509_524.out
              have hnb99 := NB524_515.out
              have hnc99 := NB515_524.out
              obtain ⟨hcz100_0, hcz100_1, hcz100_2, hfz100_0, hfz100_1, hfz100_2⟩ := bc3_ BK524
              go_wp2_with (first | ((with_reducible refine gate_callee (f := 12) rfl ?_); refine goesL_ (some 66) rfl rfl Try.func12 (by kernel_rfl) rfl #[.agg #[.slice Ao57 t519.length co57, .int .i64 t522, .int .i64 t523], .int .i64 1] rfl ar_ ?_; (with_reducible refine (laws_markGroup.calls kj29 (fun k_ => some k_ = (.slice Ao57 t519.length co57 : Value).ownBlock) (.slice Ao57 t519.length co57) t519 t522 t523 1 t541 t542 w _ ?side1 ?side2 A85.out).mono ?_); (case side1 => repeat (first | (with_reducible first | exact HB.out | apply below_alloc | apply pw_below_drewN | apply below_drew1 | refine below_set ?_ GE493.out | refine below_set ?_ GE509.out | refine below_set ?_ GE515.out | refine below_set ?_ GE524.out) | exact HB.out)); (case side2 => exact Kd.R_tight rfl HO_525000.out); rintro e w101 ⟨rfl, hy0, hb, hkp⟩; refine ⟨_, rfl, ?_⟩; replace HO_510000 := Aside0.mk (Kd.R_mono (ok' := fun k_ => some k_ ≠ (.slice Ao48 t537.length co48 : Value).ownBlock ∧ some k_ ≠ (.slice Ao57 t519.length co57 : Value).ownBlock) (Kd.R_keptB (HO_510000.out) hkp (fun k_ hk_ hs_ => (hk_.2) hs_)) (fun k_ hk_ => ⟨hk_.1.1, hk_.1.2⟩)); replace HO_516000 := Aside0.mk (Kd.R_mono (ok' := fun k_ => some k_ ≠ (.slice Ao42 t504.length co42 : Value).ownBlock ∧ some k_ ≠ (.slice Ao57 t519.length co57 : Value).ownBlock) (Kd.R_keptB (HO_516000.out) hkp (fun k_ hk_ hs_ => (hk_.2) hs_)) (fun k_ hk_ => ⟨hk_.1.1, hk_.1.2⟩)); replace BK493 := Aside0.mk (blk_kept (bk_ BK493) hkp (fun hs_ => (fun e_ => (Kd.R_ne HO_525000.out BK493.out (by decide)) e_) hs_)); replace BK509 := Aside0.mk (blk_kept (bk_ BK509) hkp (fun hs_ => (fun e_ => (Kd.R_ne HO_525000.out BK509.out (by decide)) e_) hs_)); replace BK515 := Aside0.mk (blk_kept (bk_ BK515) hkp (fun hs_ => (fun e_ => (Kd.R_ne HO_525000.out BK515.out (by decide)) e_) hs_)); replace BK524 := Aside0.mk (blk_kept (bk_ BK524) hkp (fun hs_ => (fun e_ => (Kd.R_ne HO_525000.out BK524.out (by decide)) e_) hs_)); replace HO_525000 := Aside0.mk (Kd.R_reok rfl hy0 (fun k_ e_ => HO_525000.out.1 k_ e_)); replace HB := Aside0.mk (hb); (try clear hb); (try clear hkp); (try clear hy0); obtain ⟨hcz102_0, hcz102_1, hcz102_2, hfz102_0, hfz102_1, hfz102_2⟩ := bc3_ BK524) | ((with_reducible refine gate_callee (f := 14) rfl ?_); refine goesL_ (some 69) rfl rfl Try.func14 (by kernel_rfl) rfl #[.agg #[.slice Ao57 t542.length co57, .int .i64 t522, .int .i64 t523], .int .i64 1] rfl (by (try simp only [List.map_toArray, List.map_cons, List.map_nil]); first | done | (rw [show t542.length = t519.length from (Kd.R_reads' HO_525000.out).1.symm] <;> rfl) | rfl | (simp only [List.length_drop, List.length_take]; rfl)) ?_; (with_reducible refine (laws_heldGroup.calls kj29 _ _ t542 t522 t523 1 t543 _ ?side1 ?side2 A86.out).mono ?_); (case side1 => repeat (first | exact (Kd.R_reads' HO_525000.out).2.2 | (with_reducible refine Kd.C_alloc ?_ _) | (with_reducible refine Kd.C_drewN ?_ _) | (with_reducible refine Kd.C_drew ?_))); (case side2 => rw [show t542.length = t519.length from (Kd.R_reads' HO_525000.out).1.symm]; exact (Kd.R_reads' HO_525000.out).2.1); rintro e w103 ⟨rfl, hb⟩; refine ⟨_, rfl, ?_⟩; replace HO_510000 := rb_ HO_510000 hb; replace HO_516000 := rb_ HO_516000 hb; replace HO_525000 := rb_ HO_525000 hb; replace BK493 := bb_ BK493 hb; replace BK509 := bb_ BK509 hb; replace BK515 := bb_ BK515 hb; replace BK524 := bb_ BK524 hb; replace HB := Aside0.mk (below_step (hw_ HB GE493 GE509 GE515 GE524) hb); (try clear hb); (try clear hb2); (try clear hk); (try clear hi); have hnb104 := NB493_509.out; have hnc104 := NB509_493.out; have hnb105 := NB493_515.out; have hnc105 := NB515_493.out; obtain ⟨hcz106_0, hcz106_1, hcz106_2, hfz106_0, hfz106_1, hfz106_2⟩ := bc3_ BK493) | ((with_reducible refine gate_callee (f := 7) rfl ?_); refine goesL_ (some 76) rfl rfl Try.func7 (by kernel_rfl) rfl #[.agg #[.slice A0_0 l0_0.length c0_0, .int .i64 a0_1, .int .i64 a0_2]] rfl ar_ ?_; (with_reducible refine (laws_toGroup.calls kj29 _ _ l0_0 a0_1 a0_2 t544 t547 t548 _ ?side1 ?side2 A89.out).mono ?_); (case side1 => repeat (first | exact (Kd.C_below HR0_0.out HB.out) | (with_reducible refine Kd.C_alloc ?_ _) | (with_reducible refine Kd.C_drewN ?_ _) | (with_reducible refine Kd.C_drew ?_))); (case side2 => exact HC0_0.out); rintro e w107 ⟨v545, rfl, ho0, hb⟩; refine ⟨_, rfl, ?_⟩; have HO546 := Aside0.mk (Kd.R_lower (Kd.R_new' (Kd.R_new' (Kd.R_new' ho0 (Kd.R_lt (rr_ HO_510000))) (Kd.R_lt (rr_ HO_516000))) (Kd.R_lt (rr_ HO_525000))) (below_size (hw_ HB GE493 GE509 GE515 GE524))); replace HO_510000 := Aside0.mk (Kd.R_elder' (rr_ HO_510000) (Kd.R_base ho0) hb); replace HO_516000 := Aside0.mk (Kd.R_elder' (rr_ HO_516000) (Kd.R_base ho0) hb); replace HO_525000 := Aside0.mk (Kd.R_elder' (rr_ HO_525000) (Kd.R_base ho0) hb); replace BK493 := bb_ BK493 hb; replace BK509 := bb_ BK509 hb; replace BK515 := bb_ BK515 hb; replace BK524 := bb_ BK524 hb; replace HB := Aside0.mk (below_step (hw_ HB GE493 GE509 GE515 GE524) hb); (try clear hb); (try clear hb2); (try clear hk); (try clear hi); (try clear ho0)) | ((with_reducible refine gate_callee (f := 8) rfl ?_); refine goesL_ (some 78) rfl rfl Try.func8 (by kernel_rfl) rfl #[.slice A1 l1.length c1] rfl ar_ ?_; (with_reducible refine (laws_toPlaceS.calls kj29 _ _ l1 t549 _ ?side1 ?side2 A90.out).mono ?_); (case side1 => repeat (first | exact (Kd.C_below HR1.out HB.out) | (with_reducible refine Kd.C_alloc ?_ _) | (with_reducible refine Kd.C_drewN ?_ _) | (with_reducible refine Kd.C_drew ?_))); (case side2 => exact HC1.out); rintro e w108 ⟨v550, rfl, ho0, hb⟩; refine ⟨_, rfl, ?_⟩; replace HO_510000 := rb_ HO_510000 hb; replace HO_516000 := rb_ HO_516000 hb; replace HO_525000 := rb_ HO_525000 hb; replace HO546 := rb_ HO546 hb; have HO551 := Aside0.mk (Kd.R_lower ho0 (below_size (hw_ HB GE493 GE509 GE515 GE524))); replace BK493 := bb_ BK493 hb; replace BK509 := bb_ BK509 hb; replace BK515 := bb_ BK515 hb; replace BK524 := bb_ BK524 hb; replace HB := Aside0.mk (below_step (hw_ HB GE493 GE509 GE515 GE524) hb); (try clear hb); (try clear hb2); (try clear hk); (try clear hi); (try clear ho0); obtain ⟨Ao109, co109, eo109⟩ := Kd.R_slice HO546.out; subst eo109; obtain ⟨Ao110, co110, eo110⟩ := Kd.R_slice HO551.out; subst eo110) | ((with_reducible refine gate_callee (f := 9) rfl ?_); refine goesL_ (some 79) rfl rfl Try.func9 (by kernel_rfl) rfl #[.agg #[.slice Ao109 t544.length co109, .int .i64 t547, .int .i64 t548], .slice Ao110 t549.length co110] rfl ar_ ?_; (with_reducible refine (impl_Regroup.calls kj29 _ _ t544 t547 t548 _ _ t549 t552 t555 t556 _ ?side1 ?side2 ?side3 ?side4 A91.out).mono ?_); (case side1 => repeat (first | exact (Kd.R_reads' HO546.out).2.2 | (with_reducible refine Kd.C_alloc ?_ _) | (with_reducible refine Kd.C_drewN ?_ _) | (with_reducible refine Kd.C_drew ?_))); (case side2 => exact (Kd.R_reads' HO546.out).2.1); (case side3 => repeat (first | exact (Kd.R_reads' HO551.out).2.2 | (with_reducible refine Kd.C_alloc ?_ _) | (with_reducible refine Kd.C_drewN ?_ _) | (with_reducible refine Kd.C_drew ?_))); (case side4 => exact (Kd.R_reads' HO551.out).2.1); rintro e w111 ⟨v553, rfl, ho0, hb⟩; refine ⟨_, rfl, ?_⟩; replace HO551 := rb_ HO551 hb; have HO554 := Aside0.mk (Kd.R_lower (Kd.R_new' (Kd.R_new' (Kd.R_new' (Kd.R_new' ho0 (Kd.R_lt (rr_ HO_510000))) (Kd.R_lt (rr_ HO_516000))) (Kd.R_lt (rr_ HO_525000))) (Kd.R_lt (rr_ HO546))) (below_size (hw_ HB GE493 GE509 GE515 GE524))); replace HO_510000 := Aside0.mk (Kd.R_elder' (rr_ HO_510000) (Kd.R_base ho0) hb); replace HO_516000 := Aside0.mk (Kd.R_elder' (rr_ HO_516000) (Kd.R_base ho0) hb); replace HO_525000 := Aside0.mk (Kd.R_elder' (rr_ HO_525000) (Kd.R_base ho0) hb); replace HO546 := Aside0.mk (Kd.R_elder' (rr_ HO546) (Kd.R_base ho0) hb); replace BK493 := bb_ BK493 hb; replace BK509 := bb_ BK509 hb; replace BK515 := bb_ BK515 hb; replace BK524 := bb_ BK524 hb; replace HB := Aside0.mk (below_step (hw_ HB GE493 GE509 GE515 GE524) hb); (try clear hb); (try clear hb2); (try clear hk); (try clear hi); (try clear ho0)) | ((with_reducible refine gate_dst (N := 13) rfl ?_); refine box_event ?hg (N := 13) ?hd (cs := #[.slice none 0 0, .int .i64 0, .int .i64 0]) (t := 30) ?hr ?_; (case hd => rfl); (case hg => rfl); (case hr => first | (go_simp; done) | (go_simp; rfl)); intro gb557 hg w112 hbox hb; replace HO_510000 := rb_ HO_510000 hb; replace HO_516000 := rb_ HO_516000 hb; replace HO_525000 := rb_ HO_525000 hb; replace HO546 := rb_ HO546 hb; replace HO551 := rb_ HO551 hb; replace HO554 := rb_ HO554 hb; have BK557 := Aside0.mk (hbox); have GE557 := ge_ hg (hw_ HB GE493 GE509 GE515 GE524); replace HB := Aside0.mk (below_step (hw_ HB GE493 GE509 GE515 GE524) hb); have NB493_557 := nl_ BK493 hg; have NB557_493 := ng_ BK493 hg; replace BK493 := bb_ BK493 hb; have NB509_557 := nl_ BK509 hg; have NB557_509 := ng_ BK509 hg; replace BK509 := bb_ BK509 hb; have NB515_557 := nl_ BK515 hg; have NB557_515 := ng_ BK515 hg; replace BK515 := bb_ BK515 hb; have NB524_557 := nl_ BK524 hg; have NB557_524 := ng_ BK524 hg; replace BK524 := bb_ BK524 hb; clear hb hbox hg; obtain ⟨Ao113, co113, eo113⟩ := Kd.R_slice HO554.out; subst eo113; have hnb114 := NB557_493.out; have hnc114 := NB493_557.out; have hnb115 := NB557_509.out; have hnc115 := NB509_557.out; have hnb116 := NB557_515.out; have hnc116 := NB515_557.out; have hnb117 := NB557_524.out; have hnc117 := NB524_557.out; obtain ⟨hcz118_0, hcz118_1, hcz118_2, hfz118_0, hfz118_1, hfz118_2⟩ := bc3_ BK557; have hnb119 := NB509_515.out; have hnc119 := NB515_509.out; obtain ⟨hcz120_0, hcz120_1, hcz120_2, hfz120_0, hfz120_1, hfz120_2⟩ := bc3_ BK509) | ((with_reducible refine gate_callee (f := 10) rfl ?_); refine goesL_ (some 82) rfl rfl Try.func10 (by kernel_rfl) rfl #[.agg #[.slice Ao113 t552.length co113, .int .i64 t555, .int .i64 t556], .agg #[.slice Ao42 t504.length co42, .int .i64 t507, .int .i64 t508]] rfl ar_ ?_; (with_reducible refine (laws_eqGroup.calls kj29 _ _ t552 t555 t556 _ _ t504 t507 t508 true _ ?side1 ?side2 ?side3 ?side4 A92.out).mono ?_); (case side1 => refine (Kd.R_reads' (e := 71) (base := w.heap.size) (ok := fun k_ => ((((True ∧ some k_ ≠ (.slice Ao42 t504.length co42 : Value).ownBlock) ∧ some k_ ≠ (.slice Ao48 t537.length co48 : Value).ownBlock) ∧ some k_ ≠ (.slice Ao57 t519.length co57 : Value).ownBlock) ∧ some k_ ≠ (.slice Ao109 t544.length co109 : Value).ownBlock)) (n := t552.length) (c := co113) ?_).2.2; exact (by (with_reducible repeat (first | apply Kd.R_alloc | apply Kd.R_drewN | apply Kd.R_drew)); exact (Kd.R_mono (Kd.R_far (p := ⟨gb557, 2, none⟩) (Kd.R_far (p := ⟨gb557, 1, none⟩) (Kd.R_far (p := ⟨gb557, 0, none⟩) (Kd.R_types HO554.out BK557.out (by decide)) (fun _ hk => hk.2) (.slice Ao113 t552.length co113)) (fun _ hk => hk.2) (.int .i64 t555)) (fun _ hk => hk.2) (.int .i64 t556)) (fun _ h_ => h_.1)))); (case side2 => exact (Kd.R_reads' HO554.out).2.1); (case side3 => refine (Kd.R_reads' (e := 71) (base := w.heap.size) (ok := fun k_ => (((some k_ ≠ (.slice Ao48 t537.length co48 : Value).ownBlock ∧ some k_ ≠ (.slice Ao57 t519.length co57 : Value).ownBlock) ∧ some k_ ≠ (.slice Ao109 t544.length co109 : Value).ownBlock) ∧ some k_ ≠ (.slice Ao113 t552.length co113 : Value).ownBlock)) (n := t504.length) (c := co42) ?_).2.2; exact (by (with_reducible repeat (first | apply Kd.R_alloc | apply Kd.R_drewN | apply Kd.R_drew)); exact (Kd.R_mono (Kd.R_far (p := ⟨gb557, 2, none⟩) (Kd.R_far (p := ⟨gb557, 1, none⟩) (Kd.R_far (p := ⟨gb557, 0, none⟩) (Kd.R_types HO_510000.out BK557.out (by decide)) (fun _ hk => hk.2) (.slice Ao113 t552.length co113)) (fun _ hk => hk.2) (.int .i64 t555)) (fun _ hk => hk.2) (.int .i64 t556)) (fun _ h_ => h_.1)))); (case side4 => exact (Kd.R_reads' HO_510000.out).2.1); rintro e w121 ⟨rfl, hb⟩; refine ⟨_, rfl, ?_⟩; replace HO_510000 := rfb_ HO_510000 BK557 hb; replace HO_516000 := rfb_ HO_516000 BK557 hb; replace HO_525000 := rfb_ HO_525000 BK557 hb; replace HO546 := rfb_ HO546 BK557 hb; replace HO551 := rfb_ HO551 BK557 hb; replace HO554 := rfb_ HO554 BK557 hb; replace BK493 := bf_ BK493 NB493_557 hb; replace BK509 := bf_ BK509 NB509_557 hb; replace BK515 := bf_ BK515 NB515_557 hb; replace BK524 := bf_ BK524 NB524_557 hb; replace BK557 := bp_ #[.slice Ao113 t552.length co113, .int .i64 t555, .int .i64 t556] BK557 hb; replace HB := Aside0.mk (below_step (hz_ HB) hb); (try clear hb); (try clear hb2); (try clear hk); (try clear hi); obtain ⟨hcz122_0, hcz122_1, hcz122_2, hfz122_0, hfz122_1, hfz122_2⟩ := bc3_ BK524) | ((with_reducible refine gate_callee (f := 14) rfl ?_); refine goesL_ (some 86) rfl rfl Try.func14 (by kernel_rfl) rfl #[.agg #[.slice Ao57 t542.length co57, .int .i64 t522, .int .i64 t523], .int .i64 1] rfl (by (try simp only [List.map_toArray, List.map_cons, List.map_nil]); first | done | (rw [show t542.length = t519.length from (Kd.R_reads' HO_525000.out).1.symm] <;> rfl) | rfl | (simp only [List.length_drop, List.length_take]; rfl)) ?_; (with_reducible refine (laws_heldGroup.calls kj29 _ _ t542 t522 t523 1 t559 _ ?side1 ?side2 A94.out).mono ?_); (case side1 => repeat (first | exact (Kd.R_reads' HO_525000.out).2.2 | (with_reducible refine Kd.C_alloc ?_ _) | (with_reducible refine Kd.C_drewN ?_ _) | (with_reducible refine Kd.C_drew ?_))); (case side2 => rw [show t542.length = t519.length from (Kd.R_reads' HO_525000.out).1.symm]; exact (Kd.R_reads' HO_525000.out).2.1); rintro e w123 ⟨rfl, hb⟩; refine ⟨_, rfl, ?_⟩; replace HO_510000 := rb_ HO_510000 hb; replace HO_516000 := rb_ HO_516000 hb; replace HO_525000 := rb_ HO_525000 hb; replace HO546 := rb_ HO546 hb; replace HO551 := rb_ HO551 hb; replace HO554 := rb_ HO554 hb; replace BK493 := bb_ BK493 hb; replace BK509 := bb_ BK509 hb; replace BK515 := bb_ BK515 hb; replace BK524 := bb_ BK524 hb; replace BK557 := bb_ BK557 hb; replace HB := Aside0.mk (below_step (hz_ HB) hb); (try clear hb); (try clear hb2); (try clear hk); (try clear hi)))
              go_ret
              exact ⟨re_, hz_ HB⟩
             ·rw [if_neg c96] at H
              have c96b0 : (t559 == t541) = false := beq_eq_false_iff_ne.mpr c96
              have c96b1 : (t559 != t541) = true := bne_iff_ne.mpr c96
              exact absurd ((Option.some.inj H).trans HRT.out) (by decide)
           ·replace c93 := Bool.eq_false_iff.mpr c93
            subst c93
            rw [if_neg ff_] at H
            exact absurd ((Option.some.inj H).trans HRT.out) (by decide)
          ·rw [if_neg c88] at H
           have c88b0 : (t543 == t541) = false := beq_eq_false_iff_ne.mpr c88
           have c88b1 : (t543 != t541) = true := bne_iff_ne.mpr c88
           exact absurd ((Option.some.inj H).trans HRT.out) (by decide)
     ·replace c27 := Bool.eq_false_iff.mpr c27
      subst c27
      rw [if_neg ff_] at H
      exact absurd ((Option.some.inj H).trans HRT.out) (by decide)
    ·replace c24 := Bool.eq_false_iff.mpr c24
     subst c24
     rw [if_neg ff_] at H
     exact absurd ((Option.some.inj H).trans HRT.out) (by decide)
   ·replace c21 := Bool.eq_false_iff.mpr c21
    subst c21
    rw [if_neg ff_] at H
    exact absurd ((Option.some.inj H).trans HRT.out) (by decide)

/-- THE ONE PURE STATEMENT of laws_FnExactRegroup. -/
def laws_FnExactRegroup.Pure : Prop := ∀ (l0_0 : List (S64)) (a0_1 : Int) (a0_2 : Int) (l1 : List (S45)), (l0_0.length ≤ maxLen ∧ ∀ z ∈ l0_0, (z.f0.size ≤ maxLen) ∧ ((Lit.int .i64 z.f1).wf = true) ∧ ((Lit.int .i64 z.f2).wf = true) ∧ ((Lit.int .i64 z.f3).wf = true) ∧ ((Lit.int .i64 z.f4).wf = true)) → ((Lit.int .i64 a0_1).wf = true) → ((Lit.int .i64 a0_2).wf = true) → (l1.length ≤ maxLen ∧ ∀ z ∈ l1, ((Lit.int .i64 z.f0).wf = true) ∧ ((Lit.int .i64 z.f1).wf = true) ∧ ((Lit.int .i64 z.f2).wf = true) ∧ (((Lit.int .i64 z.f3.f0).wf = true) ∧ ((Lit.int .i64 z.f3.f1).wf = true) ∧ (z.f3.f2.size ≤ maxLen) ∧ (z.f3.f3.size ≤ maxLen) ∧ ((Lit.int .i64 z.f3.f4).wf = true) ∧ ((Lit.int .i64 z.f3.f5).wf = true))) → ∃ k, laws_FnExactRegroup.f k l0_0 a0_1 a0_2 l1 = some true

end Go.Proofs.Ytcnmdjibogojnaa.PFnExactRegroup
