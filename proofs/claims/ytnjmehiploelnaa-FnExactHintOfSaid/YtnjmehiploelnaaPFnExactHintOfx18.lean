-- Laid by a program of this session, a copy of the kit's printer with additions (wip/patch_print.py): myhead. Lean checks it.
import Derived.Test.YtnjmehiploelnaaPFnExactHintOfx0
import Derived.Test.YtnjmehiploelnaaPFnExactHintOfx8
import Derived.Test.YtnjmehiploelnaaPFnExactHintOfx15
import Derived.Test.YtnjmehiploelnaaPFnExactHintOfx16
import Derived.Test.YtnjmehiploelnaaPFnExactHintOfx17
namespace Go.Proofs.Ytnjmehiploelnaa.PFnExactHintOf
open Go.RowKit Go.Proofs.YtnjmehiploelnaaW.PrintWords Go.Proofs.YtnjmehiploelnaaW.PrintLast Go.Proofs.YtnjmehiploelnaaW.PrintMore
attribute [local go_sem] max2_int min2_int max_two min_two max_three min_three max_four min_four   -- for this text's walks alone
set_option linter.unusedVariables false
set_option linter.unusedSimpArgs false

/-! ### laws_heldHint: function 19 -/
def laws_heldHint.f (k : Nat) (a0_0 : Int) (a0_1 : Int) (l0_2 : List (S68)) (a1 : Int) : Option (Int) := (laws_heldEntryS.f k l0_2 a1).bind fun t382 => (if t382 < 0 then (some (-1)) else (some t382))
theorem laws_heldHint.mono : ∀ a0 a1 a2 a3 k, LeO (laws_heldHint.f k a0 a1 a2 a3) (laws_heldHint.f (k + 1) a0 a1 a2 a3) := by
 intro a0 a1 a2 a3 k
 unfold laws_heldHint.f
 repeat' first | (with_reducible first | exact laws_heldEntryS.mono .. | exact LeO.refl .. | exact LeO.none .. | refine LeO.ite ?_ ?_ | refine LeO.bind ?_ (fun _ => ?_)) | exact laws_heldEntryS.mono .. | exact LeO.none .. | refine LeO.ite ?_ ?_ | refine LeO.bind ?_ (fun _ => ?_)
set_option maxHeartbeats 80000000 in
set_option maxRecDepth 100000 in
theorem laws_heldHint.calls (k : Nat) (a0_0 : Int) (a0_1 : Int) (A0_2 : Option Addr) (c0_2 : Nat) (l0_2 : List (S68)) (a1 : Int) (r : Int) (w : World) (hr0_2 : Kd.C k68 w A0_2 l0_2.length l0_2) (hc0_2 : l0_2.length ≤ c0_2) (h : laws_heldHint.f k a0_0 a0_1 l0_2 a1 = some r) :
  Calls Try.prog 19 #[.agg #[.int .i64 a0_0, .int .i64 a0_1, .slice A0_2 l0_2.length c0_2], .int .i64 a1] w fun e w' => e = .returned (.int .i64 r) ∧ Below w.heap.size w w' := by
 have hu40 := Try.underlying40
 have HR0_2 := Aside0.mk hr0_2
 have HC0_2 := Aside0.mk hc0_2
 clear hr0_2 hc0_2
 have HB := Aside0.mk (Below.refl w.heap.size w)
 have H : ((laws_heldEntryS.f k l0_2 a1).bind fun t382 => (if t382 < 0 then (some (-1)) else (some t382))) = some r := h
 clear h
 replace H := Option.bind_eq_some_iff.mp H
 obtain ⟨t382, A30, H⟩ := H
 replace H : (if t382 < 0 then (some (-1)) else (some t382)) = some r := H
 have A3 := Aside0.mk A30
 clear A30
 by_cases c4 : t382 < 0
 ·rw [if_pos c4] at H
  have c4b0 : decide (t382 < 0) = true := decide_eq_true c4
  clear c4
  obtain rfl := Option.some.inj H
  go_enter Try.func19, Try.ntmps19
  go_wp2_with (first | ((with_reducible refine gate_dst (N := 2) rfl ?_); refine box_event ?hg (N := 2) ?hd (cs := #[.int .i64 a0_0, .int .i64 a0_1, .slice A0_2 l0_2.length c0_2]) (t := 40) ?hr ?_; (case hd => rfl); (case hg => rfl); (case hr => first | (go_simp; done) | (go_simp; rfl)); intro gb381 hg w5 hbox hb; have BK381 := Aside0.mk (hbox); have GW381 := ge_ hg (hb_ HB); have GE381 := ge_ hg (hb_ HB); replace HB := bs_ HB hb; clear hb hbox hg; obtain ⟨hcz6_0, hcz6_1, hcz6_2, hfz6_0, hfz6_1, hfz6_2⟩ := bc3_ BK381) | ((with_reducible refine gate_callee (f := 43) rfl ?_); refine goesL_ (some 8) rfl rfl Try.func43 (by kernel_rfl) rfl #[.slice A0_2 l0_2.length c0_2, .int .i64 a1] rfl ar_ ?_; (with_reducible refine (laws_heldEntryS.calls k _ _ l0_2 a1 t382 _ ?side1 ?side2 A3.out).mono ?_); (case side1 => repeat (first | exact (Kd.C_below HR0_2.out HB.out) | (with_reducible refine Kd.C_alloc ?_ _) | (with_reducible refine Kd.C_drewN ?_ _) | (with_reducible refine Kd.C_drew ?_))); (case side2 => exact HC0_2.out); rintro e w7 ⟨rfl, hb⟩; refine ⟨_, rfl, ?_⟩; replace BK381 := bb_ BK381 hb; replace HB := bt_ HB GE381 hb; (try clear hb); (try clear hb2); (try clear hk); (try clear hi)))
  go_ret
  exact ⟨re_, hs_ HB GE381⟩
 ·rw [if_neg c4] at H
  have c4b0 : decide (t382 < 0) = false := decide_eq_false c4
  clear c4
  obtain rfl := Option.some.inj H
  go_enter Try.func19, Try.ntmps19
  go_wp2_with (first | ((with_reducible refine gate_dst (N := 2) rfl ?_); refine box_event ?hg (N := 2) ?hd (cs := #[.int .i64 a0_0, .int .i64 a0_1, .slice A0_2 l0_2.length c0_2]) (t := 40) ?hr ?_; (case hd => rfl); (case hg => rfl); (case hr => first | (go_simp; done) | (go_simp; rfl)); intro gb381 hg w8 hbox hb; have BK381 := Aside0.mk (hbox); have GW381 := ge_ hg (hb_ HB); have GE381 := ge_ hg (hb_ HB); replace HB := bs_ HB hb; clear hb hbox hg; obtain ⟨hcz9_0, hcz9_1, hcz9_2, hfz9_0, hfz9_1, hfz9_2⟩ := bc3_ BK381) | ((with_reducible refine gate_callee (f := 43) rfl ?_); refine goesL_ (some 8) rfl rfl Try.func43 (by kernel_rfl) rfl #[.slice A0_2 l0_2.length c0_2, .int .i64 a1] rfl ar_ ?_; (with_reducible refine (laws_heldEntryS.calls k _ _ l0_2 a1 t382 _ ?side1 ?side2 A3.out).mono ?_); (case side1 => repeat (first | exact (Kd.C_below HR0_2.out HB.out) | (with_reducible refine Kd.C_alloc ?_ _) | (with_reducible refine Kd.C_drewN ?_ _) | (with_reducible refine Kd.C_drew ?_))); (case side2 => exact HC0_2.out); rintro e w10 ⟨rfl, hb⟩; refine ⟨_, rfl, ?_⟩; replace BK381 := bb_ BK381 hb; replace HB := bt_ HB GE381 hb; (try clear hb); (try clear hb2); (try clear hk); (try clear hi)))
  go_ret
  exact ⟨re_, hs_ HB GE381⟩

/-! ### laws_FnExactHintOf: function 4 -/
mutual
def laws_FnExactHintOf.j0 : Nat → Int → ByteArray → Bool → Bool → Int → Int → List (S68) → Int → Int → List (S68) → Option (Bool)
 | 0, _, _, _, _, _, _, _, _, _, _ => none
 | k + 1, x0, x1, x6, x36, x390000, x390001, x390002, x397000, x397001, x397002 => if x36 = true then (some false) else ((laws_markHint.f k x397000 x397001 x397002 1).bind fun bt398 => ((laws_heldHint.f k x397000 x397001 bt398.2 1).bind fun t400 => (if t400 < 0 then (some false) else (if t400 = bt398.1 then ((impl_HintOf.f k x0 x1).bind fun bt401 => ((laws_eqHint.f k bt401.1 bt401.2.1 bt401.2.2.1 x390000 x390001 x390002).bind fun t408 => (if t408 = true then (laws_FnExactHintOf.j1 k bt398.1 (bt401.2.2.2 != x6) x397000 x397001 bt398.2) else (laws_FnExactHintOf.j1 k bt398.1 true x397000 x397001 bt398.2)))) else (some false)))))
def laws_FnExactHintOf.j1 : Nat → Int → Bool → Int → Int → List (S68) → Option (Bool)
 | 0, _, _, _, _, _ => none
 | k + 1, x9, x62, x397000, x397001, x397002 => if x62 = true then (some false) else ((laws_heldHint.f k x397000 x397001 x397002 1).bind fun t409 => (if t409 < 0 then (some false) else (if t409 = x9 then (some true) else (some false))))
end
def laws_FnExactHintOf.f (k : Nat) (a0 : Int) (a1 : ByteArray) : Option (Bool) := if (a1.size : Int) > 1048576 then (some true) else ((spec_HintOf.f k a0 a1).bind fun bt383 => ((impl_HintOf.f k a0 a1).bind fun bt390 => ((laws_eqHint.f k bt390.1 bt390.2.1 bt390.2.2.1 bt383.1 bt383.2.1 bt383.2.2.1).bind fun t397 => (if t397 = true then (laws_FnExactHintOf.j0 k a0 a1 bt383.2.2.2 (bt390.2.2.2 != bt383.2.2.2) bt383.1 bt383.2.1 bt383.2.2.1 bt390.1 bt390.2.1 bt390.2.2.1) else (laws_FnExactHintOf.j0 k a0 a1 bt383.2.2.2 true bt383.1 bt383.2.1 bt383.2.2.1 bt390.1 bt390.2.1 bt390.2.2.1)))))
theorem laws_FnExactHintOf.mono_l : ∀ k, (∀ y0 y1 y2 y3 y4 y5 y6 y7 y8 y9, LeO (laws_FnExactHintOf.j0 k y0 y1 y2 y3 y4 y5 y6 y7 y8 y9) (laws_FnExactHintOf.j0 (k + 1) y0 y1 y2 y3 y4 y5 y6 y7 y8 y9)) ∧ (∀ y0 y1 y2 y3 y4, LeO (laws_FnExactHintOf.j1 k y0 y1 y2 y3 y4) (laws_FnExactHintOf.j1 (k + 1) y0 y1 y2 y3 y4))
 | 0 => ⟨fun _ _ _ _ _ _ _ _ _ _ r h => by simp [laws_FnExactHintOf.j0] at h, fun _ _ _ _ _ r h => by simp [laws_FnExactHintOf.j1] at h⟩
 | k + 1 => by
  obtain ⟨ih0, ih1⟩ := laws_FnExactHintOf.mono_l k
  refine ⟨?_, ?_⟩
  ·intro y0 y1 y2 y3 y4 y5 y6 y7 y8 y9
   unfold laws_FnExactHintOf.j0
   repeat' first | (with_reducible first | exact ih0 .. | exact ih1 .. | exact impl_HintOf.mono .. | exact laws_eqHint.mono .. | exact laws_heldHint.mono .. | exact laws_markHint.mono .. | exact spec_HintOf.mono .. | exact LeO.refl .. | exact LeO.none .. | refine LeO.ite ?_ ?_ | refine LeO.bind ?_ (fun _ => ?_)) | exact ih0 .. | exact ih1 .. | exact impl_HintOf.mono .. | exact laws_eqHint.mono .. | exact laws_heldHint.mono .. | exact laws_markHint.mono .. | exact spec_HintOf.mono .. | exact LeO.none .. | refine LeO.ite ?_ ?_ | refine LeO.bind ?_ (fun _ => ?_)
  ·intro y0 y1 y2 y3 y4
   unfold laws_FnExactHintOf.j1
   repeat' first | (with_reducible first | exact ih0 .. | exact ih1 .. | exact impl_HintOf.mono .. | exact laws_eqHint.mono .. | exact laws_heldHint.mono .. | exact laws_markHint.mono .. | exact spec_HintOf.mono .. | exact LeO.refl .. | exact LeO.none .. | refine LeO.ite ?_ ?_ | refine LeO.bind ?_ (fun _ => ?_)) | exact ih0 .. | exact ih1 .. | exact impl_HintOf.mono .. | exact laws_eqHint.mono .. | exact laws_heldHint.mono .. | exact laws_markHint.mono .. | exact spec_HintOf.mono .. | exact LeO.none .. | refine LeO.ite ?_ ?_ | refine LeO.bind ?_ (fun _ => ?_)
theorem laws_FnExactHintOf.mono : ∀ a0 a1 k, LeO (laws_FnExactHintOf.f k a0 a1) (laws_FnExactHintOf.f (k + 1) a0 a1) := by
 intro a0 a1 k
 obtain ⟨ih0, ih1⟩ := laws_FnExactHintOf.mono_l k
 unfold laws_FnExactHintOf.f
 repeat' first | (with_reducible first | exact ih0 .. | exact ih1 .. | exact impl_HintOf.mono .. | exact laws_eqHint.mono .. | exact laws_heldHint.mono .. | exact laws_markHint.mono .. | exact spec_HintOf.mono .. | exact LeO.refl .. | exact LeO.none .. | refine LeO.ite ?_ ?_ | refine LeO.bind ?_ (fun _ => ?_)) | exact ih0 .. | exact ih1 .. | exact impl_HintOf.mono .. | exact laws_eqHint.mono .. | exact laws_heldHint.mono .. | exact laws_markHint.mono .. | exact spec_HintOf.mono .. | exact LeO.none .. | refine LeO.ite ?_ ?_ | refine LeO.bind ?_ (fun _ => ?_)
set_option maxHeartbeats 80000000 in
set_option maxRecDepth 100000 in
theorem laws_FnExactHintOf.calls (k : Nat) (a0 : Int) (a1 : ByteArray) (r : Bool) (w : World) (hrt : r = true) (h : laws_FnExactHintOf.f k a0 a1 = some r) :
  Calls Try.prog 4 #[.int .i64 a0, .string a1] w fun e w' => e = .returned (.bool r) ∧ Below w.heap.size w w' := by
 have hu40 := Try.underlying40
 have HRT := Aside0.mk hrt
 clear hrt
 have HB := Aside0.mk (Below.refl w.heap.size w)
 have H : (if (a1.size : Int) > 1048576 then (some true) else ((spec_HintOf.f k a0 a1).bind fun bt383 => ((impl_HintOf.f k a0 a1).bind fun bt390 => ((laws_eqHint.f k bt390.1 bt390.2.1 bt390.2.2.1 bt383.1 bt383.2.1 bt383.2.2.1).bind fun t397 => (if t397 = true then (laws_FnExactHintOf.j0 k a0 a1 bt383.2.2.2 (bt390.2.2.2 != bt383.2.2.2) bt383.1 bt383.2.1 bt383.2.2.1 bt390.1 bt390.2.1 bt390.2.2.1) else (laws_FnExactHintOf.j0 k a0 a1 bt383.2.2.2 true bt383.1 bt383.2.1 bt383.2.2.1 bt390.1 bt390.2.1 bt390.2.2.1)))))) = some r := h
 clear h
 by_cases c3 : (a1.size : Int) > 1048576
 ·rw [if_pos c3] at H
  have c3b0 : decide (1048576 < (a1.size : Int)) = true := decide_eq_true c3
  have c3b1 : decide (1048576 < a1.size) = true := decide_eq_true (by omega)
  clear c3
  obtain rfl := Option.some.inj H
  go_enter Try.func4, Try.ntmps4
  go_wp2
  go_ret
  exact ⟨re_, hb_ HB⟩
 ·rw [if_neg c3] at H
  have c3b0 : decide (1048576 < (a1.size : Int)) = false := decide_eq_false c3
  have c3b1 : decide (1048576 < a1.size) = false := decide_eq_false (by omega)
  clear c3
  replace H := Option.bind_eq_some_iff.mp H
  obtain ⟨⟨t383, t384, t385, t388⟩, A40, H⟩ := H
  replace H : ((impl_HintOf.f k a0 a1).bind fun bt390 => ((laws_eqHint.f k bt390.1 bt390.2.1 bt390.2.2.1 t383 t384 t385).bind fun t397 => (if t397 = true then (laws_FnExactHintOf.j0 k a0 a1 t388 (bt390.2.2.2 != t388) t383 t384 t385 bt390.1 bt390.2.1 bt390.2.2.1) else (laws_FnExactHintOf.j0 k a0 a1 t388 true t383 t384 t385 bt390.1 bt390.2.1 bt390.2.2.1)))) = some r := H
  have A4 := Aside0.mk A40
  clear A40
  replace H := Option.bind_eq_some_iff.mp H
  obtain ⟨⟨t390, t391, t392, t395⟩, A50, H⟩ := H
  replace H : ((laws_eqHint.f k t390 t391 t392 t383 t384 t385).bind fun t397 => (if t397 = true then (laws_FnExactHintOf.j0 k a0 a1 t388 (t395 != t388) t383 t384 t385 t390 t391 t392) else (laws_FnExactHintOf.j0 k a0 a1 t388 true t383 t384 t385 t390 t391 t392))) = some r := H
  have A5 := Aside0.mk A50
  clear A50
  have HC6 := Aside0.mk H
  clear H
  go_enter Try.func4, Try.ntmps4
  go_upto_region 5 with (first | ((with_reducible refine gate_callee (f := 15) rfl ?_); refine goesL_ (some 19) rfl rfl Try.func15 (by kernel_rfl) rfl #[.int .i64 a0, .string a1] rfl ar_ ?_; (with_reducible refine (spec_HintOf.calls k a0 a1 t383 t384 t385 t388 _ A4.out).mono ?_); rintro e w7 ⟨v386, rfl, ho0, hb⟩; refine ⟨_, rfl, ?_⟩; have HO387 := Aside0.mk (Kd.R_lower ho0 (below_size (hb_ HB))); replace HB := bs_ HB hb; (try clear hb); (try clear hb2); (try clear hk); (try clear hi); (try clear ho0)) | ((with_reducible refine gate_dst (N := 5) rfl ?_); refine box_event ?hg (N := 5) ?hd (cs := #[.int .i64 0, .int .i64 0, .slice none 0 0]) (t := 40) ?hr ?_; (case hd => rfl); (case hg => rfl); (case hr => first | (go_simp; done) | (go_simp; rfl)); intro gb389 hg w8 hbox hb; replace HO387 := rb_ HO387 hb; have BK389 := Aside0.mk (hbox); have GW389 := ge_ hg (hb_ HB); have GE389 := ge_ hg (hb_ HB); replace HB := bs_ HB hb; clear hb hbox hg; obtain ⟨hcz9_0, hcz9_1, hcz9_2, hfz9_0, hfz9_1, hfz9_2⟩ := bc3_ BK389; obtain ⟨Ao10, co10, eo10⟩ := Kd.R_slice HO387.out; subst eo10) | ((with_reducible refine gate_callee (f := 16) rfl ?_); refine goesL_ (some 25) rfl rfl Try.func16 (by kernel_rfl) rfl #[.int .i64 a0, .string a1] rfl ar_ ?_; (with_reducible refine (impl_HintOf.calls k a0 a1 t390 t391 t392 t395 _ A5.out).mono ?_); rintro e w11 ⟨v393, rfl, ho0, hb⟩; refine ⟨_, rfl, ?_⟩; have HO394 := Aside0.mk (Kd.R_lower (Kd.R_new' ho0 (Kd.R_lt (by (with_reducible repeat (first | apply Kd.R_alloc | apply Kd.R_drewN | apply Kd.R_drew)); exact (Kd.R_mono (Kd.R_far (p := ⟨gb389, 2, none⟩) (Kd.R_far (p := ⟨gb389, 1, none⟩) (Kd.R_far (p := ⟨gb389, 0, none⟩) (Kd.R_types HO387.out BK389.out (by decide)) (fun _ hk => hk.2) (.int .i64 t383)) (fun _ hk => hk.2) (.int .i64 t384)) (fun _ hk => hk.2) (.slice Ao10 t385.length co10)) (fun _ h_ => h_.1))))) (below_size (hs_ HB GE389))); replace HO387 := Aside0.mk (Kd.R_elder' (by (with_reducible repeat (first | apply Kd.R_alloc | apply Kd.R_drewN | apply Kd.R_drew)); exact (Kd.R_mono (Kd.R_far (p := ⟨gb389, 2, none⟩) (Kd.R_far (p := ⟨gb389, 1, none⟩) (Kd.R_far (p := ⟨gb389, 0, none⟩) (Kd.R_types HO387.out BK389.out (by decide)) (fun _ hk => hk.2) (.int .i64 t383)) (fun _ hk => hk.2) (.int .i64 t384)) (fun _ hk => hk.2) (.slice Ao10 t385.length co10)) (fun _ h_ => h_.1))) (Kd.R_base ho0) hb); replace BK389 := bp_ #[.int .i64 t383, .int .i64 t384, .slice Ao10 t385.length co10] BK389 hb; replace HB := bt_ HB GE389 hb; (try clear hb); (try clear hb2); (try clear hk); (try clear hi); (try clear ho0)) | ((with_reducible refine gate_dst (N := 7) rfl ?_); refine box_event ?hg (N := 7) ?hd (cs := #[.int .i64 0, .int .i64 0, .slice none 0 0]) (t := 40) ?hr ?_; (case hd => rfl); (case hg => rfl); (case hr => first | (go_simp; done) | (go_simp; rfl)); intro gb396 hg w12 hbox hb; replace HO387 := rb_ HO387 hb; replace HO394 := rb_ HO394 hb; have BK396 := Aside0.mk (hbox); have GW396 := ge_ hg (hs_ HB GE389); have GE396 := ge_ hg (hs_ HB GE389); replace HB := bt_ HB GE389 hb; have NB389_396 := nl_ BK389 hg; have NB396_389 := ng_ BK389 hg; replace BK389 := bb_ BK389 hb; clear hb hbox hg; have hnb13 := NB396_389.out; have hnc13 := NB389_396.out; obtain ⟨hcz14_0, hcz14_1, hcz14_2, hfz14_0, hfz14_1, hfz14_2⟩ := bc3_ BK396; obtain ⟨Ao15, co15, eo15⟩ := Kd.R_slice HO394.out; subst eo15))
  (try simp only [Act.put, la_, lz_, ls_])
  go_cut [36] (fun v36 wc => ∃ (kq : Nat) (x36_5 : Bool), v36 = .bool x36_5 ∧ Aside0 (laws_FnExactHintOf.j0 kq a0 a1 t388 x36_5 t383 t384 t385 t390 t391 t392 = some r) ∧ Aside0 (kq ≤ k) ∧ Aside0 (Kd.R k68 68 wc w.heap.size (fun k_ => some k_ ≠ ((.slice Ao15 t392.length co15) : Value).ownBlock) (.slice Ao10 t385.length co10) t385) ∧ Aside0 (Kd.R k68 68 wc w.heap.size (fun k_ => some k_ ≠ ((.slice Ao10 t385.length co10) : Value).ownBlock) (.slice Ao15 t392.length co15) t392) ∧ Aside0 (wc.heap[gb389]? = some (.cells #[.int .i64 t383, .int .i64 t384, (.slice Ao10 t385.length co10)] 40 (0, 0))) ∧ Aside0 (wc.heap[gb396]? = some (.cells #[.int .i64 t390, .int .i64 t391, (.slice Ao15 t392.length co15)] 40 (0, 0))) ∧ Aside0 (Below w.heap.size w wc))
  case first =>
   have H := HC6.out
   clear HC6
   replace H := Option.bind_eq_some_iff.mp H
   obtain ⟨t397, A160, H⟩ := H
   replace H : (if t397 = true then (laws_FnExactHintOf.j0 k a0 a1 t388 (t395 != t388) t383 t384 t385 t390 t391 t392) else (laws_FnExactHintOf.j0 k a0 a1 t388 true t383 t384 t385 t390 t391 t392)) = some r := H
   have A16 := Aside0.mk A160
   clear A160
   by_cases c17 : t397 = true
   ·subst c17
    have H1 : (laws_FnExactHintOf.j0 k a0 a1 t388 (t395 != t388) t383 t384 t385 t390 t391 t392) = some r := by rw [if_pos rfl] at H; exact H
    clear H
    have H := H1
    clear H1
    have H' := Aside0.mk H
    clear H
    have hnb18 := NB396_389.out
    have hnc18 := NB389_396.out
    obtain ⟨hcz19_0, hcz19_1, hcz19_2, hfz19_0, hfz19_1, hfz19_2⟩ := bc3_ BK396
    obtain ⟨hcz20_0, hcz20_1, hcz20_2, hfz20_0, hfz20_1, hfz20_2⟩ := bc3_ BK389
    go_wp2_with (first | ((with_reducible refine gate_callee (f := 17) rfl ?_); refine goesL_ (some 30) rfl rfl Try.func17 (by kernel_rfl) rfl #[.agg #[.int .i64 t390, .int .i64 t391, .slice Ao15 t392.length co15], .agg #[.int .i64 t383, .int .i64 t384, .slice Ao10 t385.length co10]] rfl ar_ ?_; (with_reducible refine (laws_eqHint.calls k t390 t391 _ _ t392 t383 t384 _ _ t385 true _ ?side1 ?side2 ?side3 ?side4 A16.out).mono ?_); (case side1 => refine (Kd.R_reads' (e := 68) (base := w.heap.size) (ok := fun k_ => (True ∧ some k_ ≠ (.slice Ao10 t385.length co10 : Value).ownBlock)) (n := t392.length) (c := co15) ?_).2.2; exact (by (with_reducible repeat (first | apply Kd.R_alloc | apply Kd.R_drewN | apply Kd.R_drew)); exact (Kd.R_mono (Kd.R_far (p := ⟨gb396, 2, none⟩) (Kd.R_far (p := ⟨gb396, 1, none⟩) (Kd.R_far (p := ⟨gb396, 0, none⟩) (Kd.R_types HO394.out BK396.out (by decide)) (fun _ hk => hk.2) (.int .i64 t390)) (fun _ hk => hk.2) (.int .i64 t391)) (fun _ hk => hk.2) (.slice Ao15 t392.length co15)) (fun _ h_ => h_.1)))); (case side2 => exact (Kd.R_reads' HO394.out).2.1); (case side3 => refine (Kd.R_reads' (e := 68) (base := w.heap.size) (ok := fun k_ => (True ∧ some k_ ≠ (.slice Ao15 t392.length co15 : Value).ownBlock)) (n := t385.length) (c := co10) ?_).2.2; exact (by (with_reducible repeat (first | apply Kd.R_alloc | apply Kd.R_drewN | apply Kd.R_drew)); exact (Kd.R_mono (Kd.R_far (p := ⟨gb396, 2, none⟩) (Kd.R_far (p := ⟨gb396, 1, none⟩) (Kd.R_far (p := ⟨gb396, 0, none⟩) (Kd.R_types HO387.out BK396.out (by decide)) (fun _ hk => hk.2) (.int .i64 t390)) (fun _ hk => hk.2) (.int .i64 t391)) (fun _ hk => hk.2) (.slice Ao15 t392.length co15)) (fun _ h_ => h_.1)))); (case side4 => exact (Kd.R_reads' HO387.out).2.1); rintro e w21 ⟨rfl, hb⟩; refine ⟨_, rfl, ?_⟩; replace HO387 := rfb_ HO387 BK396 hb; replace HO394 := rfb_ HO394 BK396 hb; replace BK389 := bf_ BK389 NB389_396 hb; replace BK396 := bp_ #[.int .i64 t390, .int .i64 t391, .slice Ao15 t392.length co15] BK396 hb; replace HB := bu_ HB GE389 GE396 hb; (try clear hb); (try clear hb2); (try clear hk); (try clear hi)))
    go_meet
    case rel => exact ⟨_, ((t395 != t388)), rs_, H', ⟨by first | exact Nat.le_refl _ | exact Nat.le_of_succ_le this | omega⟩, ⟨by (with_reducible repeat (first | apply Kd.R_alloc | apply Kd.R_drewN | apply Kd.R_drew)); exact Kd.R_mono HO387.out (fun _ hk => hk.2)⟩, ⟨by (with_reducible repeat (first | apply Kd.R_alloc | apply Kd.R_drewN | apply Kd.R_drew)); exact Kd.R_mono HO394.out (fun _ hk => hk.2)⟩, ⟨bk_ BK389⟩, ⟨bk_ BK396⟩, ⟨by repeat (first | (with_reducible first | exact HB.out | apply below_alloc | apply pw_below_drewN | apply below_drew1 | refine below_set ?_ GE389.out | refine below_set ?_ GE396.out) | exact HB.out)⟩⟩
   ·replace c17 := Bool.eq_false_iff.mpr c17
    subst c17
    have H1 : (laws_FnExactHintOf.j0 k a0 a1 t388 true t383 t384 t385 t390 t391 t392) = some r := by rw [if_neg (show ¬ (false = true) by decide)] at H; exact H
    clear H
    have H := H1
    clear H1
    have H' := Aside0.mk H
    clear H
    have hnb22 := NB396_389.out
    have hnc22 := NB389_396.out
    obtain ⟨hcz23_0, hcz23_1, hcz23_2, hfz23_0, hfz23_1, hfz23_2⟩ := bc3_ BK396
    obtain ⟨hcz24_0, hcz24_1, hcz24_2, hfz24_0, hfz24_1, hfz24_2⟩ := bc3_ BK389
    go_wp2_with (first | ((with_reducible refine gate_callee (f := 17) rfl ?_); refine goesL_ (some 30) rfl rfl Try.func17 (by kernel_rfl) rfl #[.agg #[.int .i64 t390, .int .i64 t391, .slice Ao15 t392.length co15], .agg #[.int .i64 t383, .int .i64 t384, .slice Ao10 t385.length co10]] rfl ar_ ?_; (with_reducible refine (laws_eqHint.calls k t390 t391 _ _ t392 t383 t384 _ _ t385 false _ ?side1 ?side2 ?side3 ?side4 A16.out).mono ?_); (case side1 => refine (Kd.R_reads' (e := 68) (base := w.heap.size) (ok := fun k_ => (True ∧ some k_ ≠ (.slice Ao10 t385.length co10 : Value).ownBlock)) (n := t392.length) (c := co15) ?_).2.2; exact (by (with_reducible repeat (first | apply Kd.R_alloc | apply Kd.R_drewN | apply Kd.R_drew)); exact (Kd.R_mono (Kd.R_far (p := ⟨gb396, 2, none⟩) (Kd.R_far (p := ⟨gb396, 1, none⟩) (Kd.R_far (p := ⟨gb396, 0, none⟩) (Kd.R_types HO394.out BK396.out (by decide)) (fun _ hk => hk.2) (.int .i64 t390)) (fun _ hk => hk.2) (.int .i64 t391)) (fun _ hk => hk.2) (.slice Ao15 t392.length co15)) (fun _ h_ => h_.1)))); (case side2 => exact (Kd.R_reads' HO394.out).2.1); (case side3 => refine (Kd.R_reads' (e := 68) (base := w.heap.size) (ok := fun k_ => (True ∧ some k_ ≠ (.slice Ao15 t392.length co15 : Value).ownBlock)) (n := t385.length) (c := co10) ?_).2.2; exact (by (with_reducible repeat (first | apply Kd.R_alloc | apply Kd.R_drewN | apply Kd.R_drew)); exact (Kd.R_mono (Kd.R_far (p := ⟨gb396, 2, none⟩) (Kd.R_far (p := ⟨gb396, 1, none⟩) (Kd.R_far (p := ⟨gb396, 0, none⟩) (Kd.R_types HO387.out BK396.out (by decide)) (fun _ hk => hk.2) (.int .i64 t390)) (fun _ hk => hk.2) (.int .i64 t391)) (fun _ hk => hk.2) (.slice Ao15 t392.length co15)) (fun _ h_ => h_.1)))); (case side4 => exact (Kd.R_reads' HO387.out).2.1); rintro e w25 ⟨rfl, hb⟩; refine ⟨_, rfl, ?_⟩; replace HO387 := rfb_ HO387 BK396 hb; replace HO394 := rfb_ HO394 BK396 hb; replace BK389 := bf_ BK389 NB389_396 hb; replace BK396 := bp_ #[.int .i64 t390, .int .i64 t391, .slice Ao15 t392.length co15] BK396 hb; replace HB := bu_ HB GE389 GE396 hb; (try clear hb); (try clear hb2); (try clear hk); (try clear hi)))
    go_meet
    case rel => exact ⟨_, (true), rs_, H', ⟨by first | exact Nat.le_refl _ | exact Nat.le_of_succ_le this | omega⟩, ⟨by (with_reducible repeat (first | apply Kd.R_alloc | apply Kd.R_drewN | apply Kd.R_drew)); exact Kd.R_mono HO387.out (fun _ hk => hk.2)⟩, ⟨by (with_reducible repeat (first | apply Kd.R_alloc | apply Kd.R_drewN | apply Kd.R_drew)); exact Kd.R_mono HO394.out (fun _ hk => hk.2)⟩, ⟨bk_ BK389⟩, ⟨bk_ BK396⟩, ⟨by repeat (first | (with_reducible first | exact HB.out | apply below_alloc | apply pw_below_drewN | apply below_drew1 | refine below_set ?_ GE389.out | refine below_set ?_ GE396.out) | exact HB.out)⟩⟩
  case rest =>
   clear HC6
   try clear c1
   try clear c2
   try clear p2
   try clear c3
   try clear c3b0
   try clear c3b1
   try clear c4
   try clear c13
   try clear c15
   try clear c16
   try clear c17
   try clear c18
   try clear c22
   try clear hcz14_0
   try clear hcz14_1
   try clear hcz14_2
   try clear hcz19_0
   try clear hcz19_1
   try clear hcz19_2
   try clear hcz20_0
   try clear hcz20_1
   try clear hcz20_2
   try clear hcz23_0
   try clear hcz23_1
   try clear hcz23_2
   try clear hcz24_0
   try clear hcz24_1
   try clear hcz24_2
   try clear hcz9_0
   try clear hcz9_1
   try clear hcz9_2
   try clear hfz14_0
   try clear hfz14_1
   try clear hfz14_2
   try clear hfz19_0
   try clear hfz19_1
   try clear hfz19_2
   try clear hfz20_0
   try clear hfz20_1
   try clear hfz20_2
   try clear hfz23_0
   try clear hfz23_1
   try clear hfz23_2
   try clear hfz24_0
   try clear hfz24_1
   try clear hfz24_2
   try clear hfz9_0
   try clear hfz9_1
   try clear hfz9_2
   obtain ⟨kq, x36_5, rfl, HA, HJ5, HO_390002, HO_397002, BK389, BK396, HB⟩ := hcut
   cases kq with
   | zero => exact absurd HA.out (by simp [laws_FnExactHintOf.j0])
   | succ kj5 =>
    have H := HA.out
    clear HA
    simp only [laws_FnExactHintOf.j0] at H
    by_cases c26 : x36_5 = true
    ·subst c26
     have H1 : (some false) = some r := by rw [if_pos rfl] at H; exact H
     clear H
     have H := H1
     clear H1
     exact absurd ((Option.some.inj H).trans HRT.out) (by decide)
    ·replace c26 := Bool.eq_false_iff.mpr c26
     subst c26
     have H1 : ((laws_markHint.f kj5 t390 t391 t392 1).bind fun bt398 => ((laws_heldHint.f kj5 t390 t391 bt398.2 1).bind fun t400 => (if t400 < 0 then (some false) else (if t400 = bt398.1 then ((impl_HintOf.f kj5 a0 a1).bind fun bt401 => ((laws_eqHint.f kj5 bt401.1 bt401.2.1 bt401.2.2.1 t383 t384 t385).bind fun t408 => (if t408 = true then (laws_FnExactHintOf.j1 kj5 bt398.1 (bt401.2.2.2 != t388) t390 t391 bt398.2) else (laws_FnExactHintOf.j1 kj5 bt398.1 true t390 t391 bt398.2)))) else (some false))))) = some r := by rw [if_neg (show ¬ (false = true) by decide)] at H; exact H
     clear H
     have H := H1
     clear H1
     replace H := Option.bind_eq_some_iff.mp H
     obtain ⟨⟨t398, t399⟩, A270, H⟩ := H
     replace H : ((laws_heldHint.f kj5 t390 t391 t399 1).bind fun t400 => (if t400 < 0 then (some false) else (if t400 = t398 then ((impl_HintOf.f kj5 a0 a1).bind fun bt401 => ((laws_eqHint.f kj5 bt401.1 bt401.2.1 bt401.2.2.1 t383 t384 t385).bind fun t408 => (if t408 = true then (laws_FnExactHintOf.j1 kj5 t398 (bt401.2.2.2 != t388) t390 t391 t399) else (laws_FnExactHintOf.j1 kj5 t398 true t390 t391 t399)))) else (some false)))) = some r := H
     have A27 := Aside0.mk A270
     clear A270
     replace H := Option.bind_eq_some_iff.mp H
     obtain ⟨t400, A280, H⟩ := H
     replace H : (if t400 < 0 then (some false) else (if t400 = t398 then ((impl_HintOf.f kj5 a0 a1).bind fun bt401 => ((laws_eqHint.f kj5 bt401.1 bt401.2.1 bt401.2.2.1 t383 t384 t385).bind fun t408 => (if t408 = true then (laws_FnExactHintOf.j1 kj5 t398 (bt401.2.2.2 != t388) t390 t391 t399) else (laws_FnExactHintOf.j1 kj5 t398 true t390 t391 t399)))) else (some false))) = some r := H
     have A28 := Aside0.mk A280
     clear A280
     by_cases c29 : t400 < 0
     ·rw [if_pos c29] at H
      have c29b0 : decide (t400 < 0) = true := decide_eq_true c29
      clear c29
      exact absurd ((Option.some.inj H).trans HRT.out) (by decide)
     ·rw [if_neg c29] at H
      have c29b0 : decide (t400 < 0) = false := decide_eq_false c29
      clear c29
      by_cases c30 : t400 = t398
      ·rw [if_pos c30] at H
       have c30b0 : (t400 == t398) = true := beq_iff_eq.mpr c30
       have c30b1 : (t400 != t398) = false := bne_eq_false_iff_eq.mpr c30
       clear c30
       replace H := Option.bind_eq_some_iff.mp H
       obtain ⟨⟨t401, t402, t403, t406⟩, A310, H⟩ := H
       replace H : ((laws_eqHint.f kj5 t401 t402 t403 t383 t384 t385).bind fun t408 => (if t408 = true then (laws_FnExactHintOf.j1 kj5 t398 (t406 != t388) t390 t391 t399) else (laws_FnExactHintOf.j1 kj5 t398 true t390 t391 t399))) = some r := H
       have A31 := Aside0.mk A310
       clear A310
       have HC32 := Aside0.mk H
       clear H
       have hnb33 := NB396_389.out
       have hnc33 := NB389_396.out
       obtain ⟨hcz34_0, hcz34_1, hcz34_2, hfz34_0, hfz34_1, hfz34_2⟩ := bc3_ BK396
       go_upto_region 16 with (first | ((with_reducible refine gate_callee (f := 18) rfl ?_); refine goesL_ (some 39) rfl rfl Try.func18 (by kernel_rfl) rfl #[.agg #[.int .i64 t390, .int .i64 t391, .slice Ao15 t392.length co15], .int .i64 1] rfl ar_ ?_; (with_reducible refine (laws_markHint.calls kj5 t390 t391 (fun k_ => some k_ = (.slice Ao15 t392.length co15 : Value).ownBlock) (.slice Ao15 t392.length co15) t392 1 t398 t399 w _ ?side1 ?side2 A27.out).mono ?_); (case side1 => repeat (first | (with_reducible first | exact HB.out | apply below_alloc | apply pw_below_drewN | apply below_drew1 | refine below_set ?_ GE389.out | refine below_set ?_ GE396.out) | exact HB.out)); (case side2 => exact Kd.R_tight rfl HO_397002.out); rintro e w35 ⟨rfl, hy0, hb, hkp⟩; refine ⟨_, rfl, ?_⟩; replace HO_390002 := Aside0.mk (Kd.R_mono (ok' := fun k_ => some k_ ≠ (.slice Ao15 t392.length co15 : Value).ownBlock) (Kd.R_keptB (HO_390002.out) hkp (fun k_ hk_ hs_ => (hk_) hs_)) (fun k_ hk_ => hk_.1)); replace BK389 := Aside0.mk (blk_kept (bk_ BK389) hkp (fun hs_ => (fun e_ => (Kd.R_ne HO_397002.out BK389.out (by decide)) e_) hs_)); replace BK396 := Aside0.mk (blk_kept (bk_ BK396) hkp (fun hs_ => (fun e_ => (Kd.R_ne HO_397002.out BK396.out (by decide)) e_) hs_)); replace HO_397002 := Aside0.mk (Kd.R_reok rfl hy0 (fun k_ e_ => HO_397002.out.1 k_ e_)); replace HB := Aside0.mk (hb); (try clear hb); (try clear hkp); (try clear hy0); obtain ⟨hcz36_0, hcz36_1, hcz36_2, hfz36_0, hfz36_1, hfz36_2⟩ := bc3_ BK396) | ((with_reducible refine gate_callee (f := 19) rfl ?_); refine goesL_ (some 42) rfl rfl Try.func19 (by kernel_rfl) rfl #[.agg #[.int .i64 t390, .int .i64 t391, .slice Ao15 t399.length co15], .int .i64 1] rfl (by (try simp only [List.map_toArray, List.map_cons, List.map_nil]); first | done | (rw [show t399.length = t392.length from (Kd.R_reads' HO_397002.out).1.symm] <;> rfl) | rfl | (simp only [List.length_drop, List.length_take]; rfl)) ?_; (with_reducible refine (laws_heldHint.calls kj5 t390 t391 _ _ t399 1 t400 _ ?side1 ?side2 A28.out).mono ?_); (case side1 => repeat (first | exact (Kd.R_reads' HO_397002.out).2.2 | (with_reducible refine Kd.C_alloc ?_ _) | (with_reducible refine Kd.C_drewN ?_ _) | (with_reducible refine Kd.C_drew ?_))); (case side2 => rw [show t399.length = t392.length from (Kd.R_reads' HO_397002.out).1.symm]; exact (Kd.R_reads' HO_397002.out).2.1); rintro e w37 ⟨rfl, hb⟩; refine ⟨_, rfl, ?_⟩; replace HO_390002 := rb_ HO_390002 hb; replace HO_397002 := rb_ HO_397002 hb; replace BK389 := bb_ BK389 hb; replace BK396 := bb_ BK396 hb; replace HB := bu_ HB GE389 GE396 hb; (try clear hb); (try clear hb2); (try clear hk); (try clear hi)) | ((with_reducible refine gate_callee (f := 16) rfl ?_); refine goesL_ (some 51) rfl rfl Try.func16 (by kernel_rfl) rfl #[.int .i64 a0, .string a1] rfl ar_ ?_; (with_reducible refine (impl_HintOf.calls kj5 a0 a1 t401 t402 t403 t406 _ A31.out).mono ?_); rintro e w38 ⟨v404, rfl, ho0, hb⟩; refine ⟨_, rfl, ?_⟩; have HO405 := Aside0.mk (Kd.R_lower (Kd.R_new' (Kd.R_new' ho0 (Kd.R_lt (rr_ HO_390002))) (Kd.R_lt (rr_ HO_397002))) (below_size (hu_ HB GE389 GE396))); replace HO_390002 := Aside0.mk (Kd.R_elder' (rr_ HO_390002) (Kd.R_base ho0) hb); replace HO_397002 := Aside0.mk (Kd.R_elder' (rr_ HO_397002) (Kd.R_base ho0) hb); replace BK389 := bb_ BK389 hb; replace BK396 := bb_ BK396 hb; replace HB := bu_ HB GE389 GE396 hb; (try clear hb); (try clear hb2); (try clear hk); (try clear hi); (try clear ho0)) | ((with_reducible refine gate_dst (N := 11) rfl ?_); refine box_event ?hg (N := 11) ?hd (cs := #[.int .i64 0, .int .i64 0, .slice none 0 0]) (t := 40) ?hr ?_; (case hd => rfl); (case hg => rfl); (case hr => first | (go_simp; done) | (go_simp; rfl)); intro gb407 hg w39 hbox hb; replace HO_390002 := rb_ HO_390002 hb; replace HO_397002 := rb_ HO_397002 hb; replace HO405 := rb_ HO405 hb; have BK407 := Aside0.mk (hbox); have GW407 := ge_ hg (hu_ HB GE389 GE396); have GE407 := ge_ hg (hu_ HB GE389 GE396); replace HB := bu_ HB GE389 GE396 hb; have NB389_407 := nl_ BK389 hg; have NB407_389 := ng_ BK389 hg; replace BK389 := bb_ BK389 hb; have NB396_407 := nl_ BK396 hg; have NB407_396 := ng_ BK396 hg; replace BK396 := bb_ BK396 hb; clear hb hbox hg; have hnb40 := NB407_389.out; have hnc40 := NB389_407.out; have hnb41 := NB407_396.out; have hnc41 := NB396_407.out; obtain ⟨hcz42_0, hcz42_1, hcz42_2, hfz42_0, hfz42_1, hfz42_2⟩ := bc3_ BK407; obtain ⟨Ao43, co43, eo43⟩ := Kd.R_slice HO405.out; subst eo43))
       (try simp only [Act.put, la_, lz_, ls_])
       go_cut [62] (fun v62 wc => ∃ (kq : Nat) (x62_31 : Bool), v62 = .bool x62_31 ∧ Aside0 (laws_FnExactHintOf.j1 kq t398 x62_31 t390 t391 t399 = some r) ∧ Aside0 (kq ≤ kj5) ∧ Aside0 (Kd.R k68 68 wc w.heap.size (fun k_ => some k_ ≠ ((.slice Ao15 t392.length co15) : Value).ownBlock ∧ some k_ ≠ ((.slice Ao43 t403.length co43) : Value).ownBlock) (.slice Ao10 t385.length co10) t385) ∧ Aside0 (Kd.R k68 68 wc w.heap.size (fun k_ => some k_ ≠ ((.slice Ao10 t385.length co10) : Value).ownBlock ∧ some k_ ≠ ((.slice Ao43 t403.length co43) : Value).ownBlock) (.slice Ao15 t392.length co15) t399) ∧ Aside0 (Kd.R k68 68 wc w.heap.size (fun k_ => some k_ ≠ ((.slice Ao10 t385.length co10) : Value).ownBlock ∧ some k_ ≠ ((.slice Ao15 t392.length co15) : Value).ownBlock) (.slice Ao43 t403.length co43) t403) ∧ Aside0 (wc.heap[gb389]? = some (.cells #[.int .i64 t383, .int .i64 t384, (.slice Ao10 t385.length co10)] 40 (0, 0))) ∧ Aside0 (wc.heap[gb396]? = some (.cells #[.int .i64 t390, .int .i64 t391, (.slice Ao15 t392.length co15)] 40 (0, 0))) ∧ Aside0 (wc.heap[gb407]? = some (.cells #[.int .i64 t401, .int .i64 t402, (.slice Ao43 t403.length co43)] 40 (0, 0))) ∧ Aside0 (Below w.heap.size w wc))
       case first =>
        have H := HC32.out
        clear HC32
        replace H := Option.bind_eq_some_iff.mp H
        obtain ⟨t408, A440, H⟩ := H
        replace H : (if t408 = true then (laws_FnExactHintOf.j1 kj5 t398 (t406 != t388) t390 t391 t399) else (laws_FnExactHintOf.j1 kj5 t398 true t390 t391 t399)) = some r := H
        have A44 := Aside0.mk A440
        clear A440
        by_cases c45 : t408 = true
        ·subst c45
         have H1 : (laws_FnExactHintOf.j1 kj5 t398 (t406 != t388) t390 t391 t399) = some r := by rw [if_pos rfl] at H; exact H
         clear H
         have H := H1
         clear H1
         have H' := Aside0.mk H
         clear H
         have hnb46 := NB407_389.out
         have hnc46 := NB389_407.out
         have hnb47 := NB407_396.out
         have hnc47 := NB396_407.out
         obtain ⟨hcz48_0, hcz48_1, hcz48_2, hfz48_0, hfz48_1, hfz48_2⟩ := bc3_ BK407
         have hnb49 := NB389_396.out
         have hnc49 := NB396_389.out
         obtain ⟨hcz50_0, hcz50_1, hcz50_2, hfz50_0, hfz50_1, hfz50_2⟩ := bc3_ BK389
         go_wp2_with (first | ((with_reducible refine gate_callee (f := 17) rfl ?_); refine goesL_ (some 56) rfl rfl Try.func17 (by kernel_rfl) rfl #[.agg #[.int .i64 t401, .int .i64 t402, .slice Ao43 t403.length co43], .agg #[.int .i64 t383, .int .i64 t384, .slice Ao10 t385.length co10]] rfl ar_ ?_; (with_reducible refine (laws_eqHint.calls kj5 t401 t402 _ _ t403 t383 t384 _ _ t385 true _ ?side1 ?side2 ?side3 ?side4 A44.out).mono ?_); (case side1 => refine (Kd.R_reads' (e := 68) (base := w.heap.size) (ok := fun k_ => ((True ∧ some k_ ≠ (.slice Ao10 t385.length co10 : Value).ownBlock) ∧ some k_ ≠ (.slice Ao15 t392.length co15 : Value).ownBlock)) (n := t403.length) (c := co43) ?_).2.2; exact (by (with_reducible repeat (first | apply Kd.R_alloc | apply Kd.R_drewN | apply Kd.R_drew)); exact (Kd.R_mono (Kd.R_far (p := ⟨gb407, 2, none⟩) (Kd.R_far (p := ⟨gb407, 1, none⟩) (Kd.R_far (p := ⟨gb407, 0, none⟩) (Kd.R_types HO405.out BK407.out (by decide)) (fun _ hk => hk.2) (.int .i64 t401)) (fun _ hk => hk.2) (.int .i64 t402)) (fun _ hk => hk.2) (.slice Ao43 t403.length co43)) (fun _ h_ => h_.1)))); (case side2 => exact (Kd.R_reads' HO405.out).2.1); (case side3 => refine (Kd.R_reads' (e := 68) (base := w.heap.size) (ok := fun k_ => (some k_ ≠ (.slice Ao15 t392.length co15 : Value).ownBlock ∧ some k_ ≠ (.slice Ao43 t403.length co43 : Value).ownBlock)) (n := t385.length) (c := co10) ?_).2.2; exact (by (with_reducible repeat (first | apply Kd.R_alloc | apply Kd.R_drewN | apply Kd.R_drew)); exact (Kd.R_mono (Kd.R_far (p := ⟨gb407, 2, none⟩) (Kd.R_far (p := ⟨gb407, 1, none⟩) (Kd.R_far (p := ⟨gb407, 0, none⟩) (Kd.R_types HO_390002.out BK407.out (by decide)) (fun _ hk => hk.2) (.int .i64 t401)) (fun _ hk => hk.2) (.int .i64 t402)) (fun _ hk => hk.2) (.slice Ao43 t403.length co43)) (fun _ h_ => h_.1)))); (case side4 => exact (Kd.R_reads' HO_390002.out).2.1); rintro e w51 ⟨rfl, hb⟩; refine ⟨_, rfl, ?_⟩; replace HO_390002 := rfb_ HO_390002 BK407 hb; replace HO_397002 := rfb_ HO_397002 BK407 hb; replace HO405 := rfb_ HO405 BK407 hb; replace BK389 := bf_ BK389 NB389_407 hb; replace BK396 := bf_ BK396 NB396_407 hb; replace BK407 := bp_ #[.int .i64 t401, .int .i64 t402, .slice Ao43 t403.length co43] BK407 hb; replace HB := Aside0.mk (below_step (hv_ HB GE389 GE396 GE407) hb); (try clear hb); (try clear hb2); (try clear hk); (try clear hi)))
         go_meet
         case rel => exact ⟨_, ((t406 != t388)), rs_, H', ⟨by have := HJ5.out; first | exact Nat.le_refl _ | exact Nat.le_of_succ_le this | omega⟩, ⟨rr_ HO_390002⟩, ⟨rr_ HO_397002⟩, ⟨by (with_reducible repeat (first | apply Kd.R_alloc | apply Kd.R_drewN | apply Kd.R_drew)); exact Kd.R_mono HO405.out (fun _ hk => ⟨hk.1.2, hk.2⟩)⟩, ⟨bk_ BK389⟩, ⟨bk_ BK396⟩, ⟨bk_ BK407⟩, ⟨by repeat (first | (with_reducible first | exact HB.out | apply below_alloc | apply pw_below_drewN | apply below_drew1 | refine below_set ?_ GE389.out | refine below_set ?_ GE396.out | refine below_set ?_ GE407.out) | exact HB.out)⟩⟩
        ·replace c45 := Bool.eq_false_iff.mpr c45
         subst c45
         have H1 : (laws_FnExactHintOf.j1 kj5 t398 true t390 t391 t399) = some r := by rw [if_neg (show ¬ (false = true) by decide)] at H; exact H
         clear H
         have H := H1
         clear H1
         have H' := Aside0.mk H
         clear H
         have hnb52 := NB407_389.out
         have hnc52 := NB389_407.out
         have hnb53 := NB407_396.out
         have hnc53 := NB396_407.out
         obtain ⟨hcz54_0, hcz54_1, hcz54_2, hfz54_0, hfz54_1, hfz54_2⟩ := bc3_ BK407
         have hnb55 := NB389_396.out
         have hnc55 := NB396_389.out
         obtain ⟨hcz56_0, hcz56_1, hcz56_2, hfz56_0, hfz56_1, hfz56_2⟩ := bc3_ BK389
         go_wp2_with (first | ((with_reducible refine gate_callee (f := 17) rfl ?_); refine goesL_ (some 56) rfl rfl Try.func17 (by kernel_rfl) rfl #[.agg #[.int .i64 t401, .int .i64 t402, .slice Ao43 t403.length co43], .agg #[.int .i64 t383, .int .i64 t384, .slice Ao10 t385.length co10]] rfl ar_ ?_; (with_reducible refine (laws_eqHint.calls kj5 t401 t402 _ _ t403 t383 t384 _ _ t385 false _ ?side1 ?side2 ?side3 ?side4 A44.out).mono ?_); (case side1 => refine (Kd.R_reads' (e := 68) (base := w.heap.size) (ok := fun k_ => ((True ∧ some k_ ≠ (.slice Ao10 t385.length co10 : Value).ownBlock) ∧ some k_ ≠ (.slice Ao15 t392.length co15 : Value).ownBlock)) (n := t403.length) (c := co43) ?_).2.2; exact (by (with_reducible repeat (first | apply Kd.R_alloc | apply Kd.R_drewN | apply Kd.R_drew)); exact (Kd.R_mono (Kd.R_far (p := ⟨gb407, 2, none⟩) (Kd.R_far (p := ⟨gb407, 1, none⟩) (Kd.R_far (p := ⟨gb407, 0, none⟩) (Kd.R_types HO405.out BK407.out (by decide)) (fun _ hk => hk.2) (.int .i64 t401)) (fun _ hk => hk.2) (.int .i64 t402)) (fun _ hk => hk.2) (.slice Ao43 t403.length co43)) (fun _ h_ => h_.1)))); (case side2 => exact (Kd.R_reads' HO405.out).2.1); (case side3 => refine (Kd.R_reads' (e := 68) (base := w.heap.size) (ok := fun k_ => (some k_ ≠ (.slice Ao15 t392.length co15 : Value).ownBlock ∧ some k_ ≠ (.slice Ao43 t403.length co43 : Value).ownBlock)) (n := t385.length) (c := co10) ?_).2.2; exact (by (with_reducible repeat (first | apply Kd.R_alloc | apply Kd.R_drewN | apply Kd.R_drew)); exact (Kd.R_mono (Kd.R_far (p := ⟨gb407, 2, none⟩) (Kd.R_far (p := ⟨gb407, 1, none⟩) (Kd.R_far (p := ⟨gb407, 0, none⟩) (Kd.R_types HO_390002.out BK407.out (by decide)) (fun _ hk => hk.2) (.int .i64 t401)) (fun _ hk => hk.2) (.int .i64 t402)) (fun _ hk => hk.2) (.slice Ao43 t403.length co43)) (fun _ h_ => h_.1)))); (case side4 => exact (Kd.R_reads' HO_390002.out).2.1); rintro e w57 ⟨rfl, hb⟩; refine ⟨_, rfl, ?_⟩; replace HO_390002 := rfb_ HO_390002 BK407 hb; replace HO_397002 := rfb_ HO_397002 BK407 hb; replace HO405 := rfb_ HO405 BK407 hb; replace BK389 := bf_ BK389 NB389_407 hb; replace BK396 := bf_ BK396 NB396_407 hb; replace BK407 := bp_ #[.int .i64 t401, .int .i64 t402, .slice Ao43 t403.length co43] BK407 hb; replace HB := Aside0.mk (below_step (hv_ HB GE389 GE396 GE407) hb); (try clear hb); (try clear hb2); (try clear hk); (try clear hi)))
         go_meet
         case rel => exact ⟨_, (true), rs_, H', ⟨by have := HJ5.out; first | exact Nat.le_refl _ | exact Nat.le_of_succ_le this | omega⟩, ⟨rr_ HO_390002⟩, ⟨rr_ HO_397002⟩, ⟨by (with_reducible repeat (first | apply Kd.R_alloc | apply Kd.R_drewN | apply Kd.R_drew)); exact Kd.R_mono HO405.out (fun _ hk => ⟨hk.1.2, hk.2⟩)⟩, ⟨bk_ BK389⟩, ⟨bk_ BK396⟩, ⟨bk_ BK407⟩, ⟨by repeat (first | (with_reducible first | exact HB.out | apply below_alloc | apply pw_below_drewN | apply below_drew1 | refine below_set ?_ GE389.out | refine below_set ?_ GE396.out | refine below_set ?_ GE407.out) | exact HB.out)⟩⟩
       case rest =>
        clear HC32
        try clear c1
        try clear c2
        try clear p2
        try clear c3
        try clear c3b0
        try clear c3b1
        try clear c4
        try clear c5
        try clear c13
        try clear c15
        try clear c16
        try clear c17
        try clear c18
        try clear c19
        try clear c22
        try clear c26
        try clear c29
        try clear c29b0
        try clear c30
        try clear c30b0
        try clear c30b1
        try clear c33
        try clear c40
        try clear c41
        try clear c45
        try clear c46
        try clear c47
        try clear c49
        try clear c52
        try clear c53
        try clear c55
        try clear hcz14_0
        try clear hcz14_1
        try clear hcz14_2
        try clear hcz19_0
        try clear hcz19_1
        try clear hcz19_2
        try clear hcz20_0
        try clear hcz20_1
        try clear hcz20_2
        try clear hcz23_0
        try clear hcz23_1
        try clear hcz23_2
        try clear hcz24_0
        try clear hcz24_1
        try clear hcz24_2
        try clear hcz34_0
        try clear hcz34_1
        try clear hcz34_2
        try clear hcz36_0
        try clear hcz36_1
        try clear hcz36_2
        try clear hcz42_0
        try clear hcz42_1
        try clear hcz42_2
        try clear hcz48_0
        try clear hcz48_1
        try clear hcz48_2
        try clear hcz50_0
        try clear hcz50_1
        try clear hcz50_2
        try clear hcz54_0
        try clear hcz54_1
        try clear hcz54_2
        try clear hcz56_0
        try clear hcz56_1
        try clear hcz56_2
        try clear hcz9_0
        try clear hcz9_1
        try clear hcz9_2
        try clear hfz14_0
        try clear hfz14_1
        try clear hfz14_2
        try clear hfz19_0
        try clear hfz19_1
        try clear hfz19_2
        try clear hfz20_0
        try clear hfz20_1
        try clear hfz20_2
        try clear hfz23_0
        try clear hfz23_1
        try clear hfz23_2
        try clear hfz24_0
        try clear hfz24_1
        try clear hfz24_2
        try clear hfz34_0
        try clear hfz34_1
        try clear hfz34_2
        try clear hfz36_0
        try clear hfz36_1
        try clear hfz36_2
        try clear hfz42_0
        try clear hfz42_1
        try clear hfz42_2
        try clear hfz48_0
        try clear hfz48_1
        try clear hfz48_2
        try clear hfz50_0
        try clear hfz50_1
        try clear hfz50_2
        try clear hfz54_0
        try clear hfz54_1
        try clear hfz54_2
        try clear hfz56_0
        try clear hfz56_1
        try clear hfz56_2
        try clear hfz9_0
        try clear hfz9_1
        try clear hfz9_2
        try clear p2
        obtain ⟨kq, x62_31, rfl, HA, HJ31, HO_390002, HO_397002, HO_408002, BK389, BK396, BK407, HB⟩ := hcut
        have hl397002_31 := (Kd.R_reads' HO_397002.out).1
        rw [hl397002_31] at HO_397002
        (try simp only [hl397002_31])
        (try simp only [hl397002_31] at BK389)
        (try simp only [hl397002_31] at BK396)
        (try simp only [hl397002_31] at BK407)
        (try simp only [hl397002_31] at HO_390002)
        (try simp only [hl397002_31] at HO_408002)
        cases kq with
        | zero => exact absurd HA.out (by simp [laws_FnExactHintOf.j1])
        | succ kj31 =>
         have H := HA.out
         clear HA
         simp only [laws_FnExactHintOf.j1] at H
         by_cases c58 : x62_31 = true
         ·subst c58
          have H1 : (some false) = some r := by rw [if_pos rfl] at H; exact H
          clear H
          have H := H1
          clear H1
          exact absurd ((Option.some.inj H).trans HRT.out) (by decide)
         ·replace c58 := Bool.eq_false_iff.mpr c58
          subst c58
          have H1 : ((laws_heldHint.f kj31 t390 t391 t399 1).bind fun t409 => (if t409 < 0 then (some false) else (if t409 = t398 then (some true) else (some false)))) = some r := by rw [if_neg (show ¬ (false = true) by decide)] at H; exact H
          clear H
          have H := H1
          clear H1
          replace H := Option.bind_eq_some_iff.mp H
          obtain ⟨t409, A590, H⟩ := H
          replace H : (if t409 < 0 then (some false) else (if t409 = t398 then (some true) else (some false))) = some r := H
          have A59 := Aside0.mk A590
          clear A590
          by_cases c60 : t409 < 0
          ·rw [if_pos c60] at H
           have c60b0 : decide (t409 < 0) = true := decide_eq_true c60
           clear c60
           exact absurd ((Option.some.inj H).trans HRT.out) (by decide)
          ·rw [if_neg c60] at H
           have c60b0 : decide (t409 < 0) = false := decide_eq_false c60
           clear c60
           by_cases c61 : t409 = t398
           ·rw [if_pos c61] at H
            have c61b0 : (t409 == t398) = true := beq_iff_eq.mpr c61
            have c61b1 : (t409 != t398) = false := bne_eq_false_iff_eq.mpr c61
            clear c61
            obtain rfl := Option.some.inj H
            have hnb62 := NB396_389.out
            have hnc62 := NB389_396.out
            have hnb63 := NB396_407.out
            have hnc63 := NB407_396.out
            obtain ⟨hcz64_0, hcz64_1, hcz64_2, hfz64_0, hfz64_1, hfz64_2⟩ := bc3_ BK396
            go_wp2_with (first | ((with_reducible refine gate_callee (f := 19) rfl ?_); refine goesL_ (some 65) rfl rfl Try.func19 (by kernel_rfl) rfl #[.agg #[.int .i64 t390, .int .i64 t391, .slice Ao15 t399.length co15], .int .i64 1] rfl ar_ ?_; (with_reducible refine (laws_heldHint.calls kj31 t390 t391 _ _ t399 1 t409 _ ?side1 ?side2 A59.out).mono ?_); (case side1 => repeat (first | exact (Kd.R_reads' HO_397002.out).2.2 | (with_reducible refine Kd.C_alloc ?_ _) | (with_reducible refine Kd.C_drewN ?_ _) | (with_reducible refine Kd.C_drew ?_))); (case side2 => exact (Kd.R_reads' HO_397002.out).2.1); rintro e w65 ⟨rfl, hb⟩; refine ⟨_, rfl, ?_⟩; replace HO_390002 := rb_ HO_390002 hb; replace HO_397002 := rb_ HO_397002 hb; replace HO_408002 := rb_ HO_408002 hb; replace BK389 := bb_ BK389 hb; replace BK396 := bb_ BK396 hb; replace BK407 := bb_ BK407 hb; replace HB := Aside0.mk (below_step (hv_ HB GE389 GE396 GE407) hb); (try clear hb); (try clear hb2); (try clear hk); (try clear hi)))
            go_ret
            exact ⟨re_, by repeat (first | (with_reducible first | exact HB.out | apply below_alloc | apply pw_below_drewN | apply below_drew1 | refine below_set ?_ GE389.out | refine below_set ?_ GE396.out | refine below_set ?_ GE407.out) | exact HB.out)⟩
           ·rw [if_neg c61] at H
            have c61b0 : (t409 == t398) = false := beq_eq_false_iff_ne.mpr c61
            have c61b1 : (t409 != t398) = true := bne_iff_ne.mpr c61
            exact absurd ((Option.some.inj H).trans HRT.out) (by decide)
      ·rw [if_neg c30] at H
       have c30b0 : (t400 == t398) = false := beq_eq_false_iff_ne.mpr c30
       have c30b1 : (t400 != t398) = true := bne_iff_ne.mpr c30
       exact absurd ((Option.some.inj H).trans HRT.out) (by decide)

/-- THE ONE PURE STATEMENT of laws_FnExactHintOf: yours. -/
def laws_FnExactHintOf.Pure : Prop := ∀ (a0 : Int) (a1 : ByteArray), (Lit.int .i64 a0).wf = true → a1.size ≤ 140737488351232 → ∃ k, laws_FnExactHintOf.f k a0 a1 = some true
theorem laws_FnExactHintOf.walk (P : laws_FnExactHintOf.Pure) (a0 : Int) (a1 : ByteArray) (w : World) (w0 : (Lit.int .i64 a0).wf = true) (w1 : a1.size ≤ 140737488351232) :
  Calls Try.prog 4 #[.int .i64 a0, .string a1] w fun e w' => e = .returned (.bool true) ∧ Below w.heap.size w w' := by
 obtain ⟨k, h⟩ := P a0 a1 w0 w1
 refine (laws_FnExactHintOf.calls k a0 a1 true w rfl h).mono ?_
 rintro e w' ⟨rfl, hd⟩
 exact ⟨rfl, hd⟩

end Go.Proofs.Ytnjmehiploelnaa.PFnExactHintOf
