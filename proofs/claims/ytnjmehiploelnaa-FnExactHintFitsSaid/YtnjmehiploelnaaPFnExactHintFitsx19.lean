-- Laid by a program of this session, a copy of the kit's printer with additions (wip/patch_print.py): myhead. Lean checks it.
import Derived.Test.YtnjmehiploelnaaPFnExactHintFitsx0
import Derived.Test.YtnjmehiploelnaaPFnExactHintFitsx2
import Derived.Test.YtnjmehiploelnaaPFnExactHintFitsx3
import Derived.Test.YtnjmehiploelnaaPFnExactHintFitsx11
import Derived.Test.YtnjmehiploelnaaPFnExactHintFitsx18
namespace Go.Proofs.Ytnjmehiploelnaa.PFnExactHintFits
open Go.RowKit Go.Proofs.YtnjmehiploelnaaW.PrintWords Go.Proofs.YtnjmehiploelnaaW.PrintLast Go.Proofs.YtnjmehiploelnaaW.PrintMore
attribute [local go_sem] max2_int min2_int max_two min_two max_three min_three max_four min_four   -- for this text's walks alone
set_option linter.unusedVariables false
set_option linter.unusedSimpArgs false

attribute [local go_sem high] eqA68
/-! ### impl_SameDir: function 47 -/
def impl_SameDir.l0 : Nat → List (S68) → List (S68) → Int → Int → Option (Bool)
 | 0, _, _, _, _ => none
 | k + 1, x0, x1, x12, x13 => if x13 < x12 then (if 0 ≤ x13 then (if x13 < (x0.length : Int) then (if x13 < (x1.length : Int) then (if (!((((rd_T68 x0 x13).f0).toList) == (((rd_T68 x1 x13).f0).toList)) || (!(((rd_T68 x0 x13).f1) == ((rd_T68 x1 x13).f1)) || (!(((rd_T68 x0 x13).f2) == ((rd_T68 x1 x13).f2)) || (!(((rd_T68 x0 x13).f3) == ((rd_T68 x1 x13).f3)) || (!(((rd_T68 x0 x13).f4) == ((rd_T68 x1 x13).f4))))))) = true then (some false) else (impl_SameDir.l0 k x0 x1 x12 (wrap64 (x13 + 1)))) else (none)) else (none)) else (none)) else (some true)
def impl_SameDir.f (k : Nat) (l0 : List (S68)) (l1 : List (S68)) : Option (Bool) := if (l0.length : Int) = (l1.length : Int) then (impl_SameDir.l0 k l0 l1 (l0.length : Int) 0) else (some false)
theorem impl_SameDir.mono_l : ∀ k, (∀ y0 y1 y2 y3, LeO (impl_SameDir.l0 k y0 y1 y2 y3) (impl_SameDir.l0 (k + 1) y0 y1 y2 y3))
 | 0 => fun _ _ _ _ r h => by simp [impl_SameDir.l0] at h
 | k + 1 => by
  have ih0 := impl_SameDir.mono_l k
  ·intro y0 y1 y2 y3
   unfold impl_SameDir.l0
   repeat' first | (with_reducible first | exact ih0 .. | exact LeO.refl .. | exact LeO.none .. | refine LeO.ite ?_ ?_ | refine LeO.bind ?_ (fun _ => ?_)) | exact ih0 .. | exact LeO.none .. | refine LeO.ite ?_ ?_ | refine LeO.bind ?_ (fun _ => ?_)
theorem impl_SameDir.mono : ∀ a0 a1 k, LeO (impl_SameDir.f k a0 a1) (impl_SameDir.f (k + 1) a0 a1) := by
 intro a0 a1 k
 have ih0 := impl_SameDir.mono_l k
 unfold impl_SameDir.f
 repeat' first | (with_reducible first | exact ih0 .. | exact LeO.refl .. | exact LeO.none .. | refine LeO.ite ?_ ?_ | refine LeO.bind ?_ (fun _ => ?_)) | exact ih0 .. | exact LeO.none .. | refine LeO.ite ?_ ?_ | refine LeO.bind ?_ (fun _ => ?_)
set_option maxHeartbeats 80000000 in
set_option maxRecDepth 100000 in
theorem impl_SameDir.calls (k : Nat) (A0 : Option Addr) (c0 : Nat) (l0 : List (S68)) (A1 : Option Addr) (c1 : Nat) (l1 : List (S68)) (r : Bool) (w : World) (hr0 : Kd.C k68 w A0 l0.length l0) (hc0 : l0.length ≤ c0) (hr1 : Kd.C k68 w A1 l1.length l1) (hc1 : l1.length ≤ c1) (h : impl_SameDir.f k l0 l1 = some r) :
  Calls Try.prog 47 #[.slice A0 l0.length c0, .slice A1 l1.length c1] w fun e w' => e = .returned (.bool r) ∧ Drawn0 w w' := by
 have hu68 := Try.underlying68
 have HR0 := Aside0.mk hr0
 have HC0 := Aside0.mk hc0
 clear hr0 hc0
 have HR1 := Aside0.mk hr1
 have HC1 := Aside0.mk hc1
 clear hr1 hc1
 have H : (if (l0.length : Int) = (l1.length : Int) then (impl_SameDir.l0 k l0 l1 (l0.length : Int) 0) else (some false)) = some r := h
 clear h
 by_cases c3 : (l0.length : Int) = (l1.length : Int)
 ·rw [if_pos c3] at H
  have c3b0 : ((l0.length : Int) == (l1.length : Int)) = true := beq_iff_eq.mpr c3
  have c3b1 : ((l0.length : Int) != (l1.length : Int)) = false := bne_eq_false_iff_eq.mpr c3
  have c3b2 : (l0.length == l1.length) = true := by first | simpa using c3 | (simp at c3 ⊢; omega)
  clear c3
  have H' := Aside0.mk H
  clear H
  go_enter Try.func47, Try.ntmps47
  go_wp2
  repeat (go_quiet (fail); try go_wp2)
  go_loopg [13] k (fun kq v13 w' => ∃ (x13_1 : Int), v13 = .int .i64 x13_1 ∧ Aside0 (impl_SameDir.l0 kq l0 l1 (l0.length : Int) x13_1 = some r) ∧ Aside0 (kq ≤ k) ∧ Drawn0 w w')
  case atStart => exact ⟨(0), rs_, H', ⟨Nat.le_refl _⟩, by repeat (first | exact Drawn0.refl _ | apply Drawn0.step)⟩
  case round =>
   clear H'
   try clear c1
   try clear p2
   try clear c3
   try clear c3b0
   try clear c3b1
   try clear c3b2
   obtain ⟨x13_1, rfl, HA, HK1, ⟨m1, rfl⟩⟩ := hrel
   cases gk with
   | zero => exact absurd HA.out (by simp [impl_SameDir.l0])
   | succ k1 =>
    have H := HA.out
    clear HA
    simp only [impl_SameDir.l0] at H
    by_cases c4 : x13_1 < (l0.length : Int)
    ·rw [if_pos c4] at H
     have c4b0 : decide (x13_1 < (l0.length : Int)) = true := decide_eq_true c4
     clear c4
     by_cases c5 : 0 ≤ x13_1
     ·rw [if_pos c5] at H
      have c5b0 : decide (0 ≤ x13_1) = true := decide_eq_true c5
      clear c5
      by_cases c6 : x13_1 < (l0.length : Int)
      ·rw [if_pos c6] at H
       have c6b0 : decide (x13_1 < (l0.length : Int)) = true := decide_eq_true c6
       clear c6
       by_cases c7 : x13_1 < (l1.length : Int)
       ·rw [if_pos c7] at H
        have c7b0 : decide (x13_1 < (l1.length : Int)) = true := decide_eq_true c7
        clear c7
        by_cases c8 : (!((((rd_T68 l0 x13_1).f0).toList) == (((rd_T68 l1 x13_1).f0).toList)) || (!(((rd_T68 l0 x13_1).f1) == ((rd_T68 l1 x13_1).f1)) || (!(((rd_T68 l0 x13_1).f2) == ((rd_T68 l1 x13_1).f2)) || (!(((rd_T68 l0 x13_1).f3) == ((rd_T68 l1 x13_1).f3)) || (!(((rd_T68 l0 x13_1).f4) == ((rd_T68 l1 x13_1).f4))))))) = true
        ·rw [if_pos c8] at H
         have c8b0 : (!((((rd_T68 l0 x13_1).f0).toList) == (((rd_T68 l1 x13_1).f0).toList)) || (!(((rd_T68 l0 x13_1).f1) == ((rd_T68 l1 x13_1).f1)) || (!(((rd_T68 l0 x13_1).f2) == ((rd_T68 l1 x13_1).f2)) || (!(((rd_T68 l0 x13_1).f3) == ((rd_T68 l1 x13_1).f3)) || (!(((rd_T68 l0 x13_1).f4) == ((rd_T68 l1 x13_1).f4))))))) = true := c8
         clear c8
         obtain rfl := Option.some.inj H
         have p398 : 0 ≤ (x13_1 : Int) := of_decide_eq_true as_
         have q398 : x13_1 < (l0.length : Int) := of_decide_eq_true as_
         obtain ⟨ad398, e398, hx398_0, hx398_1, hx398_2, hx398_3, hx398_4⟩ := at_T68 HR0.out x13_1 p398 q398
         cases e398
         replace p398 := eq_true p398
         replace q398 := eq_true q398
         have p399 : 0 ≤ (x13_1 : Int) := of_decide_eq_true as_
         have q399 : x13_1 < (l1.length : Int) := of_decide_eq_true as_
         obtain ⟨ad399, e399, hx399_0, hx399_1, hx399_2, hx399_3, hx399_4⟩ := at_T68 HR1.out x13_1 p399 q399
         cases e399
         replace p399 := eq_true p399
         replace q399 := eq_true q399
         go_wp2
         repeat (go_quiet (fail); try go_wp2)
         go_ret
         exact ⟨by first | rfl | (simp; done) | (simp [*]; done), by repeat (first | exact Drawn0.refl _ | apply Drawn0.step)⟩
        ·rw [if_neg c8] at H
         have c8b0 : (!((((rd_T68 l0 x13_1).f0).toList) == (((rd_T68 l1 x13_1).f0).toList)) || (!(((rd_T68 l0 x13_1).f1) == ((rd_T68 l1 x13_1).f1)) || (!(((rd_T68 l0 x13_1).f2) == ((rd_T68 l1 x13_1).f2)) || (!(((rd_T68 l0 x13_1).f3) == ((rd_T68 l1 x13_1).f3)) || (!(((rd_T68 l0 x13_1).f4) == ((rd_T68 l1 x13_1).f4))))))) = false := by simpa using c8
         clear c8
         have H' := Aside0.mk H
         clear H
         have p398 : 0 ≤ (x13_1 : Int) := of_decide_eq_true as_
         have q398 : x13_1 < (l0.length : Int) := of_decide_eq_true as_
         obtain ⟨ad398, e398, hx398_0, hx398_1, hx398_2, hx398_3, hx398_4⟩ := at_T68 HR0.out x13_1 p398 q398
         cases e398
         replace p398 := eq_true p398
         replace q398 := eq_true q398
         have p399 : 0 ≤ (x13_1 : Int) := of_decide_eq_true as_
         have q399 : x13_1 < (l1.length : Int) := of_decide_eq_true as_
         obtain ⟨ad399, e399, hx399_0, hx399_1, hx399_2, hx399_3, hx399_4⟩ := at_T68 HR1.out x13_1 p399 q399
         cases e399
         replace p399 := eq_true p399
         replace q399 := eq_true q399
         go_wp2
         repeat (go_quiet (fail); try go_wp2)
         go_roundg k1
         case measure => have := HK1.out; first | exact this | exact Nat.le_of_succ_le this | exact Nat.le_refl _ | omega
         case rel => exact ⟨(wrap64 (x13_1 + 1)), rs_, H', ⟨by have := HK1.out; first | exact this | exact Nat.le_of_succ_le this | exact Nat.le_refl _ | omega⟩, by repeat (first | exact Drawn0.refl _ | apply Drawn0.step)⟩
       ·rw [if_neg c7] at H
        exact absurd H (by simp)
      ·rw [if_neg c6] at H
       exact absurd H (by simp)
     ·rw [if_neg c5] at H
      exact absurd H (by simp)
    ·rw [if_neg c4] at H
     have c4b0 : decide (x13_1 < (l0.length : Int)) = false := decide_eq_false c4
     clear c4
     obtain rfl := Option.some.inj H
     go_wp2
     repeat (go_quiet (fail); try go_wp2)
     go_ret
     exact ⟨by first | rfl | (simp; done) | (simp [*]; done), by repeat (first | exact Drawn0.refl _ | apply Drawn0.step)⟩
 ·rw [if_neg c3] at H
  have c3b0 : ((l0.length : Int) == (l1.length : Int)) = false := beq_eq_false_iff_ne.mpr c3
  have c3b1 : ((l0.length : Int) != (l1.length : Int)) = true := bne_iff_ne.mpr c3
  have c3b2 : (l0.length == l1.length) = false := by first | simpa using c3 | (simp at c3 ⊢; omega)
  obtain rfl := Option.some.inj H
  go_enter Try.func47, Try.ntmps47
  go_wp2
  repeat (go_quiet (fail); try go_wp2)
  go_ret
  exact ⟨by first | rfl | (simp; done) | (simp [*]; done), by repeat (first | exact Drawn0.refl _ | apply Drawn0.step)⟩

/-! ### impl_HintFits: function 23 -/
def impl_HintFits.f (k : Nat) (a0 : Int) (a1 : ByteArray) (a2_0 : Int) (a2_1 : Int) (l2_2 : List (S68)) : Option (Bool) := (impl_HintOf.f k a0 a1).bind fun bt401 => (if bt401.2.2.2 = true then (if bt401.1 = a2_0 then (if bt401.2.1 = a2_1 then ((impl_SameDir.f k bt401.2.2.1 l2_2).bind fun t408 => (some t408)) else (some false)) else (some false)) else (some false))
theorem impl_HintFits.mono : ∀ a0 a1 a2 a3 a4 k, LeO (impl_HintFits.f k a0 a1 a2 a3 a4) (impl_HintFits.f (k + 1) a0 a1 a2 a3 a4) := by
 intro a0 a1 a2 a3 a4 k
 unfold impl_HintFits.f
 repeat' first | (with_reducible first | exact impl_HintOf.mono .. | exact impl_SameDir.mono .. | exact LeO.refl .. | exact LeO.none .. | refine LeO.ite ?_ ?_ | refine LeO.bind ?_ (fun _ => ?_)) | exact impl_HintOf.mono .. | exact impl_SameDir.mono .. | exact LeO.none .. | refine LeO.ite ?_ ?_ | refine LeO.bind ?_ (fun _ => ?_)
set_option maxHeartbeats 80000000 in
set_option maxRecDepth 100000 in
theorem impl_HintFits.calls (k : Nat) (a0 : Int) (a1 : ByteArray) (a2_0 : Int) (a2_1 : Int) (A2_2 : Option Addr) (c2_2 : Nat) (l2_2 : List (S68)) (r : Bool) (w : World) (hr2_2 : Kd.C k68 w A2_2 l2_2.length l2_2) (hc2_2 : l2_2.length ≤ c2_2) (h : impl_HintFits.f k a0 a1 a2_0 a2_1 l2_2 = some r) :
  Calls Try.prog 23 #[.int .i64 a0, .string a1, .agg #[.int .i64 a2_0, .int .i64 a2_1, .slice A2_2 l2_2.length c2_2]] w fun e w' => e = .returned (.bool r) ∧ Below w.heap.size w w' := by
 have hu40 := Try.underlying40
 have HR2_2 := Aside0.mk hr2_2
 have HC2_2 := Aside0.mk hc2_2
 clear hr2_2 hc2_2
 have HB := Aside0.mk (Below.refl w.heap.size w)
 have H : ((impl_HintOf.f k a0 a1).bind fun bt401 => (if bt401.2.2.2 = true then (if bt401.1 = a2_0 then (if bt401.2.1 = a2_1 then ((impl_SameDir.f k bt401.2.2.1 l2_2).bind fun t408 => (some t408)) else (some false)) else (some false)) else (some false))) = some r := h
 clear h
 replace H := Option.bind_eq_some_iff.mp H
 obtain ⟨⟨t401, t402, t403, t406⟩, A40, H⟩ := H
 replace H : (if t406 = true then (if t401 = a2_0 then (if t402 = a2_1 then ((impl_SameDir.f k t403 l2_2).bind fun t408 => (some t408)) else (some false)) else (some false)) else (some false)) = some r := H
 have A4 := Aside0.mk A40
 clear A40
 by_cases c5 : t406 = true
 ·subst c5
  have H1 : (if t401 = a2_0 then (if t402 = a2_1 then ((impl_SameDir.f k t403 l2_2).bind fun t408 => (some t408)) else (some false)) else (some false)) = some r := by rw [if_pos rfl] at H; exact H
  clear H
  have H := H1
  clear H1
  by_cases c6 : t401 = a2_0
  ·rw [if_pos c6] at H
   have c6b0 : (t401 == a2_0) = true := beq_iff_eq.mpr c6
   have c6b1 : (t401 != a2_0) = false := bne_eq_false_iff_eq.mpr c6
   clear c6
   by_cases c7 : t402 = a2_1
   ·rw [if_pos c7] at H
    have c7b0 : (t402 == a2_1) = true := beq_iff_eq.mpr c7
    have c7b1 : (t402 != a2_1) = false := bne_eq_false_iff_eq.mpr c7
    clear c7
    replace H := Option.bind_eq_some_iff.mp H
    obtain ⟨t408, A80, H⟩ := H
    replace H : (some t408) = some r := H
    have A8 := Aside0.mk A80
    clear A80
    obtain rfl := Option.some.inj H
    go_enter Try.func23, Try.ntmps23
    go_wp2_with (first | ((with_reducible refine gate_dst (N := 5) rfl ?_); refine box_event ?hg (N := 5) ?hd (cs := #[.int .i64 a2_0, .int .i64 a2_1, .slice A2_2 l2_2.length c2_2]) (t := 40) ?hr ?_; (case hd => rfl); (case hg => rfl); (case hr => first | (go_simp; done) | (go_simp; rfl)); intro gb400 hg w9 hbox hb; have BK400 := Aside0.mk (hbox); have GW400 := ge_ hg (hb_ HB); have GE400 := ge_ hg (hb_ HB); replace HB := bs_ HB hb; clear hb hbox hg) | ((with_reducible refine gate_callee (f := 16) rfl ?_); refine goesL_ (some 12) rfl rfl Try.func16 (by kernel_rfl) rfl #[.int .i64 a0, .string a1] rfl ar_ ?_; (with_reducible refine (impl_HintOf.calls k a0 a1 t401 t402 t403 true _ A4.out).mono ?_); rintro e w10 ⟨v404, rfl, ho0, hb⟩; refine ⟨_, rfl, ?_⟩; have HO405 := Aside0.mk (Kd.R_lower ho0 (below_size (hs_ HB GE400))); replace BK400 := bb_ BK400 hb; replace HB := bt_ HB GE400 hb; (try clear hb); (try clear hb2); (try clear hk); (try clear hi); (try clear ho0)) | ((with_reducible refine gate_dst (N := 7) rfl ?_); refine box_event ?hg (N := 7) ?hd (cs := #[.int .i64 0, .int .i64 0, .slice none 0 0]) (t := 40) ?hr ?_; (case hd => rfl); (case hg => rfl); (case hr => first | (go_simp; done) | (go_simp; rfl)); intro gb407 hg w11 hbox hb; replace HO405 := rb_ HO405 hb; have BK407 := Aside0.mk (hbox); have GW407 := ge_ hg (hs_ HB GE400); have GE407 := ge_ hg (hs_ HB GE400); replace HB := bt_ HB GE400 hb; have NB400_407 := nl_ BK400 hg; have NB407_400 := ng_ BK400 hg; replace BK400 := bb_ BK400 hb; clear hb hbox hg; have hnb12 := NB407_400.out; have hnc12 := NB400_407.out; obtain ⟨hcz13_0, hcz13_1, hcz13_2, hfz13_0, hfz13_1, hfz13_2⟩ := bc3_ BK407; obtain ⟨Ao14, co14, eo14⟩ := Kd.R_slice HO405.out; subst eo14; obtain ⟨hcz15_0, hcz15_1, hcz15_2, hfz15_0, hfz15_1, hfz15_2⟩ := bc3_ BK400) | (go_at_call 47; (with_reducible refine (impl_SameDir.calls k _ _ t403 _ _ l2_2 t408 _ ?side1 ?side2 ?side3 ?side4 A8.out).mono ?_); (case side1 => refine (Kd.R_reads' (e := 68) (base := w.heap.size) (ok := fun k_ => True) (n := t403.length) (c := co14) ?_).2.2; exact (by (with_reducible repeat (first | apply Kd.R_alloc | apply Kd.R_drewN | apply Kd.R_drew)); exact (Kd.R_mono (Kd.R_far (p := ⟨gb407, 2, none⟩) (Kd.R_far (p := ⟨gb407, 1, none⟩) (Kd.R_far (p := ⟨gb407, 0, none⟩) (Kd.R_types HO405.out BK407.out (by decide)) (fun _ hk => hk.2) (.int .i64 t401)) (fun _ hk => hk.2) (.int .i64 t402)) (fun _ hk => hk.2) (.slice Ao14 t403.length co14)) (fun _ h_ => h_.1)))); (case side2 => exact (Kd.R_reads' HO405.out).2.1); (case side3 => exact Kd.C_below HR2_2.out (hu_ HB GE400 GE407)); (case side4 => exact HC2_2.out); rintro e w' ⟨rfl, ⟨nd, rfl⟩⟩))
    go_ret
    exact ⟨re_, by repeat (first | (with_reducible first | exact HB.out | apply below_alloc | apply pw_below_drewN | apply below_drew1 | refine below_set ?_ GE400.out | refine below_set ?_ GE407.out) | exact HB.out)⟩
   ·rw [if_neg c7] at H
    have c7b0 : (t402 == a2_1) = false := beq_eq_false_iff_ne.mpr c7
    have c7b1 : (t402 != a2_1) = true := bne_iff_ne.mpr c7
    obtain rfl := Option.some.inj H
    go_enter Try.func23, Try.ntmps23
    go_wp2_with (first | ((with_reducible refine gate_dst (N := 5) rfl ?_); refine box_event ?hg (N := 5) ?hd (cs := #[.int .i64 a2_0, .int .i64 a2_1, .slice A2_2 l2_2.length c2_2]) (t := 40) ?hr ?_; (case hd => rfl); (case hg => rfl); (case hr => first | (go_simp; done) | (go_simp; rfl)); intro gb400 hg w16 hbox hb; have BK400 := Aside0.mk (hbox); have GW400 := ge_ hg (hb_ HB); have GE400 := ge_ hg (hb_ HB); replace HB := bs_ HB hb; clear hb hbox hg) | ((with_reducible refine gate_callee (f := 16) rfl ?_); refine goesL_ (some 12) rfl rfl Try.func16 (by kernel_rfl) rfl #[.int .i64 a0, .string a1] rfl ar_ ?_; (with_reducible refine (impl_HintOf.calls k a0 a1 t401 t402 t403 true _ A4.out).mono ?_); rintro e w17 ⟨v404, rfl, ho0, hb⟩; refine ⟨_, rfl, ?_⟩; have HO405 := Aside0.mk (Kd.R_lower ho0 (below_size (hs_ HB GE400))); replace BK400 := bb_ BK400 hb; replace HB := bt_ HB GE400 hb; (try clear hb); (try clear hb2); (try clear hk); (try clear hi); (try clear ho0)) | ((with_reducible refine gate_dst (N := 7) rfl ?_); refine box_event ?hg (N := 7) ?hd (cs := #[.int .i64 0, .int .i64 0, .slice none 0 0]) (t := 40) ?hr ?_; (case hd => rfl); (case hg => rfl); (case hr => first | (go_simp; done) | (go_simp; rfl)); intro gb407 hg w18 hbox hb; replace HO405 := rb_ HO405 hb; have BK407 := Aside0.mk (hbox); have GW407 := ge_ hg (hs_ HB GE400); have GE407 := ge_ hg (hs_ HB GE400); replace HB := bt_ HB GE400 hb; have NB400_407 := nl_ BK400 hg; have NB407_400 := ng_ BK400 hg; replace BK400 := bb_ BK400 hb; clear hb hbox hg; have hnb19 := NB407_400.out; have hnc19 := NB400_407.out; obtain ⟨hcz20_0, hcz20_1, hcz20_2, hfz20_0, hfz20_1, hfz20_2⟩ := bc3_ BK407; obtain ⟨Ao21, co21, eo21⟩ := Kd.R_slice HO405.out; subst eo21; obtain ⟨hcz22_0, hcz22_1, hcz22_2, hfz22_0, hfz22_1, hfz22_2⟩ := bc3_ BK400))
    go_ret
    exact ⟨re_, by repeat (first | (with_reducible first | exact HB.out | apply below_alloc | apply pw_below_drewN | apply below_drew1 | refine below_set ?_ GE400.out | refine below_set ?_ GE407.out) | exact HB.out)⟩
  ·rw [if_neg c6] at H
   have c6b0 : (t401 == a2_0) = false := beq_eq_false_iff_ne.mpr c6
   have c6b1 : (t401 != a2_0) = true := bne_iff_ne.mpr c6
   obtain rfl := Option.some.inj H
   go_enter Try.func23, Try.ntmps23
   go_wp2_with (first | ((with_reducible refine gate_dst (N := 5) rfl ?_); refine box_event ?hg (N := 5) ?hd (cs := #[.int .i64 a2_0, .int .i64 a2_1, .slice A2_2 l2_2.length c2_2]) (t := 40) ?hr ?_; (case hd => rfl); (case hg => rfl); (case hr => first | (go_simp; done) | (go_simp; rfl)); intro gb400 hg w23 hbox hb; have BK400 := Aside0.mk (hbox); have GW400 := ge_ hg (hb_ HB); have GE400 := ge_ hg (hb_ HB); replace HB := bs_ HB hb; clear hb hbox hg) | ((with_reducible refine gate_callee (f := 16) rfl ?_); refine goesL_ (some 12) rfl rfl Try.func16 (by kernel_rfl) rfl #[.int .i64 a0, .string a1] rfl ar_ ?_; (with_reducible refine (impl_HintOf.calls k a0 a1 t401 t402 t403 true _ A4.out).mono ?_); rintro e w24 ⟨v404, rfl, ho0, hb⟩; refine ⟨_, rfl, ?_⟩; have HO405 := Aside0.mk (Kd.R_lower ho0 (below_size (hs_ HB GE400))); replace BK400 := bb_ BK400 hb; replace HB := bt_ HB GE400 hb; (try clear hb); (try clear hb2); (try clear hk); (try clear hi); (try clear ho0)) | ((with_reducible refine gate_dst (N := 7) rfl ?_); refine box_event ?hg (N := 7) ?hd (cs := #[.int .i64 0, .int .i64 0, .slice none 0 0]) (t := 40) ?hr ?_; (case hd => rfl); (case hg => rfl); (case hr => first | (go_simp; done) | (go_simp; rfl)); intro gb407 hg w25 hbox hb; replace HO405 := rb_ HO405 hb; have BK407 := Aside0.mk (hbox); have GW407 := ge_ hg (hs_ HB GE400); have GE407 := ge_ hg (hs_ HB GE400); replace HB := bt_ HB GE400 hb; have NB400_407 := nl_ BK400 hg; have NB407_400 := ng_ BK400 hg; replace BK400 := bb_ BK400 hb; clear hb hbox hg; have hnb26 := NB407_400.out; have hnc26 := NB400_407.out; obtain ⟨hcz27_0, hcz27_1, hcz27_2, hfz27_0, hfz27_1, hfz27_2⟩ := bc3_ BK407; obtain ⟨Ao28, co28, eo28⟩ := Kd.R_slice HO405.out; subst eo28; obtain ⟨hcz29_0, hcz29_1, hcz29_2, hfz29_0, hfz29_1, hfz29_2⟩ := bc3_ BK400))
   go_ret
   exact ⟨re_, by repeat (first | (with_reducible first | exact HB.out | apply below_alloc | apply pw_below_drewN | apply below_drew1 | refine below_set ?_ GE400.out | refine below_set ?_ GE407.out) | exact HB.out)⟩
 ·replace c5 := Bool.eq_false_iff.mpr c5
  subst c5
  have H1 : (some false) = some r := by rw [if_neg (show ¬ (false = true) by decide)] at H; exact H
  clear H
  have H := H1
  clear H1
  obtain rfl := Option.some.inj H
  go_enter Try.func23, Try.ntmps23
  go_wp2_with (first | ((with_reducible refine gate_dst (N := 5) rfl ?_); refine box_event ?hg (N := 5) ?hd (cs := #[.int .i64 a2_0, .int .i64 a2_1, .slice A2_2 l2_2.length c2_2]) (t := 40) ?hr ?_; (case hd => rfl); (case hg => rfl); (case hr => first | (go_simp; done) | (go_simp; rfl)); intro gb400 hg w30 hbox hb; have BK400 := Aside0.mk (hbox); have GW400 := ge_ hg (hb_ HB); have GE400 := ge_ hg (hb_ HB); replace HB := bs_ HB hb; clear hb hbox hg) | ((with_reducible refine gate_callee (f := 16) rfl ?_); refine goesL_ (some 12) rfl rfl Try.func16 (by kernel_rfl) rfl #[.int .i64 a0, .string a1] rfl ar_ ?_; (with_reducible refine (impl_HintOf.calls k a0 a1 t401 t402 t403 false _ A4.out).mono ?_); rintro e w31 ⟨v404, rfl, ho0, hb⟩; refine ⟨_, rfl, ?_⟩; have HO405 := Aside0.mk (Kd.R_lower ho0 (below_size (hs_ HB GE400))); replace BK400 := bb_ BK400 hb; replace HB := bt_ HB GE400 hb; (try clear hb); (try clear hb2); (try clear hk); (try clear hi); (try clear ho0)) | ((with_reducible refine gate_dst (N := 7) rfl ?_); refine box_event ?hg (N := 7) ?hd (cs := #[.int .i64 0, .int .i64 0, .slice none 0 0]) (t := 40) ?hr ?_; (case hd => rfl); (case hg => rfl); (case hr => first | (go_simp; done) | (go_simp; rfl)); intro gb407 hg w32 hbox hb; replace HO405 := rb_ HO405 hb; have BK407 := Aside0.mk (hbox); have GW407 := ge_ hg (hs_ HB GE400); have GE407 := ge_ hg (hs_ HB GE400); replace HB := bt_ HB GE400 hb; have NB400_407 := nl_ BK400 hg; have NB407_400 := ng_ BK400 hg; replace BK400 := bb_ BK400 hb; clear hb hbox hg; have hnb33 := NB407_400.out; have hnc33 := NB400_407.out; obtain ⟨hcz34_0, hcz34_1, hcz34_2, hfz34_0, hfz34_1, hfz34_2⟩ := bc3_ BK407; obtain ⟨Ao35, co35, eo35⟩ := Kd.R_slice HO405.out; subst eo35))
  go_ret
  exact ⟨re_, by repeat (first | (with_reducible first | exact HB.out | apply below_alloc | apply pw_below_drewN | apply below_drew1 | refine below_set ?_ GE400.out | refine below_set ?_ GE407.out) | exact HB.out)⟩

/-! ### laws_FnExactHintFits: function 5 -/
def laws_FnExactHintFits.f (k : Nat) (a0 : Int) (a1 : ByteArray) (a2_0 : Int) (a2_1 : Int) (l2_2 : List (S99)) : Option (Bool) := if (a1.size : Int) > 1048576 then (some true) else ((laws_szHint.f k a2_0 a2_1 l2_2 1048576).bind fun t410 => (if t410 < 0 then (some true) else ((laws_toHint.f k a2_0 a2_1 l2_2).bind fun bt411 => ((spec_HintFits.f k a0 a1 bt411.1 bt411.2.1 bt411.2.2).bind fun t416 => ((laws_toHint.f k a2_0 a2_1 l2_2).bind fun bt417 => ((impl_HintFits.f k a0 a1 bt417.1 bt417.2.1 bt417.2.2).bind fun t423 => (if (t423 != t416) = true then (some false) else ((laws_toHint.f k a2_0 a2_1 l2_2).bind fun bt424 => ((laws_eqHint.f k bt417.1 bt417.2.1 bt417.2.2 bt424.1 bt424.2.1 bt424.2.2).bind fun t429 => (if t429 = true then (some true) else (some false)))))))))))
theorem laws_FnExactHintFits.mono : ∀ a0 a1 a2 a3 a4 k, LeO (laws_FnExactHintFits.f k a0 a1 a2 a3 a4) (laws_FnExactHintFits.f (k + 1) a0 a1 a2 a3 a4) := by
 intro a0 a1 a2 a3 a4 k
 unfold laws_FnExactHintFits.f
 repeat' first | (with_reducible first | exact impl_HintFits.mono .. | exact laws_eqHint.mono .. | exact laws_szHint.mono .. | exact laws_toHint.mono .. | exact spec_HintFits.mono .. | exact LeO.refl .. | exact LeO.none .. | refine LeO.ite ?_ ?_ | refine LeO.bind ?_ (fun _ => ?_)) | exact impl_HintFits.mono .. | exact laws_eqHint.mono .. | exact laws_szHint.mono .. | exact laws_toHint.mono .. | exact spec_HintFits.mono .. | exact LeO.none .. | refine LeO.ite ?_ ?_ | refine LeO.bind ?_ (fun _ => ?_)
set_option maxHeartbeats 80000000 in
set_option maxRecDepth 100000 in
theorem laws_FnExactHintFits.calls (k : Nat) (a0 : Int) (a1 : ByteArray) (a2_0 : Int) (a2_1 : Int) (A2_2 : Option Addr) (c2_2 : Nat) (l2_2 : List (S99)) (r : Bool) (w : World) (hr2_2 : Kd.C k99 w A2_2 l2_2.length l2_2) (hc2_2 : l2_2.length ≤ c2_2) (hrt : r = true) (h : laws_FnExactHintFits.f k a0 a1 a2_0 a2_1 l2_2 = some r) :
  Calls Try.prog 5 #[.int .i64 a0, .string a1, .agg #[.int .i64 a2_0, .int .i64 a2_1, .slice A2_2 l2_2.length c2_2]] w fun e w' => e = .returned (.bool r) ∧ Below w.heap.size w w' := by
 have hu48 := Try.underlying48
 have hu40 := Try.underlying40
 have HRT := Aside0.mk hrt
 clear hrt
 have HR2_2 := Aside0.mk hr2_2
 have HC2_2 := Aside0.mk hc2_2
 clear hr2_2 hc2_2
 have HB := Aside0.mk (Below.refl w.heap.size w)
 have H : (if (a1.size : Int) > 1048576 then (some true) else ((laws_szHint.f k a2_0 a2_1 l2_2 1048576).bind fun t410 => (if t410 < 0 then (some true) else ((laws_toHint.f k a2_0 a2_1 l2_2).bind fun bt411 => ((spec_HintFits.f k a0 a1 bt411.1 bt411.2.1 bt411.2.2).bind fun t416 => ((laws_toHint.f k a2_0 a2_1 l2_2).bind fun bt417 => ((impl_HintFits.f k a0 a1 bt417.1 bt417.2.1 bt417.2.2).bind fun t423 => (if (t423 != t416) = true then (some false) else ((laws_toHint.f k a2_0 a2_1 l2_2).bind fun bt424 => ((laws_eqHint.f k bt417.1 bt417.2.1 bt417.2.2 bt424.1 bt424.2.1 bt424.2.2).bind fun t429 => (if t429 = true then (some true) else (some false)))))))))))) = some r := h
 clear h
 by_cases c4 : (a1.size : Int) > 1048576
 ·rw [if_pos c4] at H
  have c4b0 : decide (1048576 < (a1.size : Int)) = true := decide_eq_true c4
  have c4b1 : decide (1048576 < a1.size) = true := decide_eq_true (by omega)
  clear c4
  obtain rfl := Option.some.inj H
  go_enter Try.func5, Try.ntmps5
  go_wp2_with (first | ((with_reducible refine gate_dst (N := 5) rfl ?_); refine box_event ?hg (N := 5) ?hd (cs := #[.int .i64 a2_0, .int .i64 a2_1, .slice A2_2 l2_2.length c2_2]) (t := 48) ?hr ?_; (case hd => rfl); (case hg => rfl); (case hr => first | (go_simp; done) | (go_simp; rfl)); intro gb409 hg w5 hbox hb; have BK409 := Aside0.mk (hbox); have GW409 := ge_ hg (hb_ HB); have GE409 := ge_ hg (hb_ HB); replace HB := bs_ HB hb; clear hb hbox hg))
  go_ret
  exact ⟨re_, hs_ HB GE409⟩
 ·rw [if_neg c4] at H
  have c4b0 : decide (1048576 < (a1.size : Int)) = false := decide_eq_false c4
  have c4b1 : decide (1048576 < a1.size) = false := decide_eq_false (by omega)
  clear c4
  replace H := Option.bind_eq_some_iff.mp H
  obtain ⟨t410, A60, H⟩ := H
  replace H : (if t410 < 0 then (some true) else ((laws_toHint.f k a2_0 a2_1 l2_2).bind fun bt411 => ((spec_HintFits.f k a0 a1 bt411.1 bt411.2.1 bt411.2.2).bind fun t416 => ((laws_toHint.f k a2_0 a2_1 l2_2).bind fun bt417 => ((impl_HintFits.f k a0 a1 bt417.1 bt417.2.1 bt417.2.2).bind fun t423 => (if (t423 != t416) = true then (some false) else ((laws_toHint.f k a2_0 a2_1 l2_2).bind fun bt424 => ((laws_eqHint.f k bt417.1 bt417.2.1 bt417.2.2 bt424.1 bt424.2.1 bt424.2.2).bind fun t429 => (if t429 = true then (some true) else (some false)))))))))) = some r := H
  have A6 := Aside0.mk A60
  clear A60
  by_cases c7 : t410 < 0
  ·rw [if_pos c7] at H
   have c7b0 : decide (t410 < 0) = true := decide_eq_true c7
   clear c7
   obtain rfl := Option.some.inj H
   go_enter Try.func5, Try.ntmps5
   go_wp2_with (first | ((with_reducible refine gate_dst (N := 5) rfl ?_); refine box_event ?hg (N := 5) ?hd (cs := #[.int .i64 a2_0, .int .i64 a2_1, .slice A2_2 l2_2.length c2_2]) (t := 48) ?hr ?_; (case hd => rfl); (case hg => rfl); (case hr => first | (go_simp; done) | (go_simp; rfl)); intro gb409 hg w8 hbox hb; have BK409 := Aside0.mk (hbox); have GW409 := ge_ hg (hb_ HB); have GE409 := ge_ hg (hb_ HB); replace HB := bs_ HB hb; clear hb hbox hg; obtain ⟨hcz9_0, hcz9_1, hcz9_2, hfz9_0, hfz9_1, hfz9_2⟩ := bc3_ BK409) | ((with_reducible refine gate_callee (f := 20) rfl ?_); refine goesL_ (some 16) rfl rfl Try.func20 (by kernel_rfl) rfl #[.agg #[.int .i64 a2_0, .int .i64 a2_1, .slice A2_2 l2_2.length c2_2], .int .i64 1048576] rfl ar_ ?_; (with_reducible refine (laws_szHint.calls k a2_0 a2_1 _ _ l2_2 1048576 t410 _ ?side1 ?side2 A6.out).mono ?_); (case side1 => repeat (first | exact (Kd.C_below HR2_2.out HB.out) | (with_reducible refine Kd.C_alloc ?_ _) | (with_reducible refine Kd.C_drewN ?_ _) | (with_reducible refine Kd.C_drew ?_))); (case side2 => exact HC2_2.out); rintro e w10 ⟨rfl, hb⟩; refine ⟨_, rfl, ?_⟩; replace BK409 := bb_ BK409 hb; replace HB := bt_ HB GE409 hb; (try clear hb); (try clear hb2); (try clear hk); (try clear hi)))
   go_ret
   exact ⟨re_, hs_ HB GE409⟩
  ·rw [if_neg c7] at H
   have c7b0 : decide (t410 < 0) = false := decide_eq_false c7
   clear c7
   replace H := Option.bind_eq_some_iff.mp H
   obtain ⟨⟨t411, t412, t413⟩, A110, H⟩ := H
   replace H : ((spec_HintFits.f k a0 a1 t411 t412 t413).bind fun t416 => ((laws_toHint.f k a2_0 a2_1 l2_2).bind fun bt417 => ((impl_HintFits.f k a0 a1 bt417.1 bt417.2.1 bt417.2.2).bind fun t423 => (if (t423 != t416) = true then (some false) else ((laws_toHint.f k a2_0 a2_1 l2_2).bind fun bt424 => ((laws_eqHint.f k bt417.1 bt417.2.1 bt417.2.2 bt424.1 bt424.2.1 bt424.2.2).bind fun t429 => (if t429 = true then (some true) else (some false)))))))) = some r := H
   have A11 := Aside0.mk A110
   clear A110
   replace H := Option.bind_eq_some_iff.mp H
   obtain ⟨t416, A120, H⟩ := H
   replace H : ((laws_toHint.f k a2_0 a2_1 l2_2).bind fun bt417 => ((impl_HintFits.f k a0 a1 bt417.1 bt417.2.1 bt417.2.2).bind fun t423 => (if (t423 != t416) = true then (some false) else ((laws_toHint.f k a2_0 a2_1 l2_2).bind fun bt424 => ((laws_eqHint.f k bt417.1 bt417.2.1 bt417.2.2 bt424.1 bt424.2.1 bt424.2.2).bind fun t429 => (if t429 = true then (some true) else (some false))))))) = some r := H
   have A12 := Aside0.mk A120
   clear A120
   replace H := Option.bind_eq_some_iff.mp H
   obtain ⟨⟨t417, t418, t419⟩, A130, H⟩ := H
   replace H : ((impl_HintFits.f k a0 a1 t417 t418 t419).bind fun t423 => (if (t423 != t416) = true then (some false) else ((laws_toHint.f k a2_0 a2_1 l2_2).bind fun bt424 => ((laws_eqHint.f k t417 t418 t419 bt424.1 bt424.2.1 bt424.2.2).bind fun t429 => (if t429 = true then (some true) else (some false)))))) = some r := H
   have A13 := Aside0.mk A130
   clear A130
   replace H := Option.bind_eq_some_iff.mp H
   obtain ⟨t423, A140, H⟩ := H
   replace H : (if (t423 != t416) = true then (some false) else ((laws_toHint.f k a2_0 a2_1 l2_2).bind fun bt424 => ((laws_eqHint.f k t417 t418 t419 bt424.1 bt424.2.1 bt424.2.2).bind fun t429 => (if t429 = true then (some true) else (some false))))) = some r := H
   have A14 := Aside0.mk A140
   clear A140
   by_cases c15 : (t423 != t416) = true
   ·rw [if_pos c15] at H
    have c15b0 : (t423 != t416) = true := c15
    (try (have c15b1 : decide (t423 = t416) = false := by simpa using c15))
    (try (have c15b2 : (t423 == t416) = false := by simpa using c15))
    (try (have c15b3 : ¬ (t423 = t416) := by simpa using c15))
    clear c15
    exact absurd ((Option.some.inj H).trans HRT.out) (by decide)
   ·rw [if_neg c15] at H
    have c15b0 : (t423 != t416) = false := by simpa using c15
    (try (have c15b1 : decide (t423 = t416) = true := by simpa using c15))
    (try (have c15b2 : (t423 == t416) = true := by simpa using c15))
    clear c15
    replace H := Option.bind_eq_some_iff.mp H
    obtain ⟨⟨t424, t425, t426⟩, A160, H⟩ := H
    replace H : ((laws_eqHint.f k t417 t418 t419 t424 t425 t426).bind fun t429 => (if t429 = true then (some true) else (some false))) = some r := H
    have A16 := Aside0.mk A160
    clear A160
    replace H := Option.bind_eq_some_iff.mp H
    obtain ⟨t429, A170, H⟩ := H
    replace H : (if t429 = true then (some true) else (some false)) = some r := H
    have A17 := Aside0.mk A170
    clear A170
    by_cases c18 : t429 = true
    ·subst c18
     have H1 : (some true) = some r := by rw [if_pos rfl] at H; exact H
     clear H
     have H := H1
     clear H1
     obtain rfl := Option.some.inj H
     go_enter Try.func5, Try.ntmps5
     try go_wp2_with (first | ((with_reducible refine gate_dst (N := 5) rfl ?_); refine box_event ?hg (N := 5) ?hd (cs := #[.int .i64 a2_0, .int .i64 a2_1, .slice A2_2 l2_2.length c2_2]) (t := 48) ?hr ?_; (case hd => rfl); (case hg => rfl); (case hr => first | (go_simp; done) | (go_simp; rfl)); intro gb409 hg w19 hbox hb; have BK409 := Aside0.mk (hbox); have GW409 := ge_ hg (hb_ HB); have GE409 := ge_ hg (hb_ HB); replace HB := bs_ HB hb; clear hb hbox hg; obtain ⟨hcz20_0, hcz20_1, hcz20_2, hfz20_0, hfz20_1, hfz20_2⟩ := bc3_ BK409) | ((with_reducible refine gate_callee (f := 20) rfl ?_); refine goesL_ (some 16) rfl rfl Try.func20 (by kernel_rfl) rfl #[.agg #[.int .i64 a2_0, .int .i64 a2_1, .slice A2_2 l2_2.length c2_2], .int .i64 1048576] rfl ar_ ?_; (with_reducible refine (laws_szHint.calls k a2_0 a2_1 _ _ l2_2 1048576 t410 _ ?side1 ?side2 A6.out).mono ?_); (case side1 => repeat (first | exact (Kd.C_below HR2_2.out HB.out) | (with_reducible refine Kd.C_alloc ?_ _) | (with_reducible refine Kd.C_drewN ?_ _) | (with_reducible refine Kd.C_drew ?_))); (case side2 => exact HC2_2.out); rintro e w21 ⟨rfl, hb⟩; refine ⟨_, rfl, ?_⟩; replace BK409 := bb_ BK409 hb; replace HB := bt_ HB GE409 hb; (try clear hb); (try clear hb2); (try clear hk); (try clear hi); obtain ⟨hcz22_0, hcz22_1, hcz22_2, hfz22_0, hfz22_1, hfz22_2⟩ := bc3_ BK409) | ((with_reducible refine gate_callee (f := 22) rfl ?_); refine goesL_ (some 22) rfl rfl Try.func22 (by kernel_rfl) rfl #[.agg #[.int .i64 a2_0, .int .i64 a2_1, .slice A2_2 l2_2.length c2_2]] rfl ar_ ?_; (with_reducible refine (laws_toHint.calls k a2_0 a2_1 _ _ l2_2 t411 t412 t413 _ ?side1 ?side2 A11.out).mono ?_); (case side1 => repeat (first | exact (Kd.C_below HR2_2.out HB.out) | (with_reducible refine Kd.C_alloc ?_ _) | (with_reducible refine Kd.C_drewN ?_ _) | (with_reducible refine Kd.C_drew ?_))); (case side2 => exact HC2_2.out); rintro e w23 ⟨v414, rfl, ho0, hb⟩; refine ⟨_, rfl, ?_⟩; have HO415 := Aside0.mk (Kd.R_lower ho0 (below_size (hs_ HB GE409))); replace BK409 := bb_ BK409 hb; replace HB := bt_ HB GE409 hb; (try clear hb); (try clear hb2); (try clear hk); (try clear hi); (try clear ho0); obtain ⟨Ao24, co24, eo24⟩ := Kd.R_slice HO415.out; subst eo24) | ((with_reducible refine gate_callee (f := 21) rfl ?_); refine goesL_ (some 23) rfl rfl Try.func21 (by kernel_rfl) rfl #[.int .i64 a0, .string a1, .agg #[.int .i64 t411, .int .i64 t412, .slice Ao24 t413.length co24]] rfl ar_ ?_; (with_reducible refine (spec_HintFits.calls k a0 a1 t411 t412 _ _ t413 t416 _ ?side1 ?side2 A12.out).mono ?_); (case side1 => repeat (first | exact (Kd.R_reads' HO415.out).2.2 | (with_reducible refine Kd.C_alloc ?_ _) | (with_reducible refine Kd.C_drewN ?_ _) | (with_reducible refine Kd.C_drew ?_))); (case side2 => exact (Kd.R_reads' HO415.out).2.1); rintro e w25 ⟨rfl, hb⟩; refine ⟨_, rfl, ?_⟩; replace HO415 := rb_ HO415 hb; replace BK409 := bb_ BK409 hb; replace HB := bt_ HB GE409 hb; (try clear hb); (try clear hb2); (try clear hk); (try clear hi); obtain ⟨hcz26_0, hcz26_1, hcz26_2, hfz26_0, hfz26_1, hfz26_2⟩ := bc3_ BK409) | ((with_reducible refine gate_callee (f := 22) rfl ?_); refine goesL_ (some 25) rfl rfl Try.func22 (by kernel_rfl) rfl #[.agg #[.int .i64 a2_0, .int .i64 a2_1, .slice A2_2 l2_2.length c2_2]] rfl ar_ ?_; (with_reducible refine (laws_toHint.calls k a2_0 a2_1 _ _ l2_2 t417 t418 t419 _ ?side1 ?side2 A13.out).mono ?_); (case side1 => repeat (first | exact (Kd.C_below HR2_2.out HB.out) | (with_reducible refine Kd.C_alloc ?_ _) | (with_reducible refine Kd.C_drewN ?_ _) | (with_reducible refine Kd.C_drew ?_))); (case side2 => exact HC2_2.out); rintro e w27 ⟨v420, rfl, ho0, hb⟩; refine ⟨_, rfl, ?_⟩; have HO421 := Aside0.mk (Kd.R_lower (Kd.R_new' ho0 (Kd.R_lt (rr_ HO415))) (below_size (hs_ HB GE409))); replace HO415 := Aside0.mk (Kd.R_elder' (rr_ HO415) (Kd.R_base ho0) hb); replace BK409 := bb_ BK409 hb; replace HB := bt_ HB GE409 hb; (try clear hb); (try clear hb2); (try clear hk); (try clear hi); (try clear ho0)) | ((with_reducible refine gate_dst (N := 9) rfl ?_); refine box_event ?hg (N := 9) ?hd (cs := #[.int .i64 0, .int .i64 0, .slice none 0 0]) (t := 40) ?hr ?_; (case hd => rfl); (case hg => rfl); (case hr => first | (go_simp; done) | (go_simp; rfl)); intro gb422 hg w28 hbox hb; replace HO415 := rb_ HO415 hb; replace HO421 := rb_ HO421 hb; have BK422 := Aside0.mk (hbox); have GW422 := ge_ hg (hs_ HB GE409); have GE422 := ge_ hg (hs_ HB GE409); replace HB := bt_ HB GE409 hb; have NB409_422 := nl_ BK409 hg; have NB422_409 := ng_ BK409 hg; replace BK409 := bb_ BK409 hb; clear hb hbox hg; have hnb29 := NB422_409.out; have hnc29 := NB409_422.out; obtain ⟨hcz30_0, hcz30_1, hcz30_2, hfz30_0, hfz30_1, hfz30_2⟩ := bc3_ BK422; obtain ⟨Ao31, co31, eo31⟩ := Kd.R_slice HO421.out; subst eo31) | ((with_reducible refine gate_callee (f := 23) rfl ?_); refine goesL_ (some 29) rfl rfl Try.func23 (by kernel_rfl) rfl #[.int .i64 a0, .string a1, .agg #[.int .i64 t417, .int .i64 t418, .slice Ao31 t419.length co31]] rfl ar_ ?_; (with_reducible refine (impl_HintFits.calls k a0 a1 t417 t418 _ _ t419 t423 _ ?side1 ?side2 A14.out).mono ?_); (case side1 => refine (Kd.R_reads' (e := 68) (base := w.heap.size) (ok := fun k_ => (True ∧ some k_ ≠ (.slice Ao24 t413.length co24 : Value).ownBlock)) (n := t419.length) (c := co31) ?_).2.2; exact (by (with_reducible repeat (first | apply Kd.R_alloc | apply Kd.R_drewN | apply Kd.R_drew)); exact (Kd.R_mono (Kd.R_far (p := ⟨gb422, 2, none⟩) (Kd.R_far (p := ⟨gb422, 1, none⟩) (Kd.R_far (p := ⟨gb422, 0, none⟩) (Kd.R_types HO421.out BK422.out (by decide)) (fun _ hk => hk.2) (.int .i64 t417)) (fun _ hk => hk.2) (.int .i64 t418)) (fun _ hk => hk.2) (.slice Ao31 t419.length co31)) (fun _ h_ => h_.1)))); (case side2 => exact (Kd.R_reads' HO421.out).2.1); rintro e w32 ⟨rfl, hb⟩; refine ⟨_, rfl, ?_⟩; replace HO415 := rfb_ HO415 BK422 hb; replace HO421 := rfb_ HO421 BK422 hb; replace BK409 := bf_ BK409 NB409_422 hb; replace BK422 := bp_ #[.int .i64 t417, .int .i64 t418, .slice Ao31 t419.length co31] BK422 hb; replace HB := bu_ HB GE409 GE422 hb; (try clear hb); (try clear hb2); (try clear hk); (try clear hi)))
     replace HO415 := rd_ HO415
     replace HO421 := rd_ HO421
     replace BK409 := bd_ BK409
     replace BK422 := bd_ BK422
     replace HB := hd_ HB
     refine start_ (n := 5) (S := k3_ gb422 (.int .i64 t417) (.int .i64 t418) (.slice Ao31 t419.length co31) (k3e_ gb409 (.int .i64 a2_0) (.int .i64 a2_1) (.slice A2_2 l2_2.length c2_2))) (ds := []) #[o',o',o',o',o'] (by kernel_rfl) rfl rfl (p3_ BK422 (p3e_ BK409)) (fun hHeld => ?_)
     generalize w32.drew = w33 at HO415 HO421 BK409 BK422 HB hHeld ⊢
     refine take_ (i := 0) (N := some 33) (v := ?_) (a' := ?_) #[i',o',o',o',o'] rfl rfl (by kernel_rfl) (fun _ _ _ h => h) (Or.inl ⟨by rfl, ?_⟩) hHeld ?_ ?_
     rotate_left
     ·rintro w' ⟨s0, s1, s2, s3, s4, s5⟩
      go_simp
      with_reducible rfl
     rotate_left
     ·simp only [Act.put, la_, lz_, ls_, i64_w, i32_w]
      rfl
     refine take_ (i := 1) (N := some 34) (v := ?_) (a' := ?_) #[i',i',o',o',o'] rfl rfl (by kernel_rfl) (fun _ _ _ h => h) (Or.inl ⟨by rfl, ?_⟩) hHeld ?_ ?_
     rotate_left
     ·rintro w' ⟨s0, s1, s2, s3, s4, s5⟩
      go_simp
      with_reducible rfl
     rotate_left
     ·simp only [Act.put, la_, lz_, ls_, i64_w, i32_w]
      rfl
     refine one_ (i := 2) (N := some 35) #[i',i',i',o',o'] rfl rfl (by kernel_rfl) (by decide) (fun K hK => ?_)
     refine goes_ Try.func22 (by kernel_rfl) rfl #[.agg #[.int .i64 a2_0, .int .i64 a2_1, .slice A2_2 l2_2.length c2_2]] (by rfl) rfl rfl ar_ ?_
     with_reducible refine (laws_toHint.calls k a2_0 a2_1 _ _ l2_2 t424 t425 t426 _ ?side1 ?side2 A16.out).mono ?_
     (case side1 => repeat (first | exact (Kd.C_below HR2_2.out HB.out) | (with_reducible refine Kd.C_alloc ?_ _) | (with_reducible refine Kd.C_drewN ?_ _) | (with_reducible refine Kd.C_drew ?_)))
     (case side2 => exact HC2_2.out)
     rintro e w34 ⟨v427, rfl, ho0, hb⟩
     refine ⟨_, rfl, ?_⟩
     have HO428 := Aside0.mk (Kd.R_lower (Kd.R_new' (Kd.R_new' ho0 (Kd.R_lt (rr_ HO415))) (Kd.R_lt (rr_ HO421))) (below_size (hu_ HB GE409 GE422)))
     replace HO415 := Aside0.mk (Kd.R_elder' (rr_ HO415) (Kd.R_base ho0) hb)
     replace HO421 := Aside0.mk (Kd.R_elder' (rr_ HO421) (Kd.R_base ho0) hb)
     replace BK409 := bb_ BK409 hb
     replace BK422 := bb_ BK422 hb
     replace HB := bu_ HB GE409 GE422 hb
     (try clear hb)
     (try clear hb2)
     (try clear hk)
     (try clear hi)
     (try clear ho0)
     obtain ⟨Ao35, co35, eo35⟩ := Kd.R_slice HO428.out
     (first | subst eo35 | (injection eo35 with f1_ f2_ f3_; have f4_ := f1_.symm; have f5_ := f3_.symm; clear f1_ f2_ f3_; subst f4_; subst f5_))
     refine hK.out _ _ (p3_ BK422 (p3e_ BK409)) (fun hHeld => ?_)
     clear hK K
     refine norm_ (a' := ?_) ?_ ?_
     rotate_left
     ·show Act.put _ (some 35) _ = _
      simp only [Act.put, la_, lz_, ls_, i64_w, i32_w]
      rfl
     refine one_ (i := 3) (N := some 36) #[i',i',i',i',o'] rfl rfl (by kernel_rfl) (by decide) (fun K hK => ?_)
     refine goes_ Try.func17 (by kernel_rfl) rfl #[.agg #[.int .i64 t417, .int .i64 t418, .slice Ao31 t419.length co31], .agg #[.int .i64 t424, .int .i64 t425, .slice Ao35 t426.length co35]] (by rfl) rfl rfl ar_ ?_
     with_reducible refine (laws_eqHint.calls k t417 t418 _ _ t419 t424 t425 _ _ t426 true _ ?side1 ?side2 ?side3 ?side4 A17.out).mono ?_
     (case side1 => repeat (first | exact (Kd.R_reads' HO421.out).2.2 | (with_reducible refine Kd.C_alloc ?_ _) | (with_reducible refine Kd.C_drewN ?_ _) | (with_reducible refine Kd.C_drew ?_)))
     (case side2 => exact (Kd.R_reads' HO421.out).2.1)
     (case side3 => repeat (first | exact (Kd.R_reads' HO428.out).2.2 | (with_reducible refine Kd.C_alloc ?_ _) | (with_reducible refine Kd.C_drewN ?_ _) | (with_reducible refine Kd.C_drew ?_)))
     (case side4 => exact (Kd.R_reads' HO428.out).2.1)
     rintro e w36 ⟨rfl, hb⟩
     refine ⟨_, rfl, ?_⟩
     replace HO415 := rb_ HO415 hb
     replace HO421 := rb_ HO421 hb
     replace HO428 := rb_ HO428 hb
     replace BK409 := bb_ BK409 hb
     replace BK422 := bb_ BK422 hb
     replace HB := bu_ HB GE409 GE422 hb
     (try clear hb)
     (try clear hb2)
     (try clear hk)
     (try clear hi)
     refine hK.out _ _ (p3_ BK422 (p3e_ BK409)) (fun hHeld => ?_)
     clear hK K
     refine norm_ (a' := ?_) ?_ ?_
     rotate_left
     ·show Act.put _ (some 36) _ = _
      simp only [Act.put, la_, lz_, ls_, i64_w, i32_w]
      rfl
     refine pure_ (i := 4) (N := some 37) (v := ?_) (a' := ?_) #[i',i',i',i',i'] rfl rfl (by kernel_rfl) (fun _ _ _ h => h) (Or.inl ⟨by rfl, ?_⟩) ?_ ?_
     rotate_left;·intro w';go_simp;with_reducible rfl
     rotate_left;·simp only [Act.put, la_, lz_, ls_, i64_w, i32_w];rfl
     refine done_ (by kernel_rfl) ?_
     try go_wp2
     go_ret
     exact ⟨re_, by repeat (first | (with_reducible first | exact HB.out | apply below_alloc | apply pw_below_drewN | apply below_drew1 | refine below_set ?_ GE409.out | refine below_set ?_ GE422.out) | exact HB.out)⟩
    ·replace c18 := Bool.eq_false_iff.mpr c18
     subst c18
     have H1 : (some false) = some r := by rw [if_neg (show ¬ (false = true) by decide)] at H; exact H
     clear H
     have H := H1
     clear H1
     exact absurd ((Option.some.inj H).trans HRT.out) (by decide)

/-- THE ONE PURE STATEMENT of laws_FnExactHintFits. -/
def laws_FnExactHintFits.Pure : Prop := ∀ (a0 : Int) (a1 : ByteArray) (a2_0 : Int) (a2_1 : Int) (l2_2 : List (S99)), ((Lit.int .i64 a0).wf = true) → a1.size ≤ 140737488351232 → ((Lit.int .i64 a2_0).wf = true) → ((Lit.int .i64 a2_1).wf = true) → (l2_2.length ≤ maxLen ∧ ∀ z ∈ l2_2, (z.f0.size ≤ maxLen) ∧ ((Lit.int .i64 z.f1).wf = true) ∧ ((Lit.int .i64 z.f2).wf = true) ∧ ((Lit.int .i64 z.f3).wf = true) ∧ ((Lit.int .i64 z.f4).wf = true)) → ∃ k, laws_FnExactHintFits.f k a0 a1 a2_0 a2_1 l2_2 = some true

end Go.Proofs.Ytnjmehiploelnaa.PFnExactHintFits
