-- Laid by a program of this session, a copy of the kit's printer with additions (wip/patch_print.py): myhead. Lean checks it.
import Derived.Test.YtigbekefjbfopaaPFnPowerx0
import Derived.Test.YtigbekefjbfopaaPFnPowerx5
import Derived.Test.YtigbekefjbfopaaPFnPowerx7
namespace Go.Proofs.Ytigbekefjbfopaa.PFnPower
open Go.RowKit Go.Proofs.YtigbekefjbfopaaW.PrintWords Go.Proofs.YtigbekefjbfopaaW.PrintLast Go.Proofs.YtigbekefjbfopaaW.PrintMore
attribute [local go_sem] max2_int min2_int max_two min_two max_three min_three max_four min_four   -- for this text's walks alone
set_option linter.unusedVariables false
set_option linter.unusedSimpArgs false

/-! ### spec_Append: function 93 -/
def spec_Append.f (k : Nat) (l0_0 : List (S45)) (a0_1 : Int) (a0_2 : Int) (a0_3 : Bool) (a1 : ByteArray) (a2 : ByteArray) : Option ((List (S45)) × Int × Int × Bool × Int) := (spec_l3Begin.f k l0_0 a0_1 a0_2 a0_3).bind fun bt241 => (if bt241.2.2.2.2 = 0 then ((spec_l3Find.f k l0_0 a0_1 a0_2 a0_3 a1).bind fun t249 => (if t249 < 0 then (some (bt241.1, bt241.2.1, bt241.2.2.1, bt241.2.2.2.1, 3)) else ((spec_l3Used.f k l0_0 a0_1 a0_2 a0_3).bind fun t250 => (if (a2.size : Int) > (wrap64 (a0_1 - t250)) then (some (bt241.1, bt241.2.1, bt241.2.2.1, bt241.2.2.2.1, 2)) else (if 0 ≤ t249 then (if t249 < (l0_0.length : Int) then (if ((rd_T45 l0_0 t249).f1).size + a2.size ≤ 9223372036854775807 then (if t249 < (bt241.1.length : Int) then (some ((bt241.1.set (t249 : Int).toNat (⟨(rd_T45 bt241.1 t249).f0, ((rd_T45 l0_0 t249).f1) ++ a2, (rd_T45 bt241.1 t249).f2⟩ : S45)), bt241.2.1, bt241.2.2.1, bt241.2.2.2.1, 0)) else (none)) else (none)) else (none)) else (none)))))) else (some (bt241.1, bt241.2.1, bt241.2.2.1, bt241.2.2.2.1, bt241.2.2.2.2)))
theorem spec_Append.mono : ∀ a0 a1 a2 a3 a4 a5 k, LeO (spec_Append.f k a0 a1 a2 a3 a4 a5) (spec_Append.f (k + 1) a0 a1 a2 a3 a4 a5) := by
 intro a0 a1 a2 a3 a4 a5 k
 unfold spec_Append.f
 repeat' first | (with_reducible first | exact spec_l3Begin.mono .. | exact spec_l3Find.mono .. | exact spec_l3Used.mono .. | exact LeO.refl .. | exact LeO.none .. | refine LeO.ite ?_ ?_ | refine LeO.bind ?_ (fun _ => ?_)) | exact spec_l3Begin.mono .. | exact spec_l3Find.mono .. | exact spec_l3Used.mono .. | exact LeO.none .. | refine LeO.ite ?_ ?_ | refine LeO.bind ?_ (fun _ => ?_)
def spec_Append.T7 : Bool × List (List Nat × List Nat) := (true, [([], []), ([0], [0]), ([], []), ([2], [2]), ([], []), ([4], [4]), ([3, 5], [3, 5]), ([1, 6], [1, 6])])
def spec_Append.B7 : List Nat := [0, 1, 0, 4, 0, 16, 60, 127]
theorem spec_Append.tab7 : rtab .any (opsOf Try.f93 7) = spec_Append.T7 := by kernel_rfl
theorem spec_Append.bits7 : waitsOk spec_Append.T7.2 spec_Append.B7 = true := by kernel_rfl
def spec_Append.T9 : Bool × List (List Nat × List Nat) := (true, [([], []), ([0], [0]), ([], []), ([], []), ([3], [3]), ([], []), ([4, 5], [4, 5]), ([6], [6]), ([7], [7]), ([], []), ([8, 9], [8, 9]), ([1, 2, 0, 1, 2, 3, 4, 5, 6, 7, 8, 9, 10], [1, 2]), ([11, 0, 1, 2, 3, 4, 5, 6, 7, 8, 9, 10], [11]), ([12, 10, 0, 1, 2, 3, 4, 5, 6, 7, 8, 9, 10], [10, 12])])
def spec_Append.B9 : List Nat := [0, 1, 0, 0, 8, 0, 56, 120, 248, 0, 1016, 2047, 4095, 8191]
theorem spec_Append.tab9 : rtab .any (opsOf Try.f93 9) = spec_Append.T9 := by kernel_rfl
theorem spec_Append.bits9 : waitsOk spec_Append.T9.2 spec_Append.B9 = true := by kernel_rfl
set_option maxHeartbeats 80000000 in
set_option maxRecDepth 100000 in
theorem spec_Append.calls (k : Nat) (A0_0 : Option Addr) (c0_0 : Nat) (l0_0 : List (S45)) (a0_1 : Int) (a0_2 : Int) (a0_3 : Bool) (a1 : ByteArray) (a2 : ByteArray) (r1 : List (S45)) (r2 : Int) (r3 : Int) (r4 : Bool) (r5 : Int) (w : World) (hr0_0 : Kd.C k45 w A0_0 l0_0.length l0_0) (hc0_0 : l0_0.length ≤ c0_0) (h : spec_Append.f k l0_0 a0_1 a0_2 a0_3 a1 a2 = some (r1, r2, r3, r4, r5)) :
  Calls Try.prog 93 #[.agg #[.slice A0_0 l0_0.length c0_0, .int .i64 a0_1, .int .i64 a0_2, .bool a0_3], .string a1, .string a2] w fun e w' => ∃ v0_ : Value, e = .returned (.tuple #[.agg #[v0_, .int .i64 r2, .int .i64 r3, .bool r4], .int .i64 r5]) ∧ Kd.R k45 45 w' w.heap.size (fun _ => True) v0_ r1 ∧ Below w.heap.size w w' := by
 have hu29 := Try.underlying29
 have HR0_0 := Aside0.mk hr0_0
 have HC0_0 := Aside0.mk hc0_0
 clear hr0_0 hc0_0
 have HB := Aside0.mk (Below.refl w.heap.size w)
 have H : ((spec_l3Begin.f k l0_0 a0_1 a0_2 a0_3).bind fun bt241 => (if bt241.2.2.2.2 = 0 then ((spec_l3Find.f k l0_0 a0_1 a0_2 a0_3 a1).bind fun t249 => (if t249 < 0 then (some (bt241.1, bt241.2.1, bt241.2.2.1, bt241.2.2.2.1, 3)) else ((spec_l3Used.f k l0_0 a0_1 a0_2 a0_3).bind fun t250 => (if (a2.size : Int) > (wrap64 (a0_1 - t250)) then (some (bt241.1, bt241.2.1, bt241.2.2.1, bt241.2.2.2.1, 2)) else (if 0 ≤ t249 then (if t249 < (l0_0.length : Int) then (if ((rd_T45 l0_0 t249).f1).size + a2.size ≤ 9223372036854775807 then (if t249 < (bt241.1.length : Int) then (some ((bt241.1.set (t249 : Int).toNat (⟨(rd_T45 bt241.1 t249).f0, ((rd_T45 l0_0 t249).f1) ++ a2, (rd_T45 bt241.1 t249).f2⟩ : S45)), bt241.2.1, bt241.2.2.1, bt241.2.2.2.1, 0)) else (none)) else (none)) else (none)) else (none)))))) else (some (bt241.1, bt241.2.1, bt241.2.2.1, bt241.2.2.2.1, bt241.2.2.2.2)))) = some (r1, r2, r3, r4, r5) := h
 clear h
 replace H := Option.bind_eq_some_iff.mp H
 obtain ⟨⟨t241, t244, t245, t246, t247⟩, A40, H⟩ := H
 replace H : (if t247 = 0 then ((spec_l3Find.f k l0_0 a0_1 a0_2 a0_3 a1).bind fun t249 => (if t249 < 0 then (some (t241, t244, t245, t246, 3)) else ((spec_l3Used.f k l0_0 a0_1 a0_2 a0_3).bind fun t250 => (if (a2.size : Int) > (wrap64 (a0_1 - t250)) then (some (t241, t244, t245, t246, 2)) else (if 0 ≤ t249 then (if t249 < (l0_0.length : Int) then (if ((rd_T45 l0_0 t249).f1).size + a2.size ≤ 9223372036854775807 then (if t249 < (t241.length : Int) then (some ((t241.set (t249 : Int).toNat (⟨(rd_T45 t241 t249).f0, ((rd_T45 l0_0 t249).f1) ++ a2, (rd_T45 t241 t249).f2⟩ : S45)), t244, t245, t246, 0)) else (none)) else (none)) else (none)) else (none)))))) else (some (t241, t244, t245, t246, t247))) = some (r1, r2, r3, r4, r5) := H
 have A4 := Aside0.mk A40
 clear A40
 by_cases c5 : t247 = 0
 ·rw [if_pos c5] at H
  have c5b0 : (t247 == 0) = true := beq_iff_eq.mpr c5
  have c5b1 : (t247 != 0) = false := bne_eq_false_iff_eq.mpr c5
  clear c5
  replace H := Option.bind_eq_some_iff.mp H
  obtain ⟨t249, A60, H⟩ := H
  replace H : (if t249 < 0 then (some (t241, t244, t245, t246, 3)) else ((spec_l3Used.f k l0_0 a0_1 a0_2 a0_3).bind fun t250 => (if (a2.size : Int) > (wrap64 (a0_1 - t250)) then (some (t241, t244, t245, t246, 2)) else (if 0 ≤ t249 then (if t249 < (l0_0.length : Int) then (if ((rd_T45 l0_0 t249).f1).size + a2.size ≤ 9223372036854775807 then (if t249 < (t241.length : Int) then (some ((t241.set (t249 : Int).toNat (⟨(rd_T45 t241 t249).f0, ((rd_T45 l0_0 t249).f1) ++ a2, (rd_T45 t241 t249).f2⟩ : S45)), t244, t245, t246, 0)) else (none)) else (none)) else (none)) else (none))))) = some (r1, r2, r3, r4, r5) := H
  have A6 := Aside0.mk A60
  clear A60
  by_cases c7 : t249 < 0
  ·rw [if_pos c7] at H
   have c7b0 : decide (t249 < 0) = true := decide_eq_true c7
   clear c7
   simp only [Option.some.injEq, Prod.mk.injEq] at H
   obtain ⟨rfl, rfl, rfl, rfl, rfl⟩ := H
   go_enter Try.func93, Try.ntmps93
   go_wp2_with (first | ((with_reducible refine gate_dst (N := 3) rfl ?_); refine box_event ?hg (N := 3) ?hd (cs := #[.slice A0_0 l0_0.length c0_0, .int .i64 a0_1, .int .i64 a0_2, .bool a0_3]) (t := 29) ?hr ?_; (case hd => rfl); (case hg => rfl); (case hr => first | (go_simp; done) | (go_simp; rfl)); intro gb239 hg w8 hbox hb; have BK239 := Aside0.mk (hbox); have GW239 := ge_ hg (hb_ HB); have GE239 := ge_ hg (hb_ HB); replace HB := bs_ HB hb; clear hb hbox hg) | ((with_reducible refine gate_dst (N := 6) rfl ?_); refine box_event ?hg (N := 6) ?hd (cs := #[.slice none 0 0, .int .i64 0, .int .i64 0, .bool false]) (t := 29) ?hr ?_; (case hd => rfl); (case hg => rfl); (case hr => first | (go_simp; done) | (go_simp; rfl)); intro gb240 hg w9 hbox hb; have BK240 := Aside0.mk (hbox); have GW240 := ge_ hg (hs_ HB GE239); have GE240 := ge_ hg (hs_ HB GE239); replace HB := bt_ HB GE239 hb; have NB239_240 := nl_ BK239 hg; have NB240_239 := ng_ BK239 hg; replace BK239 := bb_ BK239 hb; clear hb hbox hg; have hnb10 := NB239_240.out; have hnc10 := NB240_239.out; obtain ⟨hcz11_0, hcz11_1, hcz11_2, hcz11_3, hfz11_0, hfz11_1, hfz11_2, hfz11_3⟩ := bc4_ BK239) | ((with_reducible refine gate_callee (f := 102) rfl ?_); refine goesL_ (some 13) rfl rfl Try.func102 (by kernel_rfl) rfl #[.agg #[.slice A0_0 l0_0.length c0_0, .int .i64 a0_1, .int .i64 a0_2, .bool a0_3]] rfl ar_ ?_; (with_reducible refine (spec_l3Begin.calls k _ _ l0_0 a0_1 a0_2 a0_3 t241 t244 t245 t246 t247 _ ?side1 ?side2 A4.out).mono ?_); (case side1 => repeat (first | exact (Kd.C_below HR0_0.out HB.out) | (with_reducible refine Kd.C_alloc ?_ _) | (with_reducible refine Kd.C_drewN ?_ _) | (with_reducible refine Kd.C_drew ?_))); (case side2 => exact HC0_0.out); rintro e w12 ⟨v242, rfl, ho0, hb⟩; refine ⟨_, rfl, ?_⟩; have HO243 := Aside0.mk (Kd.R_lower ho0 (below_size (hu_ HB GE239 GE240))); replace BK239 := bb_ BK239 hb; replace BK240 := bb_ BK240 hb; replace HB := bu_ HB GE239 GE240 hb; (try clear hb); (try clear hb2); (try clear hk); (try clear hi); (try clear ho0)) | ((with_reducible refine gate_dst (N := 8) rfl ?_); refine box_event ?hg (N := 8) ?hd (cs := #[.slice none 0 0, .int .i64 0, .int .i64 0, .bool false]) (t := 29) ?hr ?_; (case hd => rfl); (case hg => rfl); (case hr => first | (go_simp; done) | (go_simp; rfl)); intro gb248 hg w13 hbox hb; replace HO243 := rb_ HO243 hb; have BK248 := Aside0.mk (hbox); have GW248 := ge_ hg (hu_ HB GE239 GE240); have GE248 := ge_ hg (hu_ HB GE239 GE240); replace HB := bu_ HB GE239 GE240 hb; have NB239_248 := nl_ BK239 hg; have NB248_239 := ng_ BK239 hg; replace BK239 := bb_ BK239 hb; have NB240_248 := nl_ BK240 hg; have NB248_240 := ng_ BK240 hg; replace BK240 := bb_ BK240 hb; clear hb hbox hg; obtain ⟨Ao14, co14, eo14⟩ := Kd.R_slice HO243.out; subst eo14; have hnb15 := NB248_239.out; have hnc15 := NB239_248.out; have hnb16 := NB248_240.out; have hnc16 := NB240_248.out; obtain ⟨hcz17_0, hcz17_1, hcz17_2, hcz17_3, hfz17_0, hfz17_1, hfz17_2, hfz17_3⟩ := bc4_ BK248; obtain ⟨hcz18_0, hcz18_1, hcz18_2, hcz18_3, hfz18_0, hfz18_1, hfz18_2, hfz18_3⟩ := bc4_ BK239) | ((with_reducible refine gate_callee (f := 103) rfl ?_); refine goesL_ (some 22) rfl rfl Try.func103 (by kernel_rfl) rfl #[.agg #[.slice A0_0 l0_0.length c0_0, .int .i64 a0_1, .int .i64 a0_2, .bool a0_3], .string a1] rfl ar_ ?_; (with_reducible refine (spec_l3Find.calls k _ _ l0_0 a0_1 a0_2 a0_3 a1 t249 _ ?side1 ?side2 A6.out).mono ?_); (case side1 => exact Kd.C_below HR0_0.out (hv_ HB GE239 GE240 GE248)); (case side2 => exact HC0_0.out); rintro e w19 ⟨rfl, hb⟩; refine ⟨_, rfl, ?_⟩; replace HO243 := rfb_ HO243 BK248 hb; replace BK239 := bf_ BK239 NB239_248 hb; replace BK240 := bf_ BK240 NB240_248 hb; replace BK248 := bp_ #[.slice Ao14 t241.length co14, .int .i64 t244, .int .i64 t245, .bool t246] BK248 hb; replace HB := Aside0.mk (below_step (hv_ HB GE239 GE240 GE248) hb); (try clear hb); (try clear hb2); (try clear hk); (try clear hi); obtain ⟨hcz20_0, hcz20_1, hcz20_2, hcz20_3, hfz20_0, hfz20_1, hfz20_2, hfz20_3⟩ := bc4_ BK248; obtain ⟨hcz21_0, hcz21_1, hcz21_2, hcz21_3, hfz21_0, hfz21_1, hfz21_2, hfz21_3⟩ := bc4_ BK240))
   refine bodyPost_ret (results_ct rfl _ _ gb240 29 #[.slice Ao14 t241.length co14, .int .i64 t244, .int .i64 t245, .bool t246] (0, 0) _ rfl (up_ _ BK240 rfl).out Try.underlying29 rfl (by kernel_rfl)) rfl ?_
   exact ⟨_, by first | rfl | (simp [errW_none, errW_some] <;> rfl) | (simp [*, errW_none, errW_some] <;> rfl), by (with_reducible repeat (first | apply Kd.R_alloc | apply Kd.R_drewN | apply Kd.R_drew)); exact Kd.R_mono (Kd.R_far (p := ⟨gb240, 3, none⟩) (Kd.R_far (p := ⟨gb240, 2, none⟩) (Kd.R_far (p := ⟨gb240, 1, none⟩) (Kd.R_far (p := ⟨gb240, 0, none⟩) (Kd.R_types HO243.out BK240.out (by decide)) (fun _ hk => hk.2) (.slice Ao14 t241.length co14)) (fun _ hk => hk.2) (.int .i64 t244)) (fun _ hk => hk.2) (.int .i64 t245)) (fun _ hk => hk.2) (.bool t246)) (fun _ hk => trivial), by repeat (first | (with_reducible first | exact HB.out | apply below_alloc | apply pw_below_drewN | apply below_drew1 | refine below_set ?_ GE239.out | refine below_set ?_ GE240.out | refine below_set ?_ GE248.out) | exact HB.out)⟩
  ·rw [if_neg c7] at H
   have c7b0 : decide (t249 < 0) = false := decide_eq_false c7
   clear c7
   replace H := Option.bind_eq_some_iff.mp H
   obtain ⟨t250, A220, H⟩ := H
   replace H : (if (a2.size : Int) > (wrap64 (a0_1 - t250)) then (some (t241, t244, t245, t246, 2)) else (if 0 ≤ t249 then (if t249 < (l0_0.length : Int) then (if ((rd_T45 l0_0 t249).f1).size + a2.size ≤ 9223372036854775807 then (if t249 < (t241.length : Int) then (some ((t241.set (t249 : Int).toNat (⟨(rd_T45 t241 t249).f0, ((rd_T45 l0_0 t249).f1) ++ a2, (rd_T45 t241 t249).f2⟩ : S45)), t244, t245, t246, 0)) else (none)) else (none)) else (none)) else (none))) = some (r1, r2, r3, r4, r5) := H
   have A22 := Aside0.mk A220
   clear A220
   by_cases c23 : (a2.size : Int) > (wrap64 (a0_1 - t250))
   ·rw [if_pos c23] at H
    have c23b0 : decide ((wrap64 (a0_1 - t250)) < (a2.size : Int)) = true := decide_eq_true c23
    clear c23
    simp only [Option.some.injEq, Prod.mk.injEq] at H
    obtain ⟨rfl, rfl, rfl, rfl, rfl⟩ := H
    go_enter Try.func93, Try.ntmps93
    try go_wp2_with (first | ((with_reducible refine gate_dst (N := 3) rfl ?_); refine box_event ?hg (N := 3) ?hd (cs := #[.slice A0_0 l0_0.length c0_0, .int .i64 a0_1, .int .i64 a0_2, .bool a0_3]) (t := 29) ?hr ?_; (case hd => rfl); (case hg => rfl); (case hr => first | (go_simp; done) | (go_simp; rfl)); intro gb239 hg w24 hbox hb; have BK239 := Aside0.mk (hbox); have GW239 := ge_ hg (hb_ HB); have GE239 := ge_ hg (hb_ HB); replace HB := bs_ HB hb; clear hb hbox hg) | ((with_reducible refine gate_dst (N := 6) rfl ?_); refine box_event ?hg (N := 6) ?hd (cs := #[.slice none 0 0, .int .i64 0, .int .i64 0, .bool false]) (t := 29) ?hr ?_; (case hd => rfl); (case hg => rfl); (case hr => first | (go_simp; done) | (go_simp; rfl)); intro gb240 hg w25 hbox hb; have BK240 := Aside0.mk (hbox); have GW240 := ge_ hg (hs_ HB GE239); have GE240 := ge_ hg (hs_ HB GE239); replace HB := bt_ HB GE239 hb; have NB239_240 := nl_ BK239 hg; have NB240_239 := ng_ BK239 hg; replace BK239 := bb_ BK239 hb; clear hb hbox hg; have hnb26 := NB239_240.out; have hnc26 := NB240_239.out; obtain ⟨hcz27_0, hcz27_1, hcz27_2, hcz27_3, hfz27_0, hfz27_1, hfz27_2, hfz27_3⟩ := bc4_ BK239) | ((with_reducible refine gate_callee (f := 102) rfl ?_); refine goesL_ (some 13) rfl rfl Try.func102 (by kernel_rfl) rfl #[.agg #[.slice A0_0 l0_0.length c0_0, .int .i64 a0_1, .int .i64 a0_2, .bool a0_3]] rfl ar_ ?_; (with_reducible refine (spec_l3Begin.calls k _ _ l0_0 a0_1 a0_2 a0_3 t241 t244 t245 t246 t247 _ ?side1 ?side2 A4.out).mono ?_); (case side1 => repeat (first | exact (Kd.C_below HR0_0.out HB.out) | (with_reducible refine Kd.C_alloc ?_ _) | (with_reducible refine Kd.C_drewN ?_ _) | (with_reducible refine Kd.C_drew ?_))); (case side2 => exact HC0_0.out); rintro e w28 ⟨v242, rfl, ho0, hb⟩; refine ⟨_, rfl, ?_⟩; have HO243 := Aside0.mk (Kd.R_lower ho0 (below_size (hu_ HB GE239 GE240))); replace BK239 := bb_ BK239 hb; replace BK240 := bb_ BK240 hb; replace HB := bu_ HB GE239 GE240 hb; (try clear hb); (try clear hb2); (try clear hk); (try clear hi); (try clear ho0)) | ((with_reducible refine gate_dst (N := 8) rfl ?_); refine box_event ?hg (N := 8) ?hd (cs := #[.slice none 0 0, .int .i64 0, .int .i64 0, .bool false]) (t := 29) ?hr ?_; (case hd => rfl); (case hg => rfl); (case hr => first | (go_simp; done) | (go_simp; rfl)); intro gb248 hg w29 hbox hb; replace HO243 := rb_ HO243 hb; have BK248 := Aside0.mk (hbox); have GW248 := ge_ hg (hu_ HB GE239 GE240); have GE248 := ge_ hg (hu_ HB GE239 GE240); replace HB := bu_ HB GE239 GE240 hb; have NB239_248 := nl_ BK239 hg; have NB248_239 := ng_ BK239 hg; replace BK239 := bb_ BK239 hb; have NB240_248 := nl_ BK240 hg; have NB248_240 := ng_ BK240 hg; replace BK240 := bb_ BK240 hb; clear hb hbox hg; obtain ⟨Ao30, co30, eo30⟩ := Kd.R_slice HO243.out; subst eo30; have hnb31 := NB248_239.out; have hnc31 := NB239_248.out; have hnb32 := NB248_240.out; have hnc32 := NB240_248.out; obtain ⟨hcz33_0, hcz33_1, hcz33_2, hcz33_3, hfz33_0, hfz33_1, hfz33_2, hfz33_3⟩ := bc4_ BK248; obtain ⟨hcz34_0, hcz34_1, hcz34_2, hcz34_3, hfz34_0, hfz34_1, hfz34_2, hfz34_3⟩ := bc4_ BK239) | ((with_reducible refine gate_callee (f := 103) rfl ?_); refine goesL_ (some 22) rfl rfl Try.func103 (by kernel_rfl) rfl #[.agg #[.slice A0_0 l0_0.length c0_0, .int .i64 a0_1, .int .i64 a0_2, .bool a0_3], .string a1] rfl ar_ ?_; (with_reducible refine (spec_l3Find.calls k _ _ l0_0 a0_1 a0_2 a0_3 a1 t249 _ ?side1 ?side2 A6.out).mono ?_); (case side1 => exact Kd.C_below HR0_0.out (hv_ HB GE239 GE240 GE248)); (case side2 => exact HC0_0.out); rintro e w35 ⟨rfl, hb⟩; refine ⟨_, rfl, ?_⟩; replace HO243 := rfb_ HO243 BK248 hb; replace BK239 := bf_ BK239 NB239_248 hb; replace BK240 := bf_ BK240 NB240_248 hb; replace BK248 := bp_ #[.slice Ao30 t241.length co30, .int .i64 t244, .int .i64 t245, .bool t246] BK248 hb; replace HB := Aside0.mk (below_step (hv_ HB GE239 GE240 GE248) hb); (try clear hb); (try clear hb2); (try clear hk); (try clear hi)))
    replace HO243 := rd_ HO243
    replace BK239 := bd_ BK239
    replace BK240 := bd_ BK240
    replace BK248 := bd_ BK248
    replace HB := hd_ HB
    refine start_ (n := 8) (S := k4e_ gb239 (.slice A0_0 l0_0.length c0_0) (.int .i64 a0_1) (.int .i64 a0_2) (.bool a0_3)) (ds := []) (on_ 0 8) (by kernel_rfl) rfl rfl (p4e_ BK239) (fun hHeld => ?_); refine with_tabW spec_Append.tab7 spec_Append.bits7 (fun HT_ HW_ => ?_)
    generalize w35.drew = w36 at HO243 BK239 BK240 BK248 HB hHeld ⊢
    refine pv_' 0 26 (on_ 1 7) rfl rfl HT_ ?_
    refine pv_' 1 27 (on_ 2 6) rfl rfl HT_ ?_
    refine pv_' 2 28 (on_ 3 5) rfl rfl HT_ ?_
    refine take_ (i := 3) (N := some 29) (v := ?_) (a' := ?_) (on_ 4 4) rfl rfl (take_ofW HT_.out HW_.out (by kernel_rfl)) (fun _ _ _ h => h) (Or.inl ⟨by rfl, ?_⟩) hHeld ?_ ?_
    rotate_left
    ·rintro w' ⟨s0, s1, s2, s3⟩
     go_simp
     with_reducible rfl
    rotate_left
    ·simp only [Act.put, la_, lz_, ls_, i64_w, i32_w]
     rfl
    refine take_ (i := 4) (N := some 30) (v := ?_) (a' := ?_) (on_ 5 3) rfl rfl (take_ofW HT_.out HW_.out (by kernel_rfl)) (fun _ _ _ h => h) (Or.inl ⟨by rfl, ?_⟩) hHeld ?_ ?_
    rotate_left
    ·rintro w' ⟨s0, s1, s2, s3⟩
     go_simp
     with_reducible rfl
    rotate_left
    ·simp only [Act.put, la_, lz_, ls_, i64_w, i32_w]
     rfl
    refine one_ (i := 5) (N := some 31) (on_ 6 2) rfl rfl (one_of HT_.out (by kernel_rfl)) (by decide) (fun K hK => ?_)
    refine goes_ Try.func47 (by kernel_rfl) rfl #[.agg #[.slice A0_0 l0_0.length c0_0, .int .i64 a0_1, .int .i64 a0_2, .bool a0_3]] (by rfl) rfl rfl ar_ ?_
    with_reducible refine (spec_l3Used.calls k _ _ l0_0 a0_1 a0_2 a0_3 t250 _ ?side1 ?side2 A22.out).mono ?_
    (case side1 => repeat (first | exact (Kd.C_below HR0_0.out HB.out) | (with_reducible refine Kd.C_alloc ?_ _) | (with_reducible refine Kd.C_drewN ?_ _) | (with_reducible refine Kd.C_drew ?_)))
    (case side2 => exact HC0_0.out)
    rintro e w37 ⟨rfl, hb⟩
    refine ⟨_, rfl, ?_⟩
    replace HO243 := rb_ HO243 hb
    replace BK239 := bb_ BK239 hb
    replace BK240 := bb_ BK240 hb
    replace BK248 := bb_ BK248 hb
    replace HB := Aside0.mk (below_step (hv_ HB GE239 GE240 GE248) hb)
    (try clear hb)
    (try clear hb2)
    (try clear hk)
    (try clear hi)
    refine hK.out _ _ (p4e_ BK239) (fun hHeld => ?_)
    clear hK K
    refine norm_ (a' := ?_) ?_ ?_
    rotate_left
    ·show Act.put _ (some 31) _ = _
     simp only [Act.put, la_, lz_, ls_, i64_w, i32_w]
     rfl
    refine pv_' 6 32 (on_ 7 1) rfl rfl HT_ ?_
    refine pv_' 7 33 (on_ 8 0) rfl rfl HT_ ?_
    refine done_ (done_of HT_.out (by kernel_rfl)) ?_
    obtain ⟨hcz38_0, hcz38_1, hcz38_2, hcz38_3, hfz38_0, hfz38_1, hfz38_2, hfz38_3⟩ := bc4_ BK248
    obtain ⟨hcz39_0, hcz39_1, hcz39_2, hcz39_3, hfz39_0, hfz39_1, hfz39_2, hfz39_3⟩ := bc4_ BK240
    try go_wp2
    refine bodyPost_ret (results_ct rfl _ _ gb240 29 #[.slice Ao30 t241.length co30, .int .i64 t244, .int .i64 t245, .bool t246] (0, 0) _ rfl (up_ _ BK240 rfl).out Try.underlying29 rfl (by kernel_rfl)) rfl ?_
    exact ⟨_, by first | rfl | (simp [errW_none, errW_some] <;> rfl) | (simp [*, errW_none, errW_some] <;> rfl), by (with_reducible repeat (first | apply Kd.R_alloc | apply Kd.R_drewN | apply Kd.R_drew)); exact Kd.R_mono (Kd.R_far (p := ⟨gb240, 3, none⟩) (Kd.R_far (p := ⟨gb240, 2, none⟩) (Kd.R_far (p := ⟨gb240, 1, none⟩) (Kd.R_far (p := ⟨gb240, 0, none⟩) (Kd.R_types HO243.out BK240.out (by decide)) (fun _ hk => hk.2) (.slice Ao30 t241.length co30)) (fun _ hk => hk.2) (.int .i64 t244)) (fun _ hk => hk.2) (.int .i64 t245)) (fun _ hk => hk.2) (.bool t246)) (fun _ hk => trivial), by repeat (first | (with_reducible first | exact HB.out | apply below_alloc | apply pw_below_drewN | apply below_drew1 | refine below_set ?_ GE239.out | refine below_set ?_ GE240.out | refine below_set ?_ GE248.out) | exact HB.out)⟩
   ·rw [if_neg c23] at H
    have c23b0 : decide ((wrap64 (a0_1 - t250)) < (a2.size : Int)) = false := decide_eq_false c23
    clear c23
    by_cases c40 : 0 ≤ t249
    ·rw [if_pos c40] at H
     have c40b0 : decide (0 ≤ t249) = true := decide_eq_true c40
     clear c40
     by_cases c41 : t249 < (l0_0.length : Int)
     ·rw [if_pos c41] at H
      have c41b0 : decide (t249 < (l0_0.length : Int)) = true := decide_eq_true c41
      clear c41
      by_cases c42 : ((rd_T45 l0_0 t249).f1).size + a2.size ≤ 9223372036854775807
      ·rw [if_pos c42] at H
       have c42b0 := eq_true c42
       have c42b1 : decide (((rd_T45 l0_0 t249).f1).size + a2.size ≤ 9223372036854775807) = true := decide_eq_true c42
       try have c42b2 : (9223372036854775807 < ((rd_T45 l0_0 t249).f1).size + a2.size) = False := eq_false (Nat.not_lt.2 c42)
       (try (have c42b3 := c42b2; simp only [ByteArray.size_append] at c42b3))
       by_cases c43 : t249 < (t241.length : Int)
       ·rw [if_pos c43] at H
        have c43b0 : decide (t249 < (t241.length : Int)) = true := decide_eq_true c43
        clear c43
        obtain ⟨y252, hy252⟩ : ∃ y_ : List (S45), y_ = (t241.set (t249 : Int).toNat (⟨(rd_T45 t241 t249).f0, ((rd_T45 l0_0 t249).f1) ++ a2, (rd_T45 t241 t249).f2⟩ : S45)) := ⟨_, rfl⟩
        replace H : (some (y252, t244, t245, t246, 0)) = some (r1, r2, r3, r4, r5) := by first | (rw [hy252]; with_reducible exact H) | (have H2_ := (Option.bind_some _ _).symm.trans H; rw [hy252]; with_reducible exact H2_) | (have H2_ := (Option.bind_some _ _).symm.trans H; with_reducible exact H2_) | with_reducible exact H | (rw [hy252]; exact H) | exact H
        have Ny252 := Aside0.mk hy252
        clear hy252
        simp only [Option.some.injEq, Prod.mk.injEq] at H
        obtain ⟨rfl, rfl, rfl, rfl, rfl⟩ := H
        go_enter Try.func93, Try.ntmps93
        try go_wp2_with (first | ((with_reducible refine gate_dst (N := 3) rfl ?_); refine box_event ?hg (N := 3) ?hd (cs := #[.slice A0_0 l0_0.length c0_0, .int .i64 a0_1, .int .i64 a0_2, .bool a0_3]) (t := 29) ?hr ?_; (case hd => rfl); (case hg => rfl); (case hr => first | (go_simp; done) | (go_simp; rfl)); intro gb239 hg w45 hbox hb; have BK239 := Aside0.mk (hbox); have GW239 := ge_ hg (hb_ HB); have GE239 := ge_ hg (hb_ HB); replace HB := bs_ HB hb; clear hb hbox hg) | ((with_reducible refine gate_dst (N := 6) rfl ?_); refine box_event ?hg (N := 6) ?hd (cs := #[.slice none 0 0, .int .i64 0, .int .i64 0, .bool false]) (t := 29) ?hr ?_; (case hd => rfl); (case hg => rfl); (case hr => first | (go_simp; done) | (go_simp; rfl)); intro gb240 hg w46 hbox hb; have BK240 := Aside0.mk (hbox); have GW240 := ge_ hg (hs_ HB GE239); have GE240 := ge_ hg (hs_ HB GE239); replace HB := bt_ HB GE239 hb; have NB239_240 := nl_ BK239 hg; have NB240_239 := ng_ BK239 hg; replace BK239 := bb_ BK239 hb; clear hb hbox hg; have hnb47 := NB239_240.out; have hnc47 := NB240_239.out; obtain ⟨hcz48_0, hcz48_1, hcz48_2, hcz48_3, hfz48_0, hfz48_1, hfz48_2, hfz48_3⟩ := bc4_ BK239) | ((with_reducible refine gate_callee (f := 102) rfl ?_); refine goesL_ (some 13) rfl rfl Try.func102 (by kernel_rfl) rfl #[.agg #[.slice A0_0 l0_0.length c0_0, .int .i64 a0_1, .int .i64 a0_2, .bool a0_3]] rfl ar_ ?_; (with_reducible refine (spec_l3Begin.calls k _ _ l0_0 a0_1 a0_2 a0_3 t241 t244 t245 t246 t247 _ ?side1 ?side2 A4.out).mono ?_); (case side1 => repeat (first | exact (Kd.C_below HR0_0.out HB.out) | (with_reducible refine Kd.C_alloc ?_ _) | (with_reducible refine Kd.C_drewN ?_ _) | (with_reducible refine Kd.C_drew ?_))); (case side2 => exact HC0_0.out); rintro e w49 ⟨v242, rfl, ho0, hb⟩; refine ⟨_, rfl, ?_⟩; have HO243 := Aside0.mk (Kd.R_lower ho0 (below_size (hu_ HB GE239 GE240))); replace BK239 := bb_ BK239 hb; replace BK240 := bb_ BK240 hb; replace HB := bu_ HB GE239 GE240 hb; (try clear hb); (try clear hb2); (try clear hk); (try clear hi); (try clear ho0)) | ((with_reducible refine gate_dst (N := 8) rfl ?_); refine box_event ?hg (N := 8) ?hd (cs := #[.slice none 0 0, .int .i64 0, .int .i64 0, .bool false]) (t := 29) ?hr ?_; (case hd => rfl); (case hg => rfl); (case hr => first | (go_simp; done) | (go_simp; rfl)); intro gb248 hg w50 hbox hb; replace HO243 := rb_ HO243 hb; have BK248 := Aside0.mk (hbox); have GW248 := ge_ hg (hu_ HB GE239 GE240); have GE248 := ge_ hg (hu_ HB GE239 GE240); replace HB := bu_ HB GE239 GE240 hb; have NB239_248 := nl_ BK239 hg; have NB248_239 := ng_ BK239 hg; replace BK239 := bb_ BK239 hb; have NB240_248 := nl_ BK240 hg; have NB248_240 := ng_ BK240 hg; replace BK240 := bb_ BK240 hb; clear hb hbox hg; obtain ⟨Ao51, co51, eo51⟩ := Kd.R_slice HO243.out; subst eo51; have hnb52 := NB248_239.out; have hnc52 := NB239_248.out; have hnb53 := NB248_240.out; have hnc53 := NB240_248.out; obtain ⟨hcz54_0, hcz54_1, hcz54_2, hcz54_3, hfz54_0, hfz54_1, hfz54_2, hfz54_3⟩ := bc4_ BK248; obtain ⟨hcz55_0, hcz55_1, hcz55_2, hcz55_3, hfz55_0, hfz55_1, hfz55_2, hfz55_3⟩ := bc4_ BK239) | ((with_reducible refine gate_callee (f := 103) rfl ?_); refine goesL_ (some 22) rfl rfl Try.func103 (by kernel_rfl) rfl #[.agg #[.slice A0_0 l0_0.length c0_0, .int .i64 a0_1, .int .i64 a0_2, .bool a0_3], .string a1] rfl ar_ ?_; (with_reducible refine (spec_l3Find.calls k _ _ l0_0 a0_1 a0_2 a0_3 a1 t249 _ ?side1 ?side2 A6.out).mono ?_); (case side1 => exact Kd.C_below HR0_0.out (hv_ HB GE239 GE240 GE248)); (case side2 => exact HC0_0.out); rintro e w56 ⟨rfl, hb⟩; refine ⟨_, rfl, ?_⟩; replace HO243 := rfb_ HO243 BK248 hb; replace BK239 := bf_ BK239 NB239_248 hb; replace BK240 := bf_ BK240 NB240_248 hb; replace BK248 := bp_ #[.slice Ao51 t241.length co51, .int .i64 t244, .int .i64 t245, .bool t246] BK248 hb; replace HB := Aside0.mk (below_step (hv_ HB GE239 GE240 GE248) hb); (try clear hb); (try clear hb2); (try clear hk); (try clear hi)))
        replace HO243 := rd_ HO243
        replace BK239 := bd_ BK239
        replace BK240 := bd_ BK240
        replace BK248 := bd_ BK248
        replace HB := hd_ HB
        refine start_ (n := 8) (S := k4e_ gb239 (.slice A0_0 l0_0.length c0_0) (.int .i64 a0_1) (.int .i64 a0_2) (.bool a0_3)) (ds := []) (on_ 0 8) (by kernel_rfl) rfl rfl (p4e_ BK239) (fun hHeld => ?_); refine with_tabW spec_Append.tab7 spec_Append.bits7 (fun HT_ HW_ => ?_)
        generalize w56.drew = w57 at HO243 BK239 BK240 BK248 HB hHeld ⊢
        refine pv_' 0 26 (on_ 1 7) rfl rfl HT_ ?_
        refine pv_' 1 27 (on_ 2 6) rfl rfl HT_ ?_
        refine pv_' 2 28 (on_ 3 5) rfl rfl HT_ ?_
        refine take_ (i := 3) (N := some 29) (v := ?_) (a' := ?_) (on_ 4 4) rfl rfl (take_ofW HT_.out HW_.out (by kernel_rfl)) (fun _ _ _ h => h) (Or.inl ⟨by rfl, ?_⟩) hHeld ?_ ?_
        rotate_left
        ·rintro w' ⟨s0, s1, s2, s3⟩
         go_simp
         with_reducible rfl
        rotate_left
        ·simp only [Act.put, la_, lz_, ls_, i64_w, i32_w]
         rfl
        refine take_ (i := 4) (N := some 30) (v := ?_) (a' := ?_) (on_ 5 3) rfl rfl (take_ofW HT_.out HW_.out (by kernel_rfl)) (fun _ _ _ h => h) (Or.inl ⟨by rfl, ?_⟩) hHeld ?_ ?_
        rotate_left
        ·rintro w' ⟨s0, s1, s2, s3⟩
         go_simp
         with_reducible rfl
        rotate_left
        ·simp only [Act.put, la_, lz_, ls_, i64_w, i32_w]
         rfl
        refine one_ (i := 5) (N := some 31) (on_ 6 2) rfl rfl (one_of HT_.out (by kernel_rfl)) (by decide) (fun K hK => ?_)
        refine goes_ Try.func47 (by kernel_rfl) rfl #[.agg #[.slice A0_0 l0_0.length c0_0, .int .i64 a0_1, .int .i64 a0_2, .bool a0_3]] (by rfl) rfl rfl ar_ ?_
        with_reducible refine (spec_l3Used.calls k _ _ l0_0 a0_1 a0_2 a0_3 t250 _ ?side1 ?side2 A22.out).mono ?_
        (case side1 => repeat (first | exact (Kd.C_below HR0_0.out HB.out) | (with_reducible refine Kd.C_alloc ?_ _) | (with_reducible refine Kd.C_drewN ?_ _) | (with_reducible refine Kd.C_drew ?_)))
        (case side2 => exact HC0_0.out)
        rintro e w58 ⟨rfl, hb⟩
        refine ⟨_, rfl, ?_⟩
        replace HO243 := rb_ HO243 hb
        replace BK239 := bb_ BK239 hb
        replace BK240 := bb_ BK240 hb
        replace BK248 := bb_ BK248 hb
        replace HB := Aside0.mk (below_step (hv_ HB GE239 GE240 GE248) hb)
        (try clear hb)
        (try clear hb2)
        (try clear hk)
        (try clear hi)
        refine hK.out _ _ (p4e_ BK239) (fun hHeld => ?_)
        clear hK K
        refine norm_ (a' := ?_) ?_ ?_
        rotate_left
        ·show Act.put _ (some 31) _ = _
         simp only [Act.put, la_, lz_, ls_, i64_w, i32_w]
         rfl
        refine pv_' 6 32 (on_ 7 1) rfl rfl HT_ ?_
        refine pv_' 7 33 (on_ 8 0) rfl rfl HT_ ?_
        refine done_ (done_of HT_.out (by kernel_rfl)) ?_
        try go_wp2
        replace HO243 := rd_ HO243
        replace BK239 := bd_ BK239
        replace BK240 := bd_ BK240
        replace BK248 := bd_ BK248
        replace HB := hd_ HB
        have p251 : 0 ≤ (t249 : Int) := of_decide_eq_true as_
        have q251 : t249 < (l0_0.length : Int) := of_decide_eq_true as_
        obtain ⟨ad251, e251, hx251_0, hx251_1, hx251_2⟩ := at_T45 HR0_0.out t249 p251 q251
        have hw251_2 := hx251_2
        have hw251_1 := hx251_1
        have hw251_0 := hx251_0
        cases e251
        (try replace hx251_0 := cb_ HB hx251_0)
        (try replace hx251_1 := cb_ HB hx251_1)
        (try replace hx251_2 := cb_ HB hx251_2)
        replace p251 := eq_true p251
        replace q251 := eq_true q251
        have p44 : 0 ≤ (t249 : Int) := of_decide_eq_true as_
        have q44 : (t249 : Int) < ((t241.length : Int) : Int) := of_decide_eq_true as_
        obtain ⟨go44, co44, eo44, gb44, gl44, cl44, HG44⟩ := Kd.R_form HO243.out (by omega)
        (first | cases eo44 | (injection eo44 with ea_ en_ ec_; (first | subst ea_ | (injection ea_ with ea_; subst ea_)); subst ec_; clear en_))
        have GB44 := Aside0.mk gb44
        have GG44 := Aside0.mk HG44
        clear gb44 gl44 HG44
        obtain ⟨ce44, hcl44, hM44, hcc44, hfr44⟩ := Kd.R_elem HO243.out z45 (t249 : Int) p44 q44
        obtain rfl := k45_openM hM44
        have hx44_0 : World.cell? _ ⟨go44, (t249 : Int).toNat * 3, none⟩ = some (.string ((rd_T45 t241 t249).f0)) := hcc44 0 _ rfl
        have hx44_1 : World.cell? _ ⟨go44, (t249 : Int).toNat * 3 + 1, none⟩ = some (.string ((rd_T45 t241 t249).f1)) := hcc44 1 _ rfl
        have hx44_2 : World.cell? _ ⟨go44, (t249 : Int).toNat * 3 + 2, none⟩ = some (.int .i64 ((rd_T45 t241 t249).f2)) := hcc44 2 _ rfl
        have hf44_0 : World.frozen? _ ⟨go44, (t249 : Int).toNat * 3, none⟩ = false := hfr44 0
        have hf44_1 : World.frozen? _ ⟨go44, (t249 : Int).toNat * 3 + 1, none⟩ = false := hfr44 1
        have hf44_2 : World.frozen? _ ⟨go44, (t249 : Int).toNat * 3 + 2, none⟩ = false := hfr44 2
        clear hcl44 hcc44 hfr44 hM44
        replace p44 := eq_true p44
        replace q44 := eq_true q44
        obtain ⟨ce60, hcl60, hM60, hcc60, hfr60⟩ := Kd.R_elem HO243.out z45 (t249 : Int) (of_decide_eq_true as_) (by have h_ : (t249 : Int) < ((t241.length : Int) : Int) := of_decide_eq_true as_; first | exact h_ | (have e_ := (Kd.R_reads' HO243.out).1; omega) | simpa using h_)
        obtain rfl := k45_openM hM60
        have HP60 := (Kd.R_seg HO243.out (t249 : Int) (of_decide_eq_true as_) (by have h_ : (t249 : Int) < ((t241.length : Int) : Int) := of_decide_eq_true as_; first | exact h_ | (have e_ := (Kd.R_reads' HO243.out).1; omega) | simpa using h_) (seg := [.string (((rd_T45 l0_0 t249).f1) ++ a2)]) (j := 1) hcl60 hcc60 (show 2 ≤ 3 from by decide) (x' := (⟨(rd_T45 t241 t249).f0, ((rd_T45 l0_0 t249).f1) ++ a2, (rd_T45 t241 t249).f2⟩ : S45)) (k45_mkM _ _ _ (⟨(rd_T45 t241 t249).f0, ((rd_T45 l0_0 t249).f1) ++ a2, (rd_T45 t241 t249).f2⟩ : S45) ) (fun _ hk => hk)).1
        rw [← Ny252.out] at HP60
        have HQ60 := Aside0.mk HP60
        clear hcl60 hcc60 hfr60 hM60 HP60
        refine start_ (n := 14) (S := k4_ gb248 (.slice (some ⟨go44, 0, none⟩) t241.length co51) (.int .i64 t244) (.int .i64 t245) (.bool t246) (k4_ gb239 (.slice (some ad251) l0_0.length c0_0) (.int .i64 a0_1) (.int .i64 a0_2) (.bool a0_3) (e3e_ (ad251.add ((t249).toNat * 3)) (.string ((rd_T45 l0_0 t249).f0)) (.string ((rd_T45 l0_0 t249).f1)) (.int .i64 ((rd_T45 l0_0 t249).f2))))) (ds := [13]) (on_ 0 14) (by kernel_rfl) rfl rfl (p4_ BK248 (p4_ BK239 (q3e_ (cb_ HB hw251_0 :) (cb_ HB hw251_1 :) (cb_ HB hw251_2 :)))) (fun hHeld => ?_); refine with_tabW spec_Append.tab9 spec_Append.bits9 (fun HT_ HW_ => ?_)
        generalize w58.drew = w59 at HO243 BK239 BK240 BK248 HB GG44 HQ60 hf44_0 hf44_1 hf44_2 hx251_0 hx251_1 hx251_2 hx44_0 hx44_1 hx44_2 hHeld ⊢
        refine pv_' 0 35 (on_ 1 13) rfl rfl HT_ ?_
        refine pv_' 2 37 #[i',o',i',o',o',o',o',o',o',o',o',o',o',o'] rfl rfl HT_ ?_
        refine pv_' 3 38 #[i',o',i',i',o',o',o',o',o',o',o',o',o',o'] rfl rfl HT_ ?_
        refine pv_' 5 40 #[i',o',i',i',o',i',o',o',o',o',o',o',o',o'] rfl rfl HT_ ?_
        refine pv_' 9 44 #[i',o',i',i',o',i',o',o',o',i',o',o',o',o'] rfl rfl HT_ ?_
        refine take_ (i := 1) (N := some 36) (v := ?_) (a' := ?_) #[i',i',i',i',o',i',o',o',o',i',o',o',o',o'] rfl rfl (take_ofW HT_.out HW_.out (by kernel_rfl)) (fun _ _ _ h => h) (Or.inl ⟨by rfl, ?_⟩) hHeld ?_ ?_
        rotate_left
        ·rintro w' ⟨s0, s1, s2, s3, s4, s5, s6, s7, s8, s9, s10⟩
         go_simp
         with_reducible rfl
        rotate_left
        ·simp only [Act.put, la_, lz_, ls_, i64_w, i32_w]
         rfl
        refine take_ (i := 4) (N := some 39) (v := ?_) (a' := ?_) #[i',i',i',i',i',i',o',o',o',i',o',o',o',o'] rfl rfl (take_ofW HT_.out HW_.out (by kernel_rfl)) (fun _ _ _ h => h) (Or.inl ⟨by rfl, ?_⟩) hHeld ?_ ?_
        rotate_left
        ·rintro w' ⟨s0, s1, s2, s3, s4, s5, s6, s7, s8, s9, s10⟩
         go_simp
         with_reducible rfl
        rotate_left
        ·simp only [Act.put, la_, lz_, ls_, i64_w, i32_w]
         rfl
        refine pv_' 6 41 #[i',i',i',i',i',i',i',o',o',i',o',o',o',o'] rfl rfl HT_ ?_
        refine pv_' 7 42 #[i',i',i',i',i',i',i',i',o',i',o',o',o',o'] rfl rfl HT_ ?_
        refine take_ (i := 8) (N := some 43) (v := ?_) (a' := ?_) (on_ 10 4) rfl rfl (take_ofW HT_.out HW_.out (by kernel_rfl)) (fun _ _ _ h => h) (Or.inl ⟨by rfl, ?_⟩) hHeld ?_ ?_
        rotate_left
        ·rintro w' ⟨s0, s1, s2, s3, s4, s5, s6, s7, s8, s9, s10⟩
         go_simp
         with_reducible rfl
        rotate_left
        ·simp only [Act.put, la_, lz_, ls_, i64_w, i32_w]
         rfl
        refine pv_' 10 45 (on_ 11 3) rfl rfl HT_ ?_
        refine pv_' 11 46 (on_ 12 2) rfl rfl HT_ ?_
        refine pv_' 12 47 (on_ 13 1) rfl rfl HT_ ?_
        refine last_ (i := 13) (N := none) (on_ 14 0) rfl rfl (one_of HT_.out (by kernel_rfl)) (by decide) (fun K hK => ?_)
        refine skip_ (w1 := ?_) (by rfl) rfl ?_ ?_
        rotate_left
        ·go_simp
         rfl
        refine hK.out _ _ ?_
        clear hK K
        refine done_ (done_of HT_.out (by kernel_rfl)) ?_
        generalize hW_ : (w59.setCell ⟨go44, (t249 : Int).toNat * 3 + 1, none⟩ (.string (((rd_T45 l0_0 t249).f1) ++ a2))) = w61
        replace BK239 : Aside0 (w61.heap[gb239]? = some (.cells #[.slice (some ad251) l0_0.length c0_0, .int .i64 a0_1, .int .i64 a0_2, .bool a0_3] 29 (0, 0))) := by subst hW_; exact ⟨by (with_reducible repeat (first | refine blk_drewN ?_ _ | refine blk_drew ?_ | refine blk_alloc ?_ _)); refine blk_far ?_ (by have h_ := Kd.R_ne HO243.out BK239.out (by decide); intro e_; exact h_ (by rw [e_]; rfl)) _; (with_reducible repeat (first | refine blk_drewN ?_ _ | refine blk_drew ?_ | refine blk_alloc ?_ _)); exact BK239.out⟩
        replace BK240 : Aside0 (w61.heap[gb240]? = some (.cells #[.slice none 0 0, .int .i64 0, .int .i64 0, .bool false] 29 (0, 0))) := by subst hW_; exact ⟨by (with_reducible repeat (first | refine blk_drewN ?_ _ | refine blk_drew ?_ | refine blk_alloc ?_ _)); refine blk_far ?_ (by have h_ := Kd.R_ne HO243.out BK240.out (by decide); intro e_; exact h_ (by rw [e_]; rfl)) _; (with_reducible repeat (first | refine blk_drewN ?_ _ | refine blk_drew ?_ | refine blk_alloc ?_ _)); exact BK240.out⟩
        replace BK248 : Aside0 (w61.heap[gb248]? = some (.cells #[.slice (some ⟨go44, 0, none⟩) t241.length co51, .int .i64 t244, .int .i64 t245, .bool t246] 29 (0, 0))) := by subst hW_; exact ⟨by (with_reducible repeat (first | refine blk_drewN ?_ _ | refine blk_drew ?_ | refine blk_alloc ?_ _)); refine blk_far ?_ (by have h_ := Kd.R_ne HO243.out BK248.out (by decide); intro e_; exact h_ (by rw [e_]; rfl)) _; (with_reducible repeat (first | refine blk_drewN ?_ _ | refine blk_drew ?_ | refine blk_alloc ?_ _)); exact BK248.out⟩
        replace HO243 : Aside0 (Kd.R k45 45 w61 w.heap.size (fun _ => True) (.slice (some ⟨go44, 0, none⟩) t241.length co51) y252) := by subst hW_; exact ⟨by (with_reducible repeat (first | apply Kd.R_alloc | apply Kd.R_drewN | apply Kd.R_drew)); exact HQ60.out⟩
        replace HB := us_ hW_ (hw_ HB GB44 GE239 GE240 GE248)
        clear hW_
        obtain ⟨hcz62_0, hcz62_1, hcz62_2, hcz62_3, hfz62_0, hfz62_1, hfz62_2, hfz62_3⟩ := bc4_ BK248
        obtain ⟨hcz63_0, hcz63_1, hcz63_2, hcz63_3, hfz63_0, hfz63_1, hfz63_2, hfz63_3⟩ := bc4_ BK240
        try go_wp2
        refine bodyPost_ret (results_ct rfl _ _ gb240 29 #[.slice (some ⟨go44, 0, none⟩) t241.length co51, .int .i64 t244, .int .i64 t245, .bool t246] (0, 0) _ rfl (up_ _ BK240 rfl).out Try.underlying29 rfl (by kernel_rfl)) rfl ?_
        exact ⟨_, by first | rfl | (simp [errW_none, errW_some] <;> rfl) | (simp [*, errW_none, errW_some] <;> rfl), by (with_reducible repeat (first | apply Kd.R_alloc | apply Kd.R_drewN | apply Kd.R_drew)); exact Kd.R_mono (Kd.R_far (p := ⟨gb240, 3, none⟩) (Kd.R_far (p := ⟨gb240, 2, none⟩) (Kd.R_far (p := ⟨gb240, 1, none⟩) (Kd.R_far (p := ⟨gb240, 0, none⟩) (Kd.R_types HO243.out BK240.out (by decide)) (fun _ hk => hk.2) (.slice (some ⟨go44, 0, none⟩) t241.length co51)) (fun _ hk => hk.2) (.int .i64 t244)) (fun _ hk => hk.2) (.int .i64 t245)) (fun _ hk => hk.2) (.bool t246)) (fun _ hk => trivial), by repeat (first | (with_reducible first | exact HB.out | apply below_alloc | apply pw_below_drewN | apply below_drew1 | refine below_set ?_ GE239.out | refine below_set ?_ GE240.out | refine below_set ?_ GE248.out) | exact HB.out)⟩
       ·rw [if_neg c43] at H
        exact absurd H (by simp)
      ·rw [if_neg c42] at H
       exact absurd H (by simp)
     ·rw [if_neg c41] at H
      exact absurd H (by simp)
    ·rw [if_neg c40] at H
     exact absurd H (by simp)
 ·rw [if_neg c5] at H
  have c5b0 : (t247 == 0) = false := beq_eq_false_iff_ne.mpr c5
  have c5b1 : (t247 != 0) = true := bne_iff_ne.mpr c5
  simp only [Option.some.injEq, Prod.mk.injEq] at H
  obtain ⟨rfl, rfl, rfl, rfl, rfl⟩ := H
  go_enter Try.func93, Try.ntmps93
  go_wp2_with (first | ((with_reducible refine gate_dst (N := 3) rfl ?_); refine box_event ?hg (N := 3) ?hd (cs := #[.slice A0_0 l0_0.length c0_0, .int .i64 a0_1, .int .i64 a0_2, .bool a0_3]) (t := 29) ?hr ?_; (case hd => rfl); (case hg => rfl); (case hr => first | (go_simp; done) | (go_simp; rfl)); intro gb239 hg w64 hbox hb; have BK239 := Aside0.mk (hbox); have GW239 := ge_ hg (hb_ HB); have GE239 := ge_ hg (hb_ HB); replace HB := bs_ HB hb; clear hb hbox hg) | ((with_reducible refine gate_dst (N := 6) rfl ?_); refine box_event ?hg (N := 6) ?hd (cs := #[.slice none 0 0, .int .i64 0, .int .i64 0, .bool false]) (t := 29) ?hr ?_; (case hd => rfl); (case hg => rfl); (case hr => first | (go_simp; done) | (go_simp; rfl)); intro gb240 hg w65 hbox hb; have BK240 := Aside0.mk (hbox); have GW240 := ge_ hg (hs_ HB GE239); have GE240 := ge_ hg (hs_ HB GE239); replace HB := bt_ HB GE239 hb; have NB239_240 := nl_ BK239 hg; have NB240_239 := ng_ BK239 hg; replace BK239 := bb_ BK239 hb; clear hb hbox hg; have hnb66 := NB239_240.out; have hnc66 := NB240_239.out; obtain ⟨hcz67_0, hcz67_1, hcz67_2, hcz67_3, hfz67_0, hfz67_1, hfz67_2, hfz67_3⟩ := bc4_ BK239) | ((with_reducible refine gate_callee (f := 102) rfl ?_); refine goesL_ (some 13) rfl rfl Try.func102 (by kernel_rfl) rfl #[.agg #[.slice A0_0 l0_0.length c0_0, .int .i64 a0_1, .int .i64 a0_2, .bool a0_3]] rfl ar_ ?_; (with_reducible refine (spec_l3Begin.calls k _ _ l0_0 a0_1 a0_2 a0_3 t241 t244 t245 t246 t247 _ ?side1 ?side2 A4.out).mono ?_); (case side1 => repeat (first | exact (Kd.C_below HR0_0.out HB.out) | (with_reducible refine Kd.C_alloc ?_ _) | (with_reducible refine Kd.C_drewN ?_ _) | (with_reducible refine Kd.C_drew ?_))); (case side2 => exact HC0_0.out); rintro e w68 ⟨v242, rfl, ho0, hb⟩; refine ⟨_, rfl, ?_⟩; have HO243 := Aside0.mk (Kd.R_lower ho0 (below_size (hu_ HB GE239 GE240))); replace BK239 := bb_ BK239 hb; replace BK240 := bb_ BK240 hb; replace HB := bu_ HB GE239 GE240 hb; (try clear hb); (try clear hb2); (try clear hk); (try clear hi); (try clear ho0)) | ((with_reducible refine gate_dst (N := 8) rfl ?_); refine box_event ?hg (N := 8) ?hd (cs := #[.slice none 0 0, .int .i64 0, .int .i64 0, .bool false]) (t := 29) ?hr ?_; (case hd => rfl); (case hg => rfl); (case hr => first | (go_simp; done) | (go_simp; rfl)); intro gb248 hg w69 hbox hb; replace HO243 := rb_ HO243 hb; have BK248 := Aside0.mk (hbox); have GW248 := ge_ hg (hu_ HB GE239 GE240); have GE248 := ge_ hg (hu_ HB GE239 GE240); replace HB := bu_ HB GE239 GE240 hb; have NB239_248 := nl_ BK239 hg; have NB248_239 := ng_ BK239 hg; replace BK239 := bb_ BK239 hb; have NB240_248 := nl_ BK240 hg; have NB248_240 := ng_ BK240 hg; replace BK240 := bb_ BK240 hb; clear hb hbox hg; obtain ⟨Ao70, co70, eo70⟩ := Kd.R_slice HO243.out; subst eo70; have hnb71 := NB248_239.out; have hnc71 := NB239_248.out; have hnb72 := NB248_240.out; have hnc72 := NB240_248.out; obtain ⟨hcz73_0, hcz73_1, hcz73_2, hcz73_3, hfz73_0, hfz73_1, hfz73_2, hfz73_3⟩ := bc4_ BK248; obtain ⟨hcz74_0, hcz74_1, hcz74_2, hcz74_3, hfz74_0, hfz74_1, hfz74_2, hfz74_3⟩ := bc4_ BK240))
  refine bodyPost_ret (results_ct rfl _ _ gb240 29 #[.slice Ao70 t241.length co70, .int .i64 t244, .int .i64 t245, .bool t246] (0, 0) _ rfl (by (with_reducible repeat (first | refine blk_drewN ?_ _ | refine blk_drew ?_ | refine blk_alloc ?_ _)); refine blk_put (cs := #[.slice Ao70 t241.length co70, .int .i64 t244, .int .i64 t245, .bool false]) ?_ 3 _ rfl; (with_reducible repeat (first | refine blk_drewN ?_ _ | refine blk_drew ?_ | refine blk_alloc ?_ _)); refine blk_put (cs := #[.slice Ao70 t241.length co70, .int .i64 t244, .int .i64 0, .bool false]) ?_ 2 _ rfl; (with_reducible repeat (first | refine blk_drewN ?_ _ | refine blk_drew ?_ | refine blk_alloc ?_ _)); refine blk_put (cs := #[.slice Ao70 t241.length co70, .int .i64 0, .int .i64 0, .bool false]) ?_ 1 _ rfl; (with_reducible repeat (first | refine blk_drewN ?_ _ | refine blk_drew ?_ | refine blk_alloc ?_ _)); refine blk_put (cs := #[.slice none 0 0, .int .i64 0, .int .i64 0, .bool false]) ?_ 0 _ rfl; (with_reducible repeat (first | refine blk_drewN ?_ _ | refine blk_drew ?_ | refine blk_alloc ?_ _)); refine blk_far ?_ NB240_248.out _; (with_reducible repeat (first | refine blk_drewN ?_ _ | refine blk_drew ?_ | refine blk_alloc ?_ _)); refine blk_far ?_ NB240_248.out _; (with_reducible repeat (first | refine blk_drewN ?_ _ | refine blk_drew ?_ | refine blk_alloc ?_ _)); refine blk_far ?_ NB240_248.out _; (with_reducible repeat (first | refine blk_drewN ?_ _ | refine blk_drew ?_ | refine blk_alloc ?_ _)); refine blk_far ?_ NB240_248.out _; (with_reducible repeat (first | refine blk_drewN ?_ _ | refine blk_drew ?_ | refine blk_alloc ?_ _)); exact BK240.out) Try.underlying29 rfl (by kernel_rfl)) rfl ?_
  exact ⟨_, by first | rfl | (simp [errW_none, errW_some] <;> rfl) | (simp [*, errW_none, errW_some] <;> rfl), by (with_reducible repeat (first | apply Kd.R_alloc | apply Kd.R_drewN | apply Kd.R_drew)); exact Kd.R_mono (Kd.R_far (p := ⟨gb240, 3, none⟩) (Kd.R_far (p := ⟨gb240, 2, none⟩) (Kd.R_far (p := ⟨gb240, 1, none⟩) (Kd.R_far (p := ⟨gb240, 0, none⟩) (Kd.R_far (p := ⟨gb248, 3, none⟩) (Kd.R_far (p := ⟨gb248, 2, none⟩) (Kd.R_far (p := ⟨gb248, 1, none⟩) (Kd.R_far (p := ⟨gb248, 0, none⟩) (Kd.R_types (Kd.R_types HO243.out BK248.out (by decide)) BK240.out (by decide)) (fun _ hk => hk.1.2) (.slice Ao70 t241.length co70)) (fun _ hk => hk.1.2) (.int .i64 t244)) (fun _ hk => hk.1.2) (.int .i64 t245)) (fun _ hk => hk.1.2) (.bool t246)) (fun _ hk => hk.2) (.slice Ao70 t241.length co70)) (fun _ hk => hk.2) (.int .i64 t244)) (fun _ hk => hk.2) (.int .i64 t245)) (fun _ hk => hk.2) (.bool t246)) (fun _ hk => trivial), by repeat (first | (with_reducible first | exact HB.out | apply below_alloc | apply pw_below_drewN | apply below_drew1 | refine below_set ?_ GE239.out | refine below_set ?_ GE240.out | refine below_set ?_ GE248.out) | exact HB.out)⟩

/-! ### spec_l1Text: function 94 -/
mutual
def spec_l1Text.l0 : Nat → List Int → Int → Int → List Int → Int → Int → Option (ByteArray × Int × Int)
 | 0, _, _, _, _, _, _ => none
 | k + 1, x5, x6, x7, x1000, x1001, x1002 => if x7 > 0 then ((spec_l1Byte.f x1000 x1001 x1002).bind fun bt262 => (if x6 = 1 then (spec_l1Text.j1 k x5 x6 x7 (Int.tmod bt262.1 2) x1000 bt262.2.1 bt262.2.2) else (spec_l1Text.j1 k x5 x6 x7 bt262.1 x1000 bt262.2.1 bt262.2.2))) else (some (strOfNums x5, x1001, x1002))
def spec_l1Text.j1 : Nat → List Int → Int → Int → Int → List Int → Int → Int → Option (ByteArray × Int × Int)
 | 0, _, _, _, _, _, _, _ => none
 | k + 1, x5, x6, x7, x8, x1000, x1001, x1002 => if x6 = 2 then (if x5.length < 140737488355328 then (spec_l1Text.l0 k (x5 ++ [(wrap64 (97 + (Int.tmod x8 4))) % 256]) x6 (wrap64 (x7 - 1)) x1000 x1001 x1002) else (none)) else (if x5.length < 140737488355328 then (spec_l1Text.l0 k (x5 ++ [(x8) % 256]) x6 (wrap64 (x7 - 1)) x1000 x1001 x1002) else (none))
end
def spec_l1Text.f (k : Nat) (s0_0 : List Int) (s0_1 : Int) (s0_2 : Int) (a1 : Int) : Option (ByteArray × Int × Int) := (spec_l1Below.f s0_0 s0_1 s0_2 4).bind fun bt256 => ((spec_l1Below.f s0_0 bt256.2.1 bt256.2.2 (wrap64 (a1 + 1))).bind fun bt259 => (spec_l1Text.l0 k (([] : List Int)) bt256.1 bt259.1 s0_0 bt259.2.1 bt259.2.2))
theorem spec_l1Text.mono_l : ∀ k, (∀ y0 y1 y2 y3 y4 y5, LeO (spec_l1Text.l0 k y0 y1 y2 y3 y4 y5) (spec_l1Text.l0 (k + 1) y0 y1 y2 y3 y4 y5)) ∧ (∀ y0 y1 y2 y3 y4 y5 y6, LeO (spec_l1Text.j1 k y0 y1 y2 y3 y4 y5 y6) (spec_l1Text.j1 (k + 1) y0 y1 y2 y3 y4 y5 y6))
 | 0 => ⟨fun _ _ _ _ _ _ r h => by simp [spec_l1Text.l0] at h, fun _ _ _ _ _ _ _ r h => by simp [spec_l1Text.j1] at h⟩
 | k + 1 => by
  obtain ⟨ih0, ih1⟩ := spec_l1Text.mono_l k
  refine ⟨?_, ?_⟩
  ·intro y0 y1 y2 y3 y4 y5
   unfold spec_l1Text.l0
   repeat' first | (with_reducible first | exact ih0 .. | exact ih1 .. | exact LeO.refl .. | exact LeO.none .. | refine LeO.ite ?_ ?_ | refine LeO.bind ?_ (fun _ => ?_)) | exact ih0 .. | exact ih1 .. | exact LeO.none .. | refine LeO.ite ?_ ?_ | refine LeO.bind ?_ (fun _ => ?_)
  ·intro y0 y1 y2 y3 y4 y5 y6
   unfold spec_l1Text.j1
   repeat' first | (with_reducible first | exact ih0 .. | exact ih1 .. | exact LeO.refl .. | exact LeO.none .. | refine LeO.ite ?_ ?_ | refine LeO.bind ?_ (fun _ => ?_)) | exact ih0 .. | exact ih1 .. | exact LeO.none .. | refine LeO.ite ?_ ?_ | refine LeO.bind ?_ (fun _ => ?_)
theorem spec_l1Text.mono : ∀ a0 a1 a2 a3 k, LeO (spec_l1Text.f k a0 a1 a2 a3) (spec_l1Text.f (k + 1) a0 a1 a2 a3) := by
 intro a0 a1 a2 a3 k
 obtain ⟨ih0, ih1⟩ := spec_l1Text.mono_l k
 unfold spec_l1Text.f
 repeat' first | (with_reducible first | exact ih0 .. | exact ih1 .. | exact LeO.refl .. | exact LeO.none .. | refine LeO.ite ?_ ?_ | refine LeO.bind ?_ (fun _ => ?_)) | exact ih0 .. | exact ih1 .. | exact LeO.none .. | refine LeO.ite ?_ ?_ | refine LeO.bind ?_ (fun _ => ?_)
set_option maxHeartbeats 80000000 in
set_option maxRecDepth 100000 in
theorem spec_l1Text.calls (k : Nat) (g : Nat) (s0_0 : List Int) (s0_1 : Int) (s0_2 : Int) (a1 : Int) (r1 : ByteArray) (r2 : Int) (r3 : Int) (w0 w : World) (hI : IsS104 w0 w g s0_0 s0_1 s0_2) (hB : Below w0.heap.size w0 w) (h : spec_l1Text.f k s0_0 s0_1 s0_2 a1 = some (r1, r2, r3)) :
  Calls Try.prog 94 #[.pointer (some ⟨g, 0, none⟩), .int .i64 a1] w fun e w' => e = .returned (.string r1) ∧ IsS104 w0 w' g s0_0 r2 r3 ∧ Below w0.heap.size w0 w' ∧ KeepBut w w' g none := by
 have HI0 := Aside0.mk hI
 have HK := Aside0.mk (KeepBut.refl w g none)
 have HL := Aside0.mk hB.size
 clear hI
 have HW0 := Aside0.mk hB.size
 have HB := Aside0.mk hB
 clear hB
 have H : ((spec_l1Below.f s0_0 s0_1 s0_2 4).bind fun bt256 => ((spec_l1Below.f s0_0 bt256.2.1 bt256.2.2 (wrap64 (a1 + 1))).bind fun bt259 => (spec_l1Text.l0 k (([] : List Int)) bt256.1 bt259.1 s0_0 bt259.2.1 bt259.2.2))) = some (r1, r2, r3) := h
 clear h
 obtain ⟨y253, hy253⟩ : ∃ y_ : List Int, y_ = (([] : List Int)) := ⟨_, rfl⟩
 replace H : ((spec_l1Below.f s0_0 s0_1 s0_2 4).bind fun bt256 => ((spec_l1Below.f s0_0 bt256.2.1 bt256.2.2 (wrap64 (a1 + 1))).bind fun bt259 => (spec_l1Text.l0 k y253 bt256.1 bt259.1 s0_0 bt259.2.1 bt259.2.2))) = some (r1, r2, r3) := by first | (rw [hy253]; with_reducible exact H) | (have H2_ := (Option.bind_some _ _).symm.trans H; rw [hy253]; with_reducible exact H2_) | (have H2_ := (Option.bind_some _ _).symm.trans H; with_reducible exact H2_) | with_reducible exact H | (rw [hy253]; exact H) | exact H
 have Ny253 := Aside0.mk hy253
 clear hy253
 replace H := Option.bind_eq_some_iff.mp H
 obtain ⟨⟨t256, t257, t258⟩, A30, H⟩ := H
 replace H : ((spec_l1Below.f s0_0 t257 t258 (wrap64 (a1 + 1))).bind fun bt259 => (spec_l1Text.l0 k y253 t256 bt259.1 s0_0 bt259.2.1 bt259.2.2)) = some (r1, r2, r3) := H
 have A3 := Aside0.mk A30
 clear A30
 replace H := Option.bind_eq_some_iff.mp H
 obtain ⟨⟨t259, t260, t261⟩, A40, H⟩ := H
 replace H : (spec_l1Text.l0 k y253 t256 t259 s0_0 t260 t261) = some (r1, r2, r3) := H
 have A4 := Aside0.mk A40
 clear A40
 have H' := Aside0.mk H
 clear H
 go_enter Try.func94, Try.ntmps94
 go_wp2_with (first | ((with_reducible refine gate_dst (N := 9) rfl ?_); refine Kd.R_lit (Kd.int .u8) _ 5 ?hg (N := 9) ?hd (xs := ([] : List Int)) (inner := []) (ok := fun _ => True) (okp := fun _ => True) ?hr ?hp (fun _ hk => hk) trivial (Below.refl _ _) (Nat.le_refl _) (by simp) ?_; (case hd => rfl); (case hg => rfl); (case hr => first | (go_simp; done) | (go_simp; rfl)); (case hp => exact (Reps.none _ _)); intro v254 w5 ho6 hb hg_ hnew_; clear hg_ hnew_; (first | rw [← Ny253.out] at ho6 | (simp only [Int.reduceToNat] at ho6; rw [← Ny253.out] at ho6)); have HO255 := Aside0.mk (Kd.R_lower ho6 (keep_size (w := w) (g := g) (row := none) (by repeat (first | (with_reducible first | exact HK.out | apply KeepBut.set_ | apply keep_drewN | apply keep_drew | apply keep_alloc) | exact HK.out)))); replace HK := Aside0.mk (KeepBut.trans (by repeat (first | (with_reducible first | exact HK.out | apply KeepBut.set_ | apply keep_drewN | apply keep_drew | apply keep_alloc) | exact HK.out)) (KeepBut.of_below hb g none) (.inl rfl)); replace HB := Aside0.mk (below_step (by repeat (first | (with_reducible first | exact HB.out | apply below_alloc | apply pw_below_drewN | apply below_drew1 | refine below_set ?_ (IsS104.ge HI0.out)) | exact HB.out)) hb); replace HI0 := Aside0.mk (IsS104.below (by repeat (first | (with_reducible first | exact HI0.out | apply IsS104.alloc | apply IsS104.drewN | apply IsS104.drew | apply IsS104.set_1 | apply IsS104.set_2) | exact HI0.out)) hb); clear hb ho6) | ((with_reducible refine gate_callee (f := 73) rfl ?_); refine goesL_ (some 11) rfl rfl Try.func73 (by kernel_rfl) rfl #[.pointer (some ⟨g, 0, none⟩), .int .i64 4] rfl ar_ ?_; (with_reducible refine (spec_l1Below.calls g s0_0 s0_1 s0_2 4 t256 t257 t258 w0 _ ?side1 ?side2 A3.out).mono ?_); (case side1 => repeat (first | (with_reducible first | exact HI0.out | apply IsS104.alloc | apply IsS104.drewN | apply IsS104.drew | apply IsS104.set_1 | apply IsS104.set_2) | exact HI0.out)); (case side2 => repeat (first | (with_reducible first | exact HB.out | apply below_alloc | apply pw_below_drewN | apply below_drew1 | refine below_set ?_ (IsS104.ge HI0.out)) | exact HB.out)); rintro e w7 ⟨rfl, hi, hb, hk⟩; refine ⟨_, rfl, ?_⟩; replace HO255 := Aside0.mk (Kd.R_mono (Kd.R_keep (IsS104.apart (show IsS104 w0 _ g s0_0 s0_1 s0_2 from by repeat (first | (with_reducible first | exact HI0.out | apply IsS104.alloc | apply IsS104.drewN | apply IsS104.drew | apply IsS104.set_1 | apply IsS104.set_2) | exact HI0.out)) (rr_ HO255) (by decide)) hk (fun _ h => h.2)) (fun _ h => h.1)); replace HK := Aside0.mk (KeepBut.trans (by repeat (first | (with_reducible first | exact HK.out | apply KeepBut.set_ | apply keep_drewN | apply keep_drew | apply keep_alloc) | exact HK.out)) hk (.inl rfl)); replace HB := Aside0.mk (hb); replace HI0 := Aside0.mk (hi); (try clear hb); (try clear hb2); (try clear hk); (try clear hi)) | ((with_reducible refine gate_callee (f := 73) rfl ?_); refine goesL_ (some 15) rfl rfl Try.func73 (by kernel_rfl) rfl #[.pointer (some ⟨g, 0, none⟩), .int .i64 (wrap64 (a1 + 1))] rfl ar_ ?_; (with_reducible refine (spec_l1Below.calls g s0_0 t257 t258 (wrap64 (a1 + 1)) t259 t260 t261 w0 _ ?side1 ?side2 A4.out).mono ?_); (case side1 => repeat (first | (with_reducible first | exact HI0.out | apply IsS104.alloc | apply IsS104.drewN | apply IsS104.drew | apply IsS104.set_1 | apply IsS104.set_2) | exact HI0.out)); (case side2 => repeat (first | (with_reducible first | exact HB.out | apply below_alloc | apply pw_below_drewN | apply below_drew1 | refine below_set ?_ (IsS104.ge HI0.out)) | exact HB.out)); rintro e w8 ⟨rfl, hi, hb, hk⟩; refine ⟨_, rfl, ?_⟩; replace HO255 := Aside0.mk (Kd.R_mono (Kd.R_keep (IsS104.apart (show IsS104 w0 _ g s0_0 t257 t258 from by repeat (first | (with_reducible first | exact HI0.out | apply IsS104.alloc | apply IsS104.drewN | apply IsS104.drew | apply IsS104.set_1 | apply IsS104.set_2) | exact HI0.out)) (rr_ HO255) (by decide)) hk (fun _ h => h.2)) (fun _ h => h.1)); replace HK := Aside0.mk (KeepBut.trans (by repeat (first | (with_reducible first | exact HK.out | apply KeepBut.set_ | apply keep_drewN | apply keep_drew | apply keep_alloc) | exact HK.out)) hk (.inl rfl)); replace HB := Aside0.mk (hb); replace HI0 := Aside0.mk (hi); (try clear hb); (try clear hb2); (try clear hk); (try clear hi)))
 go_loopg [5, 7] k (fun kq v5 v7 w' => ∃ (x5_1 : List Int) (x7_1 : Int) (x1001_1 : Int) (x1002_1 : Int), v7 = .int .i64 x7_1 ∧ Aside0 (spec_l1Text.l0 kq x5_1 t256 x7_1 s0_0 x1001_1 x1002_1 = some (r1, r2, r3)) ∧ Aside0 (kq ≤ k) ∧ Aside0 (Kd.R (Kd.int .u8) 5 w' w.heap.size (fun _ => True) v5 x5_1) ∧ Aside0 (IsS104 w0 w' g s0_0 x1001_1 x1002_1) ∧ Aside0 (KeepBut w w' g none) ∧ Aside0 (Below w0.heap.size w0 w'))
 case atStart => exact ⟨(y253), (t259), (t260), (t261), rs_, H', ⟨Nat.le_refl _⟩, ⟨rr_ HO255⟩, ⟨by repeat (first | (with_reducible first | exact HI0.out | apply IsS104.alloc | apply IsS104.drewN | apply IsS104.drew | apply IsS104.set_1 | apply IsS104.set_2) | exact HI0.out)⟩, ⟨by repeat (first | (with_reducible first | exact HK.out | apply KeepBut.set_ | apply keep_drewN | apply keep_drew | apply keep_alloc) | exact HK.out)⟩, ⟨by repeat (first | (with_reducible first | exact HB.out | apply below_alloc | apply pw_below_drewN | apply below_drew1 | refine below_set ?_ (IsS104.ge HI0.out)) | exact HB.out)⟩⟩
 case round =>
  clear H'
  try clear p2
  try clear p6
  try clear c7
  obtain ⟨x5_1, x7_1, x1001_1, x1002_1, rfl, HA, HK1, HO_5, HI0, HK, HB⟩ := hrel
  cases gk with
  | zero => exact absurd HA.out (by simp [spec_l1Text.l0])
  | succ k1 =>
   have H := HA.out
   clear HA
   simp only [spec_l1Text.l0] at H
   by_cases c9 : x7_1 > 0
   ·rw [if_pos c9] at H
    have c9b0 : decide (0 < x7_1) = true := decide_eq_true c9
    clear c9
    replace H := Option.bind_eq_some_iff.mp H
    obtain ⟨⟨t262, t263, t264⟩, A100, H⟩ := H
    replace H : (if t256 = 1 then (spec_l1Text.j1 k1 x5_1 t256 x7_1 (Int.tmod t262 2) s0_0 t263 t264) else (spec_l1Text.j1 k1 x5_1 t256 x7_1 t262 s0_0 t263 t264)) = some (r1, r2, r3) := H
    have A10 := Aside0.mk A100
    clear A100
    have HC11 := Aside0.mk H
    clear H
    go_upto_if 23 with (first | ((with_reducible refine gate_callee (f := 97) rfl ?_); refine goesL_ (some 21) rfl rfl Try.func97 (by kernel_rfl) rfl #[.pointer (some ⟨g, 0, none⟩)] rfl ar_ ?_; (with_reducible refine (spec_l1Byte.calls g s0_0 x1001_1 x1002_1 t262 t263 t264 w0 _ ?side1 ?side2 A10.out).mono ?_); (case side1 => repeat (first | (with_reducible first | exact HI0.out | apply IsS104.alloc | apply IsS104.drewN | apply IsS104.drew | apply IsS104.set_1 | apply IsS104.set_2) | exact HI0.out)); (case side2 => repeat (first | (with_reducible first | exact HB.out | apply below_alloc | apply pw_below_drewN | apply below_drew1 | refine below_set ?_ (IsS104.ge HI0.out)) | exact HB.out)); rintro e w12 ⟨rfl, hi, hb, hk⟩; refine ⟨_, rfl, ?_⟩; replace HO_5 := Aside0.mk (Kd.R_mono (Kd.R_keep (IsS104.apart (show IsS104 w0 _ g s0_0 x1001_1 x1002_1 from by repeat (first | (with_reducible first | exact HI0.out | apply IsS104.alloc | apply IsS104.drewN | apply IsS104.drew | apply IsS104.set_1 | apply IsS104.set_2) | exact HI0.out)) (rr_ HO_5) (by decide)) hk (fun _ h => h.2)) (fun _ h => h.1)); replace HK := Aside0.mk (KeepBut.trans (by repeat (first | (with_reducible first | exact HK.out | apply KeepBut.set_ | apply keep_drewN | apply keep_drew | apply keep_alloc) | exact HK.out)) hk (.inl rfl)); replace HB := Aside0.mk (hb); replace HI0 := Aside0.mk (hi); (try clear hb); (try clear hb2); (try clear hk); (try clear hi)))
    (try simp only [Act.put, la_, lz_, ls_])
    go_cut [8] (fun v8 wc => ∃ (kq : Nat) (x8_10 : Int), v8 = .int .i64 x8_10 ∧ Aside0 (spec_l1Text.j1 kq x5_1 t256 x7_1 x8_10 s0_0 t263 t264 = some (r1, r2, r3)) ∧ Aside0 (kq ≤ k1) ∧ Aside0 (Kd.R (Kd.int .u8) 5 wc w.heap.size (fun _ => True) u5 x5_1) ∧ Aside0 (IsS104 w0 wc g s0_0 t263 t264) ∧ Aside0 (KeepBut w wc g none) ∧ Aside0 (Below w0.heap.size w0 wc))
    case first =>
     have H := HC11.out
     clear HC11
     by_cases c13 : t256 = 1
     ·rw [if_pos c13] at H
      have c13b0 : (t256 == 1) = true := beq_iff_eq.mpr c13
      have c13b1 : (t256 != 1) = false := bne_eq_false_iff_eq.mpr c13
      clear c13
      (first | rw [c13b0] | (simp only [i64_w, i32_w]; rw [c13b0]) | skip)
      have H' := Aside0.mk H
      clear H
      go_wp2
      go_meet
      case rel => exact ⟨_, (Int.tmod t262 2), rs_, H', ⟨by have := HK1.out; first | exact Nat.le_refl _ | exact Nat.le_of_succ_le this | omega⟩, ⟨rr_ HO_5⟩, ⟨by repeat (first | (with_reducible first | exact HI0.out | apply IsS104.alloc | apply IsS104.drewN | apply IsS104.drew | apply IsS104.set_1 | apply IsS104.set_2) | exact HI0.out)⟩, ⟨by repeat (first | (with_reducible first | exact HK.out | apply KeepBut.set_ | apply keep_drewN | apply keep_drew | apply keep_alloc) | exact HK.out)⟩, ⟨by repeat (first | (with_reducible first | exact HB.out | apply below_alloc | apply pw_below_drewN | apply below_drew1 | refine below_set ?_ (IsS104.ge HI0.out)) | exact HB.out)⟩⟩
     ·rw [if_neg c13] at H
      have c13b0 : (t256 == 1) = false := beq_eq_false_iff_ne.mpr c13
      have c13b1 : (t256 != 1) = true := bne_iff_ne.mpr c13
      (first | rw [c13b0] | (simp only [i64_w, i32_w]; rw [c13b0]) | skip)
      have H' := Aside0.mk H
      clear H
      go_wp2
      go_meet
      case rel => exact ⟨_, (t262), rs_, H', ⟨by have := HK1.out; first | exact Nat.le_refl _ | exact Nat.le_of_succ_le this | omega⟩, ⟨rr_ HO_5⟩, ⟨by repeat (first | (with_reducible first | exact HI0.out | apply IsS104.alloc | apply IsS104.drewN | apply IsS104.drew | apply IsS104.set_1 | apply IsS104.set_2) | exact HI0.out)⟩, ⟨by repeat (first | (with_reducible first | exact HK.out | apply KeepBut.set_ | apply keep_drewN | apply keep_drew | apply keep_alloc) | exact HK.out)⟩, ⟨by repeat (first | (with_reducible first | exact HB.out | apply below_alloc | apply pw_below_drewN | apply below_drew1 | refine below_set ?_ (IsS104.ge HI0.out)) | exact HB.out)⟩⟩
    case rest =>
     clear HC11
     try clear c1
     try clear p2
     try clear p6
     try clear c7
     try clear c9
     try clear c9b0
     try clear c13
     try clear c13b0
     try clear c13b1
     try clear p2
     try clear p6
     obtain ⟨kq, x8_10, rfl, HA, HJ10, HO_5, HI0, HK, HB⟩ := hcut
     cases kq with
     | zero => exact absurd HA.out (by simp [spec_l1Text.j1])
     | succ kj10 =>
      have H := HA.out
      clear HA
      simp only [spec_l1Text.j1] at H
      by_cases c14 : t256 = 2
      ·rw [if_pos c14] at H
       have c14b0 : (t256 == 2) = true := beq_iff_eq.mpr c14
       have c14b1 : (t256 != 2) = false := bne_eq_false_iff_eq.mpr c14
       clear c14
       by_cases c15 : x5_1.length < 140737488355328
       ·rw [if_pos c15] at H
        have LMc15 := Aside0.mk c15
        clear c15
        obtain ⟨y265, hy265⟩ : ∃ y_ : List Int, y_ = (x5_1 ++ [(wrap64 (97 + (Int.tmod x8_10 4))) % 256]) := ⟨_, rfl⟩
        replace H : (spec_l1Text.l0 kj10 y265 t256 (wrap64 (x7_1 - 1)) s0_0 t263 t264) = some (r1, r2, r3) := by first | (rw [hy265]; with_reducible exact H) | (have H2_ := (Option.bind_some _ _).symm.trans H; rw [hy265]; with_reducible exact H2_) | (have H2_ := (Option.bind_some _ _).symm.trans H; with_reducible exact H2_) | with_reducible exact H | (rw [hy265]; exact H) | exact H
        have Ny265 := Aside0.mk hy265
        clear hy265
        have H' := Aside0.mk H
        clear H
        go_wp2_with (first | (at_builtin; (with_reducible refine gate_builtin (b := .append) (xs := #[.tmp 31, .tmp 34]) rfl ?_); refine Kd.R_append (Kd.int .u8) w.heap.size rfl (.tmp 31) (.tmp 34) 38 5 (.int .u8 0) 1 rfl Try.underlying38 info5 rfl (by decide) (by omega) u5 x5_1 ((wrap64 (97 + (Int.tmod x8_10 4))) % 256) [.int .u8 ((wrap64 (97 + (Int.tmod x8_10 4))) % 256)] (fun _ => True) (fun _ => False) rfl rfl ?aP (fun _ hk => hk.elim) ?aF ?aO (Below.refl _ _) ?aS ?aL ?_; (case aP => exact rfl); (case aF => exact (fun _ _ => trivial)); (case aO => exact (rr_ HO_5)); (case aS => exact (keep_size (w := w) (g := g) (row := none) (by repeat (first | (with_reducible first | exact HK.out | apply KeepBut.set_ | apply keep_drewN | apply keep_drew | apply keep_alloc) | exact HK.out)))); (case aL => have := LMc15.out; omega); intro v266 w16 ho hb hg hat; rw [← Ny265.out] at ho; replace HB := Aside0.mk (below_weaken (by repeat (first | (with_reducible first | exact HB.out | apply below_alloc | apply pw_below_drewN | apply below_drew1 | refine below_set ?_ (IsS104.ge HI0.out)) | exact HB.out)) HL.out hb); replace HI0 := Aside0.mk (IsS104.grown (by repeat (first | (with_reducible first | exact HI0.out | apply IsS104.alloc | apply IsS104.drewN | apply IsS104.drew | apply IsS104.set_1 | apply IsS104.set_2) | exact HI0.out)) hg (IsS104.own_ne HI0.out HO_5.out (by decide))); replace HK := Aside0.mk (KeepBut.trans (by repeat (first | (with_reducible first | exact HK.out | apply KeepBut.set_ | apply keep_drewN | apply keep_drew | apply keep_alloc) | exact HK.out)) (KeepBut.of_grown hg g) (Kd.R_base2 HO_5.out)); have HO267 := Aside0.mk (ho); clear HO_5; clear ho hb hg hat))
        go_roundg kj10
        case measure => have := HK1.out; have := HJ10.out; omega
        case rel => exact ⟨(y265), (wrap64 (x7_1 - 1)), (t263), (t264), rs_, H', ⟨by have := HK1.out; have := HJ10.out; omega⟩, ⟨rr_ HO267⟩, ⟨by repeat (first | (with_reducible first | exact HI0.out | apply IsS104.alloc | apply IsS104.drewN | apply IsS104.drew | apply IsS104.set_1 | apply IsS104.set_2) | exact HI0.out)⟩, ⟨by repeat (first | (with_reducible first | exact HK.out | apply KeepBut.set_ | apply keep_drewN | apply keep_drew | apply keep_alloc) | exact HK.out)⟩, ⟨by repeat (first | (with_reducible first | exact HB.out | apply below_alloc | apply pw_below_drewN | apply below_drew1 | refine below_set ?_ (IsS104.ge HI0.out)) | exact HB.out)⟩⟩
       ·rw [if_neg c15] at H
        exact absurd H (by simp)
      ·rw [if_neg c14] at H
       have c14b0 : (t256 == 2) = false := beq_eq_false_iff_ne.mpr c14
       have c14b1 : (t256 != 2) = true := bne_iff_ne.mpr c14
       by_cases c17 : x5_1.length < 140737488355328
       ·rw [if_pos c17] at H
        have LMc17 := Aside0.mk c17
        clear c17
        obtain ⟨y268, hy268⟩ : ∃ y_ : List Int, y_ = (x5_1 ++ [(x8_10) % 256]) := ⟨_, rfl⟩
        replace H : (spec_l1Text.l0 kj10 y268 t256 (wrap64 (x7_1 - 1)) s0_0 t263 t264) = some (r1, r2, r3) := by first | (rw [hy268]; with_reducible exact H) | (have H2_ := (Option.bind_some _ _).symm.trans H; rw [hy268]; with_reducible exact H2_) | (have H2_ := (Option.bind_some _ _).symm.trans H; with_reducible exact H2_) | with_reducible exact H | (rw [hy268]; exact H) | exact H
        have Ny268 := Aside0.mk hy268
        clear hy268
        have H' := Aside0.mk H
        clear H
        go_wp2_with (first | (at_builtin; (with_reducible refine gate_builtin (b := .append) (xs := #[.tmp 31, .tmp 34]) rfl ?_); refine Kd.R_append (Kd.int .u8) w.heap.size rfl (.tmp 31) (.tmp 34) 38 5 (.int .u8 0) 1 rfl Try.underlying38 info5 rfl (by decide) (by omega) u5 x5_1 ((x8_10) % 256) [.int .u8 ((x8_10) % 256)] (fun _ => True) (fun _ => False) rfl rfl ?aP (fun _ hk => hk.elim) ?aF ?aO (Below.refl _ _) ?aS ?aL ?_; (case aP => exact rfl); (case aF => exact (fun _ _ => trivial)); (case aO => exact (rr_ HO_5)); (case aS => exact (keep_size (w := w) (g := g) (row := none) (by repeat (first | (with_reducible first | exact HK.out | apply KeepBut.set_ | apply keep_drewN | apply keep_drew | apply keep_alloc) | exact HK.out)))); (case aL => have := LMc17.out; omega); intro v269 w18 ho hb hg hat; rw [← Ny268.out] at ho; replace HB := Aside0.mk (below_weaken (by repeat (first | (with_reducible first | exact HB.out | apply below_alloc | apply pw_below_drewN | apply below_drew1 | refine below_set ?_ (IsS104.ge HI0.out)) | exact HB.out)) HL.out hb); replace HI0 := Aside0.mk (IsS104.grown (by repeat (first | (with_reducible first | exact HI0.out | apply IsS104.alloc | apply IsS104.drewN | apply IsS104.drew | apply IsS104.set_1 | apply IsS104.set_2) | exact HI0.out)) hg (IsS104.own_ne HI0.out HO_5.out (by decide))); replace HK := Aside0.mk (KeepBut.trans (by repeat (first | (with_reducible first | exact HK.out | apply KeepBut.set_ | apply keep_drewN | apply keep_drew | apply keep_alloc) | exact HK.out)) (KeepBut.of_grown hg g) (Kd.R_base2 HO_5.out)); have HO270 := Aside0.mk (ho); clear HO_5; clear ho hb hg hat))
        go_roundg kj10
        case measure => have := HK1.out; have := HJ10.out; omega
        case rel => exact ⟨(y268), (wrap64 (x7_1 - 1)), (t263), (t264), rs_, H', ⟨by have := HK1.out; have := HJ10.out; omega⟩, ⟨rr_ HO270⟩, ⟨by repeat (first | (with_reducible first | exact HI0.out | apply IsS104.alloc | apply IsS104.drewN | apply IsS104.drew | apply IsS104.set_1 | apply IsS104.set_2) | exact HI0.out)⟩, ⟨by repeat (first | (with_reducible first | exact HK.out | apply KeepBut.set_ | apply keep_drewN | apply keep_drew | apply keep_alloc) | exact HK.out)⟩, ⟨by repeat (first | (with_reducible first | exact HB.out | apply below_alloc | apply pw_below_drewN | apply below_drew1 | refine below_set ?_ (IsS104.ge HI0.out)) | exact HB.out)⟩⟩
       ·rw [if_neg c17] at H
        exact absurd H (by simp)
   ·rw [if_neg c9] at H
    have c9b0 : decide (0 < x7_1) = false := decide_eq_false c9
    clear c9
    simp only [Option.some.injEq, Prod.mk.injEq] at H
    obtain ⟨rfl, rfl, rfl⟩ := H
    have hcv19 := own_string (P := Try.prog) Try.underlying38 Try.underlying5 Try.underlying9 (Kd.own_of_R HO_5.out)
    go_wp2
    go_ret
    exact ⟨re_, by repeat (first | (with_reducible first | exact HI0.out | apply IsS104.alloc | apply IsS104.drewN | apply IsS104.drew | apply IsS104.set_1 | apply IsS104.set_2) | exact HI0.out), by repeat (first | (with_reducible first | exact HB.out | apply below_alloc | apply pw_below_drewN | apply below_drew1 | refine below_set ?_ (IsS104.ge HI0.out)) | exact HB.out), by repeat (first | (with_reducible first | exact HK.out | apply KeepBut.set_ | apply keep_drewN | apply keep_drew | apply keep_alloc) | exact HK.out)⟩

end Go.Proofs.Ytigbekefjbfopaa.PFnPower
