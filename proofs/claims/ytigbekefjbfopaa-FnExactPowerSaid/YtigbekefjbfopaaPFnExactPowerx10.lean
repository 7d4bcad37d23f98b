-- Laid by a program of this session, a copy of the kit's printer with additions (wip/patch_print.py): myhead. Lean checks it.
import Derived.Test.YtigbekefjbfopaaPFnExactPowerx0
import Derived.Test.YtigbekefjbfopaaPFnExactPowerx1
import Derived.Test.YtigbekefjbfopaaPFnExactPowerx3
import Derived.Test.YtigbekefjbfopaaPFnExactPowerx4
import Derived.Test.YtigbekefjbfopaaPFnExactPowerx6
import Derived.Test.YtigbekefjbfopaaPFnExactPowerx7
import Derived.Test.YtigbekefjbfopaaPFnExactPowerx8
import Derived.Test.YtigbekefjbfopaaPFnExactPowerx9
namespace Go.Proofs.Ytigbekefjbfopaa.PFnExactPower
open Go.RowKit Go.Proofs.YtigbekefjbfopaaW.PrintWords Go.Proofs.YtigbekefjbfopaaW.PrintLast Go.Proofs.YtigbekefjbfopaaW.PrintMore
attribute [local go_sem] max2_int min2_int max_two min_two max_three min_three max_four min_four   -- for this text's walks alone
set_option linter.unusedVariables false
set_option linter.unusedSimpArgs false

/-! ### laws_FnExactPower: function 3 -/
def laws_FnExactPower.j0 : Nat → List Int → Bool → List (S100) → Int → Int → Bool → List (S45) → Int → Int → Bool → List (S45) → Int → Int → Bool → Option (Bool)
 | 0, _, _, _, _, _, _, _, _, _, _, _, _, _, _ => none
 | k + 1, x1, x61, x232000, x232001, x232002, x232003, x249000, x249001, x249002, x249003, x266000, x266001, x266002, x266003 => if x61 = true then (some false) else ((laws_markDisk.f k x266000 x266001 x266002 x266003 1).bind fun bt283 => ((laws_heldDisk.f k bt283.2 x266001 x266002 x266003 1).bind fun t285 => (if t285 < 0 then (some false) else (if t285 = bt283.1 then ((laws_toDisk.f k x232000 x232001 x232002 x232003).bind fun bt286 => ((laws_toIntS.f k x1).bind fun t292 => ((impl_Power.f k bt286.1 bt286.2.1 bt286.2.2.1 bt286.2.2.2 t292).bind fun bt295 => ((laws_eqDisk.f k bt295.1 bt295.2.1 bt295.2.2.1 bt295.2.2.2 x249000 x249001 x249002 x249003).bind fun t302 => (if t302 = true then ((laws_heldDisk.f k bt283.2 x266001 x266002 x266003 1).bind fun t303 => (if t303 < 0 then (some false) else (if t303 = bt283.1 then (some true) else (some false)))) else (some false)))))) else (some false)))))
def laws_FnExactPower.f (k : Nat) (l0_0 : List (S100)) (a0_1 : Int) (a0_2 : Int) (a0_3 : Bool) (l1 : List Int) : Option (Bool) := if (l1.length : Int) > 1048576 then (some true) else ((laws_szDisk.f k l0_0 a0_1 a0_2 a0_3 1048576).bind fun t232 => (if t232 < 0 then (some true) else ((laws_toDisk.f k l0_0 a0_1 a0_2 a0_3).bind fun bt233 => ((laws_toIntS.f k l1).bind fun t239 => ((spec_Power.f k bt233.1 bt233.2.1 bt233.2.2.1 bt233.2.2.2 t239).bind fun bt242 => ((laws_toDisk.f k l0_0 a0_1 a0_2 a0_3).bind fun bt249 => ((laws_toIntS.f k l1).bind fun t256 => ((impl_Power.f k bt249.1 bt249.2.1 bt249.2.2.1 bt249.2.2.2 t256).bind fun bt259 => ((laws_eqDisk.f k bt259.1 bt259.2.1 bt259.2.2.1 bt259.2.2.2 bt242.1 bt242.2.1 bt242.2.2.1 bt242.2.2.2).bind fun t266 => (if t266 = true then ((laws_toDisk.f k l0_0 a0_1 a0_2 a0_3).bind fun bt267 => ((laws_eqDisk.f k bt249.1 bt249.2.1 bt249.2.2.1 bt249.2.2.2 bt267.1 bt267.2.1 bt267.2.2.1 bt267.2.2.2).bind fun t273 => (if t273 = true then ((laws_toIntS.f k l1).bind fun t274 => ((laws_eqIntS.f k t256 t274).bind fun t277 => (if t277 = true then ((laws_markDisk.f k bt249.1 bt249.2.1 bt249.2.2.1 bt249.2.2.2 1).bind fun bt278 => ((laws_markIntS.f k t256 bt278.1).bind fun bt280 => (if bt280.1 < 0 then (laws_FnExactPower.j0 k l1 true l0_0 a0_1 a0_2 a0_3 bt242.1 bt242.2.1 bt242.2.2.1 bt242.2.2.2 bt259.1 bt259.2.1 bt259.2.2.1 bt259.2.2.2) else ((laws_eqDisk.f k bt259.1 bt259.2.1 bt259.2.2.1 bt259.2.2.2 bt242.1 bt242.2.1 bt242.2.2.1 bt242.2.2.2).bind fun t282 => (laws_FnExactPower.j0 k l1 (!t282) l0_0 a0_1 a0_2 a0_3 bt242.1 bt242.2.1 bt242.2.2.1 bt242.2.2.2 bt259.1 bt259.2.1 bt259.2.2.1 bt259.2.2.2))))) else (some false)))) else (some false)))) else (some false)))))))))))
theorem laws_FnExactPower.mono_l : ∀ k, (∀ y0 y1 y2 y3 y4 y5 y6 y7 y8 y9 y10 y11 y12 y13, LeO (laws_FnExactPower.j0 k y0 y1 y2 y3 y4 y5 y6 y7 y8 y9 y10 y11 y12 y13) (laws_FnExactPower.j0 (k + 1) y0 y1 y2 y3 y4 y5 y6 y7 y8 y9 y10 y11 y12 y13))
 | 0 => fun _ _ _ _ _ _ _ _ _ _ _ _ _ _ r h => by simp [laws_FnExactPower.j0] at h
 | k + 1 => by
  have ih0 := laws_FnExactPower.mono_l k
  ·intro y0 y1 y2 y3 y4 y5 y6 y7 y8 y9 y10 y11 y12 y13
   unfold laws_FnExactPower.j0
   repeat' first | (with_reducible first | exact ih0 .. | exact impl_Power.mono .. | exact laws_eqDisk.mono .. | exact laws_eqIntS.mono .. | exact laws_heldDisk.mono .. | exact laws_markDisk.mono .. | exact laws_markIntS.mono .. | exact laws_szDisk.mono .. | exact laws_toDisk.mono .. | exact laws_toIntS.mono .. | exact spec_Power.mono .. | exact LeO.refl .. | exact LeO.none .. | refine LeO.ite ?_ ?_ | refine LeO.bind ?_ (fun _ => ?_)) | exact ih0 .. | exact impl_Power.mono .. | exact laws_eqDisk.mono .. | exact laws_eqIntS.mono .. | exact laws_heldDisk.mono .. | exact laws_markDisk.mono .. | exact laws_markIntS.mono .. | exact laws_szDisk.mono .. | exact laws_toDisk.mono .. | exact laws_toIntS.mono .. | exact spec_Power.mono .. | exact LeO.none .. | refine LeO.ite ?_ ?_ | refine LeO.bind ?_ (fun _ => ?_)
theorem laws_FnExactPower.mono : ∀ a0 a1 a2 a3 a4 k, LeO (laws_FnExactPower.f k a0 a1 a2 a3 a4) (laws_FnExactPower.f (k + 1) a0 a1 a2 a3 a4) := by
 intro a0 a1 a2 a3 a4 k
 have ih0 := laws_FnExactPower.mono_l k
 unfold laws_FnExactPower.f
 repeat' first | (with_reducible first | exact ih0 .. | exact impl_Power.mono .. | exact laws_eqDisk.mono .. | exact laws_eqIntS.mono .. | exact laws_heldDisk.mono .. | exact laws_markDisk.mono .. | exact laws_markIntS.mono .. | exact laws_szDisk.mono .. | exact laws_toDisk.mono .. | exact laws_toIntS.mono .. | exact spec_Power.mono .. | exact LeO.refl .. | exact LeO.none .. | refine LeO.ite ?_ ?_ | refine LeO.bind ?_ (fun _ => ?_)) | exact ih0 .. | exact impl_Power.mono .. | exact laws_eqDisk.mono .. | exact laws_eqIntS.mono .. | exact laws_heldDisk.mono .. | exact laws_markDisk.mono .. | exact laws_markIntS.mono .. | exact laws_szDisk.mono .. | exact laws_toDisk.mono .. | exact laws_toIntS.mono .. | exact spec_Power.mono .. | exact LeO.none .. | refine LeO.ite ?_ ?_ | refine LeO.bind ?_ (fun _ => ?_)
set_option maxHeartbeats 80000000 in
set_option maxRecDepth 100000 in
theorem laws_FnExactPower.calls (k : Nat) (A0_0 : Option Addr) (c0_0 : Nat) (l0_0 : List (S100)) (a0_1 : Int) (a0_2 : Int) (a0_3 : Bool) (A1 : Option Addr) (c1 : Nat) (l1 : List Int) (r : Bool) (w : World) (hr0_0 : Kd.C k100 w A0_0 l0_0.length l0_0) (hc0_0 : l0_0.length ≤ c0_0) (hr1 : Kd.C (Kd.int .i64) w A1 l1.length l1) (hc1 : l1.length ≤ c1) (hrt : r = true) (h : laws_FnExactPower.f k l0_0 a0_1 a0_2 a0_3 l1 = some r) :
  Calls Try.prog 3 #[.agg #[.slice A0_0 l0_0.length c0_0, .int .i64 a0_1, .int .i64 a0_2, .bool a0_3], .slice A1 l1.length c1] w fun e w' => e = .returned (.bool r) ∧ Below w.heap.size w w' := by
 have hu24 := Try.underlying24
 have hu29 := Try.underlying29
 have HRT := Aside0.mk hrt
 clear hrt
 have HR0_0 := Aside0.mk hr0_0
 have HC0_0 := Aside0.mk hc0_0
 clear hr0_0 hc0_0
 have HR1 := Aside0.mk hr1
 have HC1 := Aside0.mk hc1
 clear hr1 hc1
 have HB := Aside0.mk (Below.refl w.heap.size w)
 have H : (if (l1.length : Int) > 1048576 then (some true) else ((laws_szDisk.f k l0_0 a0_1 a0_2 a0_3 1048576).bind fun t232 => (if t232 < 0 then (some true) else ((laws_toDisk.f k l0_0 a0_1 a0_2 a0_3).bind fun bt233 => ((laws_toIntS.f k l1).bind fun t239 => ((spec_Power.f k bt233.1 bt233.2.1 bt233.2.2.1 bt233.2.2.2 t239).bind fun bt242 => ((laws_toDisk.f k l0_0 a0_1 a0_2 a0_3).bind fun bt249 => ((laws_toIntS.f k l1).bind fun t256 => ((impl_Power.f k bt249.1 bt249.2.1 bt249.2.2.1 bt249.2.2.2 t256).bind fun bt259 => ((laws_eqDisk.f k bt259.1 bt259.2.1 bt259.2.2.1 bt259.2.2.2 bt242.1 bt242.2.1 bt242.2.2.1 bt242.2.2.2).bind fun t266 => (if t266 = true then ((laws_toDisk.f k l0_0 a0_1 a0_2 a0_3).bind fun bt267 => ((laws_eqDisk.f k bt249.1 bt249.2.1 bt249.2.2.1 bt249.2.2.2 bt267.1 bt267.2.1 bt267.2.2.1 bt267.2.2.2).bind fun t273 => (if t273 = true then ((laws_toIntS.f k l1).bind fun t274 => ((laws_eqIntS.f k t256 t274).bind fun t277 => (if t277 = true then ((laws_markDisk.f k bt249.1 bt249.2.1 bt249.2.2.1 bt249.2.2.2 1).bind fun bt278 => ((laws_markIntS.f k t256 bt278.1).bind fun bt280 => (if bt280.1 < 0 then (laws_FnExactPower.j0 k l1 true l0_0 a0_1 a0_2 a0_3 bt242.1 bt242.2.1 bt242.2.2.1 bt242.2.2.2 bt259.1 bt259.2.1 bt259.2.2.1 bt259.2.2.2) else ((laws_eqDisk.f k bt259.1 bt259.2.1 bt259.2.2.1 bt259.2.2.2 bt242.1 bt242.2.1 bt242.2.2.1 bt242.2.2.2).bind fun t282 => (laws_FnExactPower.j0 k l1 (!t282) l0_0 a0_1 a0_2 a0_3 bt242.1 bt242.2.1 bt242.2.2.1 bt242.2.2.2 bt259.1 bt259.2.1 bt259.2.2.1 bt259.2.2.2))))) else (some false)))) else (some false)))) else (some false)))))))))))) = some r := h
 clear h
 by_cases c3 : (l1.length : Int) > 1048576
 ·rw [if_pos c3] at H
  have c3b0 : decide (1048576 < (l1.length : Int)) = true := decide_eq_true c3
  have c3b1 : decide (1048576 < l1.length) = true := decide_eq_true (by omega)
  clear c3
  obtain rfl := Option.some.inj H
  go_enter Try.func3, Try.ntmps3
  go_wp2_with (first | ((with_reducible refine gate_dst (N := 2) rfl ?_); refine box_event ?hg (N := 2) ?hd (cs := #[.slice A0_0 l0_0.length c0_0, .int .i64 a0_1, .int .i64 a0_2, .bool a0_3]) (t := 24) ?hr ?_; (case hd => rfl); (case hg => rfl); (case hr => first | (go_simp; done) | (go_simp; rfl)); intro gb231 hg w4 hbox hb; have BK231 := Aside0.mk (hbox); have GW231 := ge_ hg (hb_ HB); have GE231 := ge_ hg (hb_ HB); replace HB := bs_ HB hb; clear hb hbox hg))
  go_ret
  exact ⟨re_, hs_ HB GE231⟩
 ·rw [if_neg c3] at H
  have c3b0 : decide (1048576 < (l1.length : Int)) = false := decide_eq_false c3
  have c3b1 : decide (1048576 < l1.length) = false := decide_eq_false (by omega)
  clear c3
  replace H := Option.bind_eq_some_iff.mp H
  obtain ⟨t232, A50, H⟩ := H
  replace H : (if t232 < 0 then (some true) else ((laws_toDisk.f k l0_0 a0_1 a0_2 a0_3).bind fun bt233 => ((laws_toIntS.f k l1).bind fun t239 => ((spec_Power.f k bt233.1 bt233.2.1 bt233.2.2.1 bt233.2.2.2 t239).bind fun bt242 => ((laws_toDisk.f k l0_0 a0_1 a0_2 a0_3).bind fun bt249 => ((laws_toIntS.f k l1).bind fun t256 => ((impl_Power.f k bt249.1 bt249.2.1 bt249.2.2.1 bt249.2.2.2 t256).bind fun bt259 => ((laws_eqDisk.f k bt259.1 bt259.2.1 bt259.2.2.1 bt259.2.2.2 bt242.1 bt242.2.1 bt242.2.2.1 bt242.2.2.2).bind fun t266 => (if t266 = true then ((laws_toDisk.f k l0_0 a0_1 a0_2 a0_3).bind fun bt267 => ((laws_eqDisk.f k bt249.1 bt249.2.1 bt249.2.2.1 bt249.2.2.2 bt267.1 bt267.2.1 bt267.2.2.1 bt267.2.2.2).bind fun t273 => (if t273 = true then ((laws_toIntS.f k l1).bind fun t274 => ((laws_eqIntS.f k t256 t274).bind fun t277 => (if t277 = true then ((laws_markDisk.f k bt249.1 bt249.2.1 bt249.2.2.1 bt249.2.2.2 1).bind fun bt278 => ((laws_markIntS.f k t256 bt278.1).bind fun bt280 => (if bt280.1 < 0 then (laws_FnExactPower.j0 k l1 true l0_0 a0_1 a0_2 a0_3 bt242.1 bt242.2.1 bt242.2.2.1 bt242.2.2.2 bt259.1 bt259.2.1 bt259.2.2.1 bt259.2.2.2) else ((laws_eqDisk.f k bt259.1 bt259.2.1 bt259.2.2.1 bt259.2.2.2 bt242.1 bt242.2.1 bt242.2.2.1 bt242.2.2.2).bind fun t282 => (laws_FnExactPower.j0 k l1 (!t282) l0_0 a0_1 a0_2 a0_3 bt242.1 bt242.2.1 bt242.2.2.1 bt242.2.2.2 bt259.1 bt259.2.1 bt259.2.2.1 bt259.2.2.2))))) else (some false)))) else (some false)))) else (some false)))))))))) = some r := H
  have A5 := Aside0.mk A50
  clear A50
  by_cases c6 : t232 < 0
  ·rw [if_pos c6] at H
   have c6b0 : decide (t232 < 0) = true := decide_eq_true c6
   clear c6
   obtain rfl := Option.some.inj H
   go_enter Try.func3, Try.ntmps3
   go_wp2_with (first | ((with_reducible refine gate_dst (N := 2) rfl ?_); refine box_event ?hg (N := 2) ?hd (cs := #[.slice A0_0 l0_0.length c0_0, .int .i64 a0_1, .int .i64 a0_2, .bool a0_3]) (t := 24) ?hr ?_; (case hd => rfl); (case hg => rfl); (case hr => first | (go_simp; done) | (go_simp; rfl)); intro gb231 hg w7 hbox hb; have BK231 := Aside0.mk (hbox); have GW231 := ge_ hg (hb_ HB); have GE231 := ge_ hg (hb_ HB); replace HB := bs_ HB hb; clear hb hbox hg; obtain ⟨hcz8_0, hcz8_1, hcz8_2, hcz8_3, hfz8_0, hfz8_1, hfz8_2, hfz8_3⟩ := bc4_ BK231) | ((with_reducible refine gate_callee (f := 6) rfl ?_); refine goesL_ (some 19) rfl rfl Try.func6 (by kernel_rfl) rfl #[.agg #[.slice A0_0 l0_0.length c0_0, .int .i64 a0_1, .int .i64 a0_2, .bool a0_3], .int .i64 1048576] rfl ar_ ?_; (with_reducible refine (laws_szDisk.calls k _ _ l0_0 a0_1 a0_2 a0_3 1048576 t232 _ ?side1 ?side2 A5.out).mono ?_); (case side1 => repeat (first | exact (Kd.C_below HR0_0.out HB.out) | (with_reducible refine Kd.C_alloc ?_ _) | (with_reducible refine Kd.C_drewN ?_ _) | (with_reducible refine Kd.C_drew ?_))); (case side2 => exact HC0_0.out); rintro e w9 ⟨rfl, hb⟩; refine ⟨_, rfl, ?_⟩; replace BK231 := bb_ BK231 hb; replace HB := bt_ HB GE231 hb; (try clear hb); (try clear hb2); (try clear hk); (try clear hi)))
   go_ret
   exact ⟨re_, hs_ HB GE231⟩
  ·rw [if_neg c6] at H
   have c6b0 : decide (t232 < 0) = false := decide_eq_false c6
   clear c6
   replace H := Option.bind_eq_some_iff.mp H
   obtain ⟨⟨t233, t236, t237, t238⟩, A100, H⟩ := H
   replace H : ((laws_toIntS.f k l1).bind fun t239 => ((spec_Power.f k t233 t236 t237 t238 t239).bind fun bt242 => ((laws_toDisk.f k l0_0 a0_1 a0_2 a0_3).bind fun bt249 => ((laws_toIntS.f k l1).bind fun t256 => ((impl_Power.f k bt249.1 bt249.2.1 bt249.2.2.1 bt249.2.2.2 t256).bind fun bt259 => ((laws_eqDisk.f k bt259.1 bt259.2.1 bt259.2.2.1 bt259.2.2.2 bt242.1 bt242.2.1 bt242.2.2.1 bt242.2.2.2).bind fun t266 => (if t266 = true then ((laws_toDisk.f k l0_0 a0_1 a0_2 a0_3).bind fun bt267 => ((laws_eqDisk.f k bt249.1 bt249.2.1 bt249.2.2.1 bt249.2.2.2 bt267.1 bt267.2.1 bt267.2.2.1 bt267.2.2.2).bind fun t273 => (if t273 = true then ((laws_toIntS.f k l1).bind fun t274 => ((laws_eqIntS.f k t256 t274).bind fun t277 => (if t277 = true then ((laws_markDisk.f k bt249.1 bt249.2.1 bt249.2.2.1 bt249.2.2.2 1).bind fun bt278 => ((laws_markIntS.f k t256 bt278.1).bind fun bt280 => (if bt280.1 < 0 then (laws_FnExactPower.j0 k l1 true l0_0 a0_1 a0_2 a0_3 bt242.1 bt242.2.1 bt242.2.2.1 bt242.2.2.2 bt259.1 bt259.2.1 bt259.2.2.1 bt259.2.2.2) else ((laws_eqDisk.f k bt259.1 bt259.2.1 bt259.2.2.1 bt259.2.2.2 bt242.1 bt242.2.1 bt242.2.2.1 bt242.2.2.2).bind fun t282 => (laws_FnExactPower.j0 k l1 (!t282) l0_0 a0_1 a0_2 a0_3 bt242.1 bt242.2.1 bt242.2.2.1 bt242.2.2.2 bt259.1 bt259.2.1 bt259.2.2.1 bt259.2.2.2))))) else (some false)))) else (some false)))) else (some false)))))))) = some r := H
   have A10 := Aside0.mk A100
   clear A100
   replace H := Option.bind_eq_some_iff.mp H
   obtain ⟨t239, A110, H⟩ := H
   replace H : ((spec_Power.f k t233 t236 t237 t238 t239).bind fun bt242 => ((laws_toDisk.f k l0_0 a0_1 a0_2 a0_3).bind fun bt249 => ((laws_toIntS.f k l1).bind fun t256 => ((impl_Power.f k bt249.1 bt249.2.1 bt249.2.2.1 bt249.2.2.2 t256).bind fun bt259 => ((laws_eqDisk.f k bt259.1 bt259.2.1 bt259.2.2.1 bt259.2.2.2 bt242.1 bt242.2.1 bt242.2.2.1 bt242.2.2.2).bind fun t266 => (if t266 = true then ((laws_toDisk.f k l0_0 a0_1 a0_2 a0_3).bind fun bt267 => ((laws_eqDisk.f k bt249.1 bt249.2.1 bt249.2.2.1 bt249.2.2.2 bt267.1 bt267.2.1 bt267.2.2.1 bt267.2.2.2).bind fun t273 => (if t273 = true then ((laws_toIntS.f k l1).bind fun t274 => ((laws_eqIntS.f k t256 t274).bind fun t277 => (if t277 = true then ((laws_markDisk.f k bt249.1 bt249.2.1 bt249.2.2.1 bt249.2.2.2 1).bind fun bt278 => ((laws_markIntS.f k t256 bt278.1).bind fun bt280 => (if bt280.1 < 0 then (laws_FnExactPower.j0 k l1 true l0_0 a0_1 a0_2 a0_3 bt242.1 bt242.2.1 bt242.2.2.1 bt242.2.2.2 bt259.1 bt259.2.1 bt259.2.2.1 bt259.2.2.2) else ((laws_eqDisk.f k bt259.1 bt259.2.1 bt259.2.2.1 bt259.2.2.2 bt242.1 bt242.2.1 bt242.2.2.1 bt242.2.2.2).bind fun t282 => (laws_FnExactPower.j0 k l1 (!t282) l0_0 a0_1 a0_2 a0_3 bt242.1 bt242.2.1 bt242.2.2.1 bt242.2.2.2 bt259.1 bt259.2.1 bt259.2.2.1 bt259.2.2.2))))) else (some false)))) else (some false)))) else (some false))))))) = some r := H
   have A11 := Aside0.mk A110
   clear A110
   replace H := Option.bind_eq_some_iff.mp H
   obtain ⟨⟨t242, t245, t246, t247⟩, A120, H⟩ := H
   replace H : ((laws_toDisk.f k l0_0 a0_1 a0_2 a0_3).bind fun bt249 => ((laws_toIntS.f k l1).bind fun t256 => ((impl_Power.f k bt249.1 bt249.2.1 bt249.2.2.1 bt249.2.2.2 t256).bind fun bt259 => ((laws_eqDisk.f k bt259.1 bt259.2.1 bt259.2.2.1 bt259.2.2.2 t242 t245 t246 t247).bind fun t266 => (if t266 = true then ((laws_toDisk.f k l0_0 a0_1 a0_2 a0_3).bind fun bt267 => ((laws_eqDisk.f k bt249.1 bt249.2.1 bt249.2.2.1 bt249.2.2.2 bt267.1 bt267.2.1 bt267.2.2.1 bt267.2.2.2).bind fun t273 => (if t273 = true then ((laws_toIntS.f k l1).bind fun t274 => ((laws_eqIntS.f k t256 t274).bind fun t277 => (if t277 = true then ((laws_markDisk.f k bt249.1 bt249.2.1 bt249.2.2.1 bt249.2.2.2 1).bind fun bt278 => ((laws_markIntS.f k t256 bt278.1).bind fun bt280 => (if bt280.1 < 0 then (laws_FnExactPower.j0 k l1 true l0_0 a0_1 a0_2 a0_3 t242 t245 t246 t247 bt259.1 bt259.2.1 bt259.2.2.1 bt259.2.2.2) else ((laws_eqDisk.f k bt259.1 bt259.2.1 bt259.2.2.1 bt259.2.2.2 t242 t245 t246 t247).bind fun t282 => (laws_FnExactPower.j0 k l1 (!t282) l0_0 a0_1 a0_2 a0_3 t242 t245 t246 t247 bt259.1 bt259.2.1 bt259.2.2.1 bt259.2.2.2))))) else (some false)))) else (some false)))) else (some false)))))) = some r := H
   have A12 := Aside0.mk A120
   clear A120
   replace H := Option.bind_eq_some_iff.mp H
   obtain ⟨⟨t249, t252, t253, t254⟩, A130, H⟩ := H
   replace H : ((laws_toIntS.f k l1).bind fun t256 => ((impl_Power.f k t249 t252 t253 t254 t256).bind fun bt259 => ((laws_eqDisk.f k bt259.1 bt259.2.1 bt259.2.2.1 bt259.2.2.2 t242 t245 t246 t247).bind fun t266 => (if t266 = true then ((laws_toDisk.f k l0_0 a0_1 a0_2 a0_3).bind fun bt267 => ((laws_eqDisk.f k t249 t252 t253 t254 bt267.1 bt267.2.1 bt267.2.2.1 bt267.2.2.2).bind fun t273 => (if t273 = true then ((laws_toIntS.f k l1).bind fun t274 => ((laws_eqIntS.f k t256 t274).bind fun t277 => (if t277 = true then ((laws_markDisk.f k t249 t252 t253 t254 1).bind fun bt278 => ((laws_markIntS.f k t256 bt278.1).bind fun bt280 => (if bt280.1 < 0 then (laws_FnExactPower.j0 k l1 true l0_0 a0_1 a0_2 a0_3 t242 t245 t246 t247 bt259.1 bt259.2.1 bt259.2.2.1 bt259.2.2.2) else ((laws_eqDisk.f k bt259.1 bt259.2.1 bt259.2.2.1 bt259.2.2.2 t242 t245 t246 t247).bind fun t282 => (laws_FnExactPower.j0 k l1 (!t282) l0_0 a0_1 a0_2 a0_3 t242 t245 t246 t247 bt259.1 bt259.2.1 bt259.2.2.1 bt259.2.2.2))))) else (some false)))) else (some false)))) else (some false))))) = some r := H
   have A13 := Aside0.mk A130
   clear A130
   replace H := Option.bind_eq_some_iff.mp H
   obtain ⟨t256, A140, H⟩ := H
   replace H : ((impl_Power.f k t249 t252 t253 t254 t256).bind fun bt259 => ((laws_eqDisk.f k bt259.1 bt259.2.1 bt259.2.2.1 bt259.2.2.2 t242 t245 t246 t247).bind fun t266 => (if t266 = true then ((laws_toDisk.f k l0_0 a0_1 a0_2 a0_3).bind fun bt267 => ((laws_eqDisk.f k t249 t252 t253 t254 bt267.1 bt267.2.1 bt267.2.2.1 bt267.2.2.2).bind fun t273 => (if t273 = true then ((laws_toIntS.f k l1).bind fun t274 => ((laws_eqIntS.f k t256 t274).bind fun t277 => (if t277 = true then ((laws_markDisk.f k t249 t252 t253 t254 1).bind fun bt278 => ((laws_markIntS.f k t256 bt278.1).bind fun bt280 => (if bt280.1 < 0 then (laws_FnExactPower.j0 k l1 true l0_0 a0_1 a0_2 a0_3 t242 t245 t246 t247 bt259.1 bt259.2.1 bt259.2.2.1 bt259.2.2.2) else ((laws_eqDisk.f k bt259.1 bt259.2.1 bt259.2.2.1 bt259.2.2.2 t242 t245 t246 t247).bind fun t282 => (laws_FnExactPower.j0 k l1 (!t282) l0_0 a0_1 a0_2 a0_3 t242 t245 t246 t247 bt259.1 bt259.2.1 bt259.2.2.1 bt259.2.2.2))))) else (some false)))) else (some false)))) else (some false)))) = some r := H
   have A14 := Aside0.mk A140
   clear A140
   replace H := Option.bind_eq_some_iff.mp H
   obtain ⟨⟨t259, t262, t263, t264⟩, A150, H⟩ := H
   replace H : ((laws_eqDisk.f k t259 t262 t263 t264 t242 t245 t246 t247).bind fun t266 => (if t266 = true then ((laws_toDisk.f k l0_0 a0_1 a0_2 a0_3).bind fun bt267 => ((laws_eqDisk.f k t249 t252 t253 t254 bt267.1 bt267.2.1 bt267.2.2.1 bt267.2.2.2).bind fun t273 => (if t273 = true then ((laws_toIntS.f k l1).bind fun t274 => ((laws_eqIntS.f k t256 t274).bind fun t277 => (if t277 = true then ((laws_markDisk.f k t249 t252 t253 t254 1).bind fun bt278 => ((laws_markIntS.f k t256 bt278.1).bind fun bt280 => (if bt280.1 < 0 then (laws_FnExactPower.j0 k l1 true l0_0 a0_1 a0_2 a0_3 t242 t245 t246 t247 t259 t262 t263 t264) else ((laws_eqDisk.f k t259 t262 t263 t264 t242 t245 t246 t247).bind fun t282 => (laws_FnExactPower.j0 k l1 (!t282) l0_0 a0_1 a0_2 a0_3 t242 t245 t246 t247 t259 t262 t263 t264))))) else (some false)))) else (some false)))) else (some false))) = some r := H
   have A15 := Aside0.mk A150
   clear A150
   replace H := Option.bind_eq_some_iff.mp H
   obtain ⟨t266, A160, H⟩ := H
   replace H : (if t266 = true then ((laws_toDisk.f k l0_0 a0_1 a0_2 a0_3).bind fun bt267 => ((laws_eqDisk.f k t249 t252 t253 t254 bt267.1 bt267.2.1 bt267.2.2.1 bt267.2.2.2).bind fun t273 => (if t273 = true then ((laws_toIntS.f k l1).bind fun t274 => ((laws_eqIntS.f k t256 t274).bind fun t277 => (if t277 = true then ((laws_markDisk.f k t249 t252 t253 t254 1).bind fun bt278 => ((laws_markIntS.f k t256 bt278.1).bind fun bt280 => (if bt280.1 < 0 then (laws_FnExactPower.j0 k l1 true l0_0 a0_1 a0_2 a0_3 t242 t245 t246 t247 t259 t262 t263 t264) else ((laws_eqDisk.f k t259 t262 t263 t264 t242 t245 t246 t247).bind fun t282 => (laws_FnExactPower.j0 k l1 (!t282) l0_0 a0_1 a0_2 a0_3 t242 t245 t246 t247 t259 t262 t263 t264))))) else (some false)))) else (some false)))) else (some false)) = some r := H
   have A16 := Aside0.mk A160
   clear A160
   by_cases c17 : t266 = true
   ·subst c17
    have H1 : ((laws_toDisk.f k l0_0 a0_1 a0_2 a0_3).bind fun bt267 => ((laws_eqDisk.f k t249 t252 t253 t254 bt267.1 bt267.2.1 bt267.2.2.1 bt267.2.2.2).bind fun t273 => (if t273 = true then ((laws_toIntS.f k l1).bind fun t274 => ((laws_eqIntS.f k t256 t274).bind fun t277 => (if t277 = true then ((laws_markDisk.f k t249 t252 t253 t254 1).bind fun bt278 => ((laws_markIntS.f k t256 bt278.1).bind fun bt280 => (if bt280.1 < 0 then (laws_FnExactPower.j0 k l1 true l0_0 a0_1 a0_2 a0_3 t242 t245 t246 t247 t259 t262 t263 t264) else ((laws_eqDisk.f k t259 t262 t263 t264 t242 t245 t246 t247).bind fun t282 => (laws_FnExactPower.j0 k l1 (!t282) l0_0 a0_1 a0_2 a0_3 t242 t245 t246 t247 t259 t262 t263 t264))))) else (some false)))) else (some false)))) = some r := by rw [if_pos rfl] at H; exact H
    clear H
    have H := H1
    clear H1
    replace H := Option.bind_eq_some_iff.mp H
    obtain ⟨⟨t267, t270, t271, t272⟩, A180, H⟩ := H
    replace H : ((laws_eqDisk.f k t249 t252 t253 t254 t267 t270 t271 t272).bind fun t273 => (if t273 = true then ((laws_toIntS.f k l1).bind fun t274 => ((laws_eqIntS.f k t256 t274).bind fun t277 => (if t277 = true then ((laws_markDisk.f k t249 t252 t253 t254 1).bind fun bt278 => ((laws_markIntS.f k t256 bt278.1).bind fun bt280 => (if bt280.1 < 0 then (laws_FnExactPower.j0 k l1 true l0_0 a0_1 a0_2 a0_3 t242 t245 t246 t247 t259 t262 t263 t264) else ((laws_eqDisk.f k t259 t262 t263 t264 t242 t245 t246 t247).bind fun t282 => (laws_FnExactPower.j0 k l1 (!t282) l0_0 a0_1 a0_2 a0_3 t242 t245 t246 t247 t259 t262 t263 t264))))) else (some false)))) else (some false))) = some r := H
    have A18 := Aside0.mk A180
    clear A180
    replace H := Option.bind_eq_some_iff.mp H
    obtain ⟨t273, A190, H⟩ := H
    replace H : (if t273 = true then ((laws_toIntS.f k l1).bind fun t274 => ((laws_eqIntS.f k t256 t274).bind fun t277 => (if t277 = true then ((laws_markDisk.f k t249 t252 t253 t254 1).bind fun bt278 => ((laws_markIntS.f k t256 bt278.1).bind fun bt280 => (if bt280.1 < 0 then (laws_FnExactPower.j0 k l1 true l0_0 a0_1 a0_2 a0_3 t242 t245 t246 t247 t259 t262 t263 t264) else ((laws_eqDisk.f k t259 t262 t263 t264 t242 t245 t246 t247).bind fun t282 => (laws_FnExactPower.j0 k l1 (!t282) l0_0 a0_1 a0_2 a0_3 t242 t245 t246 t247 t259 t262 t263 t264))))) else (some false)))) else (some false)) = some r := H
    have A19 := Aside0.mk A190
    clear A190
    by_cases c20 : t273 = true
    ·subst c20
     have H1 : ((laws_toIntS.f k l1).bind fun t274 => ((laws_eqIntS.f k t256 t274).bind fun t277 => (if t277 = true then ((laws_markDisk.f k t249 t252 t253 t254 1).bind fun bt278 => ((laws_markIntS.f k t256 bt278.1).bind fun bt280 => (if bt280.1 < 0 then (laws_FnExactPower.j0 k l1 true l0_0 a0_1 a0_2 a0_3 t242 t245 t246 t247 t259 t262 t263 t264) else ((laws_eqDisk.f k t259 t262 t263 t264 t242 t245 t246 t247).bind fun t282 => (laws_FnExactPower.j0 k l1 (!t282) l0_0 a0_1 a0_2 a0_3 t242 t245 t246 t247 t259 t262 t263 t264))))) else (some false)))) = some r := by rw [if_pos rfl] at H; exact H
     clear H
     have H := H1
     clear H1
     replace H := Option.bind_eq_some_iff.mp H
     obtain ⟨t274, A210, H⟩ := H
     replace H : ((laws_eqIntS.f k t256 t274).bind fun t277 => (if t277 = true then ((laws_markDisk.f k t249 t252 t253 t254 1).bind fun bt278 => ((laws_markIntS.f k t256 bt278.1).bind fun bt280 => (if bt280.1 < 0 then (laws_FnExactPower.j0 k l1 true l0_0 a0_1 a0_2 a0_3 t242 t245 t246 t247 t259 t262 t263 t264) else ((laws_eqDisk.f k t259 t262 t263 t264 t242 t245 t246 t247).bind fun t282 => (laws_FnExactPower.j0 k l1 (!t282) l0_0 a0_1 a0_2 a0_3 t242 t245 t246 t247 t259 t262 t263 t264))))) else (some false))) = some r := H
     have A21 := Aside0.mk A210
     clear A210
     replace H := Option.bind_eq_some_iff.mp H
     obtain ⟨t277, A220, H⟩ := H
     replace H : (if t277 = true then ((laws_markDisk.f k t249 t252 t253 t254 1).bind fun bt278 => ((laws_markIntS.f k t256 bt278.1).bind fun bt280 => (if bt280.1 < 0 then (laws_FnExactPower.j0 k l1 true l0_0 a0_1 a0_2 a0_3 t242 t245 t246 t247 t259 t262 t263 t264) else ((laws_eqDisk.f k t259 t262 t263 t264 t242 t245 t246 t247).bind fun t282 => (laws_FnExactPower.j0 k l1 (!t282) l0_0 a0_1 a0_2 a0_3 t242 t245 t246 t247 t259 t262 t263 t264))))) else (some false)) = some r := H
     have A22 := Aside0.mk A220
     clear A220
     by_cases c23 : t277 = true
     ·subst c23
      have H1 : ((laws_markDisk.f k t249 t252 t253 t254 1).bind fun bt278 => ((laws_markIntS.f k t256 bt278.1).bind fun bt280 => (if bt280.1 < 0 then (laws_FnExactPower.j0 k l1 true l0_0 a0_1 a0_2 a0_3 t242 t245 t246 t247 t259 t262 t263 t264) else ((laws_eqDisk.f k t259 t262 t263 t264 t242 t245 t246 t247).bind fun t282 => (laws_FnExactPower.j0 k l1 (!t282) l0_0 a0_1 a0_2 a0_3 t242 t245 t246 t247 t259 t262 t263 t264))))) = some r := by rw [if_pos rfl] at H; exact H
      clear H
      have H := H1
      clear H1
      replace H := Option.bind_eq_some_iff.mp H
      obtain ⟨⟨t278, t279⟩, A240, H⟩ := H
      replace H : ((laws_markIntS.f k t256 t278).bind fun bt280 => (if bt280.1 < 0 then (laws_FnExactPower.j0 k l1 true l0_0 a0_1 a0_2 a0_3 t242 t245 t246 t247 t259 t262 t263 t264) else ((laws_eqDisk.f k t259 t262 t263 t264 t242 t245 t246 t247).bind fun t282 => (laws_FnExactPower.j0 k l1 (!t282) l0_0 a0_1 a0_2 a0_3 t242 t245 t246 t247 t259 t262 t263 t264)))) = some r := H
      have A24 := Aside0.mk A240
      clear A240
      replace H := Option.bind_eq_some_iff.mp H
      obtain ⟨⟨t280, t281⟩, A250, H⟩ := H
      replace H : (if t280 < 0 then (laws_FnExactPower.j0 k l1 true l0_0 a0_1 a0_2 a0_3 t242 t245 t246 t247 t259 t262 t263 t264) else ((laws_eqDisk.f k t259 t262 t263 t264 t242 t245 t246 t247).bind fun t282 => (laws_FnExactPower.j0 k l1 (!t282) l0_0 a0_1 a0_2 a0_3 t242 t245 t246 t247 t259 t262 t263 t264))) = some r := H
      have A25 := Aside0.mk A250
      clear A250
      have HC26 := Aside0.mk H
      clear H
      go_enter Try.func3, Try.ntmps3
      try go_wp2_with (first | ((with_reducible refine gate_dst (N := 2) rfl ?_); refine box_event ?hg (N := 2) ?hd (cs := #[.slice A0_0 l0_0.length c0_0, .int .i64 a0_1, .int .i64 a0_2, .bool a0_3]) (t := 24) ?hr ?_; (case hd => rfl); (case hg => rfl); (case hr => first | (go_simp; done) | (go_simp; rfl)); intro gb231 hg w27 hbox hb; have BK231 := Aside0.mk (hbox); have GW231 := ge_ hg (hb_ HB); have GE231 := ge_ hg (hb_ HB); replace HB := bs_ HB hb; clear hb hbox hg; obtain ⟨hcz28_0, hcz28_1, hcz28_2, hcz28_3, hfz28_0, hfz28_1, hfz28_2, hfz28_3⟩ := bc4_ BK231) | ((with_reducible refine gate_callee (f := 6) rfl ?_); refine goesL_ (some 19) rfl rfl Try.func6 (by kernel_rfl) rfl #[.agg #[.slice A0_0 l0_0.length c0_0, .int .i64 a0_1, .int .i64 a0_2, .bool a0_3], .int .i64 1048576] rfl ar_ ?_; (with_reducible refine (laws_szDisk.calls k _ _ l0_0 a0_1 a0_2 a0_3 1048576 t232 _ ?side1 ?side2 A5.out).mono ?_); (case side1 => repeat (first | exact (Kd.C_below HR0_0.out HB.out) | (with_reducible refine Kd.C_alloc ?_ _) | (with_reducible refine Kd.C_drewN ?_ _) | (with_reducible refine Kd.C_drew ?_))); (case side2 => exact HC0_0.out); rintro e w29 ⟨rfl, hb⟩; refine ⟨_, rfl, ?_⟩; replace BK231 := bb_ BK231 hb; replace HB := bt_ HB GE231 hb; (try clear hb); (try clear hb2); (try clear hk); (try clear hi); obtain ⟨hcz30_0, hcz30_1, hcz30_2, hcz30_3, hfz30_0, hfz30_1, hfz30_2, hfz30_3⟩ := bc4_ BK231) | ((with_reducible refine gate_callee (f := 8) rfl ?_); refine goesL_ (some 23) rfl rfl Try.func8 (by kernel_rfl) rfl #[.agg #[.slice A0_0 l0_0.length c0_0, .int .i64 a0_1, .int .i64 a0_2, .bool a0_3]] rfl ar_ ?_; (with_reducible refine (laws_toDisk.calls k _ _ l0_0 a0_1 a0_2 a0_3 t233 t236 t237 t238 _ ?side1 ?side2 A10.out).mono ?_); (case side1 => repeat (first | exact (Kd.C_below HR0_0.out HB.out) | (with_reducible refine Kd.C_alloc ?_ _) | (with_reducible refine Kd.C_drewN ?_ _) | (with_reducible refine Kd.C_drew ?_))); (case side2 => exact HC0_0.out); rintro e w31 ⟨v234, rfl, ho0, hb⟩; refine ⟨_, rfl, ?_⟩; have HO235 := Aside0.mk (Kd.R_lower ho0 (below_size (hs_ HB GE231))); replace BK231 := bb_ BK231 hb; replace HB := bt_ HB GE231 hb; (try clear hb); (try clear hb2); (try clear hk); (try clear hi); (try clear ho0)) | ((with_reducible refine gate_callee (f := 9) rfl ?_); refine goesL_ (some 25) rfl rfl Try.func9 (by kernel_rfl) rfl #[.slice A1 l1.length c1] rfl ar_ ?_; (with_reducible refine (laws_toIntS.calls k _ _ l1 t239 _ ?side1 ?side2 A11.out).mono ?_); (case side1 => repeat (first | exact (Kd.C_below HR1.out HB.out) | (with_reducible refine Kd.C_alloc ?_ _) | (with_reducible refine Kd.C_drewN ?_ _) | (with_reducible refine Kd.C_drew ?_))); (case side2 => exact HC1.out); rintro e w32 ⟨v240, rfl, ho0, hb⟩; refine ⟨_, rfl, ?_⟩; replace HO235 := rb_ HO235 hb; have HO241 := Aside0.mk (Kd.R_lower ho0 (below_size (hs_ HB GE231))); replace BK231 := bb_ BK231 hb; replace HB := bt_ HB GE231 hb; (try clear hb); (try clear hb2); (try clear hk); (try clear hi); (try clear ho0); obtain ⟨Ao33, co33, eo33⟩ := Kd.R_slice HO235.out; subst eo33; obtain ⟨Ao34, co34, eo34⟩ := Kd.R_slice HO241.out; subst eo34) | ((with_reducible refine gate_callee (f := 7) rfl ?_); refine goesL_ (some 26) rfl rfl Try.func7 (by kernel_rfl) rfl #[.agg #[.slice Ao33 t233.length co33, .int .i64 t236, .int .i64 t237, .bool t238], .slice Ao34 t239.length co34] rfl ar_ ?_; (with_reducible refine (spec_Power.calls k _ _ t233 t236 t237 t238 _ _ t239 t242 t245 t246 t247 _ ?side1 ?side2 ?side3 ?side4 A12.out).mono ?_); (case side1 => repeat (first | exact (Kd.R_reads' HO235.out).2.2 | (with_reducible refine Kd.C_alloc ?_ _) | (with_reducible refine Kd.C_drewN ?_ _) | (with_reducible refine Kd.C_drew ?_))); (case side2 => exact (Kd.R_reads' HO235.out).2.1); (case side3 => repeat (first | exact (Kd.R_reads' HO241.out).2.2 | (with_reducible refine Kd.C_alloc ?_ _) | (with_reducible refine Kd.C_drewN ?_ _) | (with_reducible refine Kd.C_drew ?_))); (case side4 => exact (Kd.R_reads' HO241.out).2.1); rintro e w35 ⟨v243, rfl, ho0, hb⟩; refine ⟨_, rfl, ?_⟩; replace HO241 := rb_ HO241 hb; have HO244 := Aside0.mk (Kd.R_lower (Kd.R_new' ho0 (Kd.R_lt (rr_ HO235))) (below_size (hs_ HB GE231))); replace HO235 := Aside0.mk (Kd.R_elder' (rr_ HO235) (Kd.R_base ho0) hb); replace BK231 := bb_ BK231 hb; replace HB := bt_ HB GE231 hb; (try clear hb); (try clear hb2); (try clear hk); (try clear hi); (try clear ho0)) | ((with_reducible refine gate_dst (N := 6) rfl ?_); refine box_event ?hg (N := 6) ?hd (cs := #[.slice none 0 0, .int .i64 0, .int .i64 0, .bool false]) (t := 29) ?hr ?_; (case hd => rfl); (case hg => rfl); (case hr => first | (go_simp; done) | (go_simp; rfl)); intro gb248 hg w36 hbox hb; replace HO235 := rb_ HO235 hb; replace HO241 := rb_ HO241 hb; replace HO244 := rb_ HO244 hb; have BK248 := Aside0.mk (hbox); have GW248 := ge_ hg (hs_ HB GE231); have GE248 := ge_ hg (hs_ HB GE231); replace HB := bt_ HB GE231 hb; have NB231_248 := nl_ BK231 hg; have NB248_231 := ng_ BK231 hg; replace BK231 := bb_ BK231 hb; clear hb hbox hg; obtain ⟨Ao37, co37, eo37⟩ := Kd.R_slice HO244.out; subst eo37; have hnb38 := NB248_231.out; have hnc38 := NB231_248.out; obtain ⟨hcz39_0, hcz39_1, hcz39_2, hcz39_3, hfz39_0, hfz39_1, hfz39_2, hfz39_3⟩ := bc4_ BK248; obtain ⟨hcz40_0, hcz40_1, hcz40_2, hcz40_3, hfz40_0, hfz40_1, hfz40_2, hfz40_3⟩ := bc4_ BK231) | ((with_reducible refine gate_callee (f := 8) rfl ?_); refine goesL_ (some 28) rfl rfl Try.func8 (by kernel_rfl) rfl #[.agg #[.slice A0_0 l0_0.length c0_0, .int .i64 a0_1, .int .i64 a0_2, .bool a0_3]] rfl ar_ ?_; (with_reducible refine (laws_toDisk.calls k _ _ l0_0 a0_1 a0_2 a0_3 t249 t252 t253 t254 _ ?side1 ?side2 A13.out).mono ?_); (case side1 => exact Kd.C_below HR0_0.out (hu_ HB GE231 GE248)); (case side2 => exact HC0_0.out); rintro e w41 ⟨v250, rfl, ho0, hb⟩; refine ⟨_, rfl, ?_⟩; replace HO241 := rfb_ HO241 BK248 hb; have HO251 := Aside0.mk (Kd.R_lower (Kd.R_new' (Kd.R_new' ho0 (Kd.R_lt (by (with_reducible repeat (first | apply Kd.R_alloc | apply Kd.R_drewN | apply Kd.R_drew)); exact (Kd.R_mono (Kd.R_far (p := ⟨gb248, 3, none⟩) (Kd.R_far (p := ⟨gb248, 2, none⟩) (Kd.R_far (p := ⟨gb248, 1, none⟩) (Kd.R_far (p := ⟨gb248, 0, none⟩) (Kd.R_types HO235.out BK248.out (by decide)) (fun _ hk => hk.2) (.slice Ao37 t242.length co37)) (fun _ hk => hk.2) (.int .i64 t245)) (fun _ hk => hk.2) (.int .i64 t246)) (fun _ hk => hk.2) (.bool t247)) (fun _ h_ => h_.1))))) (Kd.R_lt (by (with_reducible repeat (first | apply Kd.R_alloc | apply Kd.R_drewN | apply Kd.R_drew)); exact (Kd.R_mono (Kd.R_far (p := ⟨gb248, 3, none⟩) (Kd.R_far (p := ⟨gb248, 2, none⟩) (Kd.R_far (p := ⟨gb248, 1, none⟩) (Kd.R_far (p := ⟨gb248, 0, none⟩) (Kd.R_types HO244.out BK248.out (by decide)) (fun _ hk => hk.2) (.slice Ao37 t242.length co37)) (fun _ hk => hk.2) (.int .i64 t245)) (fun _ hk => hk.2) (.int .i64 t246)) (fun _ hk => hk.2) (.bool t247)) (fun _ h_ => h_.1))))) (below_size (hu_ HB GE231 GE248))); replace HO235 := Aside0.mk (Kd.R_elder' (by (with_reducible repeat (first | apply Kd.R_alloc | apply Kd.R_drewN | apply Kd.R_drew)); exact (Kd.R_mono (Kd.R_far (p := ⟨gb248, 3, none⟩) (Kd.R_far (p := ⟨gb248, 2, none⟩) (Kd.R_far (p := ⟨gb248, 1, none⟩) (Kd.R_far (p := ⟨gb248, 0, none⟩) (Kd.R_types HO235.out BK248.out (by decide)) (fun _ hk => hk.2) (.slice Ao37 t242.length co37)) (fun _ hk => hk.2) (.int .i64 t245)) (fun _ hk => hk.2) (.int .i64 t246)) (fun _ hk => hk.2) (.bool t247)) (fun _ h_ => h_.1))) (Kd.R_base ho0) hb); replace HO244 := Aside0.mk (Kd.R_elder' (by (with_reducible repeat (first | apply Kd.R_alloc | apply Kd.R_drewN | apply Kd.R_drew)); exact (Kd.R_mono (Kd.R_far (p := ⟨gb248, 3, none⟩) (Kd.R_far (p := ⟨gb248, 2, none⟩) (Kd.R_far (p := ⟨gb248, 1, none⟩) (Kd.R_far (p := ⟨gb248, 0, none⟩) (Kd.R_types HO244.out BK248.out (by decide)) (fun _ hk => hk.2) (.slice Ao37 t242.length co37)) (fun _ hk => hk.2) (.int .i64 t245)) (fun _ hk => hk.2) (.int .i64 t246)) (fun _ hk => hk.2) (.bool t247)) (fun _ h_ => h_.1))) (Kd.R_base ho0) hb); replace BK231 := bf_ BK231 NB231_248 hb; replace BK248 := bp_ #[.slice Ao37 t242.length co37, .int .i64 t245, .int .i64 t246, .bool t247] BK248 hb; replace HB := bu_ HB GE231 GE248 hb; (try clear hb); (try clear hb2); (try clear hk); (try clear hi); (try clear ho0)) | ((with_reducible refine gate_dst (N := 7) rfl ?_); refine box_event ?hg (N := 7) ?hd (cs := #[.slice none 0 0, .int .i64 0, .int .i64 0, .bool false]) (t := 29) ?hr ?_; (case hd => rfl); (case hg => rfl); (case hr => first | (go_simp; done) | (go_simp; rfl)); intro gb255 hg w42 hbox hb; replace HO235 := rb_ HO235 hb; replace HO241 := rb_ HO241 hb; replace HO244 := rb_ HO244 hb; replace HO251 := rb_ HO251 hb; have BK255 := Aside0.mk (hbox); have GW255 := ge_ hg (hu_ HB GE231 GE248); have GE255 := ge_ hg (hu_ HB GE231 GE248); replace HB := bu_ HB GE231 GE248 hb; have NB231_255 := nl_ BK231 hg; have NB255_231 := ng_ BK231 hg; replace BK231 := bb_ BK231 hb; have NB248_255 := nl_ BK248 hg; have NB255_248 := ng_ BK248 hg; replace BK248 := bb_ BK248 hb; clear hb hbox hg; obtain ⟨Ao43, co43, eo43⟩ := Kd.R_slice HO251.out; subst eo43; have hnb44 := NB255_231.out; have hnc44 := NB231_255.out; have hnb45 := NB255_248.out; have hnc45 := NB248_255.out; obtain ⟨hcz46_0, hcz46_1, hcz46_2, hcz46_3, hfz46_0, hfz46_1, hfz46_2, hfz46_3⟩ := bc4_ BK255) | ((with_reducible refine gate_callee (f := 9) rfl ?_); refine goesL_ (some 30) rfl rfl Try.func9 (by kernel_rfl) rfl #[.slice A1 l1.length c1] rfl ar_ ?_; (with_reducible refine (laws_toIntS.calls k _ _ l1 t256 _ ?side1 ?side2 A14.out).mono ?_); (case side1 => exact Kd.C_below HR1.out (hv_ HB GE231 GE248 GE255)); (case side2 => exact HC1.out); rintro e w47 ⟨v257, rfl, ho0, hb⟩; refine ⟨_, rfl, ?_⟩; replace HO235 := rfb_ HO235 BK255 hb; replace HO244 := rfb_ HO244 BK255 hb; replace HO251 := rfb_ HO251 BK255 hb; have HO258 := Aside0.mk (Kd.R_lower (Kd.R_new' ho0 (Kd.R_lt (by (with_reducible repeat (first | apply Kd.R_alloc | apply Kd.R_drewN | apply Kd.R_drew)); exact (Kd.R_mono (Kd.R_far (p := ⟨gb255, 3, none⟩) (Kd.R_far (p := ⟨gb255, 2, none⟩) (Kd.R_far (p := ⟨gb255, 1, none⟩) (Kd.R_far (p := ⟨gb255, 0, none⟩) (Kd.R_types HO241.out BK255.out (by decide)) (fun _ hk => hk.2) (.slice Ao43 t249.length co43)) (fun _ hk => hk.2) (.int .i64 t252)) (fun _ hk => hk.2) (.int .i64 t253)) (fun _ hk => hk.2) (.bool t254)) (fun _ h_ => h_.1))))) (below_size (hv_ HB GE231 GE248 GE255))); replace HO241 := Aside0.mk (Kd.R_elder' (by (with_reducible repeat (first | apply Kd.R_alloc | apply Kd.R_drewN | apply Kd.R_drew)); exact (Kd.R_mono (Kd.R_far (p := ⟨gb255, 3, none⟩) (Kd.R_far (p := ⟨gb255, 2, none⟩) (Kd.R_far (p := ⟨gb255, 1, none⟩) (Kd.R_far (p := ⟨gb255, 0, none⟩) (Kd.R_types HO241.out BK255.out (by decide)) (fun _ hk => hk.2) (.slice Ao43 t249.length co43)) (fun _ hk => hk.2) (.int .i64 t252)) (fun _ hk => hk.2) (.int .i64 t253)) (fun _ hk => hk.2) (.bool t254)) (fun _ h_ => h_.1))) (Kd.R_base ho0) hb); replace BK231 := bf_ BK231 NB231_255 hb; replace BK248 := bf_ BK248 NB248_255 hb; replace BK255 := bp_ #[.slice Ao43 t249.length co43, .int .i64 t252, .int .i64 t253, .bool t254] BK255 hb; replace HB := Aside0.mk (below_step (hv_ HB GE231 GE248 GE255) hb); (try clear hb); (try clear hb2); (try clear hk); (try clear hi); (try clear ho0); obtain ⟨hcz48_0, hcz48_1, hcz48_2, hcz48_3, hfz48_0, hfz48_1, hfz48_2, hfz48_3⟩ := bc4_ BK255; obtain ⟨Ao49, co49, eo49⟩ := Kd.R_slice HO258.out; subst eo49) | ((with_reducible refine gate_callee (f := 10) rfl ?_); refine goesL_ (some 33) rfl rfl Try.func10 (by kernel_rfl) rfl #[.agg #[.slice Ao43 t249.length co43, .int .i64 t252, .int .i64 t253, .bool t254], .slice Ao49 t256.length co49] rfl ar_ ?_; (with_reducible refine (impl_Power.calls k _ _ t249 t252 t253 t254 _ _ t256 t259 t262 t263 t264 _ ?side1 ?side2 ?side3 ?side4 A15.out).mono ?_); (case side1 => repeat (first | exact (Kd.R_reads' HO251.out).2.2 | (with_reducible refine Kd.C_alloc ?_ _) | (with_reducible refine Kd.C_drewN ?_ _) | (with_reducible refine Kd.C_drew ?_))); (case side2 => exact (Kd.R_reads' HO251.out).2.1); (case side3 => repeat (first | exact (Kd.R_reads' HO258.out).2.2 | (with_reducible refine Kd.C_alloc ?_ _) | (with_reducible refine Kd.C_drewN ?_ _) | (with_reducible refine Kd.C_drew ?_))); (case side4 => exact (Kd.R_reads' HO258.out).2.1); rintro e w50 ⟨v260, rfl, ho0, hb⟩; refine ⟨_, rfl, ?_⟩; replace HO241 := rb_ HO241 hb; replace HO258 := rb_ HO258 hb; have HO261 := Aside0.mk (Kd.R_lower (Kd.R_new' (Kd.R_new' (Kd.R_new' ho0 (Kd.R_lt (rr_ HO235))) (Kd.R_lt (rr_ HO244))) (Kd.R_lt (rr_ HO251))) (below_size (hv_ HB GE231 GE248 GE255))); replace HO235 := Aside0.mk (Kd.R_elder' (rr_ HO235) (Kd.R_base ho0) hb); replace HO244 := Aside0.mk (Kd.R_elder' (rr_ HO244) (Kd.R_base ho0) hb); replace HO251 := Aside0.mk (Kd.R_elder' (rr_ HO251) (Kd.R_base ho0) hb); replace BK231 := bb_ BK231 hb; replace BK248 := bb_ BK248 hb; replace BK255 := bb_ BK255 hb; replace HB := Aside0.mk (below_step (hv_ HB GE231 GE248 GE255) hb); (try clear hb); (try clear hb2); (try clear hk); (try clear hi); (try clear ho0)) | ((with_reducible refine gate_dst (N := 9) rfl ?_); refine box_event ?hg (N := 9) ?hd (cs := #[.slice none 0 0, .int .i64 0, .int .i64 0, .bool false]) (t := 29) ?hr ?_; (case hd => rfl); (case hg => rfl); (case hr => first | (go_simp; done) | (go_simp; rfl)); intro gb265 hg w51 hbox hb; replace HO235 := rb_ HO235 hb; replace HO241 := rb_ HO241 hb; replace HO244 := rb_ HO244 hb; replace HO251 := rb_ HO251 hb; replace HO258 := rb_ HO258 hb; replace HO261 := rb_ HO261 hb; have BK265 := Aside0.mk (hbox); have GW265 := ge_ hg (hv_ HB GE231 GE248 GE255); have GE265 := ge_ hg (hv_ HB GE231 GE248 GE255); replace HB := Aside0.mk (below_step (hv_ HB GE231 GE248 GE255) hb); have NB231_265 := nl_ BK231 hg; have NB265_231 := ng_ BK231 hg; replace BK231 := bb_ BK231 hb; have NB248_265 := nl_ BK248 hg; have NB265_248 := ng_ BK248 hg; replace BK248 := bb_ BK248 hb; have NB255_265 := nl_ BK255 hg; have NB265_255 := ng_ BK255 hg; replace BK255 := bb_ BK255 hb; clear hb hbox hg; obtain ⟨Ao52, co52, eo52⟩ := Kd.R_slice HO261.out; subst eo52; have hnb53 := NB265_231.out; have hnc53 := NB231_265.out; have hnb54 := NB265_248.out; have hnc54 := NB248_265.out; have hnb55 := NB265_255.out; have hnc55 := NB255_265.out; obtain ⟨hcz56_0, hcz56_1, hcz56_2, hcz56_3, hfz56_0, hfz56_1, hfz56_2, hfz56_3⟩ := bc4_ BK265; obtain ⟨hcz57_0, hcz57_1, hcz57_2, hcz57_3, hfz57_0, hfz57_1, hfz57_2, hfz57_3⟩ := bc4_ BK248) | ((with_reducible refine gate_callee (f := 11) rfl ?_); refine goesL_ (some 36) rfl rfl Try.func11 (by kernel_rfl) rfl #[.agg #[.slice Ao52 t259.length co52, .int .i64 t262, .int .i64 t263, .bool t264], .agg #[.slice Ao37 t242.length co37, .int .i64 t245, .int .i64 t246, .bool t247]] rfl ar_ ?_; (with_reducible refine (laws_eqDisk.calls k _ _ t259 t262 t263 t264 _ _ t242 t245 t246 t247 true _ ?side1 ?side2 ?side3 ?side4 A16.out).mono ?_); (case side1 => refine (Kd.R_reads' (e := 45) (base := w.heap.size) (ok := fun k_ => (((True ∧ some k_ ≠ (.slice Ao33 t233.length co33 : Value).ownBlock) ∧ some k_ ≠ (.slice Ao37 t242.length co37 : Value).ownBlock) ∧ some k_ ≠ (.slice Ao43 t249.length co43 : Value).ownBlock)) (n := t259.length) (c := co52) ?_).2.2; exact (by (with_reducible repeat (first | apply Kd.R_alloc | apply Kd.R_drewN | apply Kd.R_drew)); exact (Kd.R_mono (Kd.R_far (p := ⟨gb265, 3, none⟩) (Kd.R_far (p := ⟨gb265, 2, none⟩) (Kd.R_far (p := ⟨gb265, 1, none⟩) (Kd.R_far (p := ⟨gb265, 0, none⟩) (Kd.R_types HO261.out BK265.out (by decide)) (fun _ hk => hk.2) (.slice Ao52 t259.length co52)) (fun _ hk => hk.2) (.int .i64 t262)) (fun _ hk => hk.2) (.int .i64 t263)) (fun _ hk => hk.2) (.bool t264)) (fun _ h_ => h_.1)))); (case side2 => exact (Kd.R_reads' HO261.out).2.1); (case side3 => refine (Kd.R_reads' (e := 45) (base := w.heap.size) (ok := fun k_ => (((True ∧ some k_ ≠ (.slice Ao33 t233.length co33 : Value).ownBlock) ∧ some k_ ≠ (.slice Ao43 t249.length co43 : Value).ownBlock) ∧ some k_ ≠ (.slice Ao52 t259.length co52 : Value).ownBlock)) (n := t242.length) (c := co37) ?_).2.2; exact (by (with_reducible repeat (first | apply Kd.R_alloc | apply Kd.R_drewN | apply Kd.R_drew)); exact (Kd.R_mono (Kd.R_far (p := ⟨gb265, 3, none⟩) (Kd.R_far (p := ⟨gb265, 2, none⟩) (Kd.R_far (p := ⟨gb265, 1, none⟩) (Kd.R_far (p := ⟨gb265, 0, none⟩) (Kd.R_types HO244.out BK265.out (by decide)) (fun _ hk => hk.2) (.slice Ao52 t259.length co52)) (fun _ hk => hk.2) (.int .i64 t262)) (fun _ hk => hk.2) (.int .i64 t263)) (fun _ hk => hk.2) (.bool t264)) (fun _ h_ => h_.1)))); (case side4 => exact (Kd.R_reads' HO244.out).2.1); rintro e w58 ⟨rfl, hb⟩; refine ⟨_, rfl, ?_⟩; replace HO235 := rfb_ HO235 BK265 hb; replace HO241 := rfb_ HO241 BK265 hb; replace HO244 := rfb_ HO244 BK265 hb; replace HO251 := rfb_ HO251 BK265 hb; replace HO258 := rfb_ HO258 BK265 hb; replace HO261 := rfb_ HO261 BK265 hb; replace BK231 := bf_ BK231 NB231_265 hb; replace BK248 := bf_ BK248 NB248_265 hb; replace BK255 := bf_ BK255 NB255_265 hb; replace BK265 := bp_ #[.slice Ao52 t259.length co52, .int .i64 t262, .int .i64 t263, .bool t264] BK265 hb; replace HB := Aside0.mk (below_step (hw_ HB GE231 GE248 GE255 GE265) hb); (try clear hb); (try clear hb2); (try clear hk); (try clear hi)))
      replace HO235 := rd_ HO235
      replace HO241 := rd_ HO241
      replace HO244 := rd_ HO244
      replace HO251 := rd_ HO251
      replace HO258 := rd_ HO258
      replace HO261 := rd_ HO261
      replace BK231 := bd_ BK231
      replace BK248 := bd_ BK248
      replace BK255 := bd_ BK255
      replace BK265 := bd_ BK265
      replace HB := hd_ HB
      refine start_ (n := 5) (S := k4_ gb255 (.slice Ao43 t249.length co43) (.int .i64 t252) (.int .i64 t253) (.bool t254) (k4e_ gb231 (.slice A0_0 l0_0.length c0_0) (.int .i64 a0_1) (.int .i64 a0_2) (.bool a0_3))) (ds := []) #[o',o',o',o',o'] (by kernel_rfl) rfl rfl (p4_ BK255 (p4e_ BK231)) (fun hHeld => ?_)
      generalize w58.drew = w59 at HO235 HO241 HO244 HO251 HO258 HO261 BK231 BK248 BK255 BK265 HB hHeld ⊢
      refine take_ (i := 0) (N := some 38) (v := ?_) (a' := ?_) #[i',o',o',o',o'] rfl rfl (by kernel_rfl) (fun _ _ _ h => h) (Or.inl ⟨by rfl, ?_⟩) hHeld ?_ ?_
      rotate_left
      ·rintro w' ⟨s0, s1, s2, s3, s4, s5, s6, s7⟩
       go_simp
       with_reducible rfl
      rotate_left
      ·simp only [Act.put, la_, lz_, ls_, i64_w, i32_w]
       rfl
      refine take_ (i := 1) (N := some 39) (v := ?_) (a' := ?_) #[i',i',o',o',o'] rfl rfl (by kernel_rfl) (fun _ _ _ h => h) (Or.inl ⟨by rfl, ?_⟩) hHeld ?_ ?_
      rotate_left
      ·rintro w' ⟨s0, s1, s2, s3, s4, s5, s6, s7⟩
       go_simp
       with_reducible rfl
      rotate_left
      ·simp only [Act.put, la_, lz_, ls_, i64_w, i32_w]
       rfl
      refine one_ (i := 2) (N := some 40) #[i',i',i',o',o'] rfl rfl (by kernel_rfl) (by decide) (fun K hK => ?_)
      refine goes_ Try.func8 (by kernel_rfl) rfl #[.agg #[.slice A0_0 l0_0.length c0_0, .int .i64 a0_1, .int .i64 a0_2, .bool a0_3]] (by rfl) rfl rfl ar_ ?_
      with_reducible refine (laws_toDisk.calls k _ _ l0_0 a0_1 a0_2 a0_3 t267 t270 t271 t272 _ ?side1 ?side2 A18.out).mono ?_
      (case side1 => repeat (first | exact (Kd.C_below HR0_0.out HB.out) | (with_reducible refine Kd.C_alloc ?_ _) | (with_reducible refine Kd.C_drewN ?_ _) | (with_reducible refine Kd.C_drew ?_)))
      (case side2 => exact HC0_0.out)
      rintro e w60 ⟨v268, rfl, ho0, hb⟩
      refine ⟨_, rfl, ?_⟩
      replace HO241 := rb_ HO241 hb
      replace HO258 := rb_ HO258 hb
      have HO269 := Aside0.mk (Kd.R_lower (Kd.R_new' (Kd.R_new' (Kd.R_new' (Kd.R_new' ho0 (Kd.R_lt (rr_ HO235))) (Kd.R_lt (rr_ HO244))) (Kd.R_lt (rr_ HO251))) (Kd.R_lt (rr_ HO261))) (below_size (hw_ HB GE231 GE248 GE255 GE265)))
      replace HO235 := Aside0.mk (Kd.R_elder' (rr_ HO235) (Kd.R_base ho0) hb)
      replace HO244 := Aside0.mk (Kd.R_elder' (rr_ HO244) (Kd.R_base ho0) hb)
      replace HO251 := Aside0.mk (Kd.R_elder' (rr_ HO251) (Kd.R_base ho0) hb)
      replace HO261 := Aside0.mk (Kd.R_elder' (rr_ HO261) (Kd.R_base ho0) hb)
      replace BK231 := bb_ BK231 hb
      replace BK248 := bb_ BK248 hb
      replace BK255 := bb_ BK255 hb
      replace BK265 := bb_ BK265 hb
      replace HB := Aside0.mk (below_step (hw_ HB GE231 GE248 GE255 GE265) hb)
      (try clear hb)
      (try clear hb2)
      (try clear hk)
      (try clear hi)
      (try clear ho0)
      obtain ⟨Ao61, co61, eo61⟩ := Kd.R_slice HO269.out
      (first | subst eo61 | (injection eo61 with f1_ f2_ f3_; have f4_ := f1_.symm; have f5_ := f3_.symm; clear f1_ f2_ f3_; subst f4_; subst f5_))
      refine hK.out _ _ (p4_ BK255 (p4e_ BK231)) (fun hHeld => ?_)
      clear hK K
      refine norm_ (a' := ?_) ?_ ?_
      rotate_left
      ·show Act.put _ (some 40) _ = _
       simp only [Act.put, la_, lz_, ls_, i64_w, i32_w]
       rfl
      refine one_ (i := 3) (N := some 41) #[i',i',i',i',o'] rfl rfl (by kernel_rfl) (by decide) (fun K hK => ?_)
      refine goes_ Try.func11 (by kernel_rfl) rfl #[.agg #[.slice Ao43 t249.length co43, .int .i64 t252, .int .i64 t253, .bool t254], .agg #[.slice Ao61 t267.length co61, .int .i64 t270, .int .i64 t271, .bool t272]] (by rfl) rfl rfl ar_ ?_
      with_reducible refine (laws_eqDisk.calls k _ _ t249 t252 t253 t254 _ _ t267 t270 t271 t272 true _ ?side1 ?side2 ?side3 ?side4 A19.out).mono ?_
      (case side1 => repeat (first | exact (Kd.R_reads' HO251.out).2.2 | (with_reducible refine Kd.C_alloc ?_ _) | (with_reducible refine Kd.C_drewN ?_ _) | (with_reducible refine Kd.C_drew ?_)))
      (case side2 => exact (Kd.R_reads' HO251.out).2.1)
      (case side3 => repeat (first | exact (Kd.R_reads' HO269.out).2.2 | (with_reducible refine Kd.C_alloc ?_ _) | (with_reducible refine Kd.C_drewN ?_ _) | (with_reducible refine Kd.C_drew ?_)))
      (case side4 => exact (Kd.R_reads' HO269.out).2.1)
      rintro e w62 ⟨rfl, hb⟩
      refine ⟨_, rfl, ?_⟩
      replace HO235 := rb_ HO235 hb
      replace HO241 := rb_ HO241 hb
      replace HO244 := rb_ HO244 hb
      replace HO251 := rb_ HO251 hb
      replace HO258 := rb_ HO258 hb
      replace HO261 := rb_ HO261 hb
      replace HO269 := rb_ HO269 hb
      replace BK231 := bb_ BK231 hb
      replace BK248 := bb_ BK248 hb
      replace BK255 := bb_ BK255 hb
      replace BK265 := bb_ BK265 hb
      replace HB := Aside0.mk (below_step (hw_ HB GE231 GE248 GE255 GE265) hb)
      (try clear hb)
      (try clear hb2)
      (try clear hk)
      (try clear hi)
      refine hK.out _ _ (p4_ BK255 (p4e_ BK231)) (fun hHeld => ?_)
      clear hK K
      refine norm_ (a' := ?_) ?_ ?_
      rotate_left
      ·show Act.put _ (some 41) _ = _
       simp only [Act.put, la_, lz_, ls_, i64_w, i32_w]
       rfl
      refine pure_ (i := 4) (N := some 42) (v := ?_) (a' := ?_) #[i',i',i',i',i'] rfl rfl (by kernel_rfl) (fun _ _ _ h => h) (Or.inl ⟨by rfl, ?_⟩) ?_ ?_
      rotate_left;·intro w';go_simp;with_reducible rfl
      rotate_left;·simp only [Act.put, la_, lz_, ls_, i64_w, i32_w];rfl
      refine done_ (by kernel_rfl) ?_
      go_upto_region 20 with (first | ((with_reducible refine gate_callee (f := 9) rfl ?_); refine goesL_ (some 45) rfl rfl Try.func9 (by kernel_rfl) rfl #[.slice A1 l1.length c1] rfl ar_ ?_; (with_reducible refine (laws_toIntS.calls k _ _ l1 t274 _ ?side1 ?side2 A21.out).mono ?_); (case side1 => repeat (first | exact (Kd.C_below HR1.out HB.out) | (with_reducible refine Kd.C_alloc ?_ _) | (with_reducible refine Kd.C_drewN ?_ _) | (with_reducible refine Kd.C_drew ?_))); (case side2 => exact HC1.out); rintro e w63 ⟨v275, rfl, ho0, hb⟩; refine ⟨_, rfl, ?_⟩; replace HO235 := rb_ HO235 hb; replace HO244 := rb_ HO244 hb; replace HO251 := rb_ HO251 hb; replace HO261 := rb_ HO261 hb; replace HO269 := rb_ HO269 hb; have HO276 := Aside0.mk (Kd.R_lower (Kd.R_new' (Kd.R_new' ho0 (Kd.R_lt (rr_ HO241))) (Kd.R_lt (rr_ HO258))) (below_size (hw_ HB GE231 GE248 GE255 GE265))); replace HO241 := Aside0.mk (Kd.R_elder' (rr_ HO241) (Kd.R_base ho0) hb); replace HO258 := Aside0.mk (Kd.R_elder' (rr_ HO258) (Kd.R_base ho0) hb); replace BK231 := bb_ BK231 hb; replace BK248 := bb_ BK248 hb; replace BK255 := bb_ BK255 hb; replace BK265 := bb_ BK265 hb; replace HB := Aside0.mk (below_step (hw_ HB GE231 GE248 GE255 GE265) hb); (try clear hb); (try clear hb2); (try clear hk); (try clear hi); (try clear ho0); obtain ⟨Ao64, co64, eo64⟩ := Kd.R_slice HO276.out; subst eo64) | ((with_reducible refine gate_callee (f := 12) rfl ?_); refine goesL_ (some 46) rfl rfl Try.func12 (by kernel_rfl) rfl #[.slice Ao49 t256.length co49, .slice Ao64 t274.length co64] rfl ar_ ?_; (with_reducible refine (laws_eqIntS.calls k _ _ t256 _ _ t274 true _ ?side1 ?side2 ?side3 ?side4 A22.out).mono ?_); (case side1 => repeat (first | exact (Kd.R_reads' HO258.out).2.2 | (with_reducible refine Kd.C_alloc ?_ _) | (with_reducible refine Kd.C_drewN ?_ _) | (with_reducible refine Kd.C_drew ?_))); (case side2 => exact (Kd.R_reads' HO258.out).2.1); (case side3 => repeat (first | exact (Kd.R_reads' HO276.out).2.2 | (with_reducible refine Kd.C_alloc ?_ _) | (with_reducible refine Kd.C_drewN ?_ _) | (with_reducible refine Kd.C_drew ?_))); (case side4 => exact (Kd.R_reads' HO276.out).2.1); rintro e w' ⟨rfl, ⟨nd, rfl⟩⟩; refine ⟨_, rfl, ?_⟩; obtain ⟨hcz65_0, hcz65_1, hcz65_2, hcz65_3, hfz65_0, hfz65_1, hfz65_2, hfz65_3⟩ := bc4_ BK255) | ((with_reducible refine gate_callee (f := 13) rfl ?_); refine goesL_ (some 50) rfl rfl Try.func13 (by kernel_rfl) rfl #[.agg #[.slice Ao43 t249.length co43, .int .i64 t252, .int .i64 t253, .bool t254], .int .i64 1] rfl ar_ ?_; (with_reducible refine (laws_markDisk.calls k (fun k_ => some k_ = (.slice Ao43 t249.length co43 : Value).ownBlock) (.slice Ao43 t249.length co43) t249 t252 t253 t254 1 t278 t279 w _ ?side1 ?side2 A24.out).mono ?_); (case side1 => repeat (first | (with_reducible first | exact HB.out | apply below_alloc | apply pw_below_drewN | apply below_drew1 | refine below_set ?_ GE231.out | refine below_set ?_ GE248.out | refine below_set ?_ GE255.out | refine below_set ?_ GE265.out) | exact HB.out)); (case side2 => exact Kd.R_tight rfl HO251.out); rintro e w66 ⟨rfl, hy0, hb, hkp⟩; refine ⟨_, rfl, ?_⟩; replace BK231 := Aside0.mk (blk_kept (bk_ BK231) hkp (fun hs_ => (fun e_ => (Kd.R_ne HO251.out BK231.out (by decide)) e_) hs_)); replace HO235 := Aside0.mk (Kd.R_mono (ok' := fun k_ => some k_ ≠ (.slice Ao37 t242.length co37 : Value).ownBlock ∧ some k_ ≠ (.slice Ao43 t249.length co43 : Value).ownBlock ∧ some k_ ≠ (.slice Ao52 t259.length co52 : Value).ownBlock ∧ some k_ ≠ (.slice Ao61 t267.length co61 : Value).ownBlock) (Kd.R_keptB (HO235.out) hkp (fun k_ hk_ hs_ => (hk_.1.1.2) hs_)) (fun k_ hk_ => ⟨hk_.1.1.1.1.2, hk_.1.1.1.2, hk_.1.1.2, hk_.1.2⟩)); replace HO241 := Aside0.mk (Kd.R_mono (ok' := fun k_ => some k_ ≠ (.slice Ao49 t256.length co49 : Value).ownBlock ∧ some k_ ≠ (.slice Ao64 t274.length co64 : Value).ownBlock) (Kd.R_keptB ((Kd.R_apart' HO241.out (Kd.R_typed HO251.out) (by decide))) hkp (fun k_ hk_ hs_ => (hk_.2) hs_)) (fun k_ hk_ => ⟨hk_.1.1.1.2, hk_.1.1.2⟩)); replace HO244 := Aside0.mk (Kd.R_mono (ok' := fun k_ => some k_ ≠ (.slice Ao33 t233.length co33 : Value).ownBlock ∧ some k_ ≠ (.slice Ao43 t249.length co43 : Value).ownBlock ∧ some k_ ≠ (.slice Ao52 t259.length co52 : Value).ownBlock ∧ some k_ ≠ (.slice Ao61 t267.length co61 : Value).ownBlock) (Kd.R_keptB (HO244.out) hkp (fun k_ hk_ hs_ => (hk_.1.1.2) hs_)) (fun k_ hk_ => ⟨hk_.1.1.1.1.2, hk_.1.1.1.2, hk_.1.1.2, hk_.1.2⟩)); replace BK248 := Aside0.mk (blk_kept (bk_ BK248) hkp (fun hs_ => (fun e_ => (Kd.R_ne HO251.out BK248.out (by decide)) e_) hs_)); replace BK255 := Aside0.mk (blk_kept (bk_ BK255) hkp (fun hs_ => (fun e_ => (Kd.R_ne HO251.out BK255.out (by decide)) e_) hs_)); replace HO258 := Aside0.mk (Kd.R_mono (ok' := fun k_ => some k_ ≠ (.slice Ao34 t239.length co34 : Value).ownBlock ∧ some k_ ≠ (.slice Ao64 t274.length co64 : Value).ownBlock) (Kd.R_keptB ((Kd.R_apart' HO258.out (Kd.R_typed HO251.out) (by decide))) hkp (fun k_ hk_ hs_ => (hk_.2) hs_)) (fun k_ hk_ => ⟨hk_.1.1.1.2, hk_.1.1.2⟩)); replace HO261 := Aside0.mk (Kd.R_mono (ok' := fun k_ => some k_ ≠ (.slice Ao33 t233.length co33 : Value).ownBlock ∧ some k_ ≠ (.slice Ao37 t242.length co37 : Value).ownBlock ∧ some k_ ≠ (.slice Ao43 t249.length co43 : Value).ownBlock ∧ some k_ ≠ (.slice Ao61 t267.length co61 : Value).ownBlock) (Kd.R_keptB (HO261.out) hkp (fun k_ hk_ hs_ => (hk_.1.2) hs_)) (fun k_ hk_ => ⟨hk_.1.1.1.1.2, hk_.1.1.1.2, hk_.1.1.2, hk_.1.2⟩)); replace BK265 := Aside0.mk (blk_kept (bk_ BK265) hkp (fun hs_ => (fun e_ => (Kd.R_ne HO251.out BK265.out (by decide)) e_) hs_)); replace HO269 := Aside0.mk (Kd.R_mono (ok' := fun k_ => some k_ ≠ (.slice Ao33 t233.length co33 : Value).ownBlock ∧ some k_ ≠ (.slice Ao37 t242.length co37 : Value).ownBlock ∧ some k_ ≠ (.slice Ao43 t249.length co43 : Value).ownBlock ∧ some k_ ≠ (.slice Ao52 t259.length co52 : Value).ownBlock) (Kd.R_keptB (HO269.out) hkp (fun k_ hk_ hs_ => (hk_.1.2) hs_)) (fun k_ hk_ => ⟨hk_.1.1.1.1.2, hk_.1.1.1.2, hk_.1.1.2, hk_.1.2⟩)); replace HO276 := Aside0.mk (Kd.R_mono (ok' := fun k_ => some k_ ≠ (.slice Ao34 t239.length co34 : Value).ownBlock ∧ some k_ ≠ (.slice Ao49 t256.length co49 : Value).ownBlock) (Kd.R_keptB ((Kd.R_apart' HO276.out (Kd.R_typed HO251.out) (by decide))) hkp (fun k_ hk_ hs_ => (hk_.2) hs_)) (fun k_ hk_ => ⟨hk_.1.1.1.2, hk_.1.1.2⟩)); replace HO251 := Aside0.mk (Kd.R_reok rfl hy0 (fun k_ e_ => HO251.out.1 k_ e_)); replace HB := Aside0.mk (hb); (try clear hb); (try clear hkp); (try clear hy0)) | ((with_reducible refine gate_callee (f := 14) rfl ?_); refine goesL_ (some 53) rfl rfl Try.func14 (by kernel_rfl) rfl #[.slice Ao49 t256.length co49, .int .i64 t278] rfl ar_ ?_; (with_reducible refine (laws_markIntS.calls k (fun k_ => some k_ = (.slice Ao49 t256.length co49 : Value).ownBlock) (.slice Ao49 t256.length co49) t256 t278 t280 t281 w _ ?side1 ?side2 A25.out).mono ?_); (case side1 => repeat (first | (with_reducible first | exact HB.out | apply below_alloc | apply pw_below_drewN | apply below_drew1 | refine below_set ?_ GE231.out | refine below_set ?_ GE248.out | refine below_set ?_ GE255.out | refine below_set ?_ GE265.out) | exact HB.out)); (case side2 => exact Kd.R_tight rfl HO258.out); rintro e w67 ⟨rfl, hy0, hb, hkp⟩; refine ⟨_, rfl, ?_⟩; replace BK231 := Aside0.mk (blk_kept (bk_ BK231) hkp (fun hs_ => (fun e_ => (Kd.R_ne HO258.out BK231.out (by decide)) e_) hs_)); replace HO235 := Aside0.mk (Kd.R_mono (ok' := fun k_ => some k_ ≠ (.slice Ao37 t242.length co37 : Value).ownBlock ∧ some k_ ≠ (.slice Ao43 t249.length co43 : Value).ownBlock ∧ some k_ ≠ (.slice Ao52 t259.length co52 : Value).ownBlock ∧ some k_ ≠ (.slice Ao61 t267.length co61 : Value).ownBlock) (Kd.R_keptB ((Kd.R_apart' HO235.out (Kd.R_typed HO258.out) (by decide))) hkp (fun k_ hk_ hs_ => (hk_.2) hs_)) (fun k_ hk_ => ⟨hk_.1.1.1, hk_.1.1.2.1, hk_.1.1.2.2.1, hk_.1.1.2.2.2⟩)); replace HO241 := Aside0.mk (Kd.R_mono (ok' := fun k_ => some k_ ≠ (.slice Ao49 t256.length co49 : Value).ownBlock ∧ some k_ ≠ (.slice Ao64 t274.length co64 : Value).ownBlock) (Kd.R_keptB (HO241.out) hkp (fun k_ hk_ hs_ => (hk_.1) hs_)) (fun k_ hk_ => ⟨hk_.1.1, hk_.1.2⟩)); replace HO244 := Aside0.mk (Kd.R_mono (ok' := fun k_ => some k_ ≠ (.slice Ao33 t233.length co33 : Value).ownBlock ∧ some k_ ≠ (.slice Ao43 t249.length co43 : Value).ownBlock ∧ some k_ ≠ (.slice Ao52 t259.length co52 : Value).ownBlock ∧ some k_ ≠ (.slice Ao61 t267.length co61 : Value).ownBlock) (Kd.R_keptB ((Kd.R_apart' HO244.out (Kd.R_typed HO258.out) (by decide))) hkp (fun k_ hk_ hs_ => (hk_.2) hs_)) (fun k_ hk_ => ⟨hk_.1.1.1, hk_.1.1.2.1, hk_.1.1.2.2.1, hk_.1.1.2.2.2⟩)); replace BK248 := Aside0.mk (blk_kept (bk_ BK248) hkp (fun hs_ => (fun e_ => (Kd.R_ne HO258.out BK248.out (by decide)) e_) hs_)); replace HO251 := Aside0.mk (Kd.R_mono (ok' := fun k_ => some k_ ≠ (.slice Ao33 t233.length co33 : Value).ownBlock ∧ some k_ ≠ (.slice Ao37 t242.length co37 : Value).ownBlock ∧ some k_ ≠ (.slice Ao52 t259.length co52 : Value).ownBlock ∧ some k_ ≠ (.slice Ao61 t267.length co61 : Value).ownBlock) (Kd.R_keptB ((Kd.R_apart' HO251.out (Kd.R_typed HO258.out) (by decide))) hkp (fun k_ hk_ hs_ => (hk_.2) hs_)) (fun k_ hk_ => ⟨hk_.1.1.1.1.1.2, hk_.1.1.1.1.2, hk_.1.1.1.2, hk_.1.1.2⟩)); replace BK255 := Aside0.mk (blk_kept (bk_ BK255) hkp (fun hs_ => (fun e_ => (Kd.R_ne HO258.out BK255.out (by decide)) e_) hs_)); replace HO261 := Aside0.mk (Kd.R_mono (ok' := fun k_ => some k_ ≠ (.slice Ao33 t233.length co33 : Value).ownBlock ∧ some k_ ≠ (.slice Ao37 t242.length co37 : Value).ownBlock ∧ some k_ ≠ (.slice Ao43 t249.length co43 : Value).ownBlock ∧ some k_ ≠ (.slice Ao61 t267.length co61 : Value).ownBlock) (Kd.R_keptB ((Kd.R_apart' HO261.out (Kd.R_typed HO258.out) (by decide))) hkp (fun k_ hk_ hs_ => (hk_.2) hs_)) (fun k_ hk_ => ⟨hk_.1.1.1, hk_.1.1.2.1, hk_.1.1.2.2.1, hk_.1.1.2.2.2⟩)); replace BK265 := Aside0.mk (blk_kept (bk_ BK265) hkp (fun hs_ => (fun e_ => (Kd.R_ne HO258.out BK265.out (by decide)) e_) hs_)); replace HO269 := Aside0.mk (Kd.R_mono (ok' := fun k_ => some k_ ≠ (.slice Ao33 t233.length co33 : Value).ownBlock ∧ some k_ ≠ (.slice Ao37 t242.length co37 : Value).ownBlock ∧ some k_ ≠ (.slice Ao43 t249.length co43 : Value).ownBlock ∧ some k_ ≠ (.slice Ao52 t259.length co52 : Value).ownBlock) (Kd.R_keptB ((Kd.R_apart' HO269.out (Kd.R_typed HO258.out) (by decide))) hkp (fun k_ hk_ hs_ => (hk_.2) hs_)) (fun k_ hk_ => ⟨hk_.1.1.1, hk_.1.1.2.1, hk_.1.1.2.2.1, hk_.1.1.2.2.2⟩)); replace HO258 := Aside0.mk (Kd.R_reok rfl hy0 (fun k_ e_ => HO258.out.1 k_ e_)); replace HO276 := Aside0.mk (Kd.R_mono (ok' := fun k_ => some k_ ≠ (.slice Ao34 t239.length co34 : Value).ownBlock ∧ some k_ ≠ (.slice Ao49 t256.length co49 : Value).ownBlock) (Kd.R_keptB (HO276.out) hkp (fun k_ hk_ hs_ => (hk_.2) hs_)) (fun k_ hk_ => ⟨hk_.1.1, hk_.1.2⟩)); replace HB := Aside0.mk (hb); (try clear hb); (try clear hkp); (try clear hy0)))
      (try simp only [Act.put, la_, lz_, ls_])
      go_cut [61] (fun v61 wc => ∃ (kq : Nat) (x61_25 : Bool), v61 = .bool x61_25 ∧ Aside0 (laws_FnExactPower.j0 kq l1 x61_25 l0_0 a0_1 a0_2 a0_3 t242 t245 t246 t247 t259 t262 t263 t264 = some r) ∧ Aside0 (kq ≤ k) ∧ Aside0 (Kd.R k45 45 wc w.heap.size (fun k_ => some k_ ≠ ((.slice Ao43 t249.length co43) : Value).ownBlock ∧ some k_ ≠ ((.slice Ao52 t259.length co52) : Value).ownBlock) (.slice Ao37 t242.length co37) t242) ∧ Aside0 (Kd.R k45 45 wc w.heap.size (fun k_ => some k_ ≠ ((.slice Ao37 t242.length co37) : Value).ownBlock ∧ some k_ ≠ ((.slice Ao52 t259.length co52) : Value).ownBlock) (.slice Ao43 t249.length co43) t279) ∧ Aside0 (Kd.R k45 45 wc w.heap.size (fun k_ => some k_ ≠ ((.slice Ao37 t242.length co37) : Value).ownBlock ∧ some k_ ≠ ((.slice Ao43 t249.length co43) : Value).ownBlock) (.slice Ao52 t259.length co52) t259) ∧ Aside0 (wc.heap[gb231]? = some (.cells #[(.slice A0_0 l0_0.length c0_0), .int .i64 a0_1, .int .i64 a0_2, .bool a0_3] 24 (0, 0))) ∧ Aside0 (wc.heap[gb248]? = some (.cells #[(.slice Ao37 t242.length co37), .int .i64 t245, .int .i64 t246, .bool t247] 29 (0, 0))) ∧ Aside0 (wc.heap[gb255]? = some (.cells #[(.slice Ao43 t249.length co43), .int .i64 t252, .int .i64 t253, .bool t254] 29 (0, 0))) ∧ Aside0 (wc.heap[gb265]? = some (.cells #[(.slice Ao52 t259.length co52), .int .i64 t262, .int .i64 t263, .bool t264] 29 (0, 0))) ∧ Aside0 (Below w.heap.size w wc))
      case first =>
       have H := HC26.out
       clear HC26
       by_cases c68 : t280 < 0
       ·rw [if_pos c68] at H
        have c68b0 : decide (t280 < 0) = true := decide_eq_true c68
        clear c68
        (first | rw [c68b0] | (simp only [i64_w, i32_w]; rw [c68b0]) | skip)
        have H' := Aside0.mk H
        clear H
        go_wp2
        go_meet
        case rel => exact ⟨_, (true), rs_, H', ⟨by first | exact Nat.le_refl _ | exact Nat.le_of_succ_le this | omega⟩, ⟨by (with_reducible repeat (first | apply Kd.R_alloc | apply Kd.R_drewN | apply Kd.R_drew)); exact Kd.R_mono HO244.out (fun _ hk => ⟨hk.2.1, hk.2.2.1⟩)⟩, ⟨by (with_reducible repeat (first | apply Kd.R_alloc | apply Kd.R_drewN | apply Kd.R_drew)); exact Kd.R_mono HO251.out (fun _ hk => ⟨hk.2.1, hk.2.2.1⟩)⟩, ⟨by (with_reducible repeat (first | apply Kd.R_alloc | apply Kd.R_drewN | apply Kd.R_drew)); exact Kd.R_mono HO261.out (fun _ hk => ⟨hk.2.1, hk.2.2.1⟩)⟩, ⟨bk_ BK231⟩, ⟨bk_ BK248⟩, ⟨bk_ BK255⟩, ⟨bk_ BK265⟩, ⟨by repeat (first | (with_reducible first | exact HB.out | apply below_alloc | apply pw_below_drewN | apply below_drew1 | refine below_set ?_ GE231.out | refine below_set ?_ GE248.out | refine below_set ?_ GE255.out | refine below_set ?_ GE265.out) | exact HB.out)⟩⟩
       ·rw [if_neg c68] at H
        have c68b0 : decide (t280 < 0) = false := decide_eq_false c68
        clear c68
        (first | rw [c68b0] | (simp only [i64_w, i32_w]; rw [c68b0]) | skip)
        replace H := Option.bind_eq_some_iff.mp H
        obtain ⟨t282, A690, H⟩ := H
        replace H : (laws_FnExactPower.j0 k l1 (!t282) l0_0 a0_1 a0_2 a0_3 t242 t245 t246 t247 t259 t262 t263 t264) = some r := H
        have A69 := Aside0.mk A690
        clear A690
        have H' := Aside0.mk H
        clear H
        have hnb70 := NB265_231.out
        have hnc70 := NB231_265.out
        have hnb71 := NB265_248.out
        have hnc71 := NB248_265.out
        have hnb72 := NB265_255.out
        have hnc72 := NB255_265.out
        obtain ⟨hcz73_0, hcz73_1, hcz73_2, hcz73_3, hfz73_0, hfz73_1, hfz73_2, hfz73_3⟩ := bc4_ BK265
        have hnb74 := NB248_231.out
        have hnc74 := NB231_248.out
        have hnb75 := NB248_255.out
        have hnc75 := NB255_248.out
        obtain ⟨hcz76_0, hcz76_1, hcz76_2, hcz76_3, hfz76_0, hfz76_1, hfz76_2, hfz76_3⟩ := bc4_ BK248
        go_wp2_with (first | (go_at_call 11; (with_reducible refine (laws_eqDisk.calls k _ _ t259 t262 t263 t264 _ _ t242 t245 t246 t247 t282 _ ?side1 ?side2 ?side3 ?side4 A69.out).mono ?_); (case side1 => repeat (first | exact (Kd.R_reads' HO261.out).2.2 | (with_reducible refine Kd.C_alloc ?_ _) | (with_reducible refine Kd.C_drewN ?_ _) | (with_reducible refine Kd.C_drew ?_))); (case side2 => exact (Kd.R_reads' HO261.out).2.1); (case side3 => repeat (first | exact (Kd.R_reads' HO244.out).2.2 | (with_reducible refine Kd.C_alloc ?_ _) | (with_reducible refine Kd.C_drewN ?_ _) | (with_reducible refine Kd.C_drew ?_))); (case side4 => exact (Kd.R_reads' HO244.out).2.1); rintro e w77 ⟨rfl, hb⟩; replace HO235 := rb_ HO235 hb; replace HO241 := rb_ HO241 hb; replace HO244 := rb_ HO244 hb; replace HO251 := rb_ HO251 hb; replace HO258 := rb_ HO258 hb; replace HO261 := rb_ HO261 hb; replace HO269 := rb_ HO269 hb; replace HO276 := rb_ HO276 hb; replace BK231 := bb_ BK231 hb; replace BK248 := bb_ BK248 hb; replace BK255 := bb_ BK255 hb; replace BK265 := bb_ BK265 hb; replace HB := Aside0.mk (below_step (hw_ HB GE231 GE248 GE255 GE265) hb); (try clear hb); (try clear hb2); (try clear hk); (try clear hi)))
        go_meet
        case rel => exact ⟨_, (!t282), rs_, H', ⟨by first | exact Nat.le_refl _ | exact Nat.le_of_succ_le this | omega⟩, ⟨by (with_reducible repeat (first | apply Kd.R_alloc | apply Kd.R_drewN | apply Kd.R_drew)); exact Kd.R_mono HO244.out (fun _ hk => ⟨hk.2.1, hk.2.2.1⟩)⟩, ⟨by (with_reducible repeat (first | apply Kd.R_alloc | apply Kd.R_drewN | apply Kd.R_drew)); exact Kd.R_mono HO251.out (fun _ hk => ⟨hk.2.1, hk.2.2.1⟩)⟩, ⟨by (with_reducible repeat (first | apply Kd.R_alloc | apply Kd.R_drewN | apply Kd.R_drew)); exact Kd.R_mono HO261.out (fun _ hk => ⟨hk.2.1, hk.2.2.1⟩)⟩, ⟨bk_ BK231⟩, ⟨bk_ BK248⟩, ⟨bk_ BK255⟩, ⟨bk_ BK265⟩, ⟨by repeat (first | (with_reducible first | exact HB.out | apply below_alloc | apply pw_below_drewN | apply below_drew1 | refine below_set ?_ GE231.out | refine below_set ?_ GE248.out | refine below_set ?_ GE255.out | refine below_set ?_ GE265.out) | exact HB.out)⟩⟩
      case rest =>
       clear HC26
       try clear c1
       try clear c2
       try clear p2
       try clear c3
       try clear c3b0
       try clear c3b1
       try clear c4
       try clear c5
       try clear c6
       try clear c6b0
       try clear c7
       try clear c8
       try clear c9
       try clear c10
       try clear c11
       try clear c12
       try clear c13
       try clear c14
       try clear c17
       try clear c20
       try clear c23
       try clear c38
       try clear c44
       try clear c45
       try clear c53
       try clear c54
       try clear c55
       try clear c68
       try clear c68b0
       try clear c70
       try clear c71
       try clear c72
       try clear c74
       try clear c75
       try clear hcz28_0
       try clear hcz28_1
       try clear hcz28_2
       try clear hcz28_3
       try clear hcz30_0
       try clear hcz30_1
       try clear hcz30_2
       try clear hcz30_3
       try clear hcz39_0
       try clear hcz39_1
       try clear hcz39_2
       try clear hcz39_3
       try clear hcz40_0
       try clear hcz40_1
       try clear hcz40_2
       try clear hcz40_3
       try clear hcz46_0
       try clear hcz46_1
       try clear hcz46_2
       try clear hcz46_3
       try clear hcz48_0
       try clear hcz48_1
       try clear hcz48_2
       try clear hcz48_3
       try clear hcz56_0
       try clear hcz56_1
       try clear hcz56_2
       try clear hcz56_3
       try clear hcz57_0
       try clear hcz57_1
       try clear hcz57_2
       try clear hcz57_3
       try clear hcz65_0
       try clear hcz65_1
       try clear hcz65_2
       try clear hcz65_3
       try clear hcz73_0
       try clear hcz73_1
       try clear hcz73_2
       try clear hcz73_3
       try clear hcz76_0
       try clear hcz76_1
       try clear hcz76_2
       try clear hcz76_3
       try clear hcz8_0
       try clear hcz8_1
       try clear hcz8_2
       try clear hcz8_3
       try clear hfz28_0
       try clear hfz28_1
       try clear hfz28_2
       try clear hfz28_3
       try clear hfz30_0
       try clear hfz30_1
       try clear hfz30_2
       try clear hfz30_3
       try clear hfz39_0
       try clear hfz39_1
       try clear hfz39_2
       try clear hfz39_3
       try clear hfz40_0
       try clear hfz40_1
       try clear hfz40_2
       try clear hfz40_3
       try clear hfz46_0
       try clear hfz46_1
       try clear hfz46_2
       try clear hfz46_3
       try clear hfz48_0
       try clear hfz48_1
       try clear hfz48_2
       try clear hfz48_3
       try clear hfz56_0
       try clear hfz56_1
       try clear hfz56_2
       try clear hfz56_3
       try clear hfz57_0
       try clear hfz57_1
       try clear hfz57_2
       try clear hfz57_3
       try clear hfz65_0
       try clear hfz65_1
       try clear hfz65_2
       try clear hfz65_3
       try clear hfz73_0
       try clear hfz73_1
       try clear hfz73_2
       try clear hfz73_3
       try clear hfz76_0
       try clear hfz76_1
       try clear hfz76_2
       try clear hfz76_3
       try clear hfz8_0
       try clear hfz8_1
       try clear hfz8_2
       try clear hfz8_3
       obtain ⟨kq, x61_25, rfl, HA, HJ25, HO_249000, HO_256000, HO_266000, BK231, BK248, BK255, BK265, HB⟩ := hcut
       have hl256000_25 := (Kd.R_reads' HO_256000.out).1
       rw [hl256000_25] at HO_256000
       (try simp only [hl256000_25])
       (try simp only [hl256000_25] at BK231)
       (try simp only [hl256000_25] at BK248)
       (try simp only [hl256000_25] at BK255)
       (try simp only [hl256000_25] at BK265)
       (try simp only [hl256000_25] at HO_249000)
       (try simp only [hl256000_25] at HO_266000)
       cases kq with
       | zero => exact absurd HA.out (by simp [laws_FnExactPower.j0])
       | succ kj25 =>
        have H := HA.out
        clear HA
        simp only [laws_FnExactPower.j0] at H
        by_cases c78 : x61_25 = true
        ·subst c78
         have H1 : (some false) = some r := by rw [if_pos rfl] at H; exact H
         clear H
         have H := H1
         clear H1
         exact absurd ((Option.some.inj H).trans HRT.out) (by decide)
        ·replace c78 := Bool.eq_false_iff.mpr c78
         subst c78
         have H1 : ((laws_markDisk.f kj25 t259 t262 t263 t264 1).bind fun bt283 => ((laws_heldDisk.f kj25 bt283.2 t262 t263 t264 1).bind fun t285 => (if t285 < 0 then (some false) else (if t285 = bt283.1 then ((laws_toDisk.f kj25 l0_0 a0_1 a0_2 a0_3).bind fun bt286 => ((laws_toIntS.f kj25 l1).bind fun t292 => ((impl_Power.f kj25 bt286.1 bt286.2.1 bt286.2.2.1 bt286.2.2.2 t292).bind fun bt295 => ((laws_eqDisk.f kj25 bt295.1 bt295.2.1 bt295.2.2.1 bt295.2.2.2 t242 t245 t246 t247).bind fun t302 => (if t302 = true then ((laws_heldDisk.f kj25 bt283.2 t262 t263 t264 1).bind fun t303 => (if t303 < 0 then (some false) else (if t303 = bt283.1 then (some true) else (some false)))) else (some false)))))) else (some false))))) = some r := by rw [if_neg (show ¬ (false = true) by decide)] at H; exact H
         clear H
         have H := H1
         clear H1
         replace H := Option.bind_eq_some_iff.mp H
         obtain ⟨⟨t283, t284⟩, A790, H⟩ := H
         replace H : ((laws_heldDisk.f kj25 t284 t262 t263 t264 1).bind fun t285 => (if t285 < 0 then (some false) else (if t285 = t283 then ((laws_toDisk.f kj25 l0_0 a0_1 a0_2 a0_3).bind fun bt286 => ((laws_toIntS.f kj25 l1).bind fun t292 => ((impl_Power.f kj25 bt286.1 bt286.2.1 bt286.2.2.1 bt286.2.2.2 t292).bind fun bt295 => ((laws_eqDisk.f kj25 bt295.1 bt295.2.1 bt295.2.2.1 bt295.2.2.2 t242 t245 t246 t247).bind fun t302 => (if t302 = true then ((laws_heldDisk.f kj25 t284 t262 t263 t264 1).bind fun t303 => (if t303 < 0 then (some false) else (if t303 = t283 then (some true) else (some false)))) else (some false)))))) else (some false)))) = some r := H
         have A79 := Aside0.mk A790
         clear A790
         replace H := Option.bind_eq_some_iff.mp H
         obtain ⟨t285, A800, H⟩ := H
         replace H : (if t285 < 0 then (some false) else (if t285 = t283 then ((laws_toDisk.f kj25 l0_0 a0_1 a0_2 a0_3).bind fun bt286 => ((laws_toIntS.f kj25 l1).bind fun t292 => ((impl_Power.f kj25 bt286.1 bt286.2.1 bt286.2.2.1 bt286.2.2.2 t292).bind fun bt295 => ((laws_eqDisk.f kj25 bt295.1 bt295.2.1 bt295.2.2.1 bt295.2.2.2 t242 t245 t246 t247).bind fun t302 => (if t302 = true then ((laws_heldDisk.f kj25 t284 t262 t263 t264 1).bind fun t303 => (if t303 < 0 then (some false) else (if t303 = t283 then (some true) else (some false)))) else (some false)))))) else (some false))) = some r := H
         have A80 := Aside0.mk A800
         clear A800
         by_cases c81 : t285 < 0
         ·rw [if_pos c81] at H
          have c81b0 : decide (t285 < 0) = true := decide_eq_true c81
          clear c81
          exact absurd ((Option.some.inj H).trans HRT.out) (by decide)
         ·rw [if_neg c81] at H
          have c81b0 : decide (t285 < 0) = false := decide_eq_false c81
          clear c81
          by_cases c82 : t285 = t283
          ·rw [if_pos c82] at H
           have c82b0 : (t285 == t283) = true := beq_iff_eq.mpr c82
           have c82b1 : (t285 != t283) = false := bne_eq_false_iff_eq.mpr c82
           clear c82
           replace H := Option.bind_eq_some_iff.mp H
           obtain ⟨⟨t286, t289, t290, t291⟩, A830, H⟩ := H
           replace H : ((laws_toIntS.f kj25 l1).bind fun t292 => ((impl_Power.f kj25 t286 t289 t290 t291 t292).bind fun bt295 => ((laws_eqDisk.f kj25 bt295.1 bt295.2.1 bt295.2.2.1 bt295.2.2.2 t242 t245 t246 t247).bind fun t302 => (if t302 = true then ((laws_heldDisk.f kj25 t284 t262 t263 t264 1).bind fun t303 => (if t303 < 0 then (some false) else (if t303 = t283 then (some true) else (some false)))) else (some false))))) = some r := H
           have A83 := Aside0.mk A830
           clear A830
           replace H := Option.bind_eq_some_iff.mp H
           obtain ⟨t292, A840, H⟩ := H
           replace H : ((impl_Power.f kj25 t286 t289 t290 t291 t292).bind fun bt295 => ((laws_eqDisk.f kj25 bt295.1 bt295.2.1 bt295.2.2.1 bt295.2.2.2 t242 t245 t246 t247).bind fun t302 => (if t302 = true then ((laws_heldDisk.f kj25 t284 t262 t263 t264 1).bind fun t303 => (if t303 < 0 then (some false) else (if t303 = t283 then (some true) else (some false)))) else (some false)))) = some r := H
           have A84 := Aside0.mk A840
           clear A840
           replace H := Option.bind_eq_some_iff.mp H
           obtain ⟨⟨t295, t298, t299, t300⟩, A850, H⟩ := H
           replace H : ((laws_eqDisk.f kj25 t295 t298 t299 t300 t242 t245 t246 t247).bind fun t302 => (if t302 = true then ((laws_heldDisk.f kj25 t284 t262 t263 t264 1).bind fun t303 => (if t303 < 0 then (some false) else (if t303 = t283 then (some true) else (some false)))) else (some false))) = some r := H
           have A85 := Aside0.mk A850
           clear A850
           replace H := Option.bind_eq_some_iff.mp H
           obtain ⟨t302, A860, H⟩ := H
           replace H : (if t302 = true then ((laws_heldDisk.f kj25 t284 t262 t263 t264 1).bind fun t303 => (if t303 < 0 then (some false) else (if t303 = t283 then (some true) else (some false)))) else (some false)) = some r := H
           have A86 := Aside0.mk A860
           clear A860
           by_cases c87 : t302 = true
           ·subst c87
            have H1 : ((laws_heldDisk.f kj25 t284 t262 t263 t264 1).bind fun t303 => (if t303 < 0 then (some false) else (if t303 = t283 then (some true) else (some false)))) = some r := by rw [if_pos rfl] at H; exact H
            clear H
            have H := H1
            clear H1
            replace H := Option.bind_eq_some_iff.mp H
            obtain ⟨t303, A880, H⟩ := H
            replace H : (if t303 < 0 then (some false) else (if t303 = t283 then (some true) else (some false))) = some r := H
            have A88 := Aside0.mk A880
            clear A880
            by_cases c89 : t303 < 0
            ·rw [if_pos c89] at H
             have c89b0 : decide (t303 < 0) = true := decide_eq_true c89
             clear c89
             exact absurd ((Option.some.inj H).trans HRT.out) (by decide)
            ·rw [if_neg c89] at H
             have c89b0 : decide (t303 < 0) = false := decide_eq_false c89
             clear c89
             by_cases c90 : t303 = t283
             ·rw [if_pos c90] at H
              have c90b0 : (t303 == t283) = true := beq_iff_eq.mpr c90
              have c90b1 : (t303 != t283) = false := bne_eq_false_iff_eq.mpr c90
              clear c90
              obtain rfl := Option.some.inj H
              have hnb91 := NB265_231.out
              have hnc91 := NB231_265.out
              have hnb92 := NB265_248.out
              have hnc92 := NB248_265.out
              have hnb93 := NB265_255.out
              have hnc93 := NB255_265.out
              obtain ⟨hcz94_0, hcz94_1, hcz94_2, hcz94_3, hfz94_0, hfz94_1, hfz94_2, hfz94_3⟩ := bc4_ BK265
              go_wp2_with (first | ((with_reducible refine gate_callee (f := 13) rfl ?_); refine goesL_ (some 64) rfl rfl Try.func13 (by kernel_rfl) rfl #[.agg #[.slice Ao52 t259.length co52, .int .i64 t262, .int .i64 t263, .bool t264], .int .i64 1] rfl ar_ ?_; (with_reducible refine (laws_markDisk.calls kj25 (fun k_ => some k_ = (.slice Ao52 t259.length co52 : Value).ownBlock) (.slice Ao52 t259.length co52) t259 t262 t263 t264 1 t283 t284 w _ ?side1 ?side2 A79.out).mono ?_); (case side1 => repeat (first | (with_reducible first | exact HB.out | apply below_alloc | apply pw_below_drewN | apply below_drew1 | refine below_set ?_ GE231.out | refine below_set ?_ GE248.out | refine below_set ?_ GE255.out | refine below_set ?_ GE265.out) | exact HB.out)); (case side2 => exact Kd.R_tight rfl HO_266000.out); rintro e w95 ⟨rfl, hy0, hb, hkp⟩; refine ⟨_, rfl, ?_⟩; replace HO_249000 := Aside0.mk (Kd.R_mono (ok' := fun k_ => some k_ ≠ (.slice Ao43 t279.length co43 : Value).ownBlock ∧ some k_ ≠ (.slice Ao52 t259.length co52 : Value).ownBlock) (Kd.R_keptB (HO_249000.out) hkp (fun k_ hk_ hs_ => (hk_.2) hs_)) (fun k_ hk_ => ⟨hk_.1.1, hk_.1.2⟩)); replace HO_256000 := Aside0.mk (Kd.R_mono (ok' := fun k_ => some k_ ≠ (.slice Ao37 t242.length co37 : Value).ownBlock ∧ some k_ ≠ (.slice Ao52 t259.length co52 : Value).ownBlock) (Kd.R_keptB (HO_256000.out) hkp (fun k_ hk_ hs_ => (hk_.2) hs_)) (fun k_ hk_ => ⟨hk_.1.1, hk_.1.2⟩)); replace BK231 := Aside0.mk (blk_kept (bk_ BK231) hkp (fun hs_ => (fun e_ => (Kd.R_ne HO_266000.out BK231.out (by decide)) e_) hs_)); replace BK248 := Aside0.mk (blk_kept (bk_ BK248) hkp (fun hs_ => (fun e_ => (Kd.R_ne HO_266000.out BK248.out (by decide)) e_) hs_)); replace BK255 := Aside0.mk (blk_kept (bk_ BK255) hkp (fun hs_ => (fun e_ => (Kd.R_ne HO_266000.out BK255.out (by decide)) e_) hs_)); replace BK265 := Aside0.mk (blk_kept (bk_ BK265) hkp (fun hs_ => (fun e_ => (Kd.R_ne HO_266000.out BK265.out (by decide)) e_) hs_)); replace HO_266000 := Aside0.mk (Kd.R_reok rfl hy0 (fun k_ e_ => HO_266000.out.1 k_ e_)); replace HB := Aside0.mk (hb); (try clear hb); (try clear hkp); (try clear hy0); obtain ⟨hcz96_0, hcz96_1, hcz96_2, hcz96_3, hfz96_0, hfz96_1, hfz96_2, hfz96_3⟩ := bc4_ BK265) | ((with_reducible refine gate_callee (f := 15) rfl ?_); refine goesL_ (some 67) rfl rfl Try.func15 (by kernel_rfl) rfl #[.agg #[.slice Ao52 t284.length co52, .int .i64 t262, .int .i64 t263, .bool t264], .int .i64 1] rfl (by (try simp only [List.map_toArray, List.map_cons, List.map_nil]); first | done | (rw [show t284.length = t259.length from (Kd.R_reads' HO_266000.out).1.symm] <;> rfl) | rfl | (simp only [List.length_drop, List.length_take]; rfl)) ?_; (with_reducible refine (laws_heldDisk.calls kj25 _ _ t284 t262 t263 t264 1 t285 _ ?side1 ?side2 A80.out).mono ?_); (case side1 => repeat (first | exact (Kd.R_reads' HO_266000.out).2.2 | (with_reducible refine Kd.C_alloc ?_ _) | (with_reducible refine Kd.C_drewN ?_ _) | (with_reducible refine Kd.C_drew ?_))); (case side2 => rw [show t284.length = t259.length from (Kd.R_reads' HO_266000.out).1.symm]; exact (Kd.R_reads' HO_266000.out).2.1); rintro e w97 ⟨rfl, hb⟩; refine ⟨_, rfl, ?_⟩; replace HO_249000 := rb_ HO_249000 hb; replace HO_256000 := rb_ HO_256000 hb; replace HO_266000 := rb_ HO_266000 hb; replace BK231 := bb_ BK231 hb; replace BK248 := bb_ BK248 hb; replace BK255 := bb_ BK255 hb; replace BK265 := bb_ BK265 hb; replace HB := Aside0.mk (below_step (hw_ HB GE231 GE248 GE255 GE265) hb); (try clear hb); (try clear hb2); (try clear hk); (try clear hi); have hnb98 := NB231_248.out; have hnc98 := NB248_231.out; have hnb99 := NB231_255.out; have hnc99 := NB255_231.out; obtain ⟨hcz100_0, hcz100_1, hcz100_2, hcz100_3, hfz100_0, hfz100_1, hfz100_2, hfz100_3⟩ := bc4_ BK231) | ((with_reducible refine gate_callee (f := 8) rfl ?_); refine goesL_ (some 74) rfl rfl Try.func8 (by kernel_rfl) rfl #[.agg #[.slice A0_0 l0_0.length c0_0, .int .i64 a0_1, .int .i64 a0_2, .bool a0_3]] rfl ar_ ?_; (with_reducible refine (laws_toDisk.calls kj25 _ _ l0_0 a0_1 a0_2 a0_3 t286 t289 t290 t291 _ ?side1 ?side2 A83.out).mono ?_); (case side1 => repeat (first | exact (Kd.C_below HR0_0.out HB.out) | (with_reducible refine Kd.C_alloc ?_ _) | (with_reducible refine Kd.C_drewN ?_ _) | (with_reducible refine Kd.C_drew ?_))); (case side2 => exact HC0_0.out); rintro e w101 ⟨v287, rfl, ho0, hb⟩; refine ⟨_, rfl, ?_⟩; have HO288 := Aside0.mk (Kd.R_lower (Kd.R_new' (Kd.R_new' (Kd.R_new' ho0 (Kd.R_lt (rr_ HO_249000))) (Kd.R_lt (rr_ HO_256000))) (Kd.R_lt (rr_ HO_266000))) (below_size (hw_ HB GE231 GE248 GE255 GE265))); replace HO_249000 := Aside0.mk (Kd.R_elder' (rr_ HO_249000) (Kd.R_base ho0) hb); replace HO_256000 := Aside0.mk (Kd.R_elder' (rr_ HO_256000) (Kd.R_base ho0) hb); replace HO_266000 := Aside0.mk (Kd.R_elder' (rr_ HO_266000) (Kd.R_base ho0) hb); replace BK231 := bb_ BK231 hb; replace BK248 := bb_ BK248 hb; replace BK255 := bb_ BK255 hb; replace BK265 := bb_ BK265 hb; replace HB := Aside0.mk (below_step (hw_ HB GE231 GE248 GE255 GE265) hb); (try clear hb); (try clear hb2); (try clear hk); (try clear hi); (try clear ho0)) | ((with_reducible refine gate_callee (f := 9) rfl ?_); refine goesL_ (some 76) rfl rfl Try.func9 (by kernel_rfl) rfl #[.slice A1 l1.length c1] rfl ar_ ?_; (with_reducible refine (laws_toIntS.calls kj25 _ _ l1 t292 _ ?side1 ?side2 A84.out).mono ?_); (case side1 => repeat (first | exact (Kd.C_below HR1.out HB.out) | (with_reducible refine Kd.C_alloc ?_ _) | (with_reducible refine Kd.C_drewN ?_ _) | (with_reducible refine Kd.C_drew ?_))); (case side2 => exact HC1.out); rintro e w102 ⟨v293, rfl, ho0, hb⟩; refine ⟨_, rfl, ?_⟩; replace HO_249000 := rb_ HO_249000 hb; replace HO_256000 := rb_ HO_256000 hb; replace HO_266000 := rb_ HO_266000 hb; replace HO288 := rb_ HO288 hb; have HO294 := Aside0.mk (Kd.R_lower ho0 (below_size (hw_ HB GE231 GE248 GE255 GE265))); replace BK231 := bb_ BK231 hb; replace BK248 := bb_ BK248 hb; replace BK255 := bb_ BK255 hb; replace BK265 := bb_ BK265 hb; replace HB := Aside0.mk (below_step (hw_ HB GE231 GE248 GE255 GE265) hb); (try clear hb); (try clear hb2); (try clear hk); (try clear hi); (try clear ho0); obtain ⟨Ao103, co103, eo103⟩ := Kd.R_slice HO288.out; subst eo103; obtain ⟨Ao104, co104, eo104⟩ := Kd.R_slice HO294.out; subst eo104) | ((with_reducible refine gate_callee (f := 10) rfl ?_); refine goesL_ (some 77) rfl rfl Try.func10 (by kernel_rfl) rfl #[.agg #[.slice Ao103 t286.length co103, .int .i64 t289, .int .i64 t290, .bool t291], .slice Ao104 t292.length co104] rfl ar_ ?_; (with_reducible refine (impl_Power.calls kj25 _ _ t286 t289 t290 t291 _ _ t292 t295 t298 t299 t300 _ ?side1 ?side2 ?side3 ?side4 A85.out).mono ?_); (case side1 => repeat (first | exact (Kd.R_reads' HO288.out).2.2 | (with_reducible refine Kd.C_alloc ?_ _) | (with_reducible refine Kd.C_drewN ?_ _) | (with_reducible refine Kd.C_drew ?_))); (case side2 => exact (Kd.R_reads' HO288.out).2.1); (case side3 => repeat (first | exact (Kd.R_reads' HO294.out).2.2 | (with_reducible refine Kd.C_alloc ?_ _) | (with_reducible refine Kd.C_drewN ?_ _) | (with_reducible refine Kd.C_drew ?_))); (case side4 => exact (Kd.R_reads' HO294.out).2.1); rintro e w105 ⟨v296, rfl, ho0, hb⟩; refine ⟨_, rfl, ?_⟩; replace HO294 := rb_ HO294 hb; have HO297 := Aside0.mk (Kd.R_lower (Kd.R_new' (Kd.R_new' (Kd.R_new' (Kd.R_new' ho0 (Kd.R_lt (rr_ HO_249000))) (Kd.R_lt (rr_ HO_256000))) (Kd.R_lt (rr_ HO_266000))) (Kd.R_lt (rr_ HO288))) (below_size (hw_ HB GE231 GE248 GE255 GE265))); replace HO_249000 := Aside0.mk (Kd.R_elder' (rr_ HO_249000) (Kd.R_base ho0) hb); replace HO_256000 := Aside0.mk (Kd.R_elder' (rr_ HO_256000) (Kd.R_base ho0) hb); replace HO_266000 := Aside0.mk (Kd.R_elder' (rr_ HO_266000) (Kd.R_base ho0) hb); replace HO288 := Aside0.mk (Kd.R_elder' (rr_ HO288) (Kd.R_base ho0) hb); replace BK231 := bb_ BK231 hb; replace BK248 := bb_ BK248 hb; replace BK255 := bb_ BK255 hb; replace BK265 := bb_ BK265 hb; replace HB := Aside0.mk (below_step (hw_ HB GE231 GE248 GE255 GE265) hb); (try clear hb); (try clear hb2); (try clear hk); (try clear hi); (try clear ho0)) | ((with_reducible refine gate_dst (N := 13) rfl ?_); refine box_event ?hg (N := 13) ?hd (cs := #[.slice none 0 0, .int .i64 0, .int .i64 0, .bool false]) (t := 29) ?hr ?_; (case hd => rfl); (case hg => rfl); (case hr => first | (go_simp; done) | (go_simp; rfl)); intro gb301 hg w106 hbox hb; replace HO_249000 := rb_ HO_249000 hb; replace HO_256000 := rb_ HO_256000 hb; replace HO_266000 := rb_ HO_266000 hb; replace HO288 := rb_ HO288 hb; replace HO294 := rb_ HO294 hb; replace HO297 := rb_ HO297 hb; have BK301 := Aside0.mk (hbox); have GW301 := ge_ hg (hw_ HB GE231 GE248 GE255 GE265); have GE301 := ge_ hg (hw_ HB GE231 GE248 GE255 GE265); replace HB := Aside0.mk (below_step (hw_ HB GE231 GE248 GE255 GE265) hb); have NB231_301 := nl_ BK231 hg; have NB301_231 := ng_ BK231 hg; replace BK231 := bb_ BK231 hb; have NB248_301 := nl_ BK248 hg; have NB301_248 := ng_ BK248 hg; replace BK248 := bb_ BK248 hb; have NB255_301 := nl_ BK255 hg; have NB301_255 := ng_ BK255 hg; replace BK255 := bb_ BK255 hb; have NB265_301 := nl_ BK265 hg; have NB301_265 := ng_ BK265 hg; replace BK265 := bb_ BK265 hb; clear hb hbox hg; obtain ⟨Ao107, co107, eo107⟩ := Kd.R_slice HO297.out; subst eo107; have hnb108 := NB301_231.out; have hnc108 := NB231_301.out; have hnb109 := NB301_248.out; have hnc109 := NB248_301.out; have hnb110 := NB301_255.out; have hnc110 := NB255_301.out; have hnb111 := NB301_265.out; have hnc111 := NB265_301.out; obtain ⟨hcz112_0, hcz112_1, hcz112_2, hcz112_3, hfz112_0, hfz112_1, hfz112_2, hfz112_3⟩ := bc4_ BK301; have hnb113 := NB248_255.out; have hnc113 := NB255_248.out; obtain ⟨hcz114_0, hcz114_1, hcz114_2, hcz114_3, hfz114_0, hfz114_1, hfz114_2, hfz114_3⟩ := bc4_ BK248) | ((with_reducible refine gate_callee (f := 11) rfl ?_); refine goesL_ (some 80) rfl rfl Try.func11 (by kernel_rfl) rfl #[.agg #[.slice Ao107 t295.length co107, .int .i64 t298, .int .i64 t299, .bool t300], .agg #[.slice Ao37 t242.length co37, .int .i64 t245, .int .i64 t246, .bool t247]] rfl ar_ ?_; (with_reducible refine (laws_eqDisk.calls kj25 _ _ t295 t298 t299 t300 _ _ t242 t245 t246 t247 true _ ?side1 ?side2 ?side3 ?side4 A86.out).mono ?_); (case side1 => refine (Kd.R_reads' (e := 45) (base := w.heap.size) (ok := fun k_ => ((((True ∧ some k_ ≠ (.slice Ao37 t242.length co37 : Value).ownBlock) ∧ some k_ ≠ (.slice Ao43 t279.length co43 : Value).ownBlock) ∧ some k_ ≠ (.slice Ao52 t259.length co52 : Value).ownBlock) ∧ some k_ ≠ (.slice Ao103 t286.length co103 : Value).ownBlock)) (n := t295.length) (c := co107) ?_).2.2; exact (by (with_reducible repeat (first | apply Kd.R_alloc | apply Kd.R_drewN | apply Kd.R_drew)); exact (Kd.R_mono (Kd.R_far (p := ⟨gb301, 3, none⟩) (Kd.R_far (p := ⟨gb301, 2, none⟩) (Kd.R_far (p := ⟨gb301, 1, none⟩) (Kd.R_far (p := ⟨gb301, 0, none⟩) (Kd.R_types HO297.out BK301.out (by decide)) (fun _ hk => hk.2) (.slice Ao107 t295.length co107)) (fun _ hk => hk.2) (.int .i64 t298)) (fun _ hk => hk.2) (.int .i64 t299)) (fun _ hk => hk.2) (.bool t300)) (fun _ h_ => h_.1)))); (case side2 => exact (Kd.R_reads' HO297.out).2.1); (case side3 => refine (Kd.R_reads' (e := 45) (base := w.heap.size) (ok := fun k_ => (((some k_ ≠ (.slice Ao43 t279.length co43 : Value).ownBlock ∧ some k_ ≠ (.slice Ao52 t259.length co52 : Value).ownBlock) ∧ some k_ ≠ (.slice Ao103 t286.length co103 : Value).ownBlock) ∧ some k_ ≠ (.slice Ao107 t295.length co107 : Value).ownBlock)) (n := t242.length) (c := co37) ?_).2.2; exact (by (with_reducible repeat (first | apply Kd.R_alloc | apply Kd.R_drewN | apply Kd.R_drew)); exact (Kd.R_mono (Kd.R_far (p := ⟨gb301, 3, none⟩) (Kd.R_far (p := ⟨gb301, 2, none⟩) (Kd.R_far (p := ⟨gb301, 1, none⟩) (Kd.R_far (p := ⟨gb301, 0, none⟩) (Kd.R_types HO_249000.out BK301.out (by decide)) (fun _ hk => hk.2) (.slice Ao107 t295.length co107)) (fun _ hk => hk.2) (.int .i64 t298)) (fun _ hk => hk.2) (.int .i64 t299)) (fun _ hk => hk.2) (.bool t300)) (fun _ h_ => h_.1)))); (case side4 => exact (Kd.R_reads' HO_249000.out).2.1); rintro e w115 ⟨rfl, hb⟩; refine ⟨_, rfl, ?_⟩; replace HO_249000 := rfb_ HO_249000 BK301 hb; replace HO_256000 := rfb_ HO_256000 BK301 hb; replace HO_266000 := rfb_ HO_266000 BK301 hb; replace HO288 := rfb_ HO288 BK301 hb; replace HO294 := rfb_ HO294 BK301 hb; replace HO297 := rfb_ HO297 BK301 hb; replace BK231 := bf_ BK231 NB231_301 hb; replace BK248 := bf_ BK248 NB248_301 hb; replace BK255 := bf_ BK255 NB255_301 hb; replace BK265 := bf_ BK265 NB265_301 hb; replace BK301 := bp_ #[.slice Ao107 t295.length co107, .int .i64 t298, .int .i64 t299, .bool t300] BK301 hb; replace HB := Aside0.mk (below_step (by repeat (first | (with_reducible first | exact HB.out | apply below_alloc | apply pw_below_drewN | apply below_drew1 | refine below_set ?_ GE231.out | refine below_set ?_ GE248.out | refine below_set ?_ GE255.out | refine below_set ?_ GE265.out | refine below_set ?_ GE301.out) | exact HB.out)) hb); (try clear hb); (try clear hb2); (try clear hk); (try clear hi); obtain ⟨hcz116_0, hcz116_1, hcz116_2, hcz116_3, hfz116_0, hfz116_1, hfz116_2, hfz116_3⟩ := bc4_ BK265) | ((with_reducible refine gate_callee (f := 15) rfl ?_); refine goesL_ (some 84) rfl rfl Try.func15 (by kernel_rfl) rfl #[.agg #[.slice Ao52 t284.length co52, .int .i64 t262, .int .i64 t263, .bool t264], .int .i64 1] rfl (by (try simp only [List.map_toArray, List.map_cons, List.map_nil]); first | done | (rw [show t284.length = t259.length from (Kd.R_reads' HO_266000.out).1.symm] <;> rfl) | rfl | (simp only [List.length_drop, List.length_take]; rfl)) ?_; (with_reducible refine (laws_heldDisk.calls kj25 _ _ t284 t262 t263 t264 1 t303 _ ?side1 ?side2 A88.out).mono ?_); (case side1 => repeat (first | exact (Kd.R_reads' HO_266000.out).2.2 | (with_reducible refine Kd.C_alloc ?_ _) | (with_reducible refine Kd.C_drewN ?_ _) | (with_reducible refine Kd.C_drew ?_))); (case side2 => rw [show t284.length = t259.length from (Kd.R_reads' HO_266000.out).1.symm]; exact (Kd.R_reads' HO_266000.out).2.1); rintro e w117 ⟨rfl, hb⟩; refine ⟨_, rfl, ?_⟩; replace HO_249000 := rb_ HO_249000 hb; replace HO_256000 := rb_ HO_256000 hb; replace HO_266000 := rb_ HO_266000 hb; replace HO288 := rb_ HO288 hb; replace HO294 := rb_ HO294 hb; replace HO297 := rb_ HO297 hb; replace BK231 := bb_ BK231 hb; replace BK248 := bb_ BK248 hb; replace BK255 := bb_ BK255 hb; replace BK265 := bb_ BK265 hb; replace BK301 := bb_ BK301 hb; replace HB := Aside0.mk (below_step (by repeat (first | (with_reducible first | exact HB.out | apply below_alloc | apply pw_below_drewN | apply below_drew1 | refine below_set ?_ GE231.out | refine below_set ?_ GE248.out | refine below_set ?_ GE255.out | refine below_set ?_ GE265.out | refine below_set ?_ GE301.out) | exact HB.out)) hb); (try clear hb); (try clear hb2); (try clear hk); (try clear hi)))
              go_ret
              exact ⟨re_, by repeat (first | (with_reducible first | exact HB.out | apply below_alloc | apply pw_below_drewN | apply below_drew1 | refine below_set ?_ GE231.out | refine below_set ?_ GE248.out | refine below_set ?_ GE255.out | refine below_set ?_ GE265.out | refine below_set ?_ GE301.out) | exact HB.out)⟩
             ·rw [if_neg c90] at H
              have c90b0 : (t303 == t283) = false := beq_eq_false_iff_ne.mpr c90
              have c90b1 : (t303 != t283) = true := bne_iff_ne.mpr c90
              exact absurd ((Option.some.inj H).trans HRT.out) (by decide)
           ·replace c87 := Bool.eq_false_iff.mpr c87
            subst c87
            have H1 : (some false) = some r := by rw [if_neg (show ¬ (false = true) by decide)] at H; exact H
            clear H
            have H := H1
            clear H1
            exact absurd ((Option.some.inj H).trans HRT.out) (by decide)
          ·rw [if_neg c82] at H
           have c82b0 : (t285 == t283) = false := beq_eq_false_iff_ne.mpr c82
           have c82b1 : (t285 != t283) = true := bne_iff_ne.mpr c82
           exact absurd ((Option.some.inj H).trans HRT.out) (by decide)
     ·replace c23 := Bool.eq_false_iff.mpr c23
      subst c23
      have H1 : (some false) = some r := by rw [if_neg (show ¬ (false = true) by decide)] at H; exact H
      clear H
      have H := H1
      clear H1
      exact absurd ((Option.some.inj H).trans HRT.out) (by decide)
    ·replace c20 := Bool.eq_false_iff.mpr c20
     subst c20
     have H1 : (some false) = some r := by rw [if_neg (show ¬ (false = true) by decide)] at H; exact H
     clear H
     have H := H1
     clear H1
     exact absurd ((Option.some.inj H).trans HRT.out) (by decide)
   ·replace c17 := Bool.eq_false_iff.mpr c17
    subst c17
    have H1 : (some false) = some r := by rw [if_neg (show ¬ (false = true) by decide)] at H; exact H
    clear H
    have H := H1
    clear H1
    exact absurd ((Option.some.inj H).trans HRT.out) (by decide)

/-- THE ONE PURE STATEMENT of laws_FnExactPower. -/
def laws_FnExactPower.Pure : Prop := ∀ (l0_0 : List (S100)) (a0_1 : Int) (a0_2 : Int) (a0_3 : Bool) (l1 : List Int), (l0_0.length ≤ maxLen ∧ ∀ z ∈ l0_0, (z.f0.size ≤ maxLen) ∧ (z.f1.size ≤ maxLen) ∧ ((Lit.int .i64 z.f2).wf = true)) → ((Lit.int .i64 a0_1).wf = true) → ((Lit.int .i64 a0_2).wf = true) → (l1.length ≤ maxLen ∧ ∀ z ∈ l1, (Lit.int .i64 z).wf = true) → ∃ k, laws_FnExactPower.f k l0_0 a0_1 a0_2 a0_3 l1 = some true

end Go.Proofs.Ytigbekefjbfopaa.PFnExactPower
