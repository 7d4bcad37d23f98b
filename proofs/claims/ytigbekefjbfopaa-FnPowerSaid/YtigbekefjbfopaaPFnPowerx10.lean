-- Laid by a program of this session, a copy of the kit's printer with additions (wip/patch_print.py): myhead. Lean checks it.
import Derived.Test.YtigbekefjbfopaaPFnPowerx0
import Derived.Test.YtigbekefjbfopaaPFnPowerx5
import Derived.Test.YtigbekefjbfopaaPFnPowerx7
import Derived.Test.YtigbekefjbfopaaPFnPowerx8
import Derived.Test.YtigbekefjbfopaaPFnPowerx9
namespace Go.Proofs.Ytigbekefjbfopaa.PFnPower
open Go.RowKit Go.Proofs.YtigbekefjbfopaaW.PrintWords Go.Proofs.YtigbekefjbfopaaW.PrintLast Go.Proofs.YtigbekefjbfopaaW.PrintMore
attribute [local go_sem] max2_int min2_int max_two min_two max_three min_three max_four min_four   -- for this text's walks alone
set_option linter.unusedVariables false
set_option linter.unusedSimpArgs false

/-! ### spec_l3Disk: function 72 -/
mutual
def spec_l3Disk.l0 : Nat → Int → List Int → Int → Int → List (S45) → Int → Int → Bool → Option ((List (S45)) × Int × Int × Bool × Int × Int)
 | 0, _, _, _, _, _, _, _, _ => none
 | k + 1, x4, x1000, x1001, x1002, x336000, x336001, x336002, x336003 => if x4 > 0 then ((spec_l3Name.f x1000 x1001 x1002).bind fun bt339 => ((spec_l1Below.f x1000 bt339.2.1 bt339.2.2 6).bind fun bt343 => (if bt343.1 = 0 then (spec_l3Disk.j1 k x4 bt339.1 bt343.1 (bt343.1 == 0) x1000 bt343.2.1 bt343.2.2 x336000 x336001 x336002 x336003) else (spec_l3Disk.j1 k x4 bt339.1 bt343.1 (bt343.1 == 1) x1000 bt343.2.1 bt343.2.2 x336000 x336001 x336002 x336003)))) else (some (x336000, x336001, x336002, x336003, x1001, x1002))
def spec_l3Disk.j1 : Nat → Int → ByteArray → Int → Bool → List Int → Int → Int → List (S45) → Int → Int → Bool → Option ((List (S45)) × Int × Int × Bool × Int × Int)
 | 0, _, _, _, _, _, _, _, _, _, _, _ => none
 | k + 1, x4, x5, x18, x27, x1000, x1001, x1002, x336000, x336001, x336002, x336003 => if x27 = true then ((spec_Create.f k x336000 x336001 x336002 x336003 x5).bind fun bt346 => (spec_l3Disk.l0 k (wrap64 (x4 - 1)) x1000 x1001 x1002 bt346.1 bt346.2.1 bt346.2.2.1 bt346.2.2.2.1)) else (if x18 = 2 then (spec_l3Disk.j2 k x4 x5 x18 (x18 == 2) x1000 x1001 x1002 x336000 x336001 x336002 x336003) else (spec_l3Disk.j2 k x4 x5 x18 (x18 == 3) x1000 x1001 x1002 x336000 x336001 x336002 x336003))
def spec_l3Disk.j2 : Nat → Int → ByteArray → Int → Bool → List Int → Int → Int → List (S45) → Int → Int → Bool → Option ((List (S45)) × Int × Int × Bool × Int × Int)
 | 0, _, _, _, _, _, _, _, _, _, _, _ => none
 | k + 1, x4, x5, x18, x36, x1000, x1001, x1002, x336000, x336001, x336002, x336003 => if x36 = true then ((spec_l1Text.f k x1000 x1001 x1002 9).bind fun bt353 => ((spec_Append.f k x336000 x336001 x336002 x336003 x5 bt353.1).bind fun bt356 => (spec_l3Disk.l0 k (wrap64 (x4 - 1)) x1000 bt353.2.1 bt353.2.2 bt356.1 bt356.2.1 bt356.2.2.1 bt356.2.2.2.1))) else (if x18 = 4 then ((spec_Sync.f k x336000 x336001 x336002 x336003 x5).bind fun bt363 => (spec_l3Disk.l0 k (wrap64 (x4 - 1)) x1000 x1001 x1002 bt363.1 bt363.2.1 bt363.2.2.1 bt363.2.2.2.1)) else ((spec_l3Name.f x1000 x1001 x1002).bind fun bt370 => ((spec_Rename.f k x336000 x336001 x336002 x336003 x5 bt370.1).bind fun bt373 => (spec_l3Disk.l0 k (wrap64 (x4 - 1)) x1000 bt370.2.1 bt370.2.2 bt373.1 bt373.2.1 bt373.2.2.1 bt373.2.2.2.1))))
end
def spec_l3Disk.f (k : Nat) (s0_0 : List Int) (s0_1 : Int) (s0_2 : Int) : Option ((List (S45)) × Int × Int × Bool × Int × Int) := (spec_DiskNew.f 200).bind fun bt329 => ((spec_l1Below.f s0_0 s0_1 s0_2 12).bind fun bt336 => (spec_l3Disk.l0 k bt336.1 s0_0 bt336.2.1 bt336.2.2 bt329.1 bt329.2.1 bt329.2.2.1 bt329.2.2.2))
theorem spec_l3Disk.mono_l : ∀ k, (∀ y0 y1 y2 y3 y4 y5 y6 y7, LeO (spec_l3Disk.l0 k y0 y1 y2 y3 y4 y5 y6 y7) (spec_l3Disk.l0 (k + 1) y0 y1 y2 y3 y4 y5 y6 y7)) ∧ (∀ y0 y1 y2 y3 y4 y5 y6 y7 y8 y9 y10, LeO (spec_l3Disk.j1 k y0 y1 y2 y3 y4 y5 y6 y7 y8 y9 y10) (spec_l3Disk.j1 (k + 1) y0 y1 y2 y3 y4 y5 y6 y7 y8 y9 y10)) ∧ (∀ y0 y1 y2 y3 y4 y5 y6 y7 y8 y9 y10, LeO (spec_l3Disk.j2 k y0 y1 y2 y3 y4 y5 y6 y7 y8 y9 y10) (spec_l3Disk.j2 (k + 1) y0 y1 y2 y3 y4 y5 y6 y7 y8 y9 y10))
 | 0 => ⟨fun _ _ _ _ _ _ _ _ r h => by simp [spec_l3Disk.l0] at h, fun _ _ _ _ _ _ _ _ _ _ _ r h => by simp [spec_l3Disk.j1] at h, fun _ _ _ _ _ _ _ _ _ _ _ r h => by simp [spec_l3Disk.j2] at h⟩
 | k + 1 => by
  obtain ⟨ih0, ih1, ih2⟩ := spec_l3Disk.mono_l k
  refine ⟨?_, ?_, ?_⟩
  ·intro y0 y1 y2 y3 y4 y5 y6 y7
   unfold spec_l3Disk.l0
   repeat' first | (with_reducible first | exact ih0 .. | exact ih1 .. | exact ih2 .. | exact spec_Append.mono .. | exact spec_Create.mono .. | exact spec_Rename.mono .. | exact spec_Sync.mono .. | exact spec_l1Text.mono .. | exact LeO.refl .. | exact LeO.none .. | refine LeO.ite ?_ ?_ | refine LeO.bind ?_ (fun _ => ?_)) | exact ih0 .. | exact ih1 .. | exact ih2 .. | exact spec_Append.mono .. | exact spec_Create.mono .. | exact spec_Rename.mono .. | exact spec_Sync.mono .. | exact spec_l1Text.mono .. | exact LeO.none .. | refine LeO.ite ?_ ?_ | refine LeO.bind ?_ (fun _ => ?_)
  ·intro y0 y1 y2 y3 y4 y5 y6 y7 y8 y9 y10
   unfold spec_l3Disk.j1
   repeat' first | (with_reducible first | exact ih0 .. | exact ih1 .. | exact ih2 .. | exact spec_Append.mono .. | exact spec_Create.mono .. | exact spec_Rename.mono .. | exact spec_Sync.mono .. | exact spec_l1Text.mono .. | exact LeO.refl .. | exact LeO.none .. | refine LeO.ite ?_ ?_ | refine LeO.bind ?_ (fun _ => ?_)) | exact ih0 .. | exact ih1 .. | exact ih2 .. | exact spec_Append.mono .. | exact spec_Create.mono .. | exact spec_Rename.mono .. | exact spec_Sync.mono .. | exact spec_l1Text.mono .. | exact LeO.none .. | refine LeO.ite ?_ ?_ | refine LeO.bind ?_ (fun _ => ?_)
  ·intro y0 y1 y2 y3 y4 y5 y6 y7 y8 y9 y10
   unfold spec_l3Disk.j2
   repeat' first | (with_reducible first | exact ih0 .. | exact ih1 .. | exact ih2 .. | exact spec_Append.mono .. | exact spec_Create.mono .. | exact spec_Rename.mono .. | exact spec_Sync.mono .. | exact spec_l1Text.mono .. | exact LeO.refl .. | exact LeO.none .. | refine LeO.ite ?_ ?_ | refine LeO.bind ?_ (fun _ => ?_)) | exact ih0 .. | exact ih1 .. | exact ih2 .. | exact spec_Append.mono .. | exact spec_Create.mono .. | exact spec_Rename.mono .. | exact spec_Sync.mono .. | exact spec_l1Text.mono .. | exact LeO.none .. | refine LeO.ite ?_ ?_ | refine LeO.bind ?_ (fun _ => ?_)
theorem spec_l3Disk.mono : ∀ a0 a1 a2 k, LeO (spec_l3Disk.f k a0 a1 a2) (spec_l3Disk.f (k + 1) a0 a1 a2) := by
 intro a0 a1 a2 k
 obtain ⟨ih0, ih1, ih2⟩ := spec_l3Disk.mono_l k
 unfold spec_l3Disk.f
 repeat' first | (with_reducible first | exact ih0 .. | exact ih1 .. | exact ih2 .. | exact spec_Append.mono .. | exact spec_Create.mono .. | exact spec_Rename.mono .. | exact spec_Sync.mono .. | exact spec_l1Text.mono .. | exact LeO.refl .. | exact LeO.none .. | refine LeO.ite ?_ ?_ | refine LeO.bind ?_ (fun _ => ?_)) | exact ih0 .. | exact ih1 .. | exact ih2 .. | exact spec_Append.mono .. | exact spec_Create.mono .. | exact spec_Rename.mono .. | exact spec_Sync.mono .. | exact spec_l1Text.mono .. | exact LeO.none .. | refine LeO.ite ?_ ?_ | refine LeO.bind ?_ (fun _ => ?_)
def spec_l3Disk.T8 : Bool × List (List Nat × List Nat) := (true, [([], []), ([], []), ([], []), ([2], [2]), ([0, 1, 3, 3], [0, 1, 3]), ([4], [4]), ([5], [5]), ([5], [5]), ([6, 4, 0, 1, 2, 3, 4, 5, 6], [6])])
def spec_l3Disk.B8 : List Nat := [0, 0, 0, 4, 15, 31, 63, 63, 127]
theorem spec_l3Disk.tab8 : rtab .any (opsOf Try.f72 8) = spec_l3Disk.T8 := by kernel_rfl
theorem spec_l3Disk.bits8 : waitsOk spec_l3Disk.T8.2 spec_l3Disk.B8 = true := by kernel_rfl
def spec_l3Disk.T14 : Bool × List (List Nat × List Nat) := (true, [([], []), ([], []), ([], []), ([2], [2]), ([0, 1, 3, 3], [0, 1, 3]), ([4], [4]), ([5], [5]), ([5], [5]), ([6, 4, 0, 1, 2, 3, 4, 5, 6], [6])])
def spec_l3Disk.B14 : List Nat := [0, 0, 0, 4, 15, 31, 63, 63, 127]
theorem spec_l3Disk.tab14 : rtab .any (opsOf Try.f72 14) = spec_l3Disk.T14 := by kernel_rfl
theorem spec_l3Disk.bits14 : waitsOk spec_l3Disk.T14.2 spec_l3Disk.B14 = true := by kernel_rfl
set_option maxHeartbeats 80000000 in
set_option maxRecDepth 100000 in
theorem spec_l3Disk.calls (k : Nat) (g : Nat) (s0_0 : List Int) (s0_1 : Int) (s0_2 : Int) (r1 : List (S45)) (r2 : Int) (r3 : Int) (r4 : Bool) (r5 : Int) (r6 : Int) (w0 w : World) (hI : IsS104 w0 w g s0_0 s0_1 s0_2) (hB : Below w0.heap.size w0 w) (h : spec_l3Disk.f k s0_0 s0_1 s0_2 = some (r1, r2, r3, r4, r5, r6)) :
  Calls Try.prog 72 #[.pointer (some ⟨g, 0, none⟩)] w fun e w' => ∃ v0_ : Value, e = .returned (.agg #[v0_, .int .i64 r2, .int .i64 r3, .bool r4]) ∧ Kd.R k45 45 w' w.heap.size (fun _ => True) v0_ r1 ∧ IsS104 w0 w' g s0_0 r5 r6 ∧ Below w0.heap.size w0 w' ∧ KeepBut w w' g none := by
 have hu29 := Try.underlying29
 have HI0 := Aside0.mk hI
 have HK := Aside0.mk (KeepBut.refl w g none)
 have HL := Aside0.mk hB.size
 clear hI
 have HW0 := Aside0.mk hB.size
 have HB := Aside0.mk hB
 clear hB
 have H : ((spec_DiskNew.f 200).bind fun bt329 => ((spec_l1Below.f s0_0 s0_1 s0_2 12).bind fun bt336 => (spec_l3Disk.l0 k bt336.1 s0_0 bt336.2.1 bt336.2.2 bt329.1 bt329.2.1 bt329.2.2.1 bt329.2.2.2))) = some (r1, r2, r3, r4, r5, r6) := h
 clear h
 replace H := Option.bind_eq_some_iff.mp H
 obtain ⟨⟨t329, t332, t333, t334⟩, A20, H⟩ := H
 replace H : ((spec_l1Below.f s0_0 s0_1 s0_2 12).bind fun bt336 => (spec_l3Disk.l0 k bt336.1 s0_0 bt336.2.1 bt336.2.2 t329 t332 t333 t334)) = some (r1, r2, r3, r4, r5, r6) := H
 have A2 := Aside0.mk A20
 clear A20
 replace H := Option.bind_eq_some_iff.mp H
 obtain ⟨⟨t336, t337, t338⟩, A30, H⟩ := H
 replace H : (spec_l3Disk.l0 k t336 s0_0 t337 t338 t329 t332 t333 t334) = some (r1, r2, r3, r4, r5, r6) := H
 have A3 := Aside0.mk A30
 clear A30
 have H' := Aside0.mk H
 clear H
 go_enter Try.func72, Try.ntmps72
 go_wp2_with (first | ((with_reducible refine gate_dst (N := 2) rfl ?_); refine box_event ?hg (N := 2) ?hd (cs := #[.slice none 0 0, .int .i64 0, .int .i64 0, .bool false]) (t := 29) ?hr ?_; (case hd => rfl); (case hg => rfl); (case hr => first | (go_simp; done) | (go_simp; rfl)); intro gb328 hg w4 hbox hb; replace HB := Aside0.mk (below_step (by repeat (first | (with_reducible first | exact HB.out | apply below_alloc | apply pw_below_drewN | apply below_drew1 | refine below_set ?_ (IsS104.ge HI0.out)) | exact HB.out)) hb); have BK328 := Aside0.mk (hbox); have GW328 := Aside0.mk ((by rw [hg]; exact (keep_size (w := w) (g := g) (row := none) (by repeat (first | (with_reducible first | exact HK.out | apply KeepBut.set_ | apply keep_drewN | apply keep_drew | apply keep_alloc) | exact HK.out))) : w.heap.size ≤ gb328)); have GE328 := Aside0.mk ((Nat.le_trans HW0.out (by rw [hg]; exact (keep_size (w := w) (g := g) (row := none) (by repeat (first | (with_reducible first | exact HK.out | apply KeepBut.set_ | apply keep_drewN | apply keep_drew | apply keep_alloc) | exact HK.out))) : w.heap.size ≤ gb328) : w0.heap.size ≤ gb328)); replace HK := Aside0.mk (KeepBut.trans (by repeat (first | (with_reducible first | exact HK.out | apply KeepBut.set_ | apply keep_drewN | apply keep_drew | apply keep_alloc) | exact HK.out)) (KeepBut.of_below hb g none) (.inl rfl)); have NB0_328 := Aside0.mk ((by rw [hg]; exact Nat.ne_of_lt (IsS104.lt (show IsS104 w0 _ g s0_0 s0_1 s0_2 from by repeat (first | (with_reducible first | exact HI0.out | apply IsS104.alloc | apply IsS104.drewN | apply IsS104.drew | apply IsS104.set_1 | apply IsS104.set_2) | exact HI0.out))) : g ≠ gb328)); have NB328_0 := Aside0.mk ((by rw [hg]; exact Nat.ne_of_gt (IsS104.lt (show IsS104 w0 _ g s0_0 s0_1 s0_2 from by repeat (first | (with_reducible first | exact HI0.out | apply IsS104.alloc | apply IsS104.drewN | apply IsS104.drew | apply IsS104.set_1 | apply IsS104.set_2) | exact HI0.out))) : gb328 ≠ g)); replace HI0 := Aside0.mk (IsS104.below (by repeat (first | (with_reducible first | exact HI0.out | apply IsS104.alloc | apply IsS104.drewN | apply IsS104.drew | apply IsS104.set_1 | apply IsS104.set_2) | exact HI0.out)) hb); clear hb hbox hg) | ((with_reducible refine gate_callee (f := 90) rfl ?_); refine goesL_ (some 7) rfl rfl Try.func90 (by kernel_rfl) rfl #[.int .i64 200] rfl ar_ ?_; (with_reducible refine (spec_DiskNew.calls 200 t329 t332 t333 t334 _ A2.out).mono ?_); rintro e w5 ⟨v330, rfl, ho0, hb⟩; refine ⟨_, rfl, ?_⟩; have HO331 := Aside0.mk (Kd.R_lower ho0 (keep_size (w := w) (g := g) (row := none) (by repeat (first | (with_reducible first | exact HK.out | apply KeepBut.set_ | apply keep_drewN | apply keep_drew | apply keep_alloc | refine keep_far ?_ GW328.out _) | exact HK.out)))); replace BK328 := bb_ BK328 hb; replace HK := Aside0.mk (KeepBut.trans (by repeat (first | (with_reducible first | exact HK.out | apply KeepBut.set_ | apply keep_drewN | apply keep_drew | apply keep_alloc | refine keep_far ?_ GW328.out _) | exact HK.out)) (KeepBut.of_below hb g none) (.inl rfl)); replace HB := Aside0.mk (below_step (by repeat (first | (with_reducible first | exact HB.out | apply below_alloc | apply pw_below_drewN | apply below_drew1 | refine below_set ?_ (IsS104.ge HI0.out) | refine below_set ?_ GE328.out) | exact HB.out)) hb); replace HI0 := Aside0.mk (IsS104.below (by repeat (first | (with_reducible first | exact HI0.out | apply IsS104.alloc | apply IsS104.drewN | apply IsS104.drew | apply IsS104.set_1 | apply IsS104.set_2 | refine IsS104.far ?_ NB0_328.out _) | exact HI0.out)) hb); (try clear hb); (try clear hb2); (try clear hk); (try clear hi); (try clear ho0)) | ((with_reducible refine gate_dst (N := 3) rfl ?_); refine box_event ?hg (N := 3) ?hd (cs := #[.slice none 0 0, .int .i64 0, .int .i64 0, .bool false]) (t := 29) ?hr ?_; (case hd => rfl); (case hg => rfl); (case hr => first | (go_simp; done) | (go_simp; rfl)); intro gb335 hg w6 hbox hb; replace HO331 := rb_ HO331 hb; replace HB := Aside0.mk (below_step (by repeat (first | (with_reducible first | exact HB.out | apply below_alloc | apply pw_below_drewN | apply below_drew1 | refine below_set ?_ (IsS104.ge HI0.out) | refine below_set ?_ GE328.out) | exact HB.out)) hb); have BK335 := Aside0.mk (hbox); have GW335 := Aside0.mk ((by rw [hg]; exact (keep_size (w := w) (g := g) (row := none) (by repeat (first | (with_reducible first | exact HK.out | apply KeepBut.set_ | apply keep_drewN | apply keep_drew | apply keep_alloc | refine keep_far ?_ GW328.out _) | exact HK.out))) : w.heap.size ≤ gb335)); have GE335 := Aside0.mk ((Nat.le_trans HW0.out (by rw [hg]; exact (keep_size (w := w) (g := g) (row := none) (by repeat (first | (with_reducible first | exact HK.out | apply KeepBut.set_ | apply keep_drewN | apply keep_drew | apply keep_alloc | refine keep_far ?_ GW328.out _) | exact HK.out))) : w.heap.size ≤ gb335) : w0.heap.size ≤ gb335)); replace HK := Aside0.mk (KeepBut.trans (by repeat (first | (with_reducible first | exact HK.out | apply KeepBut.set_ | apply keep_drewN | apply keep_drew | apply keep_alloc | refine keep_far ?_ GW328.out _) | exact HK.out)) (KeepBut.of_below hb g none) (.inl rfl)); have NB328_335 := nl_ BK328 hg; have NB335_328 := ng_ BK328 hg; replace BK328 := bb_ BK328 hb; have NB0_335 := Aside0.mk ((by rw [hg]; exact Nat.ne_of_lt (IsS104.lt (show IsS104 w0 _ g s0_0 s0_1 s0_2 from by repeat (first | (with_reducible first | exact HI0.out | apply IsS104.alloc | apply IsS104.drewN | apply IsS104.drew | apply IsS104.set_1 | apply IsS104.set_2 | refine IsS104.far ?_ NB0_328.out _) | exact HI0.out))) : g ≠ gb335)); have NB335_0 := Aside0.mk ((by rw [hg]; exact Nat.ne_of_gt (IsS104.lt (show IsS104 w0 _ g s0_0 s0_1 s0_2 from by repeat (first | (with_reducible first | exact HI0.out | apply IsS104.alloc | apply IsS104.drewN | apply IsS104.drew | apply IsS104.set_1 | apply IsS104.set_2 | refine IsS104.far ?_ NB0_328.out _) | exact HI0.out))) : gb335 ≠ g)); replace HI0 := Aside0.mk (IsS104.below (by repeat (first | (with_reducible first | exact HI0.out | apply IsS104.alloc | apply IsS104.drewN | apply IsS104.drew | apply IsS104.set_1 | apply IsS104.set_2 | refine IsS104.far ?_ NB0_328.out _) | exact HI0.out)) hb); clear hb hbox hg; obtain ⟨Ao7, co7, eo7⟩ := Kd.R_slice HO331.out; subst eo7; have hnb8 := NB335_328.out; have hnc8 := NB328_335.out; have hnb9 := NB335_0.out; have hnc9 := NB0_335.out; obtain ⟨hcz10_0, hcz10_1, hcz10_2, hcz10_3, hfz10_0, hfz10_1, hfz10_2, hfz10_3⟩ := bc4_ BK335) | ((with_reducible refine gate_callee (f := 73) rfl ?_); refine goesL_ (some 9) rfl rfl Try.func73 (by kernel_rfl) rfl #[.pointer (some ⟨g, 0, none⟩), .int .i64 12] rfl ar_ ?_; (with_reducible refine (spec_l1Below.calls g s0_0 s0_1 s0_2 12 t336 t337 t338 w0 _ ?side1 ?side2 A3.out).mono ?_); (case side1 => repeat (first | (with_reducible first | exact HI0.out | apply IsS104.alloc | apply IsS104.drewN | apply IsS104.drew | apply IsS104.set_1 | apply IsS104.set_2 | refine IsS104.far ?_ NB0_328.out _ | refine IsS104.far ?_ NB0_335.out _) | exact HI0.out)); (case side2 => repeat (first | (with_reducible first | exact HB.out | apply below_alloc | apply pw_below_drewN | apply below_drew1 | refine below_set ?_ (IsS104.ge HI0.out) | refine below_set ?_ GE328.out | refine below_set ?_ GE335.out) | exact HB.out)); rintro e w11 ⟨rfl, hi, hb, hk⟩; refine ⟨_, rfl, ?_⟩; replace BK328 := Aside0.mk (KeepBut.blk hk (g' := gb328) (o := .cells #[.slice none 0 0, .int .i64 0, .int .i64 0, .bool false] 29 (0, 0)) (by (with_reducible repeat (first | refine blk_drewN ?_ _ | refine blk_drew ?_ | refine blk_alloc ?_ _)); refine blk_far ?_ NB328_335.out _; (with_reducible repeat (first | refine blk_drewN ?_ _ | refine blk_drew ?_ | refine blk_alloc ?_ _)); refine blk_far ?_ NB328_335.out _; (with_reducible repeat (first | refine blk_drewN ?_ _ | refine blk_drew ?_ | refine blk_alloc ?_ _)); refine blk_far ?_ NB328_335.out _; (with_reducible repeat (first | refine blk_drewN ?_ _ | refine blk_drew ?_ | refine blk_alloc ?_ _)); refine blk_far ?_ NB328_335.out _; (with_reducible repeat (first | refine blk_drewN ?_ _ | refine blk_drew ?_ | refine blk_alloc ?_ _)); exact BK328.out) NB328_0.out (by simp)); replace HO331 := Aside0.mk (Kd.R_mono (Kd.R_keep (IsS104.apart (show IsS104 w0 _ g s0_0 s0_1 s0_2 from by repeat (first | (with_reducible first | exact HI0.out | apply IsS104.alloc | apply IsS104.drewN | apply IsS104.drew | apply IsS104.set_1 | apply IsS104.set_2 | refine IsS104.far ?_ NB0_328.out _ | refine IsS104.far ?_ NB0_335.out _) | exact HI0.out)) (by (with_reducible repeat (first | apply Kd.R_alloc | apply Kd.R_drewN | apply Kd.R_drew)); exact (Kd.R_mono (Kd.R_far (p := ⟨gb335, 3, none⟩) (Kd.R_far (p := ⟨gb335, 2, none⟩) (Kd.R_far (p := ⟨gb335, 1, none⟩) (Kd.R_far (p := ⟨gb335, 0, none⟩) (Kd.R_types HO331.out BK335.out (by decide)) (fun _ hk => hk.2) (.slice Ao7 t329.length co7)) (fun _ hk => hk.2) (.int .i64 t332)) (fun _ hk => hk.2) (.int .i64 t333)) (fun _ hk => hk.2) (.bool t334)) (fun _ h_ => h_.1))) (by decide)) hk (fun _ h => h.2)) (fun _ h => h.1)); replace BK335 := Aside0.mk (KeepBut.blk hk (g' := gb335) (o := .cells #[.slice Ao7 t329.length co7, .int .i64 t332, .int .i64 t333, .bool t334] 29 (0, 0)) (up_ _ BK335 rfl).out NB335_0.out (by simp)); replace HK := Aside0.mk (KeepBut.trans (by repeat (first | (with_reducible first | exact HK.out | apply KeepBut.set_ | apply keep_drewN | apply keep_drew | apply keep_alloc | refine keep_far ?_ GW328.out _ | refine keep_far ?_ GW335.out _) | exact HK.out)) hk (.inl rfl)); replace HB := Aside0.mk (hb); replace HI0 := Aside0.mk (hi); (try clear hb); (try clear hb2); (try clear hk); (try clear hi)))
 go_loopg [4] k (fun kq v4 w' => ∃ (x4_1 : Int) (x1001_1 : Int) (x1002_1 : Int) (x336000_1 : List (S45)) (x336001_1 : Int) (x336002_1 : Int) (x336003_1 : Bool) (u336000 : Value), v4 = .int .i64 x4_1 ∧ Aside0 (spec_l3Disk.l0 kq x4_1 s0_0 x1001_1 x1002_1 x336000_1 x336001_1 x336002_1 x336003_1 = some (r1, r2, r3, r4, r5, r6)) ∧ Aside0 (kq ≤ k) ∧ Aside0 (Kd.R k45 45 w' w.heap.size (fun _ => True) u336000 x336000_1) ∧ Aside0 (w'.heap[gb328]? = some (.cells #[(.slice none 0 0), .int .i64 0, .int .i64 0, .bool false] 29 (0, 0))) ∧ Aside0 (w'.heap[gb335]? = some (.cells #[u336000, .int .i64 x336001_1, .int .i64 x336002_1, .bool x336003_1] 29 (0, 0))) ∧ Aside0 (IsS104 w0 w' g s0_0 x1001_1 x1002_1) ∧ Aside0 (KeepBut w w' g none) ∧ Aside0 (Below w0.heap.size w0 w'))
 case atStart => exact ⟨(t336), (t337), (t338), (t329), (t332), (t333), (t334), (.slice Ao7 t329.length co7), rs_, H', ⟨Nat.le_refl _⟩, ⟨rr_ HO331⟩, ⟨bk_ BK328⟩, ⟨bk_ BK335⟩, ⟨by repeat (first | (with_reducible first | exact HI0.out | apply IsS104.alloc | apply IsS104.drewN | apply IsS104.drew | apply IsS104.set_1 | apply IsS104.set_2 | refine IsS104.far ?_ NB0_328.out _ | refine IsS104.far ?_ NB0_335.out _) | exact HI0.out)⟩, ⟨by repeat (first | (with_reducible first | exact HK.out | apply KeepBut.set_ | apply keep_drewN | apply keep_drew | apply keep_alloc | refine keep_far ?_ GW328.out _ | refine keep_far ?_ GW335.out _) | exact HK.out)⟩, ⟨by repeat (first | (with_reducible first | exact HB.out | apply below_alloc | apply pw_below_drewN | apply below_drew1 | refine below_set ?_ (IsS104.ge HI0.out) | refine below_set ?_ GE328.out | refine below_set ?_ GE335.out) | exact HB.out)⟩⟩
 case round =>
  clear H'
  try clear p2
  try clear c7
  try clear c8
  try clear c9
  try clear hcz10_0 hcz10_1 hcz10_2 hcz10_3 hfz10_0 hfz10_1 hfz10_2 hfz10_3
  obtain ⟨x4_1, x1001_1, x1002_1, x336000_1, x336001_1, x336002_1, x336003_1, u336000, rfl, HA, HK1, HO_336000, BK328, BK335, HI0, HK, HB⟩ := hrel
  cases gk with
  | zero => exact absurd HA.out (by simp [spec_l3Disk.l0])
  | succ k1 =>
   have H := HA.out
   clear HA
   simp only [spec_l3Disk.l0] at H
   by_cases c12 : x4_1 > 0
   ·rw [if_pos c12] at H
    have c12b0 : decide (0 < x4_1) = true := decide_eq_true c12
    clear c12
    replace H := Option.bind_eq_some_iff.mp H
    obtain ⟨⟨t339, t340, t341⟩, A130, H⟩ := H
    replace H : ((spec_l1Below.f s0_0 t340 t341 6).bind fun bt343 => (if bt343.1 = 0 then (spec_l3Disk.j1 k1 x4_1 t339 bt343.1 (bt343.1 == 0) s0_0 bt343.2.1 bt343.2.2 x336000_1 x336001_1 x336002_1 x336003_1) else (spec_l3Disk.j1 k1 x4_1 t339 bt343.1 (bt343.1 == 1) s0_0 bt343.2.1 bt343.2.2 x336000_1 x336001_1 x336002_1 x336003_1))) = some (r1, r2, r3, r4, r5, r6) := H
    have A13 := Aside0.mk A130
    clear A130
    replace H := Option.bind_eq_some_iff.mp H
    obtain ⟨⟨t343, t344, t345⟩, A140, H⟩ := H
    replace H : (if t343 = 0 then (spec_l3Disk.j1 k1 x4_1 t339 t343 (t343 == 0) s0_0 t344 t345 x336000_1 x336001_1 x336002_1 x336003_1) else (spec_l3Disk.j1 k1 x4_1 t339 t343 (t343 == 1) s0_0 t344 t345 x336000_1 x336001_1 x336002_1 x336003_1)) = some (r1, r2, r3, r4, r5, r6) := H
    have A14 := Aside0.mk A140
    clear A140
    have HC15 := Aside0.mk H
    clear H
    go_upto_if 27 with (first | ((with_reducible refine gate_callee (f := 91) rfl ?_); refine goesL_ (some 15) rfl rfl Try.func91 (by kernel_rfl) rfl #[.pointer (some ⟨g, 0, none⟩)] rfl ar_ ?_; (with_reducible refine (spec_l3Name.calls g s0_0 x1001_1 x1002_1 t339 t340 t341 w0 _ ?side1 ?side2 A13.out).mono ?_); (case side1 => repeat (first | (with_reducible first | exact HI0.out | apply IsS104.alloc | apply IsS104.drewN | apply IsS104.drew | apply IsS104.set_1 | apply IsS104.set_2 | refine IsS104.far ?_ NB0_328.out _ | refine IsS104.far ?_ NB0_335.out _) | exact HI0.out)); (case side2 => repeat (first | (with_reducible first | exact HB.out | apply below_alloc | apply pw_below_drewN | apply below_drew1 | refine below_set ?_ (IsS104.ge HI0.out) | refine below_set ?_ GE328.out | refine below_set ?_ GE335.out) | exact HB.out)); rintro e w16 ⟨rfl, hi, hb, hk⟩; refine ⟨_, rfl, ?_⟩; replace HO_336000 := Aside0.mk (Kd.R_mono (Kd.R_keep (IsS104.apart (show IsS104 w0 _ g s0_0 x1001_1 x1002_1 from by repeat (first | (with_reducible first | exact HI0.out | apply IsS104.alloc | apply IsS104.drewN | apply IsS104.drew | apply IsS104.set_1 | apply IsS104.set_2 | refine IsS104.far ?_ NB0_328.out _ | refine IsS104.far ?_ NB0_335.out _) | exact HI0.out)) (rr_ HO_336000) (by decide)) hk (fun _ h => h.2)) (fun _ h => h.1)); replace BK328 := Aside0.mk (KeepBut.blk hk (g' := gb328) (o := .cells #[.slice none 0 0, .int .i64 0, .int .i64 0, .bool false] 29 (0, 0)) (bk_ BK328) NB328_0.out (by simp)); replace BK335 := Aside0.mk (KeepBut.blk hk (g' := gb335) (o := .cells #[u336000, .int .i64 x336001_1, .int .i64 x336002_1, .bool x336003_1] 29 (0, 0)) (bk_ BK335) NB335_0.out (by simp)); replace HK := Aside0.mk (KeepBut.trans (by repeat (first | (with_reducible first | exact HK.out | apply KeepBut.set_ | apply keep_drewN | apply keep_drew | apply keep_alloc | refine keep_far ?_ GW328.out _ | refine keep_far ?_ GW335.out _) | exact HK.out)) hk (.inl rfl)); replace HB := Aside0.mk (hb); replace HI0 := Aside0.mk (hi); (try clear hb); (try clear hb2); (try clear hk); (try clear hi); have hnb17 := NB335_328.out; have hnc17 := NB328_335.out; have hnb18 := NB335_0.out; have hnc18 := NB0_335.out; obtain ⟨hcz19_0, hcz19_1, hcz19_2, hcz19_3, hfz19_0, hfz19_1, hfz19_2, hfz19_3⟩ := bc4_ BK335) | ((with_reducible refine gate_dst (N := 6) rfl ?_); refine box_event ?hg (N := 6) ?hd (cs := #[.slice none 0 0, .int .i64 0, .int .i64 0, .bool false]) (t := 29) ?hr ?_; (case hd => rfl); (case hg => rfl); (case hr => first | (go_simp; done) | (go_simp; rfl)); intro gb342 hg w20 hbox hb; replace HO_336000 := rb_ HO_336000 hb; replace HB := Aside0.mk (below_step (by repeat (first | (with_reducible first | exact HB.out | apply below_alloc | apply pw_below_drewN | apply below_drew1 | refine below_set ?_ (IsS104.ge HI0.out) | refine below_set ?_ GE328.out | refine below_set ?_ GE335.out) | exact HB.out)) hb); have BK342 := Aside0.mk (hbox); have GW342 := Aside0.mk ((by rw [hg]; exact (keep_size (w := w) (g := g) (row := none) (by repeat (first | (with_reducible first | exact HK.out | apply KeepBut.set_ | apply keep_drewN | apply keep_drew | apply keep_alloc | refine keep_far ?_ GW328.out _ | refine keep_far ?_ GW335.out _) | exact HK.out))) : w.heap.size ≤ gb342)); have GE342 := Aside0.mk ((Nat.le_trans HW0.out (by rw [hg]; exact (keep_size (w := w) (g := g) (row := none) (by repeat (first | (with_reducible first | exact HK.out | apply KeepBut.set_ | apply keep_drewN | apply keep_drew | apply keep_alloc | refine keep_far ?_ GW328.out _ | refine keep_far ?_ GW335.out _) | exact HK.out))) : w.heap.size ≤ gb342) : w0.heap.size ≤ gb342)); replace HK := Aside0.mk (KeepBut.trans (by repeat (first | (with_reducible first | exact HK.out | apply KeepBut.set_ | apply keep_drewN | apply keep_drew | apply keep_alloc | refine keep_far ?_ GW328.out _ | refine keep_far ?_ GW335.out _) | exact HK.out)) (KeepBut.of_below hb g none) (.inl rfl)); have NB328_342 := nl_ BK328 hg; have NB342_328 := ng_ BK328 hg; replace BK328 := bb_ BK328 hb; have NB335_342 := nl_ BK335 hg; have NB342_335 := ng_ BK335 hg; replace BK335 := bb_ BK335 hb; have NB0_342 := Aside0.mk ((by rw [hg]; exact Nat.ne_of_lt (IsS104.lt (show IsS104 w0 _ g s0_0 t340 t341 from by repeat (first | (with_reducible first | exact HI0.out | apply IsS104.alloc | apply IsS104.drewN | apply IsS104.drew | apply IsS104.set_1 | apply IsS104.set_2 | refine IsS104.far ?_ NB0_328.out _ | refine IsS104.far ?_ NB0_335.out _) | exact HI0.out))) : g ≠ gb342)); have NB342_0 := Aside0.mk ((by rw [hg]; exact Nat.ne_of_gt (IsS104.lt (show IsS104 w0 _ g s0_0 t340 t341 from by repeat (first | (with_reducible first | exact HI0.out | apply IsS104.alloc | apply IsS104.drewN | apply IsS104.drew | apply IsS104.set_1 | apply IsS104.set_2 | refine IsS104.far ?_ NB0_328.out _ | refine IsS104.far ?_ NB0_335.out _) | exact HI0.out))) : gb342 ≠ g)); replace HI0 := Aside0.mk (IsS104.below (by repeat (first | (with_reducible first | exact HI0.out | apply IsS104.alloc | apply IsS104.drewN | apply IsS104.drew | apply IsS104.set_1 | apply IsS104.set_2 | refine IsS104.far ?_ NB0_328.out _ | refine IsS104.far ?_ NB0_335.out _) | exact HI0.out)) hb); clear hb hbox hg; obtain ⟨Ao21, co21, eo21⟩ := Kd.R_slice HO_336000.out; subst eo21; have hnb22 := NB342_328.out; have hnc22 := NB328_342.out; have hnb23 := NB342_335.out; have hnc23 := NB335_342.out; have hnb24 := NB342_0.out; have hnc24 := NB0_342.out; obtain ⟨hcz25_0, hcz25_1, hcz25_2, hcz25_3, hfz25_0, hfz25_1, hfz25_2, hfz25_3⟩ := bc4_ BK342) | ((with_reducible refine gate_callee (f := 73) rfl ?_); refine goesL_ (some 18) rfl rfl Try.func73 (by kernel_rfl) rfl #[.pointer (some ⟨g, 0, none⟩), .int .i64 6] rfl ar_ ?_; (with_reducible refine (spec_l1Below.calls g s0_0 t340 t341 6 t343 t344 t345 w0 _ ?side1 ?side2 A14.out).mono ?_); (case side1 => repeat (first | (with_reducible first | exact HI0.out | apply IsS104.alloc | apply IsS104.drewN | apply IsS104.drew | apply IsS104.set_1 | apply IsS104.set_2 | refine IsS104.far ?_ NB0_328.out _ | refine IsS104.far ?_ NB0_335.out _ | refine IsS104.far ?_ NB0_342.out _) | exact HI0.out)); (case side2 => repeat (first | (with_reducible first | exact HB.out | apply below_alloc | apply pw_below_drewN | apply below_drew1 | refine below_set ?_ (IsS104.ge HI0.out) | refine below_set ?_ GE328.out | refine below_set ?_ GE335.out | refine below_set ?_ GE342.out) | exact HB.out)); rintro e w26 ⟨rfl, hi, hb, hk⟩; refine ⟨_, rfl, ?_⟩; replace HO_336000 := Aside0.mk (Kd.R_mono (Kd.R_keep (IsS104.apart (show IsS104 w0 _ g s0_0 t340 t341 from by repeat (first | (with_reducible first | exact HI0.out | apply IsS104.alloc | apply IsS104.drewN | apply IsS104.drew | apply IsS104.set_1 | apply IsS104.set_2 | refine IsS104.far ?_ NB0_328.out _ | refine IsS104.far ?_ NB0_335.out _ | refine IsS104.far ?_ NB0_342.out _) | exact HI0.out)) (by (with_reducible repeat (first | apply Kd.R_alloc | apply Kd.R_drewN | apply Kd.R_drew)); exact (Kd.R_mono (Kd.R_far (p := ⟨gb342, 3, none⟩) (Kd.R_far (p := ⟨gb342, 2, none⟩) (Kd.R_far (p := ⟨gb342, 1, none⟩) (Kd.R_far (p := ⟨gb342, 0, none⟩) (Kd.R_types HO_336000.out BK342.out (by decide)) (fun _ hk => hk.2) (.slice Ao21 x336000_1.length co21)) (fun _ hk => hk.2) (.int .i64 x336001_1)) (fun _ hk => hk.2) (.int .i64 x336002_1)) (fun _ hk => hk.2) (.bool x336003_1)) (fun _ h_ => h_.1))) (by decide)) hk (fun _ h => h.2)) (fun _ h => h.1)); replace BK328 := Aside0.mk (KeepBut.blk hk (g' := gb328) (o := .cells #[.slice none 0 0, .int .i64 0, .int .i64 0, .bool false] 29 (0, 0)) (by (with_reducible repeat (first | refine blk_drewN ?_ _ | refine blk_drew ?_ | refine blk_alloc ?_ _)); refine blk_far ?_ NB328_342.out _; (with_reducible repeat (first | refine blk_drewN ?_ _ | refine blk_drew ?_ | refine blk_alloc ?_ _)); refine blk_far ?_ NB328_342.out _; (with_reducible repeat (first | refine blk_drewN ?_ _ | refine blk_drew ?_ | refine blk_alloc ?_ _)); refine blk_far ?_ NB328_342.out _; (with_reducible repeat (first | refine blk_drewN ?_ _ | refine blk_drew ?_ | refine blk_alloc ?_ _)); refine blk_far ?_ NB328_342.out _; (with_reducible repeat (first | refine blk_drewN ?_ _ | refine blk_drew ?_ | refine blk_alloc ?_ _)); exact BK328.out) NB328_0.out (by simp)); replace BK335 := Aside0.mk (KeepBut.blk hk (g' := gb335) (o := .cells #[.slice Ao21 x336000_1.length co21, .int .i64 x336001_1, .int .i64 x336002_1, .bool x336003_1] 29 (0, 0)) (by (with_reducible repeat (first | refine blk_drewN ?_ _ | refine blk_drew ?_ | refine blk_alloc ?_ _)); refine blk_far ?_ NB335_342.out _; (with_reducible repeat (first | refine blk_drewN ?_ _ | refine blk_drew ?_ | refine blk_alloc ?_ _)); refine blk_far ?_ NB335_342.out _; (with_reducible repeat (first | refine blk_drewN ?_ _ | refine blk_drew ?_ | refine blk_alloc ?_ _)); refine blk_far ?_ NB335_342.out _; (with_reducible repeat (first | refine blk_drewN ?_ _ | refine blk_drew ?_ | refine blk_alloc ?_ _)); refine blk_far ?_ NB335_342.out _; (with_reducible repeat (first | refine blk_drewN ?_ _ | refine blk_drew ?_ | refine blk_alloc ?_ _)); exact BK335.out) NB335_0.out (by simp)); replace BK342 := Aside0.mk (KeepBut.blk hk (g' := gb342) (o := .cells #[.slice Ao21 x336000_1.length co21, .int .i64 x336001_1, .int .i64 x336002_1, .bool x336003_1] 29 (0, 0)) (up_ _ BK342 rfl).out NB342_0.out (by simp)); replace HK := Aside0.mk (KeepBut.trans (by repeat (first | (with_reducible first | exact HK.out | apply KeepBut.set_ | apply keep_drewN | apply keep_drew | apply keep_alloc | refine keep_far ?_ GW328.out _ | refine keep_far ?_ GW335.out _ | refine keep_far ?_ GW342.out _) | exact HK.out)) hk (.inl rfl)); replace HB := Aside0.mk (hb); replace HI0 := Aside0.mk (hi); (try clear hb); (try clear hb2); (try clear hk); (try clear hi)))
    (try simp only [Act.put, la_, lz_, ls_])
    go_cut [27] (fun v27 wc => ∃ (kq : Nat) (x27_14 : Bool), v27 = .bool x27_14 ∧ Aside0 (spec_l3Disk.j1 kq x4_1 t339 t343 x27_14 s0_0 t344 t345 x336000_1 x336001_1 x336002_1 x336003_1 = some (r1, r2, r3, r4, r5, r6)) ∧ Aside0 (kq ≤ k1) ∧ Aside0 (Kd.R k45 45 wc w.heap.size (fun _ => True) (.slice Ao21 x336000_1.length co21) x336000_1) ∧ Aside0 (Kd.R k45 45 wc w.heap.size (fun _ => True) (.slice Ao21 x336000_1.length co21) x336000_1) ∧ Aside0 (wc.heap[gb328]? = some (.cells #[(.slice none 0 0), .int .i64 0, .int .i64 0, .bool false] 29 (0, 0))) ∧ Aside0 (wc.heap[gb335]? = some (.cells #[(.slice Ao21 x336000_1.length co21), .int .i64 x336001_1, .int .i64 x336002_1, .bool x336003_1] 29 (0, 0))) ∧ Aside0 (wc.heap[gb342]? = some (.cells #[(.slice Ao21 x336000_1.length co21), .int .i64 x336001_1, .int .i64 x336002_1, .bool x336003_1] 29 (0, 0))) ∧ Aside0 (IsS104 w0 wc g s0_0 t344 t345) ∧ Aside0 (KeepBut w wc g none) ∧ Aside0 (Below w0.heap.size w0 wc))
    case first =>
     have H := HC15.out
     clear HC15
     by_cases c27 : t343 = 0
     ·rw [if_pos c27] at H
      have c27b0 : (t343 == 0) = true := beq_iff_eq.mpr c27
      have c27b1 : (t343 != 0) = false := bne_eq_false_iff_eq.mpr c27
      clear c27
      (first | rw [c27b0] | (simp only [i64_w, i32_w]; rw [c27b0]) | skip)
      have H' := Aside0.mk H
      clear H
      go_wp2
      go_meet
      case rel => exact ⟨_, ((t343 == 0)), rs_, H', ⟨by have := HK1.out; first | exact Nat.le_refl _ | exact Nat.le_of_succ_le this | omega⟩, ⟨rr_ HO_336000⟩, ⟨rr_ HO_336000⟩, ⟨bk_ BK328⟩, ⟨bk_ BK335⟩, ⟨bk_ BK342⟩, ⟨by repeat (first | (with_reducible first | exact HI0.out | apply IsS104.alloc | apply IsS104.drewN | apply IsS104.drew | apply IsS104.set_1 | apply IsS104.set_2 | refine IsS104.far ?_ NB0_328.out _ | refine IsS104.far ?_ NB0_335.out _ | refine IsS104.far ?_ NB0_342.out _) | exact HI0.out)⟩, ⟨by repeat (first | (with_reducible first | exact HK.out | apply KeepBut.set_ | apply keep_drewN | apply keep_drew | apply keep_alloc | refine keep_far ?_ GW328.out _ | refine keep_far ?_ GW335.out _ | refine keep_far ?_ GW342.out _) | exact HK.out)⟩, ⟨by repeat (first | (with_reducible first | exact HB.out | apply below_alloc | apply pw_below_drewN | apply below_drew1 | refine below_set ?_ (IsS104.ge HI0.out) | refine below_set ?_ GE328.out | refine below_set ?_ GE335.out | refine below_set ?_ GE342.out) | exact HB.out)⟩⟩
     ·rw [if_neg c27] at H
      have c27b0 : (t343 == 0) = false := beq_eq_false_iff_ne.mpr c27
      have c27b1 : (t343 != 0) = true := bne_iff_ne.mpr c27
      (first | rw [c27b0] | (simp only [i64_w, i32_w]; rw [c27b0]) | skip)
      have H' := Aside0.mk H
      clear H
      go_wp2
      go_meet
      case rel => exact ⟨_, ((t343 == 1)), rs_, H', ⟨by have := HK1.out; first | exact Nat.le_refl _ | exact Nat.le_of_succ_le this | omega⟩, ⟨rr_ HO_336000⟩, ⟨rr_ HO_336000⟩, ⟨bk_ BK328⟩, ⟨bk_ BK335⟩, ⟨bk_ BK342⟩, ⟨by repeat (first | (with_reducible first | exact HI0.out | apply IsS104.alloc | apply IsS104.drewN | apply IsS104.drew | apply IsS104.set_1 | apply IsS104.set_2 | refine IsS104.far ?_ NB0_328.out _ | refine IsS104.far ?_ NB0_335.out _ | refine IsS104.far ?_ NB0_342.out _) | exact HI0.out)⟩, ⟨by repeat (first | (with_reducible first | exact HK.out | apply KeepBut.set_ | apply keep_drewN | apply keep_drew | apply keep_alloc | refine keep_far ?_ GW328.out _ | refine keep_far ?_ GW335.out _ | refine keep_far ?_ GW342.out _) | exact HK.out)⟩, ⟨by repeat (first | (with_reducible first | exact HB.out | apply below_alloc | apply pw_below_drewN | apply below_drew1 | refine below_set ?_ (IsS104.ge HI0.out) | refine below_set ?_ GE328.out | refine below_set ?_ GE335.out | refine below_set ?_ GE342.out) | exact HB.out)⟩⟩
    case rest =>
     clear HC15
     try clear c1
     try clear c2
     try clear p2
     try clear c7
     try clear c8
     try clear c9
     try clear c12
     try clear c12b0
     try clear c17
     try clear c18
     try clear c22
     try clear c23
     try clear c24
     try clear c27
     try clear c27b0
     try clear c27b1
     try clear hcz10_0 hcz10_1 hcz10_2 hcz10_3 hfz10_0 hfz10_1 hfz10_2 hfz10_3
     try clear hcz19_0 hcz19_1 hcz19_2 hcz19_3 hfz19_0 hfz19_1 hfz19_2 hfz19_3
     try clear hcz25_0 hcz25_1 hcz25_2 hcz25_3 hfz25_0 hfz25_1 hfz25_2 hfz25_3
     try clear p2
     obtain ⟨kq, x27_14, rfl, HA, HJ14, HO_336000, HO_343000, BK328, BK335, BK342, HI0, HK, HB⟩ := hcut
     cases kq with
     | zero => exact absurd HA.out (by simp [spec_l3Disk.j1])
     | succ kj14 =>
      have H := HA.out
      clear HA
      simp only [spec_l3Disk.j1] at H
      by_cases c28 : x27_14 = true
      ·subst c28
       have H1 : ((spec_Create.f kj14 x336000_1 x336001_1 x336002_1 x336003_1 t339).bind fun bt346 => (spec_l3Disk.l0 kj14 (wrap64 (x4_1 - 1)) s0_0 t344 t345 bt346.1 bt346.2.1 bt346.2.2.1 bt346.2.2.2.1)) = some (r1, r2, r3, r4, r5, r6) := by rw [if_pos rfl] at H; exact H
       clear H
       have H := H1
       clear H1
       replace H := Option.bind_eq_some_iff.mp H
       obtain ⟨⟨t346, t349, t350, t351, t352⟩, A290, H⟩ := H
       replace H : (spec_l3Disk.l0 kj14 (wrap64 (x4_1 - 1)) s0_0 t344 t345 t346 t349 t350 t351) = some (r1, r2, r3, r4, r5, r6) := H
       have A29 := Aside0.mk A290
       clear A290
       have H' := Aside0.mk H
       clear H
       have hnb30 := NB335_328.out
       have hnc30 := NB328_335.out
       have hnb31 := NB335_342.out
       have hnc31 := NB342_335.out
       have hnb32 := NB335_0.out
       have hnc32 := NB0_335.out
       obtain ⟨hcz33_0, hcz33_1, hcz33_2, hcz33_3, hfz33_0, hfz33_1, hfz33_2, hfz33_3⟩ := bc4_ BK335
       go_wp2_with (first | ((with_reducible refine gate_callee (f := 92) rfl ?_); refine goesL_ (some 33) rfl rfl Try.func92 (by kernel_rfl) rfl #[.agg #[.slice Ao21 x336000_1.length co21, .int .i64 x336001_1, .int .i64 x336002_1, .bool x336003_1], .string t339] rfl ar_ ?_; (with_reducible refine (spec_Create.calls kj14 _ _ x336000_1 x336001_1 x336002_1 x336003_1 t339 t346 t349 t350 t351 t352 _ ?side1 ?side2 A29.out).mono ?_); (case side1 => repeat (first | exact (Kd.R_reads' HO_336000.out).2.2 | (with_reducible refine Kd.C_alloc ?_ _) | (with_reducible refine Kd.C_drewN ?_ _) | (with_reducible refine Kd.C_drew ?_))); (case side2 => exact (Kd.R_reads' HO_336000.out).2.1); rintro e w34 ⟨v347, rfl, ho0, hb⟩; refine ⟨_, rfl, ?_⟩; have HO348 := Aside0.mk (Kd.R_lower (Kd.R_new' (Kd.R_new' ho0 (Kd.R_lt (rr_ HO_336000))) (Kd.R_lt (rr_ HO_343000))) (keep_size (w := w) (g := g) (row := none) (by repeat (first | (with_reducible first | exact HK.out | apply KeepBut.set_ | apply keep_drewN | apply keep_drew | apply keep_alloc | refine keep_far ?_ GW328.out _ | refine keep_far ?_ GW335.out _ | refine keep_far ?_ GW342.out _) | exact HK.out)))); replace HO_336000 := Aside0.mk (Kd.R_elder' (rr_ HO_336000) (Kd.R_base ho0) hb); replace HO_343000 := Aside0.mk (Kd.R_elder' (rr_ HO_343000) (Kd.R_base ho0) hb); replace BK328 := bb_ BK328 hb; replace BK335 := bb_ BK335 hb; replace BK342 := bb_ BK342 hb; replace HK := Aside0.mk (KeepBut.trans (by repeat (first | (with_reducible first | exact HK.out | apply KeepBut.set_ | apply keep_drewN | apply keep_drew | apply keep_alloc | refine keep_far ?_ GW328.out _ | refine keep_far ?_ GW335.out _ | refine keep_far ?_ GW342.out _) | exact HK.out)) (KeepBut.of_below hb g none) (.inl rfl)); replace HB := Aside0.mk (below_step (by repeat (first | (with_reducible first | exact HB.out | apply below_alloc | apply pw_below_drewN | apply below_drew1 | refine below_set ?_ (IsS104.ge HI0.out) | refine below_set ?_ GE328.out | refine below_set ?_ GE335.out | refine below_set ?_ GE342.out) | exact HB.out)) hb); replace HI0 := Aside0.mk (IsS104.below (by repeat (first | (with_reducible first | exact HI0.out | apply IsS104.alloc | apply IsS104.drewN | apply IsS104.drew | apply IsS104.set_1 | apply IsS104.set_2 | refine IsS104.far ?_ NB0_328.out _ | refine IsS104.far ?_ NB0_335.out _ | refine IsS104.far ?_ NB0_342.out _) | exact HI0.out)) hb); (try clear hb); (try clear hb2); (try clear hk); (try clear hi); (try clear ho0); obtain ⟨Ao35, co35, eo35⟩ := Kd.R_slice HO348.out; subst eo35; have hnb36 := NB342_328.out; have hnc36 := NB328_342.out; have hnb37 := NB342_0.out; have hnc37 := NB0_342.out; obtain ⟨hcz38_0, hcz38_1, hcz38_2, hcz38_3, hfz38_0, hfz38_1, hfz38_2, hfz38_3⟩ := bc4_ BK342; obtain ⟨hcz39_0, hcz39_1, hcz39_2, hcz39_3, hfz39_0, hfz39_1, hfz39_2, hfz39_3⟩ := bc4_ BK335))
       go_roundg kj14
       case measure => have := HK1.out; have := HJ14.out; omega
       case rel => exact ⟨(wrap64 (x4_1 - 1)), (t344), (t345), (t346), (t349), (t350), (t351), (.slice Ao35 t346.length co35), rs_, H', ⟨by have := HK1.out; have := HJ14.out; omega⟩, ⟨by (with_reducible repeat (first | apply Kd.R_alloc | apply Kd.R_drewN | apply Kd.R_drew)); exact Kd.R_mono (Kd.R_far (p := ⟨gb335, 3, none⟩) (Kd.R_far (p := ⟨gb335, 2, none⟩) (Kd.R_far (p := ⟨gb335, 1, none⟩) (Kd.R_far (p := ⟨gb335, 0, none⟩) (Kd.R_far (p := ⟨gb342, 3, none⟩) (Kd.R_far (p := ⟨gb342, 2, none⟩) (Kd.R_far (p := ⟨gb342, 1, none⟩) (Kd.R_far (p := ⟨gb342, 0, none⟩) (Kd.R_types (Kd.R_types HO348.out BK342.out (by decide)) BK335.out (by decide)) (fun _ hk => hk.1.2) (.slice Ao35 t346.length co35)) (fun _ hk => hk.1.2) (.int .i64 t349)) (fun _ hk => hk.1.2) (.int .i64 t350)) (fun _ hk => hk.1.2) (.bool t351)) (fun _ hk => hk.2) (.slice Ao35 t346.length co35)) (fun _ hk => hk.2) (.int .i64 t349)) (fun _ hk => hk.2) (.int .i64 t350)) (fun _ hk => hk.2) (.bool t351)) (fun _ hk => trivial)⟩, ⟨by (with_reducible repeat (first | refine blk_drewN ?_ _ | refine blk_drew ?_ | refine blk_alloc ?_ _)); refine blk_far ?_ NB328_335.out _; (with_reducible repeat (first | refine blk_drewN ?_ _ | refine blk_drew ?_ | refine blk_alloc ?_ _)); refine blk_far ?_ NB328_335.out _; (with_reducible repeat (first | refine blk_drewN ?_ _ | refine blk_drew ?_ | refine blk_alloc ?_ _)); refine blk_far ?_ NB328_335.out _; (with_reducible repeat (first | refine blk_drewN ?_ _ | refine blk_drew ?_ | refine blk_alloc ?_ _)); refine blk_far ?_ NB328_335.out _; (with_reducible repeat (first | refine blk_drewN ?_ _ | refine blk_drew ?_ | refine blk_alloc ?_ _)); refine blk_far ?_ NB328_342.out _; (with_reducible repeat (first | refine blk_drewN ?_ _ | refine blk_drew ?_ | refine blk_alloc ?_ _)); refine blk_far ?_ NB328_342.out _; (with_reducible repeat (first | refine blk_drewN ?_ _ | refine blk_drew ?_ | refine blk_alloc ?_ _)); refine blk_far ?_ NB328_342.out _; (with_reducible repeat (first | refine blk_drewN ?_ _ | refine blk_drew ?_ | refine blk_alloc ?_ _)); refine blk_far ?_ NB328_342.out _; (with_reducible repeat (first | refine blk_drewN ?_ _ | refine blk_drew ?_ | refine blk_alloc ?_ _)); exact BK328.out⟩, ⟨by (with_reducible repeat (first | refine blk_drewN ?_ _ | refine blk_drew ?_ | refine blk_alloc ?_ _)); refine blk_put (cs := #[.slice Ao35 t346.length co35, .int .i64 t349, .int .i64 t350, .bool x336003_1]) ?_ 3 _ rfl; (with_reducible repeat (first | refine blk_drewN ?_ _ | refine blk_drew ?_ | refine blk_alloc ?_ _)); refine blk_put (cs := #[.slice Ao35 t346.length co35, .int .i64 t349, .int .i64 x336002_1, .bool x336003_1]) ?_ 2 _ rfl; (with_reducible repeat (first | refine blk_drewN ?_ _ | refine blk_drew ?_ | refine blk_alloc ?_ _)); refine blk_put (cs := #[.slice Ao35 t346.length co35, .int .i64 x336001_1, .int .i64 x336002_1, .bool x336003_1]) ?_ 1 _ rfl; (with_reducible repeat (first | refine blk_drewN ?_ _ | refine blk_drew ?_ | refine blk_alloc ?_ _)); refine blk_put (cs := #[.slice Ao21 x336000_1.length co21, .int .i64 x336001_1, .int .i64 x336002_1, .bool x336003_1]) ?_ 0 _ rfl; (with_reducible repeat (first | refine blk_drewN ?_ _ | refine blk_drew ?_ | refine blk_alloc ?_ _)); refine blk_far ?_ NB335_342.out _; (with_reducible repeat (first | refine blk_drewN ?_ _ | refine blk_drew ?_ | refine blk_alloc ?_ _)); refine blk_far ?_ NB335_342.out _; (with_reducible repeat (first | refine blk_drewN ?_ _ | refine blk_drew ?_ | refine blk_alloc ?_ _)); refine blk_far ?_ NB335_342.out _; (with_reducible repeat (first | refine blk_drewN ?_ _ | refine blk_drew ?_ | refine blk_alloc ?_ _)); refine blk_far ?_ NB335_342.out _; (with_reducible repeat (first | refine blk_drewN ?_ _ | refine blk_drew ?_ | refine blk_alloc ?_ _)); exact BK335.out⟩, ⟨by repeat (first | (with_reducible first | exact HI0.out | apply IsS104.alloc | apply IsS104.drewN | apply IsS104.drew | apply IsS104.set_1 | apply IsS104.set_2 | refine IsS104.far ?_ NB0_328.out _ | refine IsS104.far ?_ NB0_335.out _ | refine IsS104.far ?_ NB0_342.out _) | exact HI0.out)⟩, ⟨by repeat (first | (with_reducible first | exact HK.out | apply KeepBut.set_ | apply keep_drewN | apply keep_drew | apply keep_alloc | refine keep_far ?_ GW328.out _ | refine keep_far ?_ GW335.out _ | refine keep_far ?_ GW342.out _) | exact HK.out)⟩, ⟨by repeat (first | (with_reducible first | exact HB.out | apply below_alloc | apply pw_below_drewN | apply below_drew1 | refine below_set ?_ (IsS104.ge HI0.out) | refine below_set ?_ GE328.out | refine below_set ?_ GE335.out | refine below_set ?_ GE342.out) | exact HB.out)⟩⟩
      ·replace c28 := Bool.eq_false_iff.mpr c28
       subst c28
       have H1 : (if t343 = 2 then (spec_l3Disk.j2 kj14 x4_1 t339 t343 (t343 == 2) s0_0 t344 t345 x336000_1 x336001_1 x336002_1 x336003_1) else (spec_l3Disk.j2 kj14 x4_1 t339 t343 (t343 == 3) s0_0 t344 t345 x336000_1 x336001_1 x336002_1 x336003_1)) = some (r1, r2, r3, r4, r5, r6) := by rw [if_neg (show ¬ (false = true) by decide)] at H; exact H
       clear H
       have H := H1
       clear H1
       have HC40 := Aside0.mk H
       clear H
       go_upto_if 36 with (fail)
       go_cut [36] (fun v36 wc => ∃ (kq : Nat) (x36_39 : Bool), v36 = .bool x36_39 ∧ Aside0 (spec_l3Disk.j2 kq x4_1 t339 t343 x36_39 s0_0 t344 t345 x336000_1 x336001_1 x336002_1 x336003_1 = some (r1, r2, r3, r4, r5, r6)) ∧ Aside0 (kq ≤ kj14) ∧ Aside0 (Kd.R k45 45 wc w.heap.size (fun _ => True) (.slice Ao21 x336000_1.length co21) x336000_1) ∧ Aside0 (Kd.R k45 45 wc w.heap.size (fun _ => True) (.slice Ao21 x336000_1.length co21) x336000_1) ∧ Aside0 (wc.heap[gb328]? = some (.cells #[(.slice none 0 0), .int .i64 0, .int .i64 0, .bool false] 29 (0, 0))) ∧ Aside0 (wc.heap[gb335]? = some (.cells #[(.slice Ao21 x336000_1.length co21), .int .i64 x336001_1, .int .i64 x336002_1, .bool x336003_1] 29 (0, 0))) ∧ Aside0 (wc.heap[gb342]? = some (.cells #[(.slice Ao21 x336000_1.length co21), .int .i64 x336001_1, .int .i64 x336002_1, .bool x336003_1] 29 (0, 0))) ∧ Aside0 (IsS104 w0 wc g s0_0 t344 t345) ∧ Aside0 (KeepBut w wc g none) ∧ Aside0 (Below w0.heap.size w0 wc))
       case first =>
        have H := HC40.out
        clear HC40
        by_cases c41 : t343 = 2
        ·rw [if_pos c41] at H
         have c41b0 : (t343 == 2) = true := beq_iff_eq.mpr c41
         have c41b1 : (t343 != 2) = false := bne_eq_false_iff_eq.mpr c41
         clear c41
         (first | rw [c41b0] | (simp only [i64_w, i32_w]; rw [c41b0]) | skip)
         have H' := Aside0.mk H
         clear H
         go_wp2
         go_meet
         case rel => exact ⟨_, ((t343 == 2)), rs_, H', ⟨by have := HK1.out; have := HJ14.out; first | exact Nat.le_refl _ | exact Nat.le_of_succ_le this | omega⟩, ⟨rr_ HO_336000⟩, ⟨rr_ HO_343000⟩, ⟨bk_ BK328⟩, ⟨bk_ BK335⟩, ⟨bk_ BK342⟩, ⟨by repeat (first | (with_reducible first | exact HI0.out | apply IsS104.alloc | apply IsS104.drewN | apply IsS104.drew | apply IsS104.set_1 | apply IsS104.set_2 | refine IsS104.far ?_ NB0_328.out _ | refine IsS104.far ?_ NB0_335.out _ | refine IsS104.far ?_ NB0_342.out _) | exact HI0.out)⟩, ⟨by repeat (first | (with_reducible first | exact HK.out | apply KeepBut.set_ | apply keep_drewN | apply keep_drew | apply keep_alloc | refine keep_far ?_ GW328.out _ | refine keep_far ?_ GW335.out _ | refine keep_far ?_ GW342.out _) | exact HK.out)⟩, ⟨by repeat (first | (with_reducible first | exact HB.out | apply below_alloc | apply pw_below_drewN | apply below_drew1 | refine below_set ?_ (IsS104.ge HI0.out) | refine below_set ?_ GE328.out | refine below_set ?_ GE335.out | refine below_set ?_ GE342.out) | exact HB.out)⟩⟩
        ·rw [if_neg c41] at H
         have c41b0 : (t343 == 2) = false := beq_eq_false_iff_ne.mpr c41
         have c41b1 : (t343 != 2) = true := bne_iff_ne.mpr c41
         (first | rw [c41b0] | (simp only [i64_w, i32_w]; rw [c41b0]) | skip)
         have H' := Aside0.mk H
         clear H
         go_wp2
         go_meet
         case rel => exact ⟨_, ((t343 == 3)), rs_, H', ⟨by have := HK1.out; have := HJ14.out; first | exact Nat.le_refl _ | exact Nat.le_of_succ_le this | omega⟩, ⟨rr_ HO_336000⟩, ⟨rr_ HO_343000⟩, ⟨bk_ BK328⟩, ⟨bk_ BK335⟩, ⟨bk_ BK342⟩, ⟨by repeat (first | (with_reducible first | exact HI0.out | apply IsS104.alloc | apply IsS104.drewN | apply IsS104.drew | apply IsS104.set_1 | apply IsS104.set_2 | refine IsS104.far ?_ NB0_328.out _ | refine IsS104.far ?_ NB0_335.out _ | refine IsS104.far ?_ NB0_342.out _) | exact HI0.out)⟩, ⟨by repeat (first | (with_reducible first | exact HK.out | apply KeepBut.set_ | apply keep_drewN | apply keep_drew | apply keep_alloc | refine keep_far ?_ GW328.out _ | refine keep_far ?_ GW335.out _ | refine keep_far ?_ GW342.out _) | exact HK.out)⟩, ⟨by repeat (first | (with_reducible first | exact HB.out | apply below_alloc | apply pw_below_drewN | apply below_drew1 | refine below_set ?_ (IsS104.ge HI0.out) | refine below_set ?_ GE328.out | refine below_set ?_ GE335.out | refine below_set ?_ GE342.out) | exact HB.out)⟩⟩
       case rest =>
        clear HC40
        try clear c1
        try clear c2
        try clear p2
        try clear c3
        try clear c4
        try clear p6
        try clear c7
        try clear c8
        try clear c9
        try clear c12
        try clear c12b0
        try clear c17
        try clear c18
        try clear c22
        try clear c23
        try clear c24
        try clear c27
        try clear c27b0
        try clear c27b1
        try clear c28
        try clear c30
        try clear c31
        try clear c32
        try clear c36
        try clear c37
        try clear c41
        try clear c41b0
        try clear c41b1
        try clear hcz10_0 hcz10_1 hcz10_2 hcz10_3 hfz10_0 hfz10_1 hfz10_2 hfz10_3
        try clear hcz19_0 hcz19_1 hcz19_2 hcz19_3 hfz19_0 hfz19_1 hfz19_2 hfz19_3
        try clear hcz25_0 hcz25_1 hcz25_2 hcz25_3 hfz25_0 hfz25_1 hfz25_2 hfz25_3
        try clear hcz33_0 hcz33_1 hcz33_2 hcz33_3 hfz33_0 hfz33_1 hfz33_2 hfz33_3
        try clear hcz38_0 hcz38_1 hcz38_2 hcz38_3 hfz38_0 hfz38_1 hfz38_2 hfz38_3
        try clear hcz39_0 hcz39_1 hcz39_2 hcz39_3 hfz39_0 hfz39_1 hfz39_2 hfz39_3
        try clear p2
        obtain ⟨kq, x36_39, rfl, HA, HJ39, HO_336000, HO_343000, BK328, BK335, BK342, HI0, HK, HB⟩ := hcut
        cases kq with
        | zero => exact absurd HA.out (by simp [spec_l3Disk.j2])
        | succ kj39 =>
         have H := HA.out
         clear HA
         simp only [spec_l3Disk.j2] at H
         by_cases c42 : x36_39 = true
         ·subst c42
          have H1 : ((spec_l1Text.f kj39 s0_0 t344 t345 9).bind fun bt353 => ((spec_Append.f kj39 x336000_1 x336001_1 x336002_1 x336003_1 t339 bt353.1).bind fun bt356 => (spec_l3Disk.l0 kj39 (wrap64 (x4_1 - 1)) s0_0 bt353.2.1 bt353.2.2 bt356.1 bt356.2.1 bt356.2.2.1 bt356.2.2.2.1))) = some (r1, r2, r3, r4, r5, r6) := by rw [if_pos rfl] at H; exact H
          clear H
          have H := H1
          clear H1
          replace H := Option.bind_eq_some_iff.mp H
          obtain ⟨⟨t353, t354, t355⟩, A430, H⟩ := H
          replace H : ((spec_Append.f kj39 x336000_1 x336001_1 x336002_1 x336003_1 t339 t353).bind fun bt356 => (spec_l3Disk.l0 kj39 (wrap64 (x4_1 - 1)) s0_0 t354 t355 bt356.1 bt356.2.1 bt356.2.2.1 bt356.2.2.2.1)) = some (r1, r2, r3, r4, r5, r6) := H
          have A43 := Aside0.mk A430
          clear A430
          replace H := Option.bind_eq_some_iff.mp H
          obtain ⟨⟨t356, t359, t360, t361, t362⟩, A440, H⟩ := H
          replace H : (spec_l3Disk.l0 kj39 (wrap64 (x4_1 - 1)) s0_0 t354 t355 t356 t359 t360 t361) = some (r1, r2, r3, r4, r5, r6) := H
          have A44 := Aside0.mk A440
          clear A440
          have H' := Aside0.mk H
          clear H
          try go_wp2
          replace HO_336000 := rd_ HO_336000
          replace HO_343000 := rd_ HO_343000
          replace BK328 := bd_ BK328
          replace BK335 := bd_ BK335
          replace BK342 := bd_ BK342
          replace HI0 := Aside0.mk (IsS104.drew HI0.out)
          replace HK := Aside0.mk (keep_drew HK.out)
          replace HB := hd_ HB
          refine start_ (n := 9) (S := k4e_ gb335 (.slice Ao21 x336000_1.length co21) (.int .i64 x336001_1) (.int .i64 x336002_1) (.bool x336003_1)) (ds := []) (on_ 0 9) (by kernel_rfl) rfl rfl (p4e_ BK335) (fun hHeld => ?_); refine with_tabW spec_l3Disk.tab14 spec_l3Disk.bits14 (fun HT_ HW_ => ?_)
          generalize wc.drew = w45 at HO_336000 HO_343000 BK328 BK335 BK342 HI0 HK HB hHeld ⊢
          refine pv_' 1 41 #[o',i',o',o',o',o',o',o',o'] rfl rfl HT_ ?_
          refine pv_' 2 42 #[o',i',i',o',o',o',o',o',o'] rfl rfl HT_ ?_
          refine take_ (i := 0) (N := some 40) (v := ?_) (a' := ?_) (on_ 3 6) rfl rfl (take_ofW HT_.out HW_.out (by kernel_rfl)) (fun _ _ _ h => h) (Or.inl ⟨by rfl, ?_⟩) hHeld ?_ ?_
          rotate_left
          ·rintro w' ⟨s0, s1, s2, s3⟩
           go_simp
           with_reducible rfl
          rotate_left
          ·simp only [Act.put, la_, lz_, ls_, i64_w, i32_w]
           rfl
          refine one_ (i := 3) (N := some 43) (on_ 4 5) rfl rfl (one_of HT_.out (by kernel_rfl)) (by decide) (fun K hK => ?_)
          refine goes_ Try.func94 (by kernel_rfl) rfl #[.pointer (some ⟨g, 0, none⟩), .int .i64 9] (by rfl) rfl rfl ar_ ?_
          with_reducible refine (spec_l1Text.calls kj39 g s0_0 t344 t345 9 t353 t354 t355 w0 _ ?side1 ?side2 A43.out).mono ?_
          (case side1 => repeat (first | (with_reducible first | exact HI0.out | apply IsS104.alloc | apply IsS104.drewN | apply IsS104.drew | apply IsS104.set_1 | apply IsS104.set_2 | refine IsS104.far ?_ NB0_328.out _ | refine IsS104.far ?_ NB0_335.out _ | refine IsS104.far ?_ NB0_342.out _) | exact HI0.out))
          (case side2 => repeat (first | (with_reducible first | exact HB.out | apply below_alloc | apply pw_below_drewN | apply below_drew1 | refine below_set ?_ (IsS104.ge HI0.out) | refine below_set ?_ GE328.out | refine below_set ?_ GE335.out | refine below_set ?_ GE342.out) | exact HB.out))
          rintro e w46 ⟨rfl, hi, hb, hk⟩
          refine ⟨_, rfl, ?_⟩
          replace HO_336000 := Aside0.mk (Kd.R_mono (Kd.R_keep (IsS104.apart (show IsS104 w0 _ g s0_0 t344 t345 from by repeat (first | (with_reducible first | exact HI0.out | apply IsS104.alloc | apply IsS104.drewN | apply IsS104.drew | apply IsS104.set_1 | apply IsS104.set_2 | refine IsS104.far ?_ NB0_328.out _ | refine IsS104.far ?_ NB0_335.out _ | refine IsS104.far ?_ NB0_342.out _) | exact HI0.out)) (rr_ HO_336000) (by decide)) hk (fun _ h => h.2)) (fun _ h => h.1))
          replace HO_343000 := Aside0.mk (Kd.R_mono (Kd.R_keep (IsS104.apart (show IsS104 w0 _ g s0_0 t344 t345 from by repeat (first | (with_reducible first | exact HI0.out | apply IsS104.alloc | apply IsS104.drewN | apply IsS104.drew | apply IsS104.set_1 | apply IsS104.set_2 | refine IsS104.far ?_ NB0_328.out _ | refine IsS104.far ?_ NB0_335.out _ | refine IsS104.far ?_ NB0_342.out _) | exact HI0.out)) (rr_ HO_343000) (by decide)) hk (fun _ h => h.2)) (fun _ h => h.1))
          replace BK328 := Aside0.mk (KeepBut.blk hk (g' := gb328) (o := .cells #[.slice none 0 0, .int .i64 0, .int .i64 0, .bool false] 29 (0, 0)) (bk_ BK328) NB328_0.out (by simp))
          replace BK335 := Aside0.mk (KeepBut.blk hk (g' := gb335) (o := .cells #[.slice Ao21 x336000_1.length co21, .int .i64 x336001_1, .int .i64 x336002_1, .bool x336003_1] 29 (0, 0)) (bk_ BK335) NB335_0.out (by simp))
          replace BK342 := Aside0.mk (KeepBut.blk hk (g' := gb342) (o := .cells #[.slice Ao21 x336000_1.length co21, .int .i64 x336001_1, .int .i64 x336002_1, .bool x336003_1] 29 (0, 0)) (bk_ BK342) NB342_0.out (by simp))
          replace HK := Aside0.mk (KeepBut.trans (by repeat (first | (with_reducible first | exact HK.out | apply KeepBut.set_ | apply keep_drewN | apply keep_drew | apply keep_alloc | refine keep_far ?_ GW328.out _ | refine keep_far ?_ GW335.out _ | refine keep_far ?_ GW342.out _) | exact HK.out)) hk (.inl rfl))
          replace HB := Aside0.mk (hb)
          replace HI0 := Aside0.mk (hi)
          (try clear hb)
          (try clear hb2)
          (try clear hk)
          (try clear hi)
          refine hK.out _ _ (p4e_ BK335) (fun hHeld => ?_)
          clear hK K
          refine norm_ (a' := ?_) ?_ ?_
          rotate_left
          ·show Act.put _ (some 43) _ = _
           simp only [Act.put, la_, lz_, ls_, i64_w, i32_w]
           rfl
          refine one_ (i := 4) (N := some 44) (on_ 5 4) rfl rfl (one_of HT_.out (by kernel_rfl)) (by decide) (fun K hK => ?_)
          refine goes_ Try.func93 (by kernel_rfl) rfl #[.agg #[.slice Ao21 x336000_1.length co21, .int .i64 x336001_1, .int .i64 x336002_1, .bool x336003_1], .string t339, .string t353] (by rfl) rfl rfl ar_ ?_
          with_reducible refine (spec_Append.calls kj39 _ _ x336000_1 x336001_1 x336002_1 x336003_1 t339 t353 t356 t359 t360 t361 t362 _ ?side1 ?side2 A44.out).mono ?_
          (case side1 => repeat (first | exact (Kd.R_reads' HO_336000.out).2.2 | (with_reducible refine Kd.C_alloc ?_ _) | (with_reducible refine Kd.C_drewN ?_ _) | (with_reducible refine Kd.C_drew ?_)))
          (case side2 => exact (Kd.R_reads' HO_336000.out).2.1)
          rintro e w47 ⟨v357, rfl, ho0, hb⟩
          refine ⟨_, rfl, ?_⟩
          have HO358 := Aside0.mk (Kd.R_lower (Kd.R_new' (Kd.R_new' ho0 (Kd.R_lt (rr_ HO_336000))) (Kd.R_lt (rr_ HO_343000))) (keep_size (w := w) (g := g) (row := none) (by repeat (first | (with_reducible first | exact HK.out | apply KeepBut.set_ | apply keep_drewN | apply keep_drew | apply keep_alloc | refine keep_far ?_ GW328.out _ | refine keep_far ?_ GW335.out _ | refine keep_far ?_ GW342.out _) | exact HK.out))))
          replace HO_336000 := Aside0.mk (Kd.R_elder' (rr_ HO_336000) (Kd.R_base ho0) hb)
          replace HO_343000 := Aside0.mk (Kd.R_elder' (rr_ HO_343000) (Kd.R_base ho0) hb)
          replace BK328 := bb_ BK328 hb
          replace BK335 := bb_ BK335 hb
          replace BK342 := bb_ BK342 hb
          replace HK := Aside0.mk (KeepBut.trans (by repeat (first | (with_reducible first | exact HK.out | apply KeepBut.set_ | apply keep_drewN | apply keep_drew | apply keep_alloc | refine keep_far ?_ GW328.out _ | refine keep_far ?_ GW335.out _ | refine keep_far ?_ GW342.out _) | exact HK.out)) (KeepBut.of_below hb g none) (.inl rfl))
          replace HB := Aside0.mk (below_step (by repeat (first | (with_reducible first | exact HB.out | apply below_alloc | apply pw_below_drewN | apply below_drew1 | refine below_set ?_ (IsS104.ge HI0.out) | refine below_set ?_ GE328.out | refine below_set ?_ GE335.out | refine below_set ?_ GE342.out) | exact HB.out)) hb)
          replace HI0 := Aside0.mk (IsS104.below (by repeat (first | (with_reducible first | exact HI0.out | apply IsS104.alloc | apply IsS104.drewN | apply IsS104.drew | apply IsS104.set_1 | apply IsS104.set_2 | refine IsS104.far ?_ NB0_328.out _ | refine IsS104.far ?_ NB0_335.out _ | refine IsS104.far ?_ NB0_342.out _) | exact HI0.out)) hb)
          (try clear hb)
          (try clear hb2)
          (try clear hk)
          (try clear hi)
          (try clear ho0)
          obtain ⟨Ao48, co48, eo48⟩ := Kd.R_slice HO358.out
          (first | subst eo48 | (injection eo48 with f1_ f2_ f3_; have f4_ := f1_.symm; have f5_ := f3_.symm; clear f1_ f2_ f3_; subst f4_; subst f5_))
          refine hK.out _ _ (p4e_ BK335) (fun hHeld => ?_)
          clear hK K
          refine norm_ (a' := ?_) ?_ ?_
          rotate_left
          ·show Act.put _ (some 44) _ = _
           simp only [Act.put, la_, lz_, ls_, i64_w, i32_w]
           rfl
          refine pv_' 5 39 (on_ 6 3) rfl rfl HT_ ?_
          refine pv_' 6 45 (on_ 7 2) rfl rfl HT_ ?_
          refine pv_' 7 46 (on_ 8 1) rfl rfl HT_ ?_
          refine one_ (i := 8) (N := none) (on_ 9 0) rfl rfl (one_of HT_.out (by kernel_rfl)) (by decide) (fun K hK => ?_)
          have hs49 : w47.cell? ⟨gb342, 0, none⟩ = some (.slice Ao21 x336000_1.length co21) := (blk_cell BK342.out 0).trans rfl
          have hfs49 := blk_frozen BK342.out 0
          have hns49_0 := NB328_342.out
          have hns49_1 := NB335_342.out
          have hms49_0 := NB342_328.out
          have hms49_1 := NB342_335.out
          have hs50 : w47.cell? ⟨gb342, 1, none⟩ = some (.int .i64 x336001_1) := (blk_cell BK342.out 1).trans rfl
          have hfs50 := blk_frozen BK342.out 1
          have hns50_0 := NB328_342.out
          have hns50_1 := NB335_342.out
          have hms50_0 := NB342_328.out
          have hms50_1 := NB342_335.out
          have hs51 : w47.cell? ⟨gb342, 2, none⟩ = some (.int .i64 x336002_1) := (blk_cell BK342.out 2).trans rfl
          have hfs51 := blk_frozen BK342.out 2
          have hns51_0 := NB328_342.out
          have hns51_1 := NB335_342.out
          have hms51_0 := NB342_328.out
          have hms51_1 := NB342_335.out
          have hs52 : w47.cell? ⟨gb342, 3, none⟩ = some (.bool x336003_1) := (blk_cell BK342.out 3).trans rfl
          have hfs52 := blk_frozen BK342.out 3
          have hns52_0 := NB328_342.out
          have hns52_1 := NB335_342.out
          have hms52_0 := NB342_328.out
          have hms52_1 := NB342_335.out
          refine skip_ (w1 := ?_) (by rfl) rfl ?_ ?_
          rotate_left
          ·go_simp
           rfl
          refine hK.out _ _ (r4e_ ((cell_far (p := ⟨gb342, _, none⟩) NB335_342.out _).trans (((cell_far (p := ⟨gb342, _, none⟩) NB335_342.out _).trans (((cell_far (p := ⟨gb342, _, none⟩) NB335_342.out _).trans (((cell_far (p := ⟨gb342, _, none⟩) NB335_342.out _).trans (hHeld.1)))))))) ((cell_far (p := ⟨gb342, _, none⟩) NB335_342.out _).trans (((cell_far (p := ⟨gb342, _, none⟩) NB335_342.out _).trans (((cell_far (p := ⟨gb342, _, none⟩) NB335_342.out _).trans (((cell_far (p := ⟨gb342, _, none⟩) NB335_342.out _).trans (hHeld.2.1)))))))) ((cell_far (p := ⟨gb342, _, none⟩) NB335_342.out _).trans (((cell_far (p := ⟨gb342, _, none⟩) NB335_342.out _).trans (((cell_far (p := ⟨gb342, _, none⟩) NB335_342.out _).trans (((cell_far (p := ⟨gb342, _, none⟩) NB335_342.out _).trans (hHeld.2.2.1)))))))) ((cell_far (p := ⟨gb342, _, none⟩) NB335_342.out _).trans (((cell_far (p := ⟨gb342, _, none⟩) NB335_342.out _).trans (((cell_far (p := ⟨gb342, _, none⟩) NB335_342.out _).trans (((cell_far (p := ⟨gb342, _, none⟩) NB335_342.out _).trans (hHeld.2.2.2))))))))) (fun hHeld => ?_)
          clear hK K
          refine done_ (done_of HT_.out (by kernel_rfl)) ?_
          have hnb53 := NB342_328.out
          have hnc53 := NB328_342.out
          have hnb54 := NB342_335.out
          have hnc54 := NB335_342.out
          have hnb55 := NB342_0.out
          have hnc55 := NB0_342.out
          obtain ⟨hcz56_0, hcz56_1, hcz56_2, hcz56_3, hfz56_0, hfz56_1, hfz56_2, hfz56_3⟩ := bc4_ BK342
          have hnb57 := NB335_328.out
          have hnc57 := NB328_335.out
          have hnb58 := NB335_0.out
          have hnc58 := NB0_335.out
          obtain ⟨hcz59_0, hcz59_1, hcz59_2, hcz59_3, hfz59_0, hfz59_1, hfz59_2, hfz59_3⟩ := bc4_ BK335
          try go_wp2
          go_roundg kj39
          case measure => have := HK1.out; have := HJ14.out; have := HJ39.out; omega
          case rel => exact ⟨(wrap64 (x4_1 - 1)), (t354), (t355), (t356), (t359), (t360), (t361), (.slice Ao48 t356.length co48), rs_, H', ⟨by have := HK1.out; have := HJ14.out; have := HJ39.out; omega⟩, ⟨by (with_reducible repeat (first | apply Kd.R_alloc | apply Kd.R_drewN | apply Kd.R_drew)); exact Kd.R_mono (Kd.R_far (p := ⟨gb335, 3, none⟩) (Kd.R_far (p := ⟨gb335, 2, none⟩) (Kd.R_far (p := ⟨gb335, 1, none⟩) (Kd.R_far (p := ⟨gb335, 0, none⟩) (Kd.R_far (p := ⟨gb342, 3, none⟩) (Kd.R_far (p := ⟨gb342, 2, none⟩) (Kd.R_far (p := ⟨gb342, 1, none⟩) (Kd.R_far (p := ⟨gb342, 0, none⟩) (Kd.R_types (Kd.R_types HO358.out BK342.out (by decide)) BK335.out (by decide)) (fun _ hk => hk.1.2) (.slice Ao48 t356.length co48)) (fun _ hk => hk.1.2) (.int .i64 t359)) (fun _ hk => hk.1.2) (.int .i64 t360)) (fun _ hk => hk.1.2) (.bool t361)) (fun _ hk => hk.2) (.slice Ao48 t356.length co48)) (fun _ hk => hk.2) (.int .i64 t359)) (fun _ hk => hk.2) (.int .i64 t360)) (fun _ hk => hk.2) (.bool t361)) (fun _ hk => trivial)⟩, ⟨by (with_reducible repeat (first | refine blk_drewN ?_ _ | refine blk_drew ?_ | refine blk_alloc ?_ _)); refine blk_far ?_ NB328_335.out _; (with_reducible repeat (first | refine blk_drewN ?_ _ | refine blk_drew ?_ | refine blk_alloc ?_ _)); refine blk_far ?_ NB328_335.out _; (with_reducible repeat (first | refine blk_drewN ?_ _ | refine blk_drew ?_ | refine blk_alloc ?_ _)); refine blk_far ?_ NB328_335.out _; (with_reducible repeat (first | refine blk_drewN ?_ _ | refine blk_drew ?_ | refine blk_alloc ?_ _)); refine blk_far ?_ NB328_335.out _; (with_reducible repeat (first | refine blk_drewN ?_ _ | refine blk_drew ?_ | refine blk_alloc ?_ _)); refine blk_far ?_ NB328_342.out _; (with_reducible repeat (first | refine blk_drewN ?_ _ | refine blk_drew ?_ | refine blk_alloc ?_ _)); refine blk_far ?_ NB328_342.out _; (with_reducible repeat (first | refine blk_drewN ?_ _ | refine blk_drew ?_ | refine blk_alloc ?_ _)); refine blk_far ?_ NB328_342.out _; (with_reducible repeat (first | refine blk_drewN ?_ _ | refine blk_drew ?_ | refine blk_alloc ?_ _)); refine blk_far ?_ NB328_342.out _; (with_reducible repeat (first | refine blk_drewN ?_ _ | refine blk_drew ?_ | refine blk_alloc ?_ _)); exact BK328.out⟩, ⟨by (with_reducible repeat (first | refine blk_drewN ?_ _ | refine blk_drew ?_ | refine blk_alloc ?_ _)); refine blk_put (cs := #[.slice Ao48 t356.length co48, .int .i64 t359, .int .i64 t360, .bool x336003_1]) ?_ 3 _ rfl; (with_reducible repeat (first | refine blk_drewN ?_ _ | refine blk_drew ?_ | refine blk_alloc ?_ _)); refine blk_put (cs := #[.slice Ao48 t356.length co48, .int .i64 t359, .int .i64 x336002_1, .bool x336003_1]) ?_ 2 _ rfl; (with_reducible repeat (first | refine blk_drewN ?_ _ | refine blk_drew ?_ | refine blk_alloc ?_ _)); refine blk_put (cs := #[.slice Ao48 t356.length co48, .int .i64 x336001_1, .int .i64 x336002_1, .bool x336003_1]) ?_ 1 _ rfl; (with_reducible repeat (first | refine blk_drewN ?_ _ | refine blk_drew ?_ | refine blk_alloc ?_ _)); refine blk_put (cs := #[.slice Ao21 x336000_1.length co21, .int .i64 x336001_1, .int .i64 x336002_1, .bool x336003_1]) ?_ 0 _ rfl; (with_reducible repeat (first | refine blk_drewN ?_ _ | refine blk_drew ?_ | refine blk_alloc ?_ _)); refine blk_far ?_ NB335_342.out _; (with_reducible repeat (first | refine blk_drewN ?_ _ | refine blk_drew ?_ | refine blk_alloc ?_ _)); refine blk_far ?_ NB335_342.out _; (with_reducible repeat (first | refine blk_drewN ?_ _ | refine blk_drew ?_ | refine blk_alloc ?_ _)); refine blk_far ?_ NB335_342.out _; (with_reducible repeat (first | refine blk_drewN ?_ _ | refine blk_drew ?_ | refine blk_alloc ?_ _)); refine blk_far ?_ NB335_342.out _; (with_reducible repeat (first | refine blk_drewN ?_ _ | refine blk_drew ?_ | refine blk_alloc ?_ _)); exact BK335.out⟩, ⟨by repeat (first | (with_reducible first | exact HI0.out | apply IsS104.alloc | apply IsS104.drewN | apply IsS104.drew | apply IsS104.set_1 | apply IsS104.set_2 | refine IsS104.far ?_ NB0_328.out _ | refine IsS104.far ?_ NB0_335.out _ | refine IsS104.far ?_ NB0_342.out _) | exact HI0.out)⟩, ⟨by repeat (first | (with_reducible first | exact HK.out | apply KeepBut.set_ | apply keep_drewN | apply keep_drew | apply keep_alloc | refine keep_far ?_ GW328.out _ | refine keep_far ?_ GW335.out _ | refine keep_far ?_ GW342.out _) | exact HK.out)⟩, ⟨by repeat (first | (with_reducible first | exact HB.out | apply below_alloc | apply pw_below_drewN | apply below_drew1 | refine below_set ?_ (IsS104.ge HI0.out) | refine below_set ?_ GE328.out | refine below_set ?_ GE335.out | refine below_set ?_ GE342.out) | exact HB.out)⟩⟩
         ·replace c42 := Bool.eq_false_iff.mpr c42
          subst c42
          have H1 : (if t343 = 4 then ((spec_Sync.f kj39 x336000_1 x336001_1 x336002_1 x336003_1 t339).bind fun bt363 => (spec_l3Disk.l0 kj39 (wrap64 (x4_1 - 1)) s0_0 t344 t345 bt363.1 bt363.2.1 bt363.2.2.1 bt363.2.2.2.1)) else ((spec_l3Name.f s0_0 t344 t345).bind fun bt370 => ((spec_Rename.f kj39 x336000_1 x336001_1 x336002_1 x336003_1 t339 bt370.1).bind fun bt373 => (spec_l3Disk.l0 kj39 (wrap64 (x4_1 - 1)) s0_0 bt370.2.1 bt370.2.2 bt373.1 bt373.2.1 bt373.2.2.1 bt373.2.2.2.1)))) = some (r1, r2, r3, r4, r5, r6) := by rw [if_neg (show ¬ (false = true) by decide)] at H; exact H
          clear H
          have H := H1
          clear H1
          by_cases c60 : t343 = 4
          ·rw [if_pos c60] at H
           have c60b0 : (t343 == 4) = true := beq_iff_eq.mpr c60
           have c60b1 : (t343 != 4) = false := bne_eq_false_iff_eq.mpr c60
           clear c60
           replace H := Option.bind_eq_some_iff.mp H
           obtain ⟨⟨t363, t366, t367, t368, t369⟩, A610, H⟩ := H
           replace H : (spec_l3Disk.l0 kj39 (wrap64 (x4_1 - 1)) s0_0 t344 t345 t363 t366 t367 t368) = some (r1, r2, r3, r4, r5, r6) := H
           have A61 := Aside0.mk A610
           clear A610
           have H' := Aside0.mk H
           clear H
           have hnb62 := NB335_328.out
           have hnc62 := NB328_335.out
           have hnb63 := NB335_342.out
           have hnc63 := NB342_335.out
           have hnb64 := NB335_0.out
           have hnc64 := NB0_335.out
           obtain ⟨hcz65_0, hcz65_1, hcz65_2, hcz65_3, hfz65_0, hfz65_1, hfz65_2, hfz65_3⟩ := bc4_ BK335
           go_wp2_with (first | ((with_reducible refine gate_callee (f := 95) rfl ?_); refine goesL_ (some 52) rfl rfl Try.func95 (by kernel_rfl) rfl #[.agg #[.slice Ao21 x336000_1.length co21, .int .i64 x336001_1, .int .i64 x336002_1, .bool x336003_1], .string t339] rfl ar_ ?_; (with_reducible refine (spec_Sync.calls kj39 _ _ x336000_1 x336001_1 x336002_1 x336003_1 t339 t363 t366 t367 t368 t369 _ ?side1 ?side2 A61.out).mono ?_); (case side1 => repeat (first | exact (Kd.R_reads' HO_336000.out).2.2 | (with_reducible refine Kd.C_alloc ?_ _) | (with_reducible refine Kd.C_drewN ?_ _) | (with_reducible refine Kd.C_drew ?_))); (case side2 => exact (Kd.R_reads' HO_336000.out).2.1); rintro e w66 ⟨v364, rfl, ho0, hb⟩; refine ⟨_, rfl, ?_⟩; have HO365 := Aside0.mk (Kd.R_lower (Kd.R_new' (Kd.R_new' ho0 (Kd.R_lt (rr_ HO_336000))) (Kd.R_lt (rr_ HO_343000))) (keep_size (w := w) (g := g) (row := none) (by repeat (first | (with_reducible first | exact HK.out | apply KeepBut.set_ | apply keep_drewN | apply keep_drew | apply keep_alloc | refine keep_far ?_ GW328.out _ | refine keep_far ?_ GW335.out _ | refine keep_far ?_ GW342.out _) | exact HK.out)))); replace HO_336000 := Aside0.mk (Kd.R_elder' (rr_ HO_336000) (Kd.R_base ho0) hb); replace HO_343000 := Aside0.mk (Kd.R_elder' (rr_ HO_343000) (Kd.R_base ho0) hb); replace BK328 := bb_ BK328 hb; replace BK335 := bb_ BK335 hb; replace BK342 := bb_ BK342 hb; replace HK := Aside0.mk (KeepBut.trans (by repeat (first | (with_reducible first | exact HK.out | apply KeepBut.set_ | apply keep_drewN | apply keep_drew | apply keep_alloc | refine keep_far ?_ GW328.out _ | refine keep_far ?_ GW335.out _ | refine keep_far ?_ GW342.out _) | exact HK.out)) (KeepBut.of_below hb g none) (.inl rfl)); replace HB := Aside0.mk (below_step (by repeat (first | (with_reducible first | exact HB.out | apply below_alloc | apply pw_below_drewN | apply below_drew1 | refine below_set ?_ (IsS104.ge HI0.out) | refine below_set ?_ GE328.out | refine below_set ?_ GE335.out | refine below_set ?_ GE342.out) | exact HB.out)) hb); replace HI0 := Aside0.mk (IsS104.below (by repeat (first | (with_reducible first | exact HI0.out | apply IsS104.alloc | apply IsS104.drewN | apply IsS104.drew | apply IsS104.set_1 | apply IsS104.set_2 | refine IsS104.far ?_ NB0_328.out _ | refine IsS104.far ?_ NB0_335.out _ | refine IsS104.far ?_ NB0_342.out _) | exact HI0.out)) hb); (try clear hb); (try clear hb2); (try clear hk); (try clear hi); (try clear ho0); obtain ⟨Ao67, co67, eo67⟩ := Kd.R_slice HO365.out; subst eo67; have hnb68 := NB342_328.out; have hnc68 := NB328_342.out; have hnb69 := NB342_0.out; have hnc69 := NB0_342.out; obtain ⟨hcz70_0, hcz70_1, hcz70_2, hcz70_3, hfz70_0, hfz70_1, hfz70_2, hfz70_3⟩ := bc4_ BK342; obtain ⟨hcz71_0, hcz71_1, hcz71_2, hcz71_3, hfz71_0, hfz71_1, hfz71_2, hfz71_3⟩ := bc4_ BK335))
           go_roundg kj39
           case measure => have := HK1.out; have := HJ14.out; have := HJ39.out; omega
           case rel => exact ⟨(wrap64 (x4_1 - 1)), (t344), (t345), (t363), (t366), (t367), (t368), (.slice Ao67 t363.length co67), rs_, H', ⟨by have := HK1.out; have := HJ14.out; have := HJ39.out; omega⟩, ⟨by (with_reducible repeat (first | apply Kd.R_alloc | apply Kd.R_drewN | apply Kd.R_drew)); exact Kd.R_mono (Kd.R_far (p := ⟨gb335, 3, none⟩) (Kd.R_far (p := ⟨gb335, 2, none⟩) (Kd.R_far (p := ⟨gb335, 1, none⟩) (Kd.R_far (p := ⟨gb335, 0, none⟩) (Kd.R_far (p := ⟨gb342, 3, none⟩) (Kd.R_far (p := ⟨gb342, 2, none⟩) (Kd.R_far (p := ⟨gb342, 1, none⟩) (Kd.R_far (p := ⟨gb342, 0, none⟩) (Kd.R_types (Kd.R_types HO365.out BK342.out (by decide)) BK335.out (by decide)) (fun _ hk => hk.1.2) (.slice Ao67 t363.length co67)) (fun _ hk => hk.1.2) (.int .i64 t366)) (fun _ hk => hk.1.2) (.int .i64 t367)) (fun _ hk => hk.1.2) (.bool t368)) (fun _ hk => hk.2) (.slice Ao67 t363.length co67)) (fun _ hk => hk.2) (.int .i64 t366)) (fun _ hk => hk.2) (.int .i64 t367)) (fun _ hk => hk.2) (.bool t368)) (fun _ hk => trivial)⟩, ⟨by (with_reducible repeat (first | refine blk_drewN ?_ _ | refine blk_drew ?_ | refine blk_alloc ?_ _)); refine blk_far ?_ NB328_335.out _; (with_reducible repeat (first | refine blk_drewN ?_ _ | refine blk_drew ?_ | refine blk_alloc ?_ _)); refine blk_far ?_ NB328_335.out _; (with_reducible repeat (first | refine blk_drewN ?_ _ | refine blk_drew ?_ | refine blk_alloc ?_ _)); refine blk_far ?_ NB328_335.out _; (with_reducible repeat (first | refine blk_drewN ?_ _ | refine blk_drew ?_ | refine blk_alloc ?_ _)); refine blk_far ?_ NB328_335.out _; (with_reducible repeat (first | refine blk_drewN ?_ _ | refine blk_drew ?_ | refine blk_alloc ?_ _)); refine blk_far ?_ NB328_342.out _; (with_reducible repeat (first | refine blk_drewN ?_ _ | refine blk_drew ?_ | refine blk_alloc ?_ _)); refine blk_far ?_ NB328_342.out _; (with_reducible repeat (first | refine blk_drewN ?_ _ | refine blk_drew ?_ | refine blk_alloc ?_ _)); refine blk_far ?_ NB328_342.out _; (with_reducible repeat (first | refine blk_drewN ?_ _ | refine blk_drew ?_ | refine blk_alloc ?_ _)); refine blk_far ?_ NB328_342.out _; (with_reducible repeat (first | refine blk_drewN ?_ _ | refine blk_drew ?_ | refine blk_alloc ?_ _)); exact BK328.out⟩, ⟨by (with_reducible repeat (first | refine blk_drewN ?_ _ | refine blk_drew ?_ | refine blk_alloc ?_ _)); refine blk_put (cs := #[.slice Ao67 t363.length co67, .int .i64 t366, .int .i64 t367, .bool x336003_1]) ?_ 3 _ rfl; (with_reducible repeat (first | refine blk_drewN ?_ _ | refine blk_drew ?_ | refine blk_alloc ?_ _)); refine blk_put (cs := #[.slice Ao67 t363.length co67, .int .i64 t366, .int .i64 x336002_1, .bool x336003_1]) ?_ 2 _ rfl; (with_reducible repeat (first | refine blk_drewN ?_ _ | refine blk_drew ?_ | refine blk_alloc ?_ _)); refine blk_put (cs := #[.slice Ao67 t363.length co67, .int .i64 x336001_1, .int .i64 x336002_1, .bool x336003_1]) ?_ 1 _ rfl; (with_reducible repeat (first | refine blk_drewN ?_ _ | refine blk_drew ?_ | refine blk_alloc ?_ _)); refine blk_put (cs := #[.slice Ao21 x336000_1.length co21, .int .i64 x336001_1, .int .i64 x336002_1, .bool x336003_1]) ?_ 0 _ rfl; (with_reducible repeat (first | refine blk_drewN ?_ _ | refine blk_drew ?_ | refine blk_alloc ?_ _)); refine blk_far ?_ NB335_342.out _; (with_reducible repeat (first | refine blk_drewN ?_ _ | refine blk_drew ?_ | refine blk_alloc ?_ _)); refine blk_far ?_ NB335_342.out _; (with_reducible repeat (first | refine blk_drewN ?_ _ | refine blk_drew ?_ | refine blk_alloc ?_ _)); refine blk_far ?_ NB335_342.out _; (with_reducible repeat (first | refine blk_drewN ?_ _ | refine blk_drew ?_ | refine blk_alloc ?_ _)); refine blk_far ?_ NB335_342.out _; (with_reducible repeat (first | refine blk_drewN ?_ _ | refine blk_drew ?_ | refine blk_alloc ?_ _)); exact BK335.out⟩, ⟨by repeat (first | (with_reducible first | exact HI0.out | apply IsS104.alloc | apply IsS104.drewN | apply IsS104.drew | apply IsS104.set_1 | apply IsS104.set_2 | refine IsS104.far ?_ NB0_328.out _ | refine IsS104.far ?_ NB0_335.out _ | refine IsS104.far ?_ NB0_342.out _) | exact HI0.out)⟩, ⟨by repeat (first | (with_reducible first | exact HK.out | apply KeepBut.set_ | apply keep_drewN | apply keep_drew | apply keep_alloc | refine keep_far ?_ GW328.out _ | refine keep_far ?_ GW335.out _ | refine keep_far ?_ GW342.out _) | exact HK.out)⟩, ⟨by repeat (first | (with_reducible first | exact HB.out | apply below_alloc | apply pw_below_drewN | apply below_drew1 | refine below_set ?_ (IsS104.ge HI0.out) | refine below_set ?_ GE328.out | refine below_set ?_ GE335.out | refine below_set ?_ GE342.out) | exact HB.out)⟩⟩
          ·rw [if_neg c60] at H
           have c60b0 : (t343 == 4) = false := beq_eq_false_iff_ne.mpr c60
           have c60b1 : (t343 != 4) = true := bne_iff_ne.mpr c60
           replace H := Option.bind_eq_some_iff.mp H
           obtain ⟨⟨t370, t371, t372⟩, A720, H⟩ := H
           replace H : ((spec_Rename.f kj39 x336000_1 x336001_1 x336002_1 x336003_1 t339 t370).bind fun bt373 => (spec_l3Disk.l0 kj39 (wrap64 (x4_1 - 1)) s0_0 t371 t372 bt373.1 bt373.2.1 bt373.2.2.1 bt373.2.2.2.1)) = some (r1, r2, r3, r4, r5, r6) := H
           have A72 := Aside0.mk A720
           clear A720
           replace H := Option.bind_eq_some_iff.mp H
           obtain ⟨⟨t373, t376, t377, t378, t379⟩, A730, H⟩ := H
           replace H : (spec_l3Disk.l0 kj39 (wrap64 (x4_1 - 1)) s0_0 t371 t372 t373 t376 t377 t378) = some (r1, r2, r3, r4, r5, r6) := H
           have A73 := Aside0.mk A730
           clear A730
           have H' := Aside0.mk H
           clear H
           try go_wp2
           replace HO_336000 := rd_ HO_336000
           replace HO_343000 := rd_ HO_343000
           replace BK328 := bd_ BK328
           replace BK335 := bd_ BK335
           replace BK342 := bd_ BK342
           replace HI0 := Aside0.mk (IsS104.drew HI0.out)
           replace HK := Aside0.mk (keep_drew HK.out)
           replace HB := hd_ HB
           refine start_ (n := 9) (S := k4e_ gb335 (.slice Ao21 x336000_1.length co21) (.int .i64 x336001_1) (.int .i64 x336002_1) (.bool x336003_1)) (ds := []) (on_ 0 9) (by kernel_rfl) rfl rfl (p4e_ BK335) (fun hHeld => ?_); refine with_tabW spec_l3Disk.tab8 spec_l3Disk.bits8 (fun HT_ HW_ => ?_)
           generalize wc.drew = w74 at HO_336000 HO_343000 BK328 BK335 BK342 HI0 HK HB hHeld ⊢
           refine pv_' 1 21 #[o',i',o',o',o',o',o',o',o'] rfl rfl HT_ ?_
           refine pv_' 2 22 #[o',i',i',o',o',o',o',o',o'] rfl rfl HT_ ?_
           refine take_ (i := 0) (N := some 20) (v := ?_) (a' := ?_) (on_ 3 6) rfl rfl (take_ofW HT_.out HW_.out (by kernel_rfl)) (fun _ _ _ h => h) (Or.inl ⟨by rfl, ?_⟩) hHeld ?_ ?_
           rotate_left
           ·rintro w' ⟨s0, s1, s2, s3⟩
            go_simp
            with_reducible rfl
           rotate_left
           ·simp only [Act.put, la_, lz_, ls_, i64_w, i32_w]
            rfl
           refine one_ (i := 3) (N := some 23) (on_ 4 5) rfl rfl (one_of HT_.out (by kernel_rfl)) (by decide) (fun K hK => ?_)
           refine goes_ Try.func91 (by kernel_rfl) rfl #[.pointer (some ⟨g, 0, none⟩)] (by rfl) rfl rfl ar_ ?_
           with_reducible refine (spec_l3Name.calls g s0_0 t344 t345 t370 t371 t372 w0 _ ?side1 ?side2 A72.out).mono ?_
           (case side1 => repeat (first | (with_reducible first | exact HI0.out | apply IsS104.alloc | apply IsS104.drewN | apply IsS104.drew | apply IsS104.set_1 | apply IsS104.set_2 | refine IsS104.far ?_ NB0_328.out _ | refine IsS104.far ?_ NB0_335.out _ | refine IsS104.far ?_ NB0_342.out _) | exact HI0.out))
           (case side2 => repeat (first | (with_reducible first | exact HB.out | apply below_alloc | apply pw_below_drewN | apply below_drew1 | refine below_set ?_ (IsS104.ge HI0.out) | refine below_set ?_ GE328.out | refine below_set ?_ GE335.out | refine below_set ?_ GE342.out) | exact HB.out))
           rintro e w75 ⟨rfl, hi, hb, hk⟩
           refine ⟨_, rfl, ?_⟩
           replace HO_336000 := Aside0.mk (Kd.R_mono (Kd.R_keep (IsS104.apart (show IsS104 w0 _ g s0_0 t344 t345 from by repeat (first | (with_reducible first | exact HI0.out | apply IsS104.alloc | apply IsS104.drewN | apply IsS104.drew | apply IsS104.set_1 | apply IsS104.set_2 | refine IsS104.far ?_ NB0_328.out _ | refine IsS104.far ?_ NB0_335.out _ | refine IsS104.far ?_ NB0_342.out _) | exact HI0.out)) (rr_ HO_336000) (by decide)) hk (fun _ h => h.2)) (fun _ h => h.1))
           replace HO_343000 := Aside0.mk (Kd.R_mono (Kd.R_keep (IsS104.apart (show IsS104 w0 _ g s0_0 t344 t345 from by repeat (first | (with_reducible first | exact HI0.out | apply IsS104.alloc | apply IsS104.drewN | apply IsS104.drew | apply IsS104.set_1 | apply IsS104.set_2 | refine IsS104.far ?_ NB0_328.out _ | refine IsS104.far ?_ NB0_335.out _ | refine IsS104.far ?_ NB0_342.out _) | exact HI0.out)) (rr_ HO_343000) (by decide)) hk (fun _ h => h.2)) (fun _ h => h.1))
           replace BK328 := Aside0.mk (KeepBut.blk hk (g' := gb328) (o := .cells #[.slice none 0 0, .int .i64 0, .int .i64 0, .bool false] 29 (0, 0)) (bk_ BK328) NB328_0.out (by simp))
           replace BK335 := Aside0.mk (KeepBut.blk hk (g' := gb335) (o := .cells #[.slice Ao21 x336000_1.length co21, .int .i64 x336001_1, .int .i64 x336002_1, .bool x336003_1] 29 (0, 0)) (bk_ BK335) NB335_0.out (by simp))
           replace BK342 := Aside0.mk (KeepBut.blk hk (g' := gb342) (o := .cells #[.slice Ao21 x336000_1.length co21, .int .i64 x336001_1, .int .i64 x336002_1, .bool x336003_1] 29 (0, 0)) (bk_ BK342) NB342_0.out (by simp))
           replace HK := Aside0.mk (KeepBut.trans (by repeat (first | (with_reducible first | exact HK.out | apply KeepBut.set_ | apply keep_drewN | apply keep_drew | apply keep_alloc | refine keep_far ?_ GW328.out _ | refine keep_far ?_ GW335.out _ | refine keep_far ?_ GW342.out _) | exact HK.out)) hk (.inl rfl))
           replace HB := Aside0.mk (hb)
           replace HI0 := Aside0.mk (hi)
           (try clear hb)
           (try clear hb2)
           (try clear hk)
           (try clear hi)
           refine hK.out _ _ (p4e_ BK335) (fun hHeld => ?_)
           clear hK K
           refine norm_ (a' := ?_) ?_ ?_
           rotate_left
           ·show Act.put _ (some 23) _ = _
            simp only [Act.put, la_, lz_, ls_, i64_w, i32_w]
            rfl
           refine one_ (i := 4) (N := some 24) (on_ 5 4) rfl rfl (one_of HT_.out (by kernel_rfl)) (by decide) (fun K hK => ?_)
           refine goes_ Try.func96 (by kernel_rfl) rfl #[.agg #[.slice Ao21 x336000_1.length co21, .int .i64 x336001_1, .int .i64 x336002_1, .bool x336003_1], .string t339, .string t370] (by rfl) rfl rfl ar_ ?_
           with_reducible refine (spec_Rename.calls kj39 _ _ x336000_1 x336001_1 x336002_1 x336003_1 t339 t370 t373 t376 t377 t378 t379 _ ?side1 ?side2 A73.out).mono ?_
           (case side1 => repeat (first | exact (Kd.R_reads' HO_336000.out).2.2 | (with_reducible refine Kd.C_alloc ?_ _) | (with_reducible refine Kd.C_drewN ?_ _) | (with_reducible refine Kd.C_drew ?_)))
           (case side2 => exact (Kd.R_reads' HO_336000.out).2.1)
           rintro e w76 ⟨v374, rfl, ho0, hb⟩
           refine ⟨_, rfl, ?_⟩
           have HO375 := Aside0.mk (Kd.R_lower (Kd.R_new' (Kd.R_new' ho0 (Kd.R_lt (rr_ HO_336000))) (Kd.R_lt (rr_ HO_343000))) (keep_size (w := w) (g := g) (row := none) (by repeat (first | (with_reducible first | exact HK.out | apply KeepBut.set_ | apply keep_drewN | apply keep_drew | apply keep_alloc | refine keep_far ?_ GW328.out _ | refine keep_far ?_ GW335.out _ | refine keep_far ?_ GW342.out _) | exact HK.out))))
           replace HO_336000 := Aside0.mk (Kd.R_elder' (rr_ HO_336000) (Kd.R_base ho0) hb)
           replace HO_343000 := Aside0.mk (Kd.R_elder' (rr_ HO_343000) (Kd.R_base ho0) hb)
           replace BK328 := bb_ BK328 hb
           replace BK335 := bb_ BK335 hb
           replace BK342 := bb_ BK342 hb
           replace HK := Aside0.mk (KeepBut.trans (by repeat (first | (with_reducible first | exact HK.out | apply KeepBut.set_ | apply keep_drewN | apply keep_drew | apply keep_alloc | refine keep_far ?_ GW328.out _ | refine keep_far ?_ GW335.out _ | refine keep_far ?_ GW342.out _) | exact HK.out)) (KeepBut.of_below hb g none) (.inl rfl))
           replace HB := Aside0.mk (below_step (by repeat (first | (with_reducible first | exact HB.out | apply below_alloc | apply pw_below_drewN | apply below_drew1 | refine below_set ?_ (IsS104.ge HI0.out) | refine below_set ?_ GE328.out | refine below_set ?_ GE335.out | refine below_set ?_ GE342.out) | exact HB.out)) hb)
           replace HI0 := Aside0.mk (IsS104.below (by repeat (first | (with_reducible first | exact HI0.out | apply IsS104.alloc | apply IsS104.drewN | apply IsS104.drew | apply IsS104.set_1 | apply IsS104.set_2 | refine IsS104.far ?_ NB0_328.out _ | refine IsS104.far ?_ NB0_335.out _ | refine IsS104.far ?_ NB0_342.out _) | exact HI0.out)) hb)
           (try clear hb)
           (try clear hb2)
           (try clear hk)
           (try clear hi)
           (try clear ho0)
           obtain ⟨Ao77, co77, eo77⟩ := Kd.R_slice HO375.out
           (first | subst eo77 | (injection eo77 with f1_ f2_ f3_; have f4_ := f1_.symm; have f5_ := f3_.symm; clear f1_ f2_ f3_; subst f4_; subst f5_))
           refine hK.out _ _ (p4e_ BK335) (fun hHeld => ?_)
           clear hK K
           refine norm_ (a' := ?_) ?_ ?_
           rotate_left
           ·show Act.put _ (some 24) _ = _
            simp only [Act.put, la_, lz_, ls_, i64_w, i32_w]
            rfl
           refine pv_' 5 19 (on_ 6 3) rfl rfl HT_ ?_
           refine pv_' 6 25 (on_ 7 2) rfl rfl HT_ ?_
           refine pv_' 7 26 (on_ 8 1) rfl rfl HT_ ?_
           refine one_ (i := 8) (N := none) (on_ 9 0) rfl rfl (one_of HT_.out (by kernel_rfl)) (by decide) (fun K hK => ?_)
           have hs78 : w76.cell? ⟨gb342, 0, none⟩ = some (.slice Ao21 x336000_1.length co21) := (blk_cell BK342.out 0).trans rfl
           have hfs78 := blk_frozen BK342.out 0
           have hns78_0 := NB328_342.out
           have hns78_1 := NB335_342.out
           have hms78_0 := NB342_328.out
           have hms78_1 := NB342_335.out
           have hs79 : w76.cell? ⟨gb342, 1, none⟩ = some (.int .i64 x336001_1) := (blk_cell BK342.out 1).trans rfl
           have hfs79 := blk_frozen BK342.out 1
           have hns79_0 := NB328_342.out
           have hns79_1 := NB335_342.out
           have hms79_0 := NB342_328.out
           have hms79_1 := NB342_335.out
           have hs80 : w76.cell? ⟨gb342, 2, none⟩ = some (.int .i64 x336002_1) := (blk_cell BK342.out 2).trans rfl
           have hfs80 := blk_frozen BK342.out 2
           have hns80_0 := NB328_342.out
           have hns80_1 := NB335_342.out
           have hms80_0 := NB342_328.out
           have hms80_1 := NB342_335.out
           have hs81 : w76.cell? ⟨gb342, 3, none⟩ = some (.bool x336003_1) := (blk_cell BK342.out 3).trans rfl
           have hfs81 := blk_frozen BK342.out 3
           have hns81_0 := NB328_342.out
           have hns81_1 := NB335_342.out
           have hms81_0 := NB342_328.out
           have hms81_1 := NB342_335.out
           refine skip_ (w1 := ?_) (by rfl) rfl ?_ ?_
           rotate_left
           ·go_simp
            rfl
           refine hK.out _ _ (r4e_ ((cell_far (p := ⟨gb342, _, none⟩) NB335_342.out _).trans (((cell_far (p := ⟨gb342, _, none⟩) NB335_342.out _).trans (((cell_far (p := ⟨gb342, _, none⟩) NB335_342.out _).trans (((cell_far (p := ⟨gb342, _, none⟩) NB335_342.out _).trans (hHeld.1)))))))) ((cell_far (p := ⟨gb342, _, none⟩) NB335_342.out _).trans (((cell_far (p := ⟨gb342, _, none⟩) NB335_342.out _).trans (((cell_far (p := ⟨gb342, _, none⟩) NB335_342.out _).trans (((cell_far (p := ⟨gb342, _, none⟩) NB335_342.out _).trans (hHeld.2.1)))))))) ((cell_far (p := ⟨gb342, _, none⟩) NB335_342.out _).trans (((cell_far (p := ⟨gb342, _, none⟩) NB335_342.out _).trans (((cell_far (p := ⟨gb342, _, none⟩) NB335_342.out _).trans (((cell_far (p := ⟨gb342, _, none⟩) NB335_342.out _).trans (hHeld.2.2.1)))))))) ((cell_far (p := ⟨gb342, _, none⟩) NB335_342.out _).trans (((cell_far (p := ⟨gb342, _, none⟩) NB335_342.out _).trans (((cell_far (p := ⟨gb342, _, none⟩) NB335_342.out _).trans (((cell_far (p := ⟨gb342, _, none⟩) NB335_342.out _).trans (hHeld.2.2.2))))))))) (fun hHeld => ?_)
           clear hK K
           refine done_ (done_of HT_.out (by kernel_rfl)) ?_
           have hnb82 := NB342_328.out
           have hnc82 := NB328_342.out
           have hnb83 := NB342_335.out
           have hnc83 := NB335_342.out
           have hnb84 := NB342_0.out
           have hnc84 := NB0_342.out
           obtain ⟨hcz85_0, hcz85_1, hcz85_2, hcz85_3, hfz85_0, hfz85_1, hfz85_2, hfz85_3⟩ := bc4_ BK342
           have hnb86 := NB335_328.out
           have hnc86 := NB328_335.out
           have hnb87 := NB335_0.out
           have hnc87 := NB0_335.out
           obtain ⟨hcz88_0, hcz88_1, hcz88_2, hcz88_3, hfz88_0, hfz88_1, hfz88_2, hfz88_3⟩ := bc4_ BK335
           try go_wp2
           go_roundg kj39
           case measure => have := HK1.out; have := HJ14.out; have := HJ39.out; omega
           case rel => exact ⟨(wrap64 (x4_1 - 1)), (t371), (t372), (t373), (t376), (t377), (t378), (.slice Ao77 t373.length co77), rs_, H', ⟨by have := HK1.out; have := HJ14.out; have := HJ39.out; omega⟩, ⟨by (with_reducible repeat (first | apply Kd.R_alloc | apply Kd.R_drewN | apply Kd.R_drew)); exact Kd.R_mono (Kd.R_far (p := ⟨gb335, 3, none⟩) (Kd.R_far (p := ⟨gb335, 2, none⟩) (Kd.R_far (p := ⟨gb335, 1, none⟩) (Kd.R_far (p := ⟨gb335, 0, none⟩) (Kd.R_far (p := ⟨gb342, 3, none⟩) (Kd.R_far (p := ⟨gb342, 2, none⟩) (Kd.R_far (p := ⟨gb342, 1, none⟩) (Kd.R_far (p := ⟨gb342, 0, none⟩) (Kd.R_types (Kd.R_types HO375.out BK342.out (by decide)) BK335.out (by decide)) (fun _ hk => hk.1.2) (.slice Ao77 t373.length co77)) (fun _ hk => hk.1.2) (.int .i64 t376)) (fun _ hk => hk.1.2) (.int .i64 t377)) (fun _ hk => hk.1.2) (.bool t378)) (fun _ hk => hk.2) (.slice Ao77 t373.length co77)) (fun _ hk => hk.2) (.int .i64 t376)) (fun _ hk => hk.2) (.int .i64 t377)) (fun _ hk => hk.2) (.bool t378)) (fun _ hk => trivial)⟩, ⟨by (with_reducible repeat (first | refine blk_drewN ?_ _ | refine blk_drew ?_ | refine blk_alloc ?_ _)); refine blk_far ?_ NB328_335.out _; (with_reducible repeat (first | refine blk_drewN ?_ _ | refine blk_drew ?_ | refine blk_alloc ?_ _)); refine blk_far ?_ NB328_335.out _; (with_reducible repeat (first | refine blk_drewN ?_ _ | refine blk_drew ?_ | refine blk_alloc ?_ _)); refine blk_far ?_ NB328_335.out _; (with_reducible repeat (first | refine blk_drewN ?_ _ | refine blk_drew ?_ | refine blk_alloc ?_ _)); refine blk_far ?_ NB328_335.out _; (with_reducible repeat (first | refine blk_drewN ?_ _ | refine blk_drew ?_ | refine blk_alloc ?_ _)); refine blk_far ?_ NB328_342.out _; (with_reducible repeat (first | refine blk_drewN ?_ _ | refine blk_drew ?_ | refine blk_alloc ?_ _)); refine blk_far ?_ NB328_342.out _; (with_reducible repeat (first | refine blk_drewN ?_ _ | refine blk_drew ?_ | refine blk_alloc ?_ _)); refine blk_far ?_ NB328_342.out _; (with_reducible repeat (first | refine blk_drewN ?_ _ | refine blk_drew ?_ | refine blk_alloc ?_ _)); refine blk_far ?_ NB328_342.out _; (with_reducible repeat (first | refine blk_drewN ?_ _ | refine blk_drew ?_ | refine blk_alloc ?_ _)); exact BK328.out⟩, ⟨by (with_reducible repeat (first | refine blk_drewN ?_ _ | refine blk_drew ?_ | refine blk_alloc ?_ _)); refine blk_put (cs := #[.slice Ao77 t373.length co77, .int .i64 t376, .int .i64 t377, .bool x336003_1]) ?_ 3 _ rfl; (with_reducible repeat (first | refine blk_drewN ?_ _ | refine blk_drew ?_ | refine blk_alloc ?_ _)); refine blk_put (cs := #[.slice Ao77 t373.length co77, .int .i64 t376, .int .i64 x336002_1, .bool x336003_1]) ?_ 2 _ rfl; (with_reducible repeat (first | refine blk_drewN ?_ _ | refine blk_drew ?_ | refine blk_alloc ?_ _)); refine blk_put (cs := #[.slice Ao77 t373.length co77, .int .i64 x336001_1, .int .i64 x336002_1, .bool x336003_1]) ?_ 1 _ rfl; (with_reducible repeat (first | refine blk_drewN ?_ _ | refine blk_drew ?_ | refine blk_alloc ?_ _)); refine blk_put (cs := #[.slice Ao21 x336000_1.length co21, .int .i64 x336001_1, .int .i64 x336002_1, .bool x336003_1]) ?_ 0 _ rfl; (with_reducible repeat (first | refine blk_drewN ?_ _ | refine blk_drew ?_ | refine blk_alloc ?_ _)); refine blk_far ?_ NB335_342.out _; (with_reducible repeat (first | refine blk_drewN ?_ _ | refine blk_drew ?_ | refine blk_alloc ?_ _)); refine blk_far ?_ NB335_342.out _; (with_reducible repeat (first | refine blk_drewN ?_ _ | refine blk_drew ?_ | refine blk_alloc ?_ _)); refine blk_far ?_ NB335_342.out _; (with_reducible repeat (first | refine blk_drewN ?_ _ | refine blk_drew ?_ | refine blk_alloc ?_ _)); refine blk_far ?_ NB335_342.out _; (with_reducible repeat (first | refine blk_drewN ?_ _ | refine blk_drew ?_ | refine blk_alloc ?_ _)); exact BK335.out⟩, ⟨by repeat (first | (with_reducible first | exact HI0.out | apply IsS104.alloc | apply IsS104.drewN | apply IsS104.drew | apply IsS104.set_1 | apply IsS104.set_2 | refine IsS104.far ?_ NB0_328.out _ | refine IsS104.far ?_ NB0_335.out _ | refine IsS104.far ?_ NB0_342.out _) | exact HI0.out)⟩, ⟨by repeat (first | (with_reducible first | exact HK.out | apply KeepBut.set_ | apply keep_drewN | apply keep_drew | apply keep_alloc | refine keep_far ?_ GW328.out _ | refine keep_far ?_ GW335.out _ | refine keep_far ?_ GW342.out _) | exact HK.out)⟩, ⟨by repeat (first | (with_reducible first | exact HB.out | apply below_alloc | apply pw_below_drewN | apply below_drew1 | refine below_set ?_ (IsS104.ge HI0.out) | refine below_set ?_ GE328.out | refine below_set ?_ GE335.out | refine below_set ?_ GE342.out) | exact HB.out)⟩⟩
   ·rw [if_neg c12] at H
    have c12b0 : decide (0 < x4_1) = false := decide_eq_false c12
    clear c12
    simp only [Option.some.injEq, Prod.mk.injEq] at H
    obtain ⟨rfl, rfl, rfl, rfl, rfl, rfl⟩ := H
    have hnb89 := NB335_328.out
    have hnc89 := NB328_335.out
    have hnb90 := NB335_0.out
    have hnc90 := NB0_335.out
    obtain ⟨hcz91_0, hcz91_1, hcz91_2, hcz91_3, hfz91_0, hfz91_1, hfz91_2, hfz91_3⟩ := bc4_ BK335
    obtain ⟨Ao92, co92, eo92⟩ := Kd.R_slice HO_336000.out
    subst eo92
    have hnb93 := NB328_0.out
    have hnc93 := NB0_328.out
    obtain ⟨hcz94_0, hcz94_1, hcz94_2, hcz94_3, hfz94_0, hfz94_1, hfz94_2, hfz94_3⟩ := bc4_ BK328
    go_wp2
    refine bodyPost_ret (results_cell_row rfl _ _ gb328 29 #[.slice Ao92 x336000_1.length co92, .int .i64 x336001_1, .int .i64 x336002_1, .bool x336003_1] (0, 0) _ rfl (up_ _ BK328 rfl).out Try.underlying29 rfl (by kernel_rfl)) rfl ?_
    exact ⟨_, by first | rfl | (simp [errW_none, errW_some] <;> rfl) | (simp [*, errW_none, errW_some] <;> rfl), by (with_reducible repeat (first | apply Kd.R_alloc | apply Kd.R_drewN | apply Kd.R_drew)); exact Kd.R_mono (Kd.R_far (p := ⟨gb328, 3, none⟩) (Kd.R_far (p := ⟨gb328, 2, none⟩) (Kd.R_far (p := ⟨gb328, 1, none⟩) (Kd.R_far (p := ⟨gb328, 0, none⟩) (Kd.R_types HO_336000.out BK328.out (by decide)) (fun _ hk => hk.2) (.slice Ao92 x336000_1.length co92)) (fun _ hk => hk.2) (.int .i64 x336001_1)) (fun _ hk => hk.2) (.int .i64 x336002_1)) (fun _ hk => hk.2) (.bool x336003_1)) (fun _ hk => trivial), by repeat (first | (with_reducible first | exact HI0.out | apply IsS104.alloc | apply IsS104.drewN | apply IsS104.drew | apply IsS104.set_1 | apply IsS104.set_2 | refine IsS104.far ?_ NB0_328.out _ | refine IsS104.far ?_ NB0_335.out _) | exact HI0.out), by repeat (first | (with_reducible first | exact HB.out | apply below_alloc | apply pw_below_drewN | apply below_drew1 | refine below_set ?_ (IsS104.ge HI0.out) | refine below_set ?_ GE328.out | refine below_set ?_ GE335.out) | exact HB.out), by repeat (first | (with_reducible first | exact HK.out | apply KeepBut.set_ | apply keep_drewN | apply keep_drew | apply keep_alloc | refine keep_far ?_ GW328.out _ | refine keep_far ?_ GW335.out _) | exact HK.out)⟩

end Go.Proofs.Ytigbekefjbfopaa.PFnPower
