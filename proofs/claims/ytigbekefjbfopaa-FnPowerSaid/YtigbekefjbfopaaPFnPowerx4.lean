-- Laid by a program of this session, a copy of the kit's printer with additions (wip/patch_print.py): myhead. Lean checks it.
import Derived.Test.YtigbekefjbfopaaPFnPowerx0
import Derived.Test.YtigbekefjbfopaaPFnPowerx2
import Derived.Test.YtigbekefjbfopaaPFnPowerx3
namespace Go.Proofs.Ytigbekefjbfopaa.PFnPower
open Go.RowKit Go.Proofs.YtigbekefjbfopaaW.PrintWords Go.Proofs.YtigbekefjbfopaaW.PrintLast Go.Proofs.YtigbekefjbfopaaW.PrintMore
attribute [local go_sem] max2_int min2_int max_two min_two max_three min_three max_four min_four   -- for this text's walks alone
set_option linter.unusedVariables false
set_option linter.unusedSimpArgs false

/-! ### impl_Power: function 10 -/
def impl_Power.l0 : Nat → List Int → Int → Int → List (S45) → Int → Int → Bool → Option ((List (S45)) × Int × Int × Bool)
 | 0, _, _, _, _, _, _, _ => none
 | k + 1, x1, x17, x18, x124000, x124001, x124002, x124003 => if x18 < x17 then (if 0 ≤ x18 then (if x18 < (x124000.length : Int) then (if (x1.length : Int) > 0 then (if (x1.length : Int) = 0 then (none) else (if 0 ≤ (Int.tmod x18 (x1.length : Int)) then (if (Int.tmod x18 (x1.length : Int)) < (x1.length : Int) then (if (wrap64 ((wrap64 ((((rd_T45 x124000 x18).f1).size : Int) - ((rd_T45 x124000 x18).f2))) + 1)) = 0 then (none) else ((some (x124000.set (x18 : Int).toNat (⟨(rd_T45 x124000 x18).f0, (rd_T45 x124000 x18).f1, wrap64 (((rd_T45 x124000 x18).f2) + ((mx (rd x1 (Int.tmod x18 (x1.length : Int))) 0) % (wrap64 ((wrap64 ((((rd_T45 x124000 x18).f1).size : Int) - ((rd_T45 x124000 x18).f2))) + 1))))⟩ : S45) : List (S45))).bind fun y128 => (if 0 ≤ ((rd_T45 y128 x18).f2) then (if ((rd_T45 y128 x18).f2) ≤ (((rd_T45 y128 x18).f1).size : Int) then (impl_Power.l0 k x1 x17 (wrap64 (x18 + 1)) (y128.set (x18 : Int).toNat (⟨(rd_T45 y128 x18).f0, ((rd_T45 y128 x18).f1).extract 0 (((rd_T45 y128 x18).f2) : Int).toNat, (rd_T45 y128 x18).f2⟩ : S45)) x124001 x124002 x124003) else (none)) else (none)))) else (none)) else (none))) else ((some (x124000.set (x18 : Int).toNat (⟨(rd_T45 x124000 x18).f0, (rd_T45 x124000 x18).f1, wrap64 (((rd_T45 x124000 x18).f2) + 0)⟩ : S45) : List (S45))).bind fun y132 => (if 0 ≤ ((rd_T45 y132 x18).f2) then (if ((rd_T45 y132 x18).f2) ≤ (((rd_T45 y132 x18).f1).size : Int) then (impl_Power.l0 k x1 x17 (wrap64 (x18 + 1)) (y132.set (x18 : Int).toNat (⟨(rd_T45 y132 x18).f0, ((rd_T45 y132 x18).f1).extract 0 (((rd_T45 y132 x18).f2) : Int).toNat, (rd_T45 y132 x18).f2⟩ : S45)) x124001 x124002 x124003) else (none)) else (none)))) else (none)) else (none)) else (some (x124000, x124001, (-1), false))
def impl_Power.f (k : Nat) (l0_0 : List (S45)) (a0_1 : Int) (a0_2 : Int) (a0_3 : Bool) (l1 : List Int) : Option ((List (S45)) × Int × Int × Bool) := (impl_copyDisk.f l0_0 a0_1 a0_2 a0_3).bind fun bt117 => ((impl_DiskOk.f k l0_0 a0_1 a0_2 a0_3).bind fun t124 => (if t124 = true then (impl_Power.l0 k l1 (bt117.1.length : Int) 0 bt117.1 bt117.2.1 bt117.2.2.1 bt117.2.2.2) else (some (bt117.1, bt117.2.1, bt117.2.2.1, bt117.2.2.2))))
theorem impl_Power.mono_l : ∀ k, (∀ y0 y1 y2 y3 y4 y5 y6, LeO (impl_Power.l0 k y0 y1 y2 y3 y4 y5 y6) (impl_Power.l0 (k + 1) y0 y1 y2 y3 y4 y5 y6))
 | 0 => fun _ _ _ _ _ _ _ r h => by simp [impl_Power.l0] at h
 | k + 1 => by
  have ih0 := impl_Power.mono_l k
  ·intro y0 y1 y2 y3 y4 y5 y6
   unfold impl_Power.l0
   repeat' first | (with_reducible first | exact ih0 .. | exact impl_DiskOk.mono .. | exact LeO.refl .. | exact LeO.none .. | refine LeO.ite ?_ ?_ | refine LeO.bind ?_ (fun _ => ?_)) | exact ih0 .. | exact impl_DiskOk.mono .. | exact LeO.none .. | refine LeO.ite ?_ ?_ | refine LeO.bind ?_ (fun _ => ?_)
theorem impl_Power.mono : ∀ a0 a1 a2 a3 a4 k, LeO (impl_Power.f k a0 a1 a2 a3 a4) (impl_Power.f (k + 1) a0 a1 a2 a3 a4) := by
 intro a0 a1 a2 a3 a4 k
 have ih0 := impl_Power.mono_l k
 unfold impl_Power.f
 repeat' first | (with_reducible first | exact ih0 .. | exact impl_DiskOk.mono .. | exact LeO.refl .. | exact LeO.none .. | refine LeO.ite ?_ ?_ | refine LeO.bind ?_ (fun _ => ?_)) | exact ih0 .. | exact impl_DiskOk.mono .. | exact LeO.none .. | refine LeO.ite ?_ ?_ | refine LeO.bind ?_ (fun _ => ?_)
def impl_Power.T10 : Bool × List (List Nat × List Nat) := (true, [([], []), ([], []), ([], []), ([2], [2]), ([1, 3], [1, 3]), ([0, 4], [0, 4]), ([5], [5]), ([6], [6]), ([], []), ([8], [8]), ([9], [9]), ([10], [10]), ([11], [11]), ([], []), ([13], [13]), ([14], [14]), ([15], [15]), ([12, 16], [12, 16]), ([17], [17]), ([7, 18], [7, 18]), ([19, 0, 1, 2, 3, 4, 5, 6, 7, 8, 9, 10, 11, 12, 13, 14, 15, 16, 17, 18, 19], [19])])
def impl_Power.B10 : List Nat := [0, 0, 0, 4, 14, 31, 63, 127, 0, 256, 768, 1792, 3840, 0, 8192, 24576, 57344, 130816, 261888, 524287, 1048575]
theorem impl_Power.tab10 : rtab .any (opsOf Try.f10 10) = impl_Power.T10 := by kernel_rfl
theorem impl_Power.bits10 : waitsOk impl_Power.T10.2 impl_Power.B10 = true := by kernel_rfl
def impl_Power.T12 : Bool × List (List Nat × List Nat) := (true, [([], []), ([], []), ([1], [1]), ([2], [2]), ([3], [3]), ([], []), ([5], [5]), ([6], [6]), ([7], [7]), ([4, 8], [4, 8]), ([0, 0, 1, 2, 3, 4, 5, 6, 7, 8, 9], [0]), ([10, 0, 1, 2, 3, 4, 5, 6, 7, 8, 9], [10]), ([11, 9, 0, 1, 2, 3, 4, 5, 6, 7, 8, 9], [9, 11])])
def impl_Power.B12 : List Nat := [0, 0, 2, 6, 14, 0, 32, 96, 224, 510, 1023, 2047, 4095]
theorem impl_Power.tab12 : rtab .any (opsOf Try.f10 12) = impl_Power.T12 := by kernel_rfl
theorem impl_Power.bits12 : waitsOk impl_Power.T12.2 impl_Power.B12 = true := by kernel_rfl
set_option maxHeartbeats 80000000 in
set_option maxRecDepth 100000 in
theorem impl_Power.calls (k : Nat) (A0_0 : Option Addr) (c0_0 : Nat) (l0_0 : List (S45)) (a0_1 : Int) (a0_2 : Int) (a0_3 : Bool) (A1 : Option Addr) (c1 : Nat) (l1 : List Int) (r1 : List (S45)) (r2 : Int) (r3 : Int) (r4 : Bool) (w : World) (hr0_0 : Kd.C k45 w A0_0 l0_0.length l0_0) (hc0_0 : l0_0.length ≤ c0_0) (hr1 : Kd.C (Kd.int .i64) w A1 l1.length l1) (hc1 : l1.length ≤ c1) (h : impl_Power.f k l0_0 a0_1 a0_2 a0_3 l1 = some (r1, r2, r3, r4)) :
  Calls Try.prog 10 #[.agg #[.slice A0_0 l0_0.length c0_0, .int .i64 a0_1, .int .i64 a0_2, .bool a0_3], .slice A1 l1.length c1] w fun e w' => ∃ v0_ : Value, e = .returned (.agg #[v0_, .int .i64 r2, .int .i64 r3, .bool r4]) ∧ Kd.R k45 45 w' w.heap.size (fun _ => True) v0_ r1 ∧ Below w.heap.size w w' := by
 have hu29 := Try.underlying29
 have HR0_0 := Aside0.mk hr0_0
 have HC0_0 := Aside0.mk hc0_0
 clear hr0_0 hc0_0
 have HR1 := Aside0.mk hr1
 have HC1 := Aside0.mk hc1
 clear hr1 hc1
 have HB := Aside0.mk (Below.refl w.heap.size w)
 have H : ((impl_copyDisk.f l0_0 a0_1 a0_2 a0_3).bind fun bt117 => ((impl_DiskOk.f k l0_0 a0_1 a0_2 a0_3).bind fun t124 => (if t124 = true then (impl_Power.l0 k l1 (bt117.1.length : Int) 0 bt117.1 bt117.2.1 bt117.2.2.1 bt117.2.2.2) else (some (bt117.1, bt117.2.1, bt117.2.2.1, bt117.2.2.2))))) = some (r1, r2, r3, r4) := h
 clear h
 replace H := Option.bind_eq_some_iff.mp H
 obtain ⟨⟨t117, t120, t121, t122⟩, A30, H⟩ := H
 replace H : ((impl_DiskOk.f k l0_0 a0_1 a0_2 a0_3).bind fun t124 => (if t124 = true then (impl_Power.l0 k l1 (t117.length : Int) 0 t117 t120 t121 t122) else (some (t117, t120, t121, t122)))) = some (r1, r2, r3, r4) := H
 have A3 := Aside0.mk A30
 clear A30
 replace H := Option.bind_eq_some_iff.mp H
 obtain ⟨t124, A40, H⟩ := H
 replace H : (if t124 = true then (impl_Power.l0 k l1 (t117.length : Int) 0 t117 t120 t121 t122) else (some (t117, t120, t121, t122))) = some (r1, r2, r3, r4) := H
 have A4 := Aside0.mk A40
 clear A40
 by_cases c5 : t124 = true
 ·subst c5
  have H1 : (impl_Power.l0 k l1 (t117.length : Int) 0 t117 t120 t121 t122) = some (r1, r2, r3, r4) := by rw [if_pos rfl] at H; exact H
  clear H
  have H := H1
  clear H1
  have H' := Aside0.mk H
  clear H
  go_enter Try.func10, Try.ntmps10
  go_wp2_with (first | ((with_reducible refine gate_dst (N := 2) rfl ?_); refine box_event ?hg (N := 2) ?hd (cs := #[.slice A0_0 l0_0.length c0_0, .int .i64 a0_1, .int .i64 a0_2, .bool a0_3]) (t := 29) ?hr ?_; (case hd => rfl); (case hg => rfl); (case hr => first | (go_simp; done) | (go_simp; rfl)); intro gb115 hg w6 hbox hb; have BK115 := Aside0.mk (hbox); have GW115 := ge_ hg (hb_ HB); have GE115 := ge_ hg (hb_ HB); replace HB := bs_ HB hb; clear hb hbox hg) | ((with_reducible refine gate_dst (N := 4) rfl ?_); refine box_event ?hg (N := 4) ?hd (cs := #[.slice none 0 0, .int .i64 0, .int .i64 0, .bool false]) (t := 29) ?hr ?_; (case hd => rfl); (case hg => rfl); (case hr => first | (go_simp; done) | (go_simp; rfl)); intro gb116 hg w7 hbox hb; have BK116 := Aside0.mk (hbox); have GW116 := ge_ hg (hs_ HB GE115); have GE116 := ge_ hg (hs_ HB GE115); replace HB := bt_ HB GE115 hb; have NB115_116 := nl_ BK115 hg; have NB116_115 := ng_ BK115 hg; replace BK115 := bb_ BK115 hb; clear hb hbox hg; have hnb8 := NB115_116.out; have hnc8 := NB116_115.out; obtain ⟨hcz9_0, hcz9_1, hcz9_2, hcz9_3, hfz9_0, hfz9_1, hfz9_2, hfz9_3⟩ := bc4_ BK115) | ((with_reducible refine gate_callee (f := 38) rfl ?_); refine goesL_ (some 10) rfl rfl Try.func38 (by kernel_rfl) rfl #[.agg #[.slice A0_0 l0_0.length c0_0, .int .i64 a0_1, .int .i64 a0_2, .bool a0_3]] rfl ar_ ?_; (with_reducible refine (impl_copyDisk.calls _ _ l0_0 a0_1 a0_2 a0_3 t117 t120 t121 t122 _ ?side1 ?side2 A3.out).mono ?_); (case side1 => repeat (first | exact (Kd.C_below HR0_0.out HB.out) | (with_reducible refine Kd.C_alloc ?_ _) | (with_reducible refine Kd.C_drewN ?_ _) | (with_reducible refine Kd.C_drew ?_))); (case side2 => exact HC0_0.out); rintro e w10 ⟨v118, rfl, ho0, hb⟩; refine ⟨_, rfl, ?_⟩; have HO119 := Aside0.mk (Kd.R_lower ho0 (below_size (hu_ HB GE115 GE116))); replace BK115 := bb_ BK115 hb; replace BK116 := bb_ BK116 hb; replace HB := bu_ HB GE115 GE116 hb; (try clear hb); (try clear hb2); (try clear hk); (try clear hi); (try clear ho0)) | ((with_reducible refine gate_dst (N := 5) rfl ?_); refine box_event ?hg (N := 5) ?hd (cs := #[.slice none 0 0, .int .i64 0, .int .i64 0, .bool false]) (t := 29) ?hr ?_; (case hd => rfl); (case hg => rfl); (case hr => first | (go_simp; done) | (go_simp; rfl)); intro gb123 hg w11 hbox hb; replace HO119 := rb_ HO119 hb; have BK123 := Aside0.mk (hbox); have GW123 := ge_ hg (hu_ HB GE115 GE116); have GE123 := ge_ hg (hu_ HB GE115 GE116); replace HB := bu_ HB GE115 GE116 hb; have NB115_123 := nl_ BK115 hg; have NB123_115 := ng_ BK115 hg; replace BK115 := bb_ BK115 hb; have NB116_123 := nl_ BK116 hg; have NB123_116 := ng_ BK116 hg; replace BK116 := bb_ BK116 hb; clear hb hbox hg; obtain ⟨Ao12, co12, eo12⟩ := Kd.R_slice HO119.out; subst eo12; have hnb13 := NB123_115.out; have hnc13 := NB115_123.out; have hnb14 := NB123_116.out; have hnc14 := NB116_123.out; obtain ⟨hcz15_0, hcz15_1, hcz15_2, hcz15_3, hfz15_0, hfz15_1, hfz15_2, hfz15_3⟩ := bc4_ BK123; obtain ⟨hcz16_0, hcz16_1, hcz16_2, hcz16_3, hfz16_0, hfz16_1, hfz16_2, hfz16_3⟩ := bc4_ BK115) | ((with_reducible refine gate_callee (f := 39) rfl ?_); refine goesL_ (some 12) rfl rfl Try.func39 (by kernel_rfl) rfl #[.agg #[.slice A0_0 l0_0.length c0_0, .int .i64 a0_1, .int .i64 a0_2, .bool a0_3]] rfl ar_ ?_; (with_reducible refine (impl_DiskOk.calls k _ _ l0_0 a0_1 a0_2 a0_3 true _ ?side1 ?side2 A4.out).mono ?_); (case side1 => exact Kd.C_below HR0_0.out (hv_ HB GE115 GE116 GE123)); (case side2 => exact HC0_0.out); rintro e w17 ⟨rfl, hb⟩; refine ⟨_, rfl, ?_⟩; replace HO119 := rfb_ HO119 BK123 hb; replace BK115 := bf_ BK115 NB115_123 hb; replace BK116 := bf_ BK116 NB116_123 hb; replace BK123 := bp_ #[.slice Ao12 t117.length co12, .int .i64 t120, .int .i64 t121, .bool t122] BK123 hb; replace HB := Aside0.mk (below_step (hv_ HB GE115 GE116 GE123) hb); (try clear hb); (try clear hb2); (try clear hk); (try clear hi); obtain ⟨hcz18_0, hcz18_1, hcz18_2, hcz18_3, hfz18_0, hfz18_1, hfz18_2, hfz18_3⟩ := bc4_ BK123))
  go_loopg [18] k (fun kq v18 w' => ∃ (x18_1 : Int) (x124000_1 : List (S45)) (u124000 : Value), v18 = .int .i64 x18_1 ∧ Aside0 (impl_Power.l0 kq l1 (t117.length : Int) x18_1 x124000_1 t120 t121 t122 = some (r1, r2, r3, r4)) ∧ Aside0 (kq ≤ k) ∧ Aside0 (Kd.R k45 45 w' w.heap.size (fun _ => True) u124000 x124000_1) ∧ Aside0 (w'.heap[gb115]? = some (.cells #[(.slice A0_0 l0_0.length c0_0), .int .i64 a0_1, .int .i64 a0_2, .bool a0_3] 29 (0, 0))) ∧ Aside0 (w'.heap[gb116]? = some (.cells #[(.slice none 0 0), .int .i64 0, .int .i64 0, .bool false] 29 (0, 0))) ∧ Aside0 (w'.heap[gb123]? = some (.cells #[u124000, .int .i64 t120, .int .i64 t121, .bool t122] 29 (0, 0))) ∧ Aside0 (Below w.heap.size w w'))
  case atStart => exact ⟨(0), (t117), (.slice Ao12 t117.length co12), rs_, H', ⟨Nat.le_refl _⟩, ⟨rr_ HO119⟩, ⟨bk_ BK115⟩, ⟨bk_ BK116⟩, ⟨bk_ BK123⟩, ⟨by repeat (first | (with_reducible first | exact HB.out | apply below_alloc | apply pw_below_drewN | apply below_drew1 | refine below_set ?_ GE115.out | refine below_set ?_ GE116.out | refine below_set ?_ GE123.out) | exact HB.out)⟩⟩
  case round =>
   clear H'
   try clear c1
   try clear p2
   try clear c3
   try clear c5
   try clear c8
   try clear c10
   try clear c13
   try clear c14
   try clear hcz15_0 hcz15_1 hcz15_2 hcz15_3 hfz15_0 hfz15_1 hfz15_2 hfz15_3
   try clear hcz16_0 hcz16_1 hcz16_2 hcz16_3 hfz16_0 hfz16_1 hfz16_2 hfz16_3
   try clear hcz18_0 hcz18_1 hcz18_2 hcz18_3 hfz18_0 hfz18_1 hfz18_2 hfz18_3
   try clear hcz9_0 hcz9_1 hcz9_2 hcz9_3 hfz9_0 hfz9_1 hfz9_2 hfz9_3
   obtain ⟨x18_1, x124000_1, u124000, rfl, HA, HK1, HO_124000, BK115, BK116, BK123, HB⟩ := hrel
   cases gk with
   | zero => exact absurd HA.out (by simp [impl_Power.l0])
   | succ k1 =>
    have H := HA.out
    clear HA
    simp only [impl_Power.l0] at H
    by_cases c19 : x18_1 < (t117.length : Int)
    ·rw [if_pos c19] at H
     have c19b0 : decide (x18_1 < (t117.length : Int)) = true := decide_eq_true c19
     clear c19
     by_cases c20 : 0 ≤ x18_1
     ·rw [if_pos c20] at H
      have c20b0 : decide (0 ≤ x18_1) = true := decide_eq_true c20
      clear c20
      by_cases c21 : x18_1 < (x124000_1.length : Int)
      ·rw [if_pos c21] at H
       have c21b0 : decide (x18_1 < (x124000_1.length : Int)) = true := decide_eq_true c21
       clear c21
       by_cases c23 : (l1.length : Int) > 0
       ·rw [if_pos c23] at H
        have c23b0 : decide (0 < (l1.length : Int)) = true := decide_eq_true c23
        have c23b1 : decide (0 < l1.length) = true := decide_eq_true (by omega)
        clear c23
        by_cases c24 : (l1.length : Int) = 0
        ·rw [if_pos c24] at H
         exact absurd H (by simp)
        ·rw [if_neg c24] at H
         have c24b0 : ((l1.length : Int) == 0) = false := beq_eq_false_iff_ne.mpr c24
         have c24b1 : ((l1.length : Int) != 0) = true := bne_iff_ne.mpr c24
         have c24b2 : ¬ (l1 = []) := fun h_ => c24 (by rw [h_]; rfl)
         obtain ⟨ji25, hji25⟩ : ∃ j_ : Int, (Int.tmod x18_1 (l1.length : Int)) = j_ := ⟨_, rfl⟩
         replace H : (if 0 ≤ (ji25) then (if (ji25) < (l1.length : Int) then (if (wrap64 ((wrap64 ((((rd_T45 x124000_1 x18_1).f1).size : Int) - ((rd_T45 x124000_1 x18_1).f2))) + 1)) = 0 then (none) else ((some (x124000_1.set (x18_1 : Int).toNat (⟨(rd_T45 x124000_1 x18_1).f0, (rd_T45 x124000_1 x18_1).f1, wrap64 (((rd_T45 x124000_1 x18_1).f2) + ((mx (rd l1 (ji25)) 0) % (wrap64 ((wrap64 ((((rd_T45 x124000_1 x18_1).f1).size : Int) - ((rd_T45 x124000_1 x18_1).f2))) + 1))))⟩ : S45) : List (S45))).bind fun y128 => (if 0 ≤ ((rd_T45 y128 x18_1).f2) then (if ((rd_T45 y128 x18_1).f2) ≤ (((rd_T45 y128 x18_1).f1).size : Int) then (impl_Power.l0 k1 l1 (t117.length : Int) (wrap64 (x18_1 + 1)) (y128.set (x18_1 : Int).toNat (⟨(rd_T45 y128 x18_1).f0, ((rd_T45 y128 x18_1).f1).extract 0 (((rd_T45 y128 x18_1).f2) : Int).toNat, (rd_T45 y128 x18_1).f2⟩ : S45)) t120 t121 t122) else (none)) else (none)))) else (none)) else (none)) = some (r1, r2, r3, r4) := by first | (rw [hji25] at H; exact H) | (simp only [hji25] at H ⊢; exact H)
         by_cases c26 : 0 ≤ (ji25)
         ·rw [if_pos c26] at H
          have c26b0 : decide (0 ≤ (ji25)) = true := decide_eq_true c26
          clear c26
          by_cases c27 : (ji25) < (l1.length : Int)
          ·rw [if_pos c27] at H
           have c27b0 : decide ((ji25) < (l1.length : Int)) = true := decide_eq_true c27
           clear c27
           obtain ⟨ji28, hji28⟩ : ∃ j_ : Int, (mx (rd l1 (ji25)) 0) = j_ := ⟨_, rfl⟩
           replace H : (if (wrap64 ((wrap64 ((((rd_T45 x124000_1 x18_1).f1).size : Int) - ((rd_T45 x124000_1 x18_1).f2))) + 1)) = 0 then (none) else ((some (x124000_1.set (x18_1 : Int).toNat (⟨(rd_T45 x124000_1 x18_1).f0, (rd_T45 x124000_1 x18_1).f1, wrap64 (((rd_T45 x124000_1 x18_1).f2) + ((ji28) % (wrap64 ((wrap64 ((((rd_T45 x124000_1 x18_1).f1).size : Int) - ((rd_T45 x124000_1 x18_1).f2))) + 1))))⟩ : S45) : List (S45))).bind fun y128 => (if 0 ≤ ((rd_T45 y128 x18_1).f2) then (if ((rd_T45 y128 x18_1).f2) ≤ (((rd_T45 y128 x18_1).f1).size : Int) then (impl_Power.l0 k1 l1 (t117.length : Int) (wrap64 (x18_1 + 1)) (y128.set (x18_1 : Int).toNat (⟨(rd_T45 y128 x18_1).f0, ((rd_T45 y128 x18_1).f1).extract 0 (((rd_T45 y128 x18_1).f2) : Int).toNat, (rd_T45 y128 x18_1).f2⟩ : S45)) t120 t121 t122) else (none)) else (none)))) = some (r1, r2, r3, r4) := by first | (rw [hji28] at H; exact H) | (simp only [hji28] at H ⊢; exact H)
           have hji28_ : (if (rd l1 (ji25)) < 0 then 0 else (rd l1 (ji25))) = ji28 := hji28
           by_cases c29 : (wrap64 ((wrap64 ((((rd_T45 x124000_1 x18_1).f1).size : Int) - ((rd_T45 x124000_1 x18_1).f2))) + 1)) = 0
           ·rw [if_pos c29] at H
            exact absurd H (by simp)
           ·rw [if_neg c29] at H
            have c29b0 : ((wrap64 ((wrap64 ((((rd_T45 x124000_1 x18_1).f1).size : Int) - ((rd_T45 x124000_1 x18_1).f2))) + 1)) == 0) = false := beq_eq_false_iff_ne.mpr c29
            have c29b1 : ((wrap64 ((wrap64 ((((rd_T45 x124000_1 x18_1).f1).size : Int) - ((rd_T45 x124000_1 x18_1).f2))) + 1)) != 0) = true := bne_iff_ne.mpr c29
            obtain ⟨y128, hy128⟩ : ∃ y_ : List (S45), y_ = (x124000_1.set (x18_1 : Int).toNat (⟨(rd_T45 x124000_1 x18_1).f0, (rd_T45 x124000_1 x18_1).f1, wrap64 (((rd_T45 x124000_1 x18_1).f2) + ((ji28) % (wrap64 ((wrap64 ((((rd_T45 x124000_1 x18_1).f1).size : Int) - ((rd_T45 x124000_1 x18_1).f2))) + 1))))⟩ : S45)) := ⟨_, rfl⟩
            replace H : (if 0 ≤ ((rd_T45 y128 x18_1).f2) then (if ((rd_T45 y128 x18_1).f2) ≤ (((rd_T45 y128 x18_1).f1).size : Int) then (impl_Power.l0 k1 l1 (t117.length : Int) (wrap64 (x18_1 + 1)) (y128.set (x18_1 : Int).toNat (⟨(rd_T45 y128 x18_1).f0, ((rd_T45 y128 x18_1).f1).extract 0 (((rd_T45 y128 x18_1).f2) : Int).toNat, (rd_T45 y128 x18_1).f2⟩ : S45)) t120 t121 t122) else (none)) else (none)) = some (r1, r2, r3, r4) := by first | (rw [hy128]; with_reducible exact H) | (have H2_ := (Option.bind_some _ _).symm.trans H; rw [hy128]; with_reducible exact H2_) | (have H2_ := (Option.bind_some _ _).symm.trans H; with_reducible exact H2_) | with_reducible exact H | (rw [hy128]; exact H) | exact H
            have Ny128 := Aside0.mk hy128
            clear hy128
            by_cases c30 : 0 ≤ ((rd_T45 y128 x18_1).f2)
            ·rw [if_pos c30] at H
             have c30b0 := eq_true c30
             have c30b1 : decide (0 ≤ ((rd_T45 y128 x18_1).f2)) = true := decide_eq_true c30
             clear c30
             by_cases c31 : ((rd_T45 y128 x18_1).f2) ≤ (((rd_T45 y128 x18_1).f1).size : Int)
             ·rw [if_pos c31] at H
              have c31b0 := eq_true c31
              have c31b1 : decide (((rd_T45 y128 x18_1).f2) ≤ (((rd_T45 y128 x18_1).f1).size : Int)) = true := decide_eq_true c31
              clear c31
              obtain ⟨y131, hy131⟩ : ∃ y_ : List (S45), y_ = (y128.set (x18_1 : Int).toNat (⟨(rd_T45 y128 x18_1).f0, ((rd_T45 y128 x18_1).f1).extract 0 (((rd_T45 y128 x18_1).f2) : Int).toNat, (rd_T45 y128 x18_1).f2⟩ : S45)) := ⟨_, rfl⟩
              replace H : (impl_Power.l0 k1 l1 (t117.length : Int) (wrap64 (x18_1 + 1)) y131 t120 t121 t122) = some (r1, r2, r3, r4) := by first | (rw [hy131]; with_reducible exact H) | (have H2_ := (Option.bind_some _ _).symm.trans H; rw [hy131]; with_reducible exact H2_) | (have H2_ := (Option.bind_some _ _).symm.trans H; with_reducible exact H2_) | with_reducible exact H | (rw [hy131]; exact H) | exact H
              have Ny131 := Aside0.mk hy131
              clear hy131
              have H' := Aside0.mk H
              clear H
              have hnb32 := NB123_115.out
              have hnc32 := NB115_123.out
              have hnb33 := NB123_116.out
              have hnc33 := NB116_123.out
              obtain ⟨hcz34_0, hcz34_1, hcz34_2, hcz34_3, hfz34_0, hfz34_1, hfz34_2, hfz34_3⟩ := bc4_ BK123
              have p22 : 0 ≤ (x18_1 : Int) := of_decide_eq_true as_
              have q22 : (x18_1 : Int) < ((x124000_1.length : Int) : Int) := of_decide_eq_true as_
              obtain ⟨go22, co22, eo22, gb22, gl22, cl22, HG22⟩ := Kd.R_form HO_124000.out (by omega)
              (first | cases eo22 | (injection eo22 with ea_ en_ ec_; (first | subst ea_ | (injection ea_ with ea_; subst ea_)); subst ec_; clear en_))
              have GB22 := Aside0.mk gb22
              have GG22 := Aside0.mk HG22
              clear gb22 gl22 HG22
              obtain ⟨ce22, hcl22, hM22, hcc22, hfr22⟩ := Kd.R_elem HO_124000.out z45 (x18_1 : Int) p22 q22
              obtain rfl := k45_openM hM22
              have hx22_0 : wr.cell? ⟨go22, (x18_1 : Int).toNat * 3, none⟩ = some (.string ((rd_T45 x124000_1 x18_1).f0)) := hcc22 0 _ rfl
              have hx22_1 : wr.cell? ⟨go22, (x18_1 : Int).toNat * 3 + 1, none⟩ = some (.string ((rd_T45 x124000_1 x18_1).f1)) := hcc22 1 _ rfl
              have hx22_2 : wr.cell? ⟨go22, (x18_1 : Int).toNat * 3 + 2, none⟩ = some (.int .i64 ((rd_T45 x124000_1 x18_1).f2)) := hcc22 2 _ rfl
              have hf22_0 : wr.frozen? ⟨go22, (x18_1 : Int).toNat * 3, none⟩ = false := hfr22 0
              have hf22_1 : wr.frozen? ⟨go22, (x18_1 : Int).toNat * 3 + 1, none⟩ = false := hfr22 1
              have hf22_2 : wr.frozen? ⟨go22, (x18_1 : Int).toNat * 3 + 2, none⟩ = false := hfr22 2
              clear hcl22 hcc22 hfr22 hM22
              replace p22 := eq_true p22
              replace q22 := eq_true q22
              try go_wp2
              replace HO_124000 := rd_ HO_124000
              replace BK115 := bd_ BK115
              replace BK116 := bd_ BK116
              replace BK123 := bd_ BK123
              replace HB := hd_ HB
              have p125 : 0 ≤ ((ji25) : Int) := of_decide_eq_true as_
              have q125 : (ji25) < (l1.length : Int) := of_decide_eq_true as_
              obtain ⟨ad125, e125, hx125_0⟩ := Kd.at_int HR1.out (ji25) p125 q125
              have hw125_0 := hx125_0
              cases e125
              (try replace hx125_0 := cb_ HB hx125_0)
              replace p125 := eq_true p125
              replace q125 := eq_true q125
              have p126 : 0 ≤ (x18_1 : Int) := of_decide_eq_true as_
              have q126 : x18_1 < (x124000_1.length : Int) := of_decide_eq_true as_
              obtain ⟨ad126, e126, hx126_0, hx126_1, hx126_2⟩ := at_T45 (Kd.R_reads' HO_124000.out).2.2 x18_1 p126 q126
              obtain rfl : (⟨go22, 0, none⟩ : Addr) = ad126 := (by injection e126)
              (first | simp only [add_plain] at hx126_0 | simp only [add_at] at hx126_0 | simp only [Addr.add, Nat.zero_add] at hx126_0 | skip)
              (first | simp only [add_plain] at hx126_1 | simp only [add_at] at hx126_1 | simp only [Addr.add, Nat.zero_add] at hx126_1 | skip)
              (first | simp only [add_plain] at hx126_2 | simp only [add_at] at hx126_2 | simp only [Addr.add, Nat.zero_add] at hx126_2 | skip)
              replace p126 := eq_true p126
              replace q126 := eq_true q126
              have p127 : 0 ≤ (x18_1 : Int) := of_decide_eq_true as_
              have q127 : x18_1 < (x124000_1.length : Int) := of_decide_eq_true as_
              obtain ⟨ad127, e127, hx127_0, hx127_1, hx127_2⟩ := at_T45 (Kd.R_reads' HO_124000.out).2.2 x18_1 p127 q127
              obtain rfl : (⟨go22, 0, none⟩ : Addr) = ad127 := (by injection e127)
              (first | simp only [add_plain] at hx127_0 | simp only [add_at] at hx127_0 | simp only [Addr.add, Nat.zero_add] at hx127_0 | skip)
              (first | simp only [add_plain] at hx127_1 | simp only [add_at] at hx127_1 | simp only [Addr.add, Nat.zero_add] at hx127_1 | skip)
              (first | simp only [add_plain] at hx127_2 | simp only [add_at] at hx127_2 | simp only [Addr.add, Nat.zero_add] at hx127_2 | skip)
              replace p127 := eq_true p127
              replace q127 := eq_true q127
              refine start_ (n := 21) (S := fun w' => w'.cell? (ad125.add ((ji25)).toNat) = some (.int .i64 (rd l1 (ji25))) ∧ w'.cell? ⟨go22, (x18_1).toNat * 3, none⟩ = some (.string ((rd_T45 x124000_1 x18_1).f0)) ∧ w'.cell? ⟨go22, (x18_1).toNat * 3 + 1, none⟩ = some (.string ((rd_T45 x124000_1 x18_1).f1)) ∧ w'.cell? ⟨go22, (x18_1).toNat * 3 + 2, none⟩ = some (.int .i64 ((rd_T45 x124000_1 x18_1).f2)) ∧ w'.cell? ⟨go22, (x18_1).toNat * 3, none⟩ = some (.string ((rd_T45 x124000_1 x18_1).f0)) ∧ w'.cell? ⟨go22, (x18_1).toNat * 3 + 1, none⟩ = some (.string ((rd_T45 x124000_1 x18_1).f1)) ∧ w'.cell? ⟨go22, (x18_1).toNat * 3 + 2, none⟩ = some (.int .i64 ((rd_T45 x124000_1 x18_1).f2))) (ds := []) (on_ 0 21) (by kernel_rfl) rfl rfl ⟨(cb_ HB hw125_0 :), hx126_0, hx126_1, hx126_2, hx127_0, hx127_1, hx127_2⟩ (fun hHeld => ?_); refine with_tabW impl_Power.tab10 impl_Power.bits10 (fun HT_ HW_ => ?_)
              generalize wr.drew = w35 at HO_124000 BK115 BK116 BK123 HB hx125_0 hx126_0 hx126_1 hx126_2 hx127_0 hx127_1 hx127_2 hHeld ⊢
              refine pv_' 0 28 (on_ 1 20) rfl rfl HT_ ?_
              refine pv_' 1 29 (on_ 2 19) rfl rfl HT_ ?_
              refine pv_' 2 30 (on_ 3 18) rfl rfl HT_ ?_
              refine pv_' 3 31 (on_ 4 17) rfl rfl HT_ ?_
              refine pv_' 4 32 (on_ 5 16) rfl rfl HT_ ?_
              refine pv_' 5 33 (on_ 6 15) rfl rfl HT_ ?_
              refine pv_' 8 36 #[i',i',i',i',i',i',o',o',i',o',o',o',o',o',o',o',o',o',o',o',o'] rfl rfl HT_ ?_
              refine pv_' 9 37 #[i',i',i',i',i',i',o',o',i',i',o',o',o',o',o',o',o',o',o',o',o'] rfl rfl HT_ ?_
              refine pv_' 10 38 #[i',i',i',i',i',i',o',o',i',i',i',o',o',o',o',o',o',o',o',o',o'] rfl rfl HT_ ?_
              refine pv_' 13 41 #[i',i',i',i',i',i',o',o',i',i',i',o',o',i',o',o',o',o',o',o',o'] rfl rfl HT_ ?_
              refine pv_' 14 42 #[i',i',i',i',i',i',o',o',i',i',i',o',o',i',i',o',o',o',o',o',o'] rfl rfl HT_ ?_
              refine pv_' 15 43 #[i',i',i',i',i',i',o',o',i',i',i',o',o',i',i',i',o',o',o',o',o'] rfl rfl HT_ ?_
              refine take_ (i := 6) (N := some 34) (v := ?_) (a' := ?_) #[i',i',i',i',i',i',i',o',i',i',i',o',o',i',i',i',o',o',o',o',o'] rfl rfl (take_ofW HT_.out HW_.out (by kernel_rfl)) (fun _ _ _ h => h) (Or.inl ⟨by rfl, ?_⟩) hHeld ?_ ?_
              rotate_left
              ·rintro w' ⟨s0, s1, s2, s3, s4, s5, s6⟩
               go_simp
               with_reducible rfl
              rotate_left
              ·simp only [Act.put, la_, lz_, ls_, i64_w, i32_w]
               rfl
              refine pv_' 7 35 #[i',i',i',i',i',i',i',i',i',i',i',o',o',i',i',i',o',o',o',o',o'] rfl rfl HT_ ?_
              refine take_ (i := 11) (N := some 39) (v := ?_) (a' := ?_) #[i',i',i',i',i',i',i',i',i',i',i',i',o',i',i',i',o',o',o',o',o'] rfl rfl (take_ofW HT_.out HW_.out (by kernel_rfl)) (fun _ _ _ h => h) (Or.inl ⟨by rfl, ?_⟩) hHeld ?_ ?_
              rotate_left
              ·rintro w' ⟨s0, s1, s2, s3, s4, s5, s6⟩
               go_simp
               with_reducible rfl
              rotate_left
              ·simp only [Act.put, la_, lz_, ls_, i64_w, i32_w]
               rfl
              refine pv_' 12 40 (on_ 16 5) rfl rfl HT_ ?_
              refine take_ (i := 16) (N := some 44) (v := ?_) (a' := ?_) (on_ 17 4) rfl rfl (take_ofW HT_.out HW_.out (by kernel_rfl)) (fun _ _ _ h => h) (Or.inl ⟨by rfl, ?_⟩) hHeld ?_ ?_
              rotate_left
              ·rintro w' ⟨s0, s1, s2, s3, s4, s5, s6⟩
               go_simp
               with_reducible rfl
              rotate_left
              ·simp only [Act.put, la_, lz_, ls_, i64_w, i32_w]
               rfl
              refine pv_' 17 45 (on_ 18 3) rfl rfl HT_ ?_
              refine pv_' 18 46 (on_ 19 2) rfl rfl HT_ ?_
              refine pv_' 19 47 (on_ 20 1) rfl rfl HT_ ?_
              refine pv_' 20 8 (on_ 21 0) rfl rfl HT_ ?_
              refine done_ (done_of HT_.out (by kernel_rfl)) ?_
              have HX36 := Aside0.mk (show Kd.R k45 45 w35 w.heap.size (fun _ => True) (.slice (some ⟨go22, 0, none⟩) x124000_1.length co22) x124000_1 from (rr_ HO_124000))
              obtain ⟨ce36, hcl36, hM36, hcc36, hfr36⟩ := Kd.R_elem HX36.out z45 (x18_1 : Int) (of_decide_eq_true as_) (by have h_ : (x18_1 : Int) < ((x124000_1.length : Int) : Int) := of_decide_eq_true as_; first | exact h_ | (have e_ := (Kd.R_reads' HO_124000.out).1; omega) | simpa using h_)
              obtain rfl := k45_openM hM36
              have HP36 := Kd.R_seg HX36.out (x18_1 : Int) (of_decide_eq_true as_) (by have h_ : (x18_1 : Int) < ((x124000_1.length : Int) : Int) := of_decide_eq_true as_; first | exact h_ | (have e_ := (Kd.R_reads' HO_124000.out).1; omega) | simpa using h_) (seg := [.int .i64 (wrap64 (((rd_T45 x124000_1 x18_1).f2) + ((ji28) % (wrap64 ((wrap64 ((((rd_T45 x124000_1 x18_1).f1).size : Int) - ((rd_T45 x124000_1 x18_1).f2))) + 1)))))]) (j := 2) hcl36 hcc36 (show 3 ≤ 3 from by decide) (x' := (⟨(rd_T45 x124000_1 x18_1).f0, (rd_T45 x124000_1 x18_1).f1, wrap64 (((rd_T45 x124000_1 x18_1).f2) + ((ji28) % (wrap64 ((wrap64 ((((rd_T45 x124000_1 x18_1).f1).size : Int) - ((rd_T45 x124000_1 x18_1).f2))) + 1))))⟩ : S45)) (k45_mkM _ _ _ (⟨(rd_T45 x124000_1 x18_1).f0, (rd_T45 x124000_1 x18_1).f1, wrap64 (((rd_T45 x124000_1 x18_1).f2) + ((ji28) % (wrap64 ((wrap64 ((((rd_T45 x124000_1 x18_1).f1).size : Int) - ((rd_T45 x124000_1 x18_1).f2))) + 1))))⟩ : S45) ) (fun _ hk => hk)
              have hx36_2 := hcc36 2 _ rfl
              (try simp only [show (k45).sz = 3 from rfl, Nat.mul_one, Nat.add_zero] at hx36_2)
              have hf36_2 := hfr36 2
              (try simp only [show (k45).sz = 3 from rfl, Nat.mul_one, Nat.add_zero] at hf36_2)
              clear hcl36 hcc36 hfr36 hM36
              try go_wp2_with (first | ((with_reducible refine gate_store (t := 3) (p := 55) rfl ?_); refine store_event (t := 3) (p := 55) (v := ?vo_w37) (w1 := (w35.setCell ⟨go22, (x18_1 : Int).toNat * 3 + 2, none⟩ (.int .i64 (wrap64 (((rd_T45 x124000_1 x18_1).f2) + ((ji28) % (wrap64 ((wrap64 ((((rd_T45 x124000_1 x18_1).f1).size : Int) - ((rd_T45 x124000_1 x18_1).f2))) + 1)))))))) ?hg ?ho ?hn ?hr ?_; (case ho => rfl); (case hg => rfl); (case hn => rfl); (case hr => first | (go_simp; done) | (go_simp; rfl)); intro w37 hw; have hg : w35.grownBy w37 (some go22) := (by rw [hw]; exact HP36.2); have hp_ : Kd.R k45 45 w37 w.heap.size (fun _ => True) (.slice (some ⟨go22, 0, none⟩) x124000_1.length co22) y128 := (by rw [hw, Ny128.out]; exact HP36.1); clear HP36; replace BK115 := bg_ BK115 hg (Kd.R_ne HO_124000.out BK115.out (by decide)); replace BK116 := bg_ BK116 hg (Kd.R_ne HO_124000.out BK116.out (by decide)); replace BK123 := bg_ BK123 hg (Kd.R_ne HO_124000.out BK123.out (by decide)); replace HO_124000 := Aside0.mk (hp_); replace HB := Aside0.mk ((by rw [hw]; exact below_set (HB.out) GB22.out : Below w.heap.size w w37)); clear hg hw hp_))
              replace HO_124000 := rd_ HO_124000
              replace BK115 := bd_ BK115
              replace BK116 := bd_ BK116
              replace BK123 := bd_ BK123
              replace HB := hd_ HB
              have p129 : 0 ≤ (x18_1 : Int) := of_decide_eq_true as_
              have q129 : x18_1 < (y128.length : Int) := (by have h_ : (x18_1 : Int) < ((x124000_1.length : Int) : Int) := of_decide_eq_true as_; first | (have e_ := (Kd.R_reads' HO_124000.out).1; omega) | simpa only [Ny128.out, List.length_set] using h_)
              have ql129 : ((x18_1 : Int) < ((x124000_1.length : Int) : Int)) = True := eq_true (of_decide_eq_true as_)
              obtain ⟨ad129, e129, hx129_0, hx129_1, hx129_2⟩ := at_T45 (Kd.R_reads' HO_124000.out).2.2 x18_1 p129 q129
              obtain rfl : (⟨go22, 0, none⟩ : Addr) = ad129 := (by injection e129)
              (first | simp only [add_plain] at hx129_0 | simp only [add_at] at hx129_0 | simp only [Addr.add, Nat.zero_add] at hx129_0 | skip)
              (first | simp only [add_plain] at hx129_1 | simp only [add_at] at hx129_1 | simp only [Addr.add, Nat.zero_add] at hx129_1 | skip)
              (first | simp only [add_plain] at hx129_2 | simp only [add_at] at hx129_2 | simp only [Addr.add, Nat.zero_add] at hx129_2 | skip)
              replace p129 := eq_true p129
              replace q129 := eq_true q129
              have p130 : 0 ≤ (x18_1 : Int) := of_decide_eq_true as_
              have q130 : x18_1 < (y128.length : Int) := (by have h_ : (x18_1 : Int) < ((x124000_1.length : Int) : Int) := of_decide_eq_true as_; first | (have e_ := (Kd.R_reads' HO_124000.out).1; omega) | simpa only [Ny128.out, List.length_set] using h_)
              have ql130 : ((x18_1 : Int) < ((x124000_1.length : Int) : Int)) = True := eq_true (of_decide_eq_true as_)
              obtain ⟨ad130, e130, hx130_0, hx130_1, hx130_2⟩ := at_T45 (Kd.R_reads' HO_124000.out).2.2 x18_1 p130 q130
              obtain rfl : (⟨go22, 0, none⟩ : Addr) = ad130 := (by injection e130)
              (first | simp only [add_plain] at hx130_0 | simp only [add_at] at hx130_0 | simp only [Addr.add, Nat.zero_add] at hx130_0 | skip)
              (first | simp only [add_plain] at hx130_1 | simp only [add_at] at hx130_1 | simp only [Addr.add, Nat.zero_add] at hx130_1 | skip)
              (first | simp only [add_plain] at hx130_2 | simp only [add_at] at hx130_2 | simp only [Addr.add, Nat.zero_add] at hx130_2 | skip)
              replace p130 := eq_true p130
              replace q130 := eq_true q130
              obtain ⟨ce39, hcl39, hM39, hcc39, hfr39⟩ := Kd.R_elem HO_124000.out z45 (x18_1 : Int) (of_decide_eq_true as_) (by have h_ : (x18_1 : Int) < ((x124000_1.length : Int) : Int) := of_decide_eq_true as_; first | exact h_ | (have e_ := (Kd.R_reads' HO_124000.out).1; omega) | simpa using h_)
              obtain rfl := k45_openM hM39
              have HP39 := (Kd.R_seg HO_124000.out (x18_1 : Int) (of_decide_eq_true as_) (by have h_ : (x18_1 : Int) < ((x124000_1.length : Int) : Int) := of_decide_eq_true as_; first | exact h_ | (have e_ := (Kd.R_reads' HO_124000.out).1; omega) | simpa using h_) (seg := [.string (((rd_T45 y128 x18_1).f1).extract 0 (((rd_T45 y128 x18_1).f2) : Int).toNat)]) (j := 1) hcl39 hcc39 (show 2 ≤ 3 from by decide) (x' := (⟨(rd_T45 y128 x18_1).f0, ((rd_T45 y128 x18_1).f1).extract 0 (((rd_T45 y128 x18_1).f2) : Int).toNat, (rd_T45 y128 x18_1).f2⟩ : S45)) (k45_mkM _ _ _ (⟨(rd_T45 y128 x18_1).f0, ((rd_T45 y128 x18_1).f1).extract 0 (((rd_T45 y128 x18_1).f2) : Int).toNat, (rd_T45 y128 x18_1).f2⟩ : S45) ) (fun _ hk => hk)).1
              rw [← Ny131.out] at HP39
              have HQ39 := Aside0.mk HP39
              have hfz39_0 : w37.drew.frozen? ⟨go22, (x18_1 : Int).toNat * 3, none⟩ = false := hfr39 0
              have hfz39_1 : w37.drew.frozen? ⟨go22, (x18_1 : Int).toNat * 3 + 1, none⟩ = false := hfr39 1
              have hfz39_2 : w37.drew.frozen? ⟨go22, (x18_1 : Int).toNat * 3 + 2, none⟩ = false := hfr39 2
              clear hcl39 hcc39 hfr39 hM39 HP39
              refine start_ (n := 13) (S := fun w' => w'.cell? ⟨go22, (x18_1).toNat * 3, none⟩ = some (.string ((rd_T45 y128 x18_1).f0)) ∧ w'.cell? ⟨go22, (x18_1).toNat * 3 + 1, none⟩ = some (.string ((rd_T45 y128 x18_1).f1)) ∧ w'.cell? ⟨go22, (x18_1).toNat * 3 + 2, none⟩ = some (.int .i64 ((rd_T45 y128 x18_1).f2)) ∧ w'.cell? ⟨go22, (x18_1).toNat * 3, none⟩ = some (.string ((rd_T45 y128 x18_1).f0)) ∧ w'.cell? ⟨go22, (x18_1).toNat * 3 + 1, none⟩ = some (.string ((rd_T45 y128 x18_1).f1)) ∧ w'.cell? ⟨go22, (x18_1).toNat * 3 + 2, none⟩ = some (.int .i64 ((rd_T45 y128 x18_1).f2))) (ds := [12]) (on_ 0 13) (by kernel_rfl) rfl rfl ⟨hx129_0, hx129_1, hx129_2, hx130_0, hx130_1, hx130_2⟩ (fun hHeld => ?_); refine with_tabW impl_Power.tab12 impl_Power.bits12 (fun HT_ HW_ => ?_)
              generalize w37.drew = w38 at HO_124000 BK115 BK116 BK123 HB HQ39 hx129_0 hx129_1 hx129_2 hx130_0 hx130_1 hx130_2 hfz39_0 hfz39_1 hfz39_2 hHeld ⊢
              refine pv_' 0 56 (on_ 1 12) rfl rfl HT_ ?_
              refine pv_' 1 57 (on_ 2 11) rfl rfl HT_ ?_
              refine pv_' 2 58 (on_ 3 10) rfl rfl HT_ ?_
              refine pv_' 3 59 (on_ 4 9) rfl rfl HT_ ?_
              refine pv_' 5 61 #[i',i',i',i',o',i',o',o',o',o',o',o',o'] rfl rfl HT_ ?_
              refine pv_' 6 62 #[i',i',i',i',o',i',i',o',o',o',o',o',o'] rfl rfl HT_ ?_
              refine pv_' 7 63 #[i',i',i',i',o',i',i',i',o',o',o',o',o'] rfl rfl HT_ ?_
              refine take_ (i := 4) (N := some 60) (v := ?_) (a' := ?_) (on_ 8 5) rfl rfl (take_ofW HT_.out HW_.out (by kernel_rfl)) (fun _ _ _ h => h) (Or.inl ⟨by rfl, ?_⟩) hHeld ?_ ?_
              rotate_left
              ·rintro w' ⟨s0, s1, s2, s3, s4, s5⟩
               go_simp
               with_reducible rfl
              rotate_left
              ·simp only [Act.put, la_, lz_, ls_, i64_w, i32_w]
               rfl
              refine take_ (i := 8) (N := some 64) (v := ?_) (a' := ?_) (on_ 9 4) rfl rfl (take_ofW HT_.out HW_.out (by kernel_rfl)) (fun _ _ _ h => h) (Or.inl ⟨by rfl, ?_⟩) hHeld ?_ ?_
              rotate_left
              ·rintro w' ⟨s0, s1, s2, s3, s4, s5⟩
               go_simp
               with_reducible rfl
              rotate_left
              ·simp only [Act.put, la_, lz_, ls_, i64_w, i32_w]
               rfl
              refine pv_' 9 65 (on_ 10 3) rfl rfl HT_ ?_
              refine pv_' 10 66 (on_ 11 2) rfl rfl HT_ ?_
              refine pv_' 11 67 (on_ 12 1) rfl rfl HT_ ?_
              refine last_ (i := 12) (N := none) (on_ 13 0) rfl rfl (one_of HT_.out (by kernel_rfl)) (by decide) (fun K hK => ?_)
              refine skip_ (w1 := ?_) (by rfl) rfl ?_ ?_
              rotate_left
              ·go_simp
               rfl
              refine hK.out _ _ ?_
              clear hK K
              refine done_ (done_of HT_.out (by kernel_rfl)) ?_
              have Nji28_ := Aside0.mk hji28
              clear hji28
              (try clear hji28w)
              have Nji25_ := Aside0.mk hji25
              clear hji25
              (try clear hji25w)
              try go_wp2
              have hji25 := Nji25_.out
              clear Nji25_
              (try have hji25w := (i64_w _).trans hji25)
              have hji28 := Nji28_.out
              clear Nji28_
              (try have hji28w := (i64_w _).trans hji28)
              go_roundg k1
              case measure => have := HK1.out; first | exact this | exact Nat.le_of_succ_le this | exact Nat.le_refl _ | omega
              case rel => exact ⟨(wrap64 (x18_1 + 1)), (y131), (.slice (some ⟨go22, 0, none⟩) x124000_1.length co22), rs_, (by first | exact H' | (simp only [hji28, hji25]; exact H')), ⟨by have := HK1.out; first | exact this | exact Nat.le_of_succ_le this | exact Nat.le_refl _ | omega⟩, ⟨by (with_reducible repeat (first | apply Kd.R_alloc | apply Kd.R_drewN | apply Kd.R_drew)); exact HQ39.out⟩, ⟨by (with_reducible repeat (first | refine blk_drewN ?_ _ | refine blk_drew ?_ | refine blk_alloc ?_ _)); refine blk_far ?_ (by have h_ := Kd.R_ne HO_124000.out BK115.out (by decide); intro e_; exact h_ (by rw [e_]; rfl)) _; (with_reducible repeat (first | refine blk_drewN ?_ _ | refine blk_drew ?_ | refine blk_alloc ?_ _)); exact BK115.out⟩, ⟨by (with_reducible repeat (first | refine blk_drewN ?_ _ | refine blk_drew ?_ | refine blk_alloc ?_ _)); refine blk_far ?_ (by have h_ := Kd.R_ne HO_124000.out BK116.out (by decide); intro e_; exact h_ (by rw [e_]; rfl)) _; (with_reducible repeat (first | refine blk_drewN ?_ _ | refine blk_drew ?_ | refine blk_alloc ?_ _)); exact BK116.out⟩, ⟨by (with_reducible repeat (first | refine blk_drewN ?_ _ | refine blk_drew ?_ | refine blk_alloc ?_ _)); refine blk_far ?_ (by have h_ := Kd.R_ne HO_124000.out BK123.out (by decide); intro e_; exact h_ (by rw [e_]; rfl)) _; (with_reducible repeat (first | refine blk_drewN ?_ _ | refine blk_drew ?_ | refine blk_alloc ?_ _)); exact BK123.out⟩, ⟨by repeat (first | (with_reducible first | exact HB.out | apply below_alloc | apply pw_below_drewN | apply below_drew1 | refine below_set ?_ GB22.out | refine below_set ?_ GE115.out | refine below_set ?_ GE116.out | refine below_set ?_ GE123.out) | exact HB.out)⟩⟩
             ·rw [if_neg c31] at H
              exact absurd H (by simp)
            ·rw [if_neg c30] at H
             exact absurd H (by simp)
          ·rw [if_neg c27] at H
           exact absurd H (by simp)
         ·rw [if_neg c26] at H
          exact absurd H (by simp)
       ·rw [if_neg c23] at H
        have c23b0 : decide (0 < (l1.length : Int)) = false := decide_eq_false c23
        have c23b1 : decide (0 < l1.length) = false := decide_eq_false (by omega)
        clear c23
        obtain ⟨y132, hy132⟩ : ∃ y_ : List (S45), y_ = (x124000_1.set (x18_1 : Int).toNat (⟨(rd_T45 x124000_1 x18_1).f0, (rd_T45 x124000_1 x18_1).f1, wrap64 (((rd_T45 x124000_1 x18_1).f2) + 0)⟩ : S45)) := ⟨_, rfl⟩
        replace H : (if 0 ≤ ((rd_T45 y132 x18_1).f2) then (if ((rd_T45 y132 x18_1).f2) ≤ (((rd_T45 y132 x18_1).f1).size : Int) then (impl_Power.l0 k1 l1 (t117.length : Int) (wrap64 (x18_1 + 1)) (y132.set (x18_1 : Int).toNat (⟨(rd_T45 y132 x18_1).f0, ((rd_T45 y132 x18_1).f1).extract 0 (((rd_T45 y132 x18_1).f2) : Int).toNat, (rd_T45 y132 x18_1).f2⟩ : S45)) t120 t121 t122) else (none)) else (none)) = some (r1, r2, r3, r4) := by first | (rw [hy132]; with_reducible exact H) | (have H2_ := (Option.bind_some _ _).symm.trans H; rw [hy132]; with_reducible exact H2_) | (have H2_ := (Option.bind_some _ _).symm.trans H; with_reducible exact H2_) | with_reducible exact H | (rw [hy132]; exact H) | exact H
        have Ny132 := Aside0.mk hy132
        clear hy132
        by_cases c40 : 0 ≤ ((rd_T45 y132 x18_1).f2)
        ·rw [if_pos c40] at H
         have c40b0 := eq_true c40
         have c40b1 : decide (0 ≤ ((rd_T45 y132 x18_1).f2)) = true := decide_eq_true c40
         clear c40
         by_cases c41 : ((rd_T45 y132 x18_1).f2) ≤ (((rd_T45 y132 x18_1).f1).size : Int)
         ·rw [if_pos c41] at H
          have c41b0 := eq_true c41
          have c41b1 : decide (((rd_T45 y132 x18_1).f2) ≤ (((rd_T45 y132 x18_1).f1).size : Int)) = true := decide_eq_true c41
          clear c41
          obtain ⟨y135, hy135⟩ : ∃ y_ : List (S45), y_ = (y132.set (x18_1 : Int).toNat (⟨(rd_T45 y132 x18_1).f0, ((rd_T45 y132 x18_1).f1).extract 0 (((rd_T45 y132 x18_1).f2) : Int).toNat, (rd_T45 y132 x18_1).f2⟩ : S45)) := ⟨_, rfl⟩
          replace H : (impl_Power.l0 k1 l1 (t117.length : Int) (wrap64 (x18_1 + 1)) y135 t120 t121 t122) = some (r1, r2, r3, r4) := by first | (rw [hy135]; with_reducible exact H) | (have H2_ := (Option.bind_some _ _).symm.trans H; rw [hy135]; with_reducible exact H2_) | (have H2_ := (Option.bind_some _ _).symm.trans H; with_reducible exact H2_) | with_reducible exact H | (rw [hy135]; exact H) | exact H
          have Ny135 := Aside0.mk hy135
          clear hy135
          have H' := Aside0.mk H
          clear H
          have hnb42 := NB123_115.out
          have hnc42 := NB115_123.out
          have hnb43 := NB123_116.out
          have hnc43 := NB116_123.out
          obtain ⟨hcz44_0, hcz44_1, hcz44_2, hcz44_3, hfz44_0, hfz44_1, hfz44_2, hfz44_3⟩ := bc4_ BK123
          have p22 : 0 ≤ (x18_1 : Int) := of_decide_eq_true as_
          have q22 : (x18_1 : Int) < ((x124000_1.length : Int) : Int) := of_decide_eq_true as_
          obtain ⟨go22, co22, eo22, gb22, gl22, cl22, HG22⟩ := Kd.R_form HO_124000.out (by omega)
          (first | cases eo22 | (injection eo22 with ea_ en_ ec_; (first | subst ea_ | (injection ea_ with ea_; subst ea_)); subst ec_; clear en_))
          have GB22 := Aside0.mk gb22
          have GG22 := Aside0.mk HG22
          clear gb22 gl22 HG22
          obtain ⟨ce22, hcl22, hM22, hcc22, hfr22⟩ := Kd.R_elem HO_124000.out z45 (x18_1 : Int) p22 q22
          obtain rfl := k45_openM hM22
          have hx22_0 : wr.cell? ⟨go22, (x18_1 : Int).toNat * 3, none⟩ = some (.string ((rd_T45 x124000_1 x18_1).f0)) := hcc22 0 _ rfl
          have hx22_1 : wr.cell? ⟨go22, (x18_1 : Int).toNat * 3 + 1, none⟩ = some (.string ((rd_T45 x124000_1 x18_1).f1)) := hcc22 1 _ rfl
          have hx22_2 : wr.cell? ⟨go22, (x18_1 : Int).toNat * 3 + 2, none⟩ = some (.int .i64 ((rd_T45 x124000_1 x18_1).f2)) := hcc22 2 _ rfl
          have hf22_0 : wr.frozen? ⟨go22, (x18_1 : Int).toNat * 3, none⟩ = false := hfr22 0
          have hf22_1 : wr.frozen? ⟨go22, (x18_1 : Int).toNat * 3 + 1, none⟩ = false := hfr22 1
          have hf22_2 : wr.frozen? ⟨go22, (x18_1 : Int).toNat * 3 + 2, none⟩ = false := hfr22 2
          clear hcl22 hcc22 hfr22 hM22
          replace p22 := eq_true p22
          replace q22 := eq_true q22
          have HX45 := Aside0.mk (show Kd.R k45 45 wr w.heap.size (fun _ => True) (.slice (some ⟨go22, 0, none⟩) x124000_1.length co22) x124000_1 from (rr_ HO_124000))
          obtain ⟨ce45, hcl45, hM45, hcc45, hfr45⟩ := Kd.R_elem HX45.out z45 (x18_1 : Int) (of_decide_eq_true as_) (by have h_ : (x18_1 : Int) < ((x124000_1.length : Int) : Int) := of_decide_eq_true as_; first | exact h_ | (have e_ := (Kd.R_reads' HO_124000.out).1; omega) | simpa using h_)
          obtain rfl := k45_openM hM45
          have HP45 := Kd.R_seg HX45.out (x18_1 : Int) (of_decide_eq_true as_) (by have h_ : (x18_1 : Int) < ((x124000_1.length : Int) : Int) := of_decide_eq_true as_; first | exact h_ | (have e_ := (Kd.R_reads' HO_124000.out).1; omega) | simpa using h_) (seg := [.int .i64 (wrap64 (((rd_T45 x124000_1 x18_1).f2) + 0))]) (j := 2) hcl45 hcc45 (show 3 ≤ 3 from by decide) (x' := (⟨(rd_T45 x124000_1 x18_1).f0, (rd_T45 x124000_1 x18_1).f1, wrap64 (((rd_T45 x124000_1 x18_1).f2) + 0)⟩ : S45)) (k45_mkM _ _ _ (⟨(rd_T45 x124000_1 x18_1).f0, (rd_T45 x124000_1 x18_1).f1, wrap64 (((rd_T45 x124000_1 x18_1).f2) + 0)⟩ : S45) ) (fun _ hk => hk)
          have hx45_2 := hcc45 2 _ rfl
          (try simp only [show (k45).sz = 3 from rfl, Nat.mul_one, Nat.add_zero] at hx45_2)
          have hf45_2 := hfr45 2
          (try simp only [show (k45).sz = 3 from rfl, Nat.mul_one, Nat.add_zero] at hf45_2)
          clear hcl45 hcc45 hfr45 hM45
          try go_wp2_with (first | ((with_reducible refine gate_store (t := 3) (p := 55) rfl ?_); refine store_event (t := 3) (p := 55) (v := ?vo_w46) (w1 := (wr.setCell ⟨go22, (x18_1 : Int).toNat * 3 + 2, none⟩ (.int .i64 (wrap64 (((rd_T45 x124000_1 x18_1).f2) + 0))))) ?hg ?ho ?hn ?hr ?_; (case ho => rfl); (case hg => rfl); (case hn => rfl); (case hr => first | (go_simp; done) | (go_simp; rfl)); intro w46 hw; have hg : wr.grownBy w46 (some go22) := (by rw [hw]; exact HP45.2); have hp_ : Kd.R k45 45 w46 w.heap.size (fun _ => True) (.slice (some ⟨go22, 0, none⟩) x124000_1.length co22) y132 := (by rw [hw, Ny132.out]; exact HP45.1); clear HP45; replace BK115 := bg_ BK115 hg (Kd.R_ne HO_124000.out BK115.out (by decide)); replace BK116 := bg_ BK116 hg (Kd.R_ne HO_124000.out BK116.out (by decide)); replace BK123 := bg_ BK123 hg (Kd.R_ne HO_124000.out BK123.out (by decide)); replace HO_124000 := Aside0.mk (hp_); replace HB := Aside0.mk ((by rw [hw]; exact below_set (HB.out) GB22.out : Below w.heap.size w w46)); clear hg hw hp_))
          replace HO_124000 := rd_ HO_124000
          replace BK115 := bd_ BK115
          replace BK116 := bd_ BK116
          replace BK123 := bd_ BK123
          replace HB := hd_ HB
          have p133 : 0 ≤ (x18_1 : Int) := of_decide_eq_true as_
          have q133 : x18_1 < (y132.length : Int) := (by have h_ : (x18_1 : Int) < ((x124000_1.length : Int) : Int) := of_decide_eq_true as_; first | (have e_ := (Kd.R_reads' HO_124000.out).1; omega) | simpa only [Ny132.out, List.length_set] using h_)
          have ql133 : ((x18_1 : Int) < ((x124000_1.length : Int) : Int)) = True := eq_true (of_decide_eq_true as_)
          obtain ⟨ad133, e133, hx133_0, hx133_1, hx133_2⟩ := at_T45 (Kd.R_reads' HO_124000.out).2.2 x18_1 p133 q133
          obtain rfl : (⟨go22, 0, none⟩ : Addr) = ad133 := (by injection e133)
          (first | simp only [add_plain] at hx133_0 | simp only [add_at] at hx133_0 | simp only [Addr.add, Nat.zero_add] at hx133_0 | skip)
          (first | simp only [add_plain] at hx133_1 | simp only [add_at] at hx133_1 | simp only [Addr.add, Nat.zero_add] at hx133_1 | skip)
          (first | simp only [add_plain] at hx133_2 | simp only [add_at] at hx133_2 | simp only [Addr.add, Nat.zero_add] at hx133_2 | skip)
          replace p133 := eq_true p133
          replace q133 := eq_true q133
          have p134 : 0 ≤ (x18_1 : Int) := of_decide_eq_true as_
          have q134 : x18_1 < (y132.length : Int) := (by have h_ : (x18_1 : Int) < ((x124000_1.length : Int) : Int) := of_decide_eq_true as_; first | (have e_ := (Kd.R_reads' HO_124000.out).1; omega) | simpa only [Ny132.out, List.length_set] using h_)
          have ql134 : ((x18_1 : Int) < ((x124000_1.length : Int) : Int)) = True := eq_true (of_decide_eq_true as_)
          obtain ⟨ad134, e134, hx134_0, hx134_1, hx134_2⟩ := at_T45 (Kd.R_reads' HO_124000.out).2.2 x18_1 p134 q134
          obtain rfl : (⟨go22, 0, none⟩ : Addr) = ad134 := (by injection e134)
          (first | simp only [add_plain] at hx134_0 | simp only [add_at] at hx134_0 | simp only [Addr.add, Nat.zero_add] at hx134_0 | skip)
          (first | simp only [add_plain] at hx134_1 | simp only [add_at] at hx134_1 | simp only [Addr.add, Nat.zero_add] at hx134_1 | skip)
          (first | simp only [add_plain] at hx134_2 | simp only [add_at] at hx134_2 | simp only [Addr.add, Nat.zero_add] at hx134_2 | skip)
          replace p134 := eq_true p134
          replace q134 := eq_true q134
          obtain ⟨ce48, hcl48, hM48, hcc48, hfr48⟩ := Kd.R_elem HO_124000.out z45 (x18_1 : Int) (of_decide_eq_true as_) (by have h_ : (x18_1 : Int) < ((x124000_1.length : Int) : Int) := of_decide_eq_true as_; first | exact h_ | (have e_ := (Kd.R_reads' HO_124000.out).1; omega) | simpa using h_)
          obtain rfl := k45_openM hM48
          have HP48 := (Kd.R_seg HO_124000.out (x18_1 : Int) (of_decide_eq_true as_) (by have h_ : (x18_1 : Int) < ((x124000_1.length : Int) : Int) := of_decide_eq_true as_; first | exact h_ | (have e_ := (Kd.R_reads' HO_124000.out).1; omega) | simpa using h_) (seg := [.string (((rd_T45 y132 x18_1).f1).extract 0 (((rd_T45 y132 x18_1).f2) : Int).toNat)]) (j := 1) hcl48 hcc48 (show 2 ≤ 3 from by decide) (x' := (⟨(rd_T45 y132 x18_1).f0, ((rd_T45 y132 x18_1).f1).extract 0 (((rd_T45 y132 x18_1).f2) : Int).toNat, (rd_T45 y132 x18_1).f2⟩ : S45)) (k45_mkM _ _ _ (⟨(rd_T45 y132 x18_1).f0, ((rd_T45 y132 x18_1).f1).extract 0 (((rd_T45 y132 x18_1).f2) : Int).toNat, (rd_T45 y132 x18_1).f2⟩ : S45) ) (fun _ hk => hk)).1
          rw [← Ny135.out] at HP48
          have HQ48 := Aside0.mk HP48
          have hfz48_0 : w46.drew.frozen? ⟨go22, (x18_1 : Int).toNat * 3, none⟩ = false := hfr48 0
          have hfz48_1 : w46.drew.frozen? ⟨go22, (x18_1 : Int).toNat * 3 + 1, none⟩ = false := hfr48 1
          have hfz48_2 : w46.drew.frozen? ⟨go22, (x18_1 : Int).toNat * 3 + 2, none⟩ = false := hfr48 2
          clear hcl48 hcc48 hfr48 hM48 HP48
          refine start_ (n := 13) (S := fun w' => w'.cell? ⟨go22, (x18_1).toNat * 3, none⟩ = some (.string ((rd_T45 y132 x18_1).f0)) ∧ w'.cell? ⟨go22, (x18_1).toNat * 3 + 1, none⟩ = some (.string ((rd_T45 y132 x18_1).f1)) ∧ w'.cell? ⟨go22, (x18_1).toNat * 3 + 2, none⟩ = some (.int .i64 ((rd_T45 y132 x18_1).f2)) ∧ w'.cell? ⟨go22, (x18_1).toNat * 3, none⟩ = some (.string ((rd_T45 y132 x18_1).f0)) ∧ w'.cell? ⟨go22, (x18_1).toNat * 3 + 1, none⟩ = some (.string ((rd_T45 y132 x18_1).f1)) ∧ w'.cell? ⟨go22, (x18_1).toNat * 3 + 2, none⟩ = some (.int .i64 ((rd_T45 y132 x18_1).f2))) (ds := [12]) (on_ 0 13) (by kernel_rfl) rfl rfl ⟨hx133_0, hx133_1, hx133_2, hx134_0, hx134_1, hx134_2⟩ (fun hHeld => ?_); refine with_tabW impl_Power.tab12 impl_Power.bits12 (fun HT_ HW_ => ?_)
          generalize w46.drew = w47 at HO_124000 BK115 BK116 BK123 HB HQ48 hx133_0 hx133_1 hx133_2 hx134_0 hx134_1 hx134_2 hfz48_0 hfz48_1 hfz48_2 hHeld ⊢
          refine pv_' 0 56 (on_ 1 12) rfl rfl HT_ ?_
          refine pv_' 1 57 (on_ 2 11) rfl rfl HT_ ?_
          refine pv_' 2 58 (on_ 3 10) rfl rfl HT_ ?_
          refine pv_' 3 59 (on_ 4 9) rfl rfl HT_ ?_
          refine pv_' 5 61 #[i',i',i',i',o',i',o',o',o',o',o',o',o'] rfl rfl HT_ ?_
          refine pv_' 6 62 #[i',i',i',i',o',i',i',o',o',o',o',o',o'] rfl rfl HT_ ?_
          refine pv_' 7 63 #[i',i',i',i',o',i',i',i',o',o',o',o',o'] rfl rfl HT_ ?_
          refine take_ (i := 4) (N := some 60) (v := ?_) (a' := ?_) (on_ 8 5) rfl rfl (take_ofW HT_.out HW_.out (by kernel_rfl)) (fun _ _ _ h => h) (Or.inl ⟨by rfl, ?_⟩) hHeld ?_ ?_
          rotate_left
          ·rintro w' ⟨s0, s1, s2, s3, s4, s5⟩
           go_simp
           with_reducible rfl
          rotate_left
          ·simp only [Act.put, la_, lz_, ls_, i64_w, i32_w]
           rfl
          refine take_ (i := 8) (N := some 64) (v := ?_) (a' := ?_) (on_ 9 4) rfl rfl (take_ofW HT_.out HW_.out (by kernel_rfl)) (fun _ _ _ h => h) (Or.inl ⟨by rfl, ?_⟩) hHeld ?_ ?_
          rotate_left
          ·rintro w' ⟨s0, s1, s2, s3, s4, s5⟩
           go_simp
           with_reducible rfl
          rotate_left
          ·simp only [Act.put, la_, lz_, ls_, i64_w, i32_w]
           rfl
          refine pv_' 9 65 (on_ 10 3) rfl rfl HT_ ?_
          refine pv_' 10 66 (on_ 11 2) rfl rfl HT_ ?_
          refine pv_' 11 67 (on_ 12 1) rfl rfl HT_ ?_
          refine last_ (i := 12) (N := none) (on_ 13 0) rfl rfl (one_of HT_.out (by kernel_rfl)) (by decide) (fun K hK => ?_)
          refine skip_ (w1 := ?_) (by rfl) rfl ?_ ?_
          rotate_left
          ·go_simp
           rfl
          refine hK.out _ _ ?_
          clear hK K
          refine done_ (done_of HT_.out (by kernel_rfl)) ?_
          try go_wp2
          go_roundg k1
          case measure => have := HK1.out; first | exact this | exact Nat.le_of_succ_le this | exact Nat.le_refl _ | omega
          case rel => exact ⟨(wrap64 (x18_1 + 1)), (y135), (.slice (some ⟨go22, 0, none⟩) x124000_1.length co22), rs_, H', ⟨by have := HK1.out; first | exact this | exact Nat.le_of_succ_le this | exact Nat.le_refl _ | omega⟩, ⟨by (with_reducible repeat (first | apply Kd.R_alloc | apply Kd.R_drewN | apply Kd.R_drew)); exact HQ48.out⟩, ⟨by (with_reducible repeat (first | refine blk_drewN ?_ _ | refine blk_drew ?_ | refine blk_alloc ?_ _)); refine blk_far ?_ (by have h_ := Kd.R_ne HO_124000.out BK115.out (by decide); intro e_; exact h_ (by rw [e_]; rfl)) _; (with_reducible repeat (first | refine blk_drewN ?_ _ | refine blk_drew ?_ | refine blk_alloc ?_ _)); exact BK115.out⟩, ⟨by (with_reducible repeat (first | refine blk_drewN ?_ _ | refine blk_drew ?_ | refine blk_alloc ?_ _)); refine blk_far ?_ (by have h_ := Kd.R_ne HO_124000.out BK116.out (by decide); intro e_; exact h_ (by rw [e_]; rfl)) _; (with_reducible repeat (first | refine blk_drewN ?_ _ | refine blk_drew ?_ | refine blk_alloc ?_ _)); exact BK116.out⟩, ⟨by (with_reducible repeat (first | refine blk_drewN ?_ _ | refine blk_drew ?_ | refine blk_alloc ?_ _)); refine blk_far ?_ (by have h_ := Kd.R_ne HO_124000.out BK123.out (by decide); intro e_; exact h_ (by rw [e_]; rfl)) _; (with_reducible repeat (first | refine blk_drewN ?_ _ | refine blk_drew ?_ | refine blk_alloc ?_ _)); exact BK123.out⟩, ⟨by repeat (first | (with_reducible first | exact HB.out | apply below_alloc | apply pw_below_drewN | apply below_drew1 | refine below_set ?_ GB22.out | refine below_set ?_ GE115.out | refine below_set ?_ GE116.out | refine below_set ?_ GE123.out) | exact HB.out)⟩⟩
         ·rw [if_neg c41] at H
          exact absurd H (by simp)
        ·rw [if_neg c40] at H
         exact absurd H (by simp)
      ·rw [if_neg c21] at H
       exact absurd H (by simp)
     ·rw [if_neg c20] at H
      exact absurd H (by simp)
    ·rw [if_neg c19] at H
     have c19b0 : decide (x18_1 < (t117.length : Int)) = false := decide_eq_false c19
     clear c19
     simp only [Option.some.injEq, Prod.mk.injEq] at H
     obtain ⟨rfl, rfl, rfl, rfl⟩ := H
     have hnb49 := NB123_115.out
     have hnc49 := NB115_123.out
     have hnb50 := NB123_116.out
     have hnc50 := NB116_123.out
     obtain ⟨hcz51_0, hcz51_1, hcz51_2, hcz51_3, hfz51_0, hfz51_1, hfz51_2, hfz51_3⟩ := bc4_ BK123
     obtain ⟨Ao52, co52, eo52⟩ := Kd.R_slice HO_124000.out
     subst eo52
     have hnb53 := NB116_115.out
     have hnc53 := NB115_116.out
     obtain ⟨hcz54_0, hcz54_1, hcz54_2, hcz54_3, hfz54_0, hfz54_1, hfz54_2, hfz54_3⟩ := bc4_ BK116
     go_wp2
     refine bodyPost_ret (results_cell_row rfl _ _ gb116 29 #[.slice Ao52 x124000_1.length co52, .int .i64 t120, .int .i64 (-1), .bool false] (0, 0) _ rfl (by (with_reducible repeat (first | refine blk_drewN ?_ _ | refine blk_drew ?_ | refine blk_alloc ?_ _)); refine blk_put (cs := #[.slice Ao52 x124000_1.length co52, .int .i64 t120, .int .i64 (-1), .bool false]) ?_ 3 _ rfl; (with_reducible repeat (first | refine blk_drewN ?_ _ | refine blk_drew ?_ | refine blk_alloc ?_ _)); refine blk_put (cs := #[.slice Ao52 x124000_1.length co52, .int .i64 t120, .int .i64 0, .bool false]) ?_ 2 _ rfl; (with_reducible repeat (first | refine blk_drewN ?_ _ | refine blk_drew ?_ | refine blk_alloc ?_ _)); refine blk_put (cs := #[.slice Ao52 x124000_1.length co52, .int .i64 0, .int .i64 0, .bool false]) ?_ 1 _ rfl; (with_reducible repeat (first | refine blk_drewN ?_ _ | refine blk_drew ?_ | refine blk_alloc ?_ _)); refine blk_put (cs := #[.slice none 0 0, .int .i64 0, .int .i64 0, .bool false]) ?_ 0 _ rfl; (with_reducible repeat (first | refine blk_drewN ?_ _ | refine blk_drew ?_ | refine blk_alloc ?_ _)); refine blk_far ?_ NB116_123.out _; (with_reducible repeat (first | refine blk_drewN ?_ _ | refine blk_drew ?_ | refine blk_alloc ?_ _)); refine blk_far ?_ NB116_123.out _; (with_reducible repeat (first | refine blk_drewN ?_ _ | refine blk_drew ?_ | refine blk_alloc ?_ _)); exact BK116.out) Try.underlying29 rfl (by kernel_rfl)) rfl ?_
     exact ⟨_, by first | rfl | (simp [errW_none, errW_some] <;> rfl) | (simp [*, errW_none, errW_some] <;> rfl), by (with_reducible repeat (first | apply Kd.R_alloc | apply Kd.R_drewN | apply Kd.R_drew)); exact Kd.R_mono (Kd.R_far (p := ⟨gb116, 3, none⟩) (Kd.R_far (p := ⟨gb116, 2, none⟩) (Kd.R_far (p := ⟨gb116, 1, none⟩) (Kd.R_far (p := ⟨gb116, 0, none⟩) (Kd.R_far (p := ⟨gb123, 3, none⟩) (Kd.R_far (p := ⟨gb123, 2, none⟩) (Kd.R_types (Kd.R_types HO_124000.out BK123.out (by decide)) BK116.out (by decide)) (fun _ hk => hk.1.2) (.int .i64 (-1))) (fun _ hk => hk.1.2) (.bool false)) (fun _ hk => hk.2) (.slice Ao52 x124000_1.length co52)) (fun _ hk => hk.2) (.int .i64 t120)) (fun _ hk => hk.2) (.int .i64 (-1))) (fun _ hk => hk.2) (.bool false)) (fun _ hk => trivial), by repeat (first | (with_reducible first | exact HB.out | apply below_alloc | apply pw_below_drewN | apply below_drew1 | refine below_set ?_ GE115.out | refine below_set ?_ GE116.out | refine below_set ?_ GE123.out) | exact HB.out)⟩
 ·replace c5 := Bool.eq_false_iff.mpr c5
  subst c5
  have H1 : (some (t117, t120, t121, t122)) = some (r1, r2, r3, r4) := by rw [if_neg (show ¬ (false = true) by decide)] at H; exact H
  clear H
  have H := H1
  clear H1
  simp only [Option.some.injEq, Prod.mk.injEq] at H
  obtain ⟨rfl, rfl, rfl, rfl⟩ := H
  go_enter Try.func10, Try.ntmps10
  go_wp2_with (first | ((with_reducible refine gate_dst (N := 2) rfl ?_); refine box_event ?hg (N := 2) ?hd (cs := #[.slice A0_0 l0_0.length c0_0, .int .i64 a0_1, .int .i64 a0_2, .bool a0_3]) (t := 29) ?hr ?_; (case hd => rfl); (case hg => rfl); (case hr => first | (go_simp; done) | (go_simp; rfl)); intro gb115 hg w55 hbox hb; have BK115 := Aside0.mk (hbox); have GW115 := ge_ hg (hb_ HB); have GE115 := ge_ hg (hb_ HB); replace HB := bs_ HB hb; clear hb hbox hg) | ((with_reducible refine gate_dst (N := 4) rfl ?_); refine box_event ?hg (N := 4) ?hd (cs := #[.slice none 0 0, .int .i64 0, .int .i64 0, .bool false]) (t := 29) ?hr ?_; (case hd => rfl); (case hg => rfl); (case hr => first | (go_simp; done) | (go_simp; rfl)); intro gb116 hg w56 hbox hb; have BK116 := Aside0.mk (hbox); have GW116 := ge_ hg (hs_ HB GE115); have GE116 := ge_ hg (hs_ HB GE115); replace HB := bt_ HB GE115 hb; have NB115_116 := nl_ BK115 hg; have NB116_115 := ng_ BK115 hg; replace BK115 := bb_ BK115 hb; clear hb hbox hg; have hnb57 := NB115_116.out; have hnc57 := NB116_115.out; obtain ⟨hcz58_0, hcz58_1, hcz58_2, hcz58_3, hfz58_0, hfz58_1, hfz58_2, hfz58_3⟩ := bc4_ BK115) | ((with_reducible refine gate_callee (f := 38) rfl ?_); refine goesL_ (some 10) rfl rfl Try.func38 (by kernel_rfl) rfl #[.agg #[.slice A0_0 l0_0.length c0_0, .int .i64 a0_1, .int .i64 a0_2, .bool a0_3]] rfl ar_ ?_; (with_reducible refine (impl_copyDisk.calls _ _ l0_0 a0_1 a0_2 a0_3 t117 t120 t121 t122 _ ?side1 ?side2 A3.out).mono ?_); (case side1 => repeat (first | exact (Kd.C_below HR0_0.out HB.out) | (with_reducible refine Kd.C_alloc ?_ _) | (with_reducible refine Kd.C_drewN ?_ _) | (with_reducible refine Kd.C_drew ?_))); (case side2 => exact HC0_0.out); rintro e w59 ⟨v118, rfl, ho0, hb⟩; refine ⟨_, rfl, ?_⟩; have HO119 := Aside0.mk (Kd.R_lower ho0 (below_size (hu_ HB GE115 GE116))); replace BK115 := bb_ BK115 hb; replace BK116 := bb_ BK116 hb; replace HB := bu_ HB GE115 GE116 hb; (try clear hb); (try clear hb2); (try clear hk); (try clear hi); (try clear ho0)) | ((with_reducible refine gate_dst (N := 5) rfl ?_); refine box_event ?hg (N := 5) ?hd (cs := #[.slice none 0 0, .int .i64 0, .int .i64 0, .bool false]) (t := 29) ?hr ?_; (case hd => rfl); (case hg => rfl); (case hr => first | (go_simp; done) | (go_simp; rfl)); intro gb123 hg w60 hbox hb; replace HO119 := rb_ HO119 hb; have BK123 := Aside0.mk (hbox); have GW123 := ge_ hg (hu_ HB GE115 GE116); have GE123 := ge_ hg (hu_ HB GE115 GE116); replace HB := bu_ HB GE115 GE116 hb; have NB115_123 := nl_ BK115 hg; have NB123_115 := ng_ BK115 hg; replace BK115 := bb_ BK115 hb; have NB116_123 := nl_ BK116 hg; have NB123_116 := ng_ BK116 hg; replace BK116 := bb_ BK116 hb; clear hb hbox hg; obtain ⟨Ao61, co61, eo61⟩ := Kd.R_slice HO119.out; subst eo61; have hnb62 := NB123_115.out; have hnc62 := NB115_123.out; have hnb63 := NB123_116.out; have hnc63 := NB116_123.out; obtain ⟨hcz64_0, hcz64_1, hcz64_2, hcz64_3, hfz64_0, hfz64_1, hfz64_2, hfz64_3⟩ := bc4_ BK123; obtain ⟨hcz65_0, hcz65_1, hcz65_2, hcz65_3, hfz65_0, hfz65_1, hfz65_2, hfz65_3⟩ := bc4_ BK115) | ((with_reducible refine gate_callee (f := 39) rfl ?_); refine goesL_ (some 12) rfl rfl Try.func39 (by kernel_rfl) rfl #[.agg #[.slice A0_0 l0_0.length c0_0, .int .i64 a0_1, .int .i64 a0_2, .bool a0_3]] rfl ar_ ?_; (with_reducible refine (impl_DiskOk.calls k _ _ l0_0 a0_1 a0_2 a0_3 false _ ?side1 ?side2 A4.out).mono ?_); (case side1 => exact Kd.C_below HR0_0.out (hv_ HB GE115 GE116 GE123)); (case side2 => exact HC0_0.out); rintro e w66 ⟨rfl, hb⟩; refine ⟨_, rfl, ?_⟩; replace HO119 := rfb_ HO119 BK123 hb; replace BK115 := bf_ BK115 NB115_123 hb; replace BK116 := bf_ BK116 NB116_123 hb; replace BK123 := bp_ #[.slice Ao61 t117.length co61, .int .i64 t120, .int .i64 t121, .bool t122] BK123 hb; replace HB := Aside0.mk (below_step (hv_ HB GE115 GE116 GE123) hb); (try clear hb); (try clear hb2); (try clear hk); (try clear hi); obtain ⟨hcz67_0, hcz67_1, hcz67_2, hcz67_3, hfz67_0, hfz67_1, hfz67_2, hfz67_3⟩ := bc4_ BK123; obtain ⟨hcz68_0, hcz68_1, hcz68_2, hcz68_3, hfz68_0, hfz68_1, hfz68_2, hfz68_3⟩ := bc4_ BK116))
  refine bodyPost_ret (results_cell_row rfl _ _ gb116 29 #[.slice Ao61 t117.length co61, .int .i64 t120, .int .i64 t121, .bool t122] (0, 0) _ rfl (up_ _ BK116 rfl).out Try.underlying29 rfl (by kernel_rfl)) rfl ?_
  exact ⟨_, by first | rfl | (simp [errW_none, errW_some] <;> rfl) | (simp [*, errW_none, errW_some] <;> rfl), by (with_reducible repeat (first | apply Kd.R_alloc | apply Kd.R_drewN | apply Kd.R_drew)); exact Kd.R_mono (Kd.R_far (p := ⟨gb116, 3, none⟩) (Kd.R_far (p := ⟨gb116, 2, none⟩) (Kd.R_far (p := ⟨gb116, 1, none⟩) (Kd.R_far (p := ⟨gb116, 0, none⟩) (Kd.R_types HO119.out BK116.out (by decide)) (fun _ hk => hk.2) (.slice Ao61 t117.length co61)) (fun _ hk => hk.2) (.int .i64 t120)) (fun _ hk => hk.2) (.int .i64 t121)) (fun _ hk => hk.2) (.bool t122)) (fun _ hk => trivial), by repeat (first | (with_reducible first | exact HB.out | apply below_alloc | apply pw_below_drewN | apply below_drew1 | refine below_set ?_ GE115.out | refine below_set ?_ GE116.out | refine below_set ?_ GE123.out) | exact HB.out)⟩

/-! ### laws_big: function 16 -/
def laws_big.f (l0 : List Int) : Option (Bool) := some (decide ((l0.length : Int) > 1048576))
set_option maxHeartbeats 80000000 in
set_option maxRecDepth 100000 in
theorem laws_big.calls (A0 : Option Addr) (c0 : Nat) (l0 : List Int) (r : Bool) (w : World) (hr0 : Kd.C (Kd.int .u8) w A0 l0.length l0) (hc0 : l0.length ≤ c0) (h : laws_big.f l0 = some r) :
  Calls Try.prog 16 #[.slice A0 l0.length c0] w fun e w' => e = .returned (.bool r) ∧ Drawn0 w w' := by
 have HR0 := Aside0.mk hr0
 have HC0 := Aside0.mk hc0
 clear hr0 hc0
 have H : (some (decide ((l0.length : Int) > 1048576))) = some r := h
 clear h
 obtain rfl := Option.some.inj H
 go_enter Try.func16, Try.ntmps16
 go_wp2
 go_ret
 exact ⟨by first | rfl | (simp; done) | (simp [*]; done), by repeat (first | exact Drawn0.refl _ | apply Drawn0.step)⟩

end Go.Proofs.Ytigbekefjbfopaa.PFnPower
