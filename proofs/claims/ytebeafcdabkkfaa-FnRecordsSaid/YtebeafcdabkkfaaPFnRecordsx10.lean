-- Laid by a program of this session, a copy of the kit's printer with additions (wip/patch_print.py): myhead. Lean checks it.
import Derived.Test.YtebeafcdabkkfaaPFnRecordsx0
import Derived.Test.YtebeafcdabkkfaaPFnRecordsx9
namespace Go.Proofs.Ytebeafcdabkkfaa.PFnRecords
open Go.RowKit Go.Proofs.YtebeafcdabkkfaaW.PrintWords Go.Proofs.YtebeafcdabkkfaaW.PrintLast Go.Proofs.YtebeafcdabkkfaaW.PrintMore
attribute [local go_sem] max2_int min2_int max_two min_two max_three min_three max_four min_four   -- for this text's walks alone
set_option linter.unusedVariables false
set_option linter.unusedSimpArgs false

/-! ### spec_RecOk: function 47 -/
mutual
def spec_RecOk.j0 : Nat → Bool → Int → Int → ByteArray → ByteArray → Int → Int → Option (Bool)
 | 0, _, _, _, _, _, _, _ => none
 | k + 1, x16, x318000, x318001, x318002, x318003, x318004, x318005 => if x16 = true then (some false) else (if x318000 = 1 then (spec_RecOk.j1 k x318000 (x318000 == 1) x318000 x318001 x318002 x318003 x318004 x318005) else (spec_RecOk.j1 k x318000 (x318000 == 4) x318000 x318001 x318002 x318003 x318004 x318005))
def spec_RecOk.j1 : Nat → Int → Bool → Int → Int → ByteArray → ByteArray → Int → Int → Option (Bool)
 | 0, _, _, _, _, _, _, _, _ => none
 | k + 1, x18, x19, x318000, x318001, x318002, x318003, x318004, x318005 => if x19 = true then ((spec_KeyOk.f x318002).bind fun t319 => (if t319 = true then (if (x318003.size : Int) ≤ 24 then (if x318004 = 0 then (some (x318005 == 0)) else (some false)) else (some false)) else (some false))) else (if x18 = 2 then ((spec_KeyOk.f x318002).bind fun t320 => (if t320 = true then (if x318003.toList = ([] : List UInt8) then (if x318004 = 0 then (some (x318005 == 0)) else (some false)) else (some false)) else (some false))) else (if x18 = 3 then (if x318002.toList = ([] : List UInt8) then (if x318003.toList = ([] : List UInt8) then ((spec_l1In.f x318004 0 8).bind fun t321 => (if t321 = true then ((spec_l1In.f x318005 0 4294967295).bind fun t322 => (some t322)) else (some false))) else (some false)) else (some false)) else (if x18 = 5 then (if x318002.toList = ([] : List UInt8) then (if x318003.toList = ([] : List UInt8) then ((spec_l1In.f x318004 0 20).bind fun t323 => (if t323 = true then ((spec_l1In.f x318005 0 4294967295).bind fun t324 => (some t324)) else (some false))) else (some false)) else (some false)) else (some false))))
end
def spec_RecOk.f (k : Nat) (a0_0 : Int) (a0_1 : Int) (a0_2 : ByteArray) (a0_3 : ByteArray) (a0_4 : Int) (a0_5 : Int) : Option (Bool) := (spec_l1In.f a0_1 0 1000000).bind fun t318 => (if t318 = true then (if a0_1 = 0 then (spec_RecOk.j0 k (a0_0 != 5) a0_0 a0_1 a0_2 a0_3 a0_4 a0_5) else (spec_RecOk.j0 k false a0_0 a0_1 a0_2 a0_3 a0_4 a0_5)) else (spec_RecOk.j0 k true a0_0 a0_1 a0_2 a0_3 a0_4 a0_5))
theorem spec_RecOk.mono_l : ∀ k, (∀ y0 y1 y2 y3 y4 y5 y6, LeO (spec_RecOk.j0 k y0 y1 y2 y3 y4 y5 y6) (spec_RecOk.j0 (k + 1) y0 y1 y2 y3 y4 y5 y6)) ∧ (∀ y0 y1 y2 y3 y4 y5 y6 y7, LeO (spec_RecOk.j1 k y0 y1 y2 y3 y4 y5 y6 y7) (spec_RecOk.j1 (k + 1) y0 y1 y2 y3 y4 y5 y6 y7))
 | 0 => ⟨fun _ _ _ _ _ _ _ r h => by simp [spec_RecOk.j0] at h, fun _ _ _ _ _ _ _ _ r h => by simp [spec_RecOk.j1] at h⟩
 | k + 1 => by
  obtain ⟨ih0, ih1⟩ := spec_RecOk.mono_l k
  refine ⟨?_, ?_⟩
  ·intro y0 y1 y2 y3 y4 y5 y6
   unfold spec_RecOk.j0
   repeat' first
   | (with_reducible exact ih0 _ _ _ _ _ _ _)
   | (with_reducible exact ih1 _ _ _ _ _ _ _ _)
   | (with_reducible exact LeO.refl _)
   | (with_reducible exact LeO.none _)
   | (with_reducible refine LeO.ite ?_ ?_)
   | (with_reducible refine LeO.bind ?_ (fun _ => ?_))
   | exact ih0 _ _ _ _ _ _ _
   | exact ih1 _ _ _ _ _ _ _ _
   | exact LeO.none _
   | refine LeO.ite ?_ ?_
   | refine LeO.bind ?_ (fun _ => ?_)
  ·intro y0 y1 y2 y3 y4 y5 y6 y7
   unfold spec_RecOk.j1
   repeat' first
   | (with_reducible exact ih0 _ _ _ _ _ _ _)
   | (with_reducible exact ih1 _ _ _ _ _ _ _ _)
   | (with_reducible exact LeO.refl _)
   | (with_reducible exact LeO.none _)
   | (with_reducible refine LeO.ite ?_ ?_)
   | (with_reducible refine LeO.bind ?_ (fun _ => ?_))
   | exact ih0 _ _ _ _ _ _ _
   | exact ih1 _ _ _ _ _ _ _ _
   | exact LeO.none _
   | refine LeO.ite ?_ ?_
   | refine LeO.bind ?_ (fun _ => ?_)
theorem spec_RecOk.mono : ∀ a0 a1 a2 a3 a4 a5 k, LeO (spec_RecOk.f k a0 a1 a2 a3 a4 a5) (spec_RecOk.f (k + 1) a0 a1 a2 a3 a4 a5) := by
 intro a0 a1 a2 a3 a4 a5 k
 obtain ⟨ih0, ih1⟩ := spec_RecOk.mono_l k
 unfold spec_RecOk.f
 repeat' first
   | (with_reducible exact ih0 _ _ _ _ _ _ _)
   | (with_reducible exact ih1 _ _ _ _ _ _ _ _)
   | (with_reducible exact LeO.refl _)
   | (with_reducible exact LeO.none _)
   | (with_reducible refine LeO.ite ?_ ?_)
   | (with_reducible refine LeO.bind ?_ (fun _ => ?_))
   | exact ih0 _ _ _ _ _ _ _
   | exact ih1 _ _ _ _ _ _ _ _
   | exact LeO.none _
   | refine LeO.ite ?_ ?_
   | refine LeO.bind ?_ (fun _ => ?_)
set_option maxHeartbeats 8000000 in
set_option maxRecDepth 100000 in
theorem spec_RecOk.calls (k : Nat) (a0_0 : Int) (a0_1 : Int) (a0_2 : ByteArray) (a0_3 : ByteArray) (a0_4 : Int) (a0_5 : Int) (r : Bool) (w : World) (h : spec_RecOk.f k a0_0 a0_1 a0_2 a0_3 a0_4 a0_5 = some r) :
  Calls Try.prog 47 #[.agg #[.int .i64 a0_0, .int .i64 a0_1, .string a0_2, .string a0_3, .int .i64 a0_4, .int .i64 a0_5]] w fun e w' => e = .returned (.bool r) ∧ Below w.heap.size w w' := by
 have hu35 := Try.underlying35
 have HB := Aside0.mk (Below.refl w.heap.size w)
 have H : ((spec_l1In.f a0_1 0 1000000).bind fun t318 => (if t318 = true then (if a0_1 = 0 then (spec_RecOk.j0 k (a0_0 != 5) a0_0 a0_1 a0_2 a0_3 a0_4 a0_5) else (spec_RecOk.j0 k false a0_0 a0_1 a0_2 a0_3 a0_4 a0_5)) else (spec_RecOk.j0 k true a0_0 a0_1 a0_2 a0_3 a0_4 a0_5))) = some r := h
 clear h
 have HC2 := Aside0.mk H
 clear H
 go_enter Try.func47, Try.ntmps47
 go_upto_region 1 with (first | ((with_reducible refine gate_dst (N := 1) rfl ?_); (try (refine gate_guard (by rfl) ?_; dsimp only)); refine box_event ?hg (N := 1) ?hd (cs := #[.int .i64 a0_0, .int .i64 a0_1, .string a0_2, .string a0_3, .int .i64 a0_4, .int .i64 a0_5]) (t := 35) ?hr ?_; (case hd => rfl); (case hg => rfl); (case hr => first | (go_simp; done) | (go_simp; rfl)); intro gb317 hg w3 hbox hb; have n0_ := Aside0.mk (below_step (hb_ HB) hb); have n1_ := Aside0.mk (hbox); have n2_ := Aside0.mk ((by rw [hg]; exact (below_size (hb_ HB)) : w.heap.size ≤ gb317)); have n3_ := Aside0.mk ((by rw [hg]; exact (below_size (hb_ HB)) : w.heap.size ≤ gb317)); clear HB; have HB := n0_; have BK317 := n1_; have GW317 := n2_; have GE317 := n3_; clear n0_ n1_ n2_ n3_; clear hb hbox hg))
 (try simp only [Act.put, la_, lz_, ls_])
 go_cut [16] (fun v16 wc => ∃ (kq : Nat) (x16_1 : Bool), v16 = .bool x16_1 ∧ Aside0 (spec_RecOk.j0 kq x16_1 a0_0 a0_1 a0_2 a0_3 a0_4 a0_5 = some r) ∧ Aside0 (kq ≤ k) ∧ Aside0 (wc.heap[gb317]? = some (.cells #[.int .i64 a0_0, .int .i64 a0_1, .string a0_2, .string a0_3, .int .i64 a0_4, .int .i64 a0_5] 35 (0, 0))) ∧ Aside0 (Below w.heap.size w wc))
 case first =>
  have H := HC2.out
  clear HC2
  replace H := Option.bind_eq_some_iff.mp H
  obtain ⟨t318, A40, H⟩ := H
  replace H : (if t318 = true then (if a0_1 = 0 then (spec_RecOk.j0 k (a0_0 != 5) a0_0 a0_1 a0_2 a0_3 a0_4 a0_5) else (spec_RecOk.j0 k false a0_0 a0_1 a0_2 a0_3 a0_4 a0_5)) else (spec_RecOk.j0 k true a0_0 a0_1 a0_2 a0_3 a0_4 a0_5)) = some r := H
  have A4 := Aside0.mk A40
  clear A40
  by_cases c5 : t318 = true
  ·subst c5
   have H1 : (if a0_1 = 0 then (spec_RecOk.j0 k (a0_0 != 5) a0_0 a0_1 a0_2 a0_3 a0_4 a0_5) else (spec_RecOk.j0 k false a0_0 a0_1 a0_2 a0_3 a0_4 a0_5)) = some r := by rw [if_pos rfl] at H; exact H
   clear H
   have H := H1
   clear H1
   by_cases c6 : a0_1 = 0
   ·rw [if_pos c6] at H
    have c6b0 : (a0_1 == 0) = true := beq_iff_eq.mpr c6
    have c6b1 : (a0_1 != 0) = false := bne_eq_false_iff_eq.mpr c6
    clear c6
    (first | rw [c6b0] | (simp only [i64_w, i32_w]; rw [c6b0]) | skip)
    have H' := Aside0.mk H
    clear H
    have hcz7_0 : w3.cell? ⟨gb317, 0, none⟩ = some (.int .i64 a0_0) := (blk_cell BK317.out 0).trans rfl
    have hcz7_1 : w3.cell? ⟨gb317, 1, none⟩ = some (.int .i64 a0_1) := (blk_cell BK317.out 1).trans rfl
    have hcz7_2 : w3.cell? ⟨gb317, 2, none⟩ = some (.string a0_2) := (blk_cell BK317.out 2).trans rfl
    have hcz7_3 : w3.cell? ⟨gb317, 3, none⟩ = some (.string a0_3) := (blk_cell BK317.out 3).trans rfl
    have hcz7_4 : w3.cell? ⟨gb317, 4, none⟩ = some (.int .i64 a0_4) := (blk_cell BK317.out 4).trans rfl
    have hcz7_5 : w3.cell? ⟨gb317, 5, none⟩ = some (.int .i64 a0_5) := (blk_cell BK317.out 5).trans rfl
    have hfz7_0 := blk_frozen BK317.out 0
    have hfz7_1 := blk_frozen BK317.out 1
    have hfz7_2 := blk_frozen BK317.out 2
    have hfz7_3 := blk_frozen BK317.out 3
    have hfz7_4 := blk_frozen BK317.out 4
    have hfz7_5 := blk_frozen BK317.out 5
    go_wp2_with (first | ((with_reducible refine gate_callee (f := 64) rfl ?_); refine goesL_ (some 5) rfl rfl Try.func64 (by kernel_rfl) rfl #[.int .i64 a0_1, .int .i64 0, .int .i64 1000000] rfl ar_ ?_; (with_reducible refine (spec_l1In.calls a0_1 0 1000000 true _ A4.out).mono ?_); rintro e w' ⟨rfl, ⟨nd, rfl⟩⟩; refine ⟨_, rfl, ?_⟩))
    go_meet
    case rel => exact ⟨_, ((a0_0 != 5)), rs_, H', ⟨by first | exact Nat.le_refl _ | exact Nat.le_of_succ_le this | omega⟩, ⟨bk_ BK317⟩, ⟨hs_ HB GE317⟩⟩
   ·rw [if_neg c6] at H
    have c6b0 : (a0_1 == 0) = false := beq_eq_false_iff_ne.mpr c6
    have c6b1 : (a0_1 != 0) = true := bne_iff_ne.mpr c6
    (first | rw [c6b0] | (simp only [i64_w, i32_w]; rw [c6b0]) | skip)
    have H' := Aside0.mk H
    clear H
    have hcz8_0 : w3.cell? ⟨gb317, 0, none⟩ = some (.int .i64 a0_0) := (blk_cell BK317.out 0).trans rfl
    have hcz8_1 : w3.cell? ⟨gb317, 1, none⟩ = some (.int .i64 a0_1) := (blk_cell BK317.out 1).trans rfl
    have hcz8_2 : w3.cell? ⟨gb317, 2, none⟩ = some (.string a0_2) := (blk_cell BK317.out 2).trans rfl
    have hcz8_3 : w3.cell? ⟨gb317, 3, none⟩ = some (.string a0_3) := (blk_cell BK317.out 3).trans rfl
    have hcz8_4 : w3.cell? ⟨gb317, 4, none⟩ = some (.int .i64 a0_4) := (blk_cell BK317.out 4).trans rfl
    have hcz8_5 : w3.cell? ⟨gb317, 5, none⟩ = some (.int .i64 a0_5) := (blk_cell BK317.out 5).trans rfl
    have hfz8_0 := blk_frozen BK317.out 0
    have hfz8_1 := blk_frozen BK317.out 1
    have hfz8_2 := blk_frozen BK317.out 2
    have hfz8_3 := blk_frozen BK317.out 3
    have hfz8_4 := blk_frozen BK317.out 4
    have hfz8_5 := blk_frozen BK317.out 5
    go_wp2_with (first | ((with_reducible refine gate_callee (f := 64) rfl ?_); refine goesL_ (some 5) rfl rfl Try.func64 (by kernel_rfl) rfl #[.int .i64 a0_1, .int .i64 0, .int .i64 1000000] rfl ar_ ?_; (with_reducible refine (spec_l1In.calls a0_1 0 1000000 true _ A4.out).mono ?_); rintro e w' ⟨rfl, ⟨nd, rfl⟩⟩; refine ⟨_, rfl, ?_⟩))
    go_meet
    case rel => exact ⟨_, (false), rs_, H', ⟨by first | exact Nat.le_refl _ | exact Nat.le_of_succ_le this | omega⟩, ⟨bk_ BK317⟩, ⟨hs_ HB GE317⟩⟩
  ·replace c5 := Bool.eq_false_iff.mpr c5
   subst c5
   have H1 : (spec_RecOk.j0 k true a0_0 a0_1 a0_2 a0_3 a0_4 a0_5) = some r := by rw [if_neg (show ¬ (false = true) by decide)] at H; exact H
   clear H
   have H := H1
   clear H1
   have H' := Aside0.mk H
   clear H
   have hcz9_0 : w3.cell? ⟨gb317, 0, none⟩ = some (.int .i64 a0_0) := (blk_cell BK317.out 0).trans rfl
   have hcz9_1 : w3.cell? ⟨gb317, 1, none⟩ = some (.int .i64 a0_1) := (blk_cell BK317.out 1).trans rfl
   have hcz9_2 : w3.cell? ⟨gb317, 2, none⟩ = some (.string a0_2) := (blk_cell BK317.out 2).trans rfl
   have hcz9_3 : w3.cell? ⟨gb317, 3, none⟩ = some (.string a0_3) := (blk_cell BK317.out 3).trans rfl
   have hcz9_4 : w3.cell? ⟨gb317, 4, none⟩ = some (.int .i64 a0_4) := (blk_cell BK317.out 4).trans rfl
   have hcz9_5 : w3.cell? ⟨gb317, 5, none⟩ = some (.int .i64 a0_5) := (blk_cell BK317.out 5).trans rfl
   have hfz9_0 := blk_frozen BK317.out 0
   have hfz9_1 := blk_frozen BK317.out 1
   have hfz9_2 := blk_frozen BK317.out 2
   have hfz9_3 := blk_frozen BK317.out 3
   have hfz9_4 := blk_frozen BK317.out 4
   have hfz9_5 := blk_frozen BK317.out 5
   go_wp2_with (first | ((with_reducible refine gate_callee (f := 64) rfl ?_); refine goesL_ (some 5) rfl rfl Try.func64 (by kernel_rfl) rfl #[.int .i64 a0_1, .int .i64 0, .int .i64 1000000] rfl ar_ ?_; (with_reducible refine (spec_l1In.calls a0_1 0 1000000 false _ A4.out).mono ?_); rintro e w' ⟨rfl, ⟨nd, rfl⟩⟩; refine ⟨_, rfl, ?_⟩))
   go_meet
   case rel => exact ⟨_, (true), rs_, H', ⟨by first | exact Nat.le_refl _ | exact Nat.le_of_succ_le this | omega⟩, ⟨bk_ BK317⟩, ⟨hs_ HB GE317⟩⟩
 case rest =>
  clear HC2
  try clear p2
  try clear c4
  try clear c5
  try clear c6
  try clear c6b0
  try clear c6b1
  try clear hcz7_0
  try clear hcz7_1
  try clear hcz7_2
  try clear hcz7_3
  try clear hcz7_4
  try clear hcz7_5
  try clear hcz8_0
  try clear hcz8_1
  try clear hcz8_2
  try clear hcz8_3
  try clear hcz8_4
  try clear hcz8_5
  try clear hcz9_0
  try clear hcz9_1
  try clear hcz9_2
  try clear hcz9_3
  try clear hcz9_4
  try clear hcz9_5
  try clear hfz7_0
  try clear hfz7_1
  try clear hfz7_2
  try clear hfz7_3
  try clear hfz7_4
  try clear hfz7_5
  try clear hfz8_0
  try clear hfz8_1
  try clear hfz8_2
  try clear hfz8_3
  try clear hfz8_4
  try clear hfz8_5
  try clear hfz9_0
  try clear hfz9_1
  try clear hfz9_2
  try clear hfz9_3
  try clear hfz9_4
  try clear hfz9_5
  obtain ⟨kq, x16_1, rfl, HA, HJ1, BK317, HB⟩ := hcut
  cases kq with
  | zero => exact absurd HA.out (by simp [spec_RecOk.j0])
  | succ kj1 =>
   have H := HA.out
   clear HA
   simp only [spec_RecOk.j0] at H
   by_cases c10 : x16_1 = true
   ·subst c10
    have H1 : (some false) = some r := by rw [if_pos rfl] at H; exact H
    clear H
    have H := H1
    clear H1
    obtain rfl := Option.some.inj H
    go_wp2
    go_ret
    exact ⟨re_, hs_ HB GE317⟩
   ·replace c10 := Bool.eq_false_iff.mpr c10
    subst c10
    have H1 : (if a0_0 = 1 then (spec_RecOk.j1 kj1 a0_0 (a0_0 == 1) a0_0 a0_1 a0_2 a0_3 a0_4 a0_5) else (spec_RecOk.j1 kj1 a0_0 (a0_0 == 4) a0_0 a0_1 a0_2 a0_3 a0_4 a0_5)) = some r := by rw [if_neg (show ¬ (false = true) by decide)] at H; exact H
    clear H
    have H := H1
    clear H1
    have HC11 := Aside0.mk H
    clear H
    have hcz12_0 : wc.cell? ⟨gb317, 0, none⟩ = some (.int .i64 a0_0) := (blk_cell BK317.out 0).trans rfl
    have hcz12_1 : wc.cell? ⟨gb317, 1, none⟩ = some (.int .i64 a0_1) := (blk_cell BK317.out 1).trans rfl
    have hcz12_2 : wc.cell? ⟨gb317, 2, none⟩ = some (.string a0_2) := (blk_cell BK317.out 2).trans rfl
    have hcz12_3 : wc.cell? ⟨gb317, 3, none⟩ = some (.string a0_3) := (blk_cell BK317.out 3).trans rfl
    have hcz12_4 : wc.cell? ⟨gb317, 4, none⟩ = some (.int .i64 a0_4) := (blk_cell BK317.out 4).trans rfl
    have hcz12_5 : wc.cell? ⟨gb317, 5, none⟩ = some (.int .i64 a0_5) := (blk_cell BK317.out 5).trans rfl
    have hfz12_0 := blk_frozen BK317.out 0
    have hfz12_1 := blk_frozen BK317.out 1
    have hfz12_2 := blk_frozen BK317.out 2
    have hfz12_3 := blk_frozen BK317.out 3
    have hfz12_4 := blk_frozen BK317.out 4
    have hfz12_5 := blk_frozen BK317.out 5
    go_upto_if 19 with (fail)
    go_cut [19] (fun v19 wc => ∃ (kq : Nat) (x19_10 : Bool), v19 = .bool x19_10 ∧ Aside0 (spec_RecOk.j1 kq a0_0 x19_10 a0_0 a0_1 a0_2 a0_3 a0_4 a0_5 = some r) ∧ Aside0 (kq ≤ kj1) ∧ Aside0 (wc.heap[gb317]? = some (.cells #[.int .i64 a0_0, .int .i64 a0_1, .string a0_2, .string a0_3, .int .i64 a0_4, .int .i64 a0_5] 35 (0, 0))) ∧ Aside0 (Below w.heap.size w wc))
    case first =>
     have H := HC11.out
     clear HC11
     by_cases c13 : a0_0 = 1
     ·rw [if_pos c13] at H
      have c13b0 : (a0_0 == 1) = true := beq_iff_eq.mpr c13
      have c13b1 : (a0_0 != 1) = false := bne_eq_false_iff_eq.mpr c13
      clear c13
      (first | rw [c13b0] | (simp only [i64_w, i32_w]; rw [c13b0]) | skip)
      have H' := Aside0.mk H
      clear H
      go_wp2
      go_meet
      case rel => exact ⟨_, ((a0_0 == 1)), rs_, H', ⟨by have := HJ1.out; first | exact Nat.le_refl _ | exact Nat.le_of_succ_le this | omega⟩, ⟨bk_ BK317⟩, ⟨hs_ HB GE317⟩⟩
     ·rw [if_neg c13] at H
      have c13b0 : (a0_0 == 1) = false := beq_eq_false_iff_ne.mpr c13
      have c13b1 : (a0_0 != 1) = true := bne_iff_ne.mpr c13
      (first | rw [c13b0] | (simp only [i64_w, i32_w]; rw [c13b0]) | skip)
      have H' := Aside0.mk H
      clear H
      go_wp2
      go_meet
      case rel => exact ⟨_, ((a0_0 == 4)), rs_, H', ⟨by have := HJ1.out; first | exact Nat.le_refl _ | exact Nat.le_of_succ_le this | omega⟩, ⟨bk_ BK317⟩, ⟨hs_ HB GE317⟩⟩
    case rest =>
     clear HC11
     try clear c1
     try clear p2
     try clear c4
     try clear c5
     try clear c6
     try clear c6b0
     try clear c6b1
     try clear c10
     try clear c13
     try clear c13b0
     try clear c13b1
     try clear hcz12_0
     try clear hcz12_1
     try clear hcz12_2
     try clear hcz12_3
     try clear hcz12_4
     try clear hcz12_5
     try clear hcz7_0
     try clear hcz7_1
     try clear hcz7_2
     try clear hcz7_3
     try clear hcz7_4
     try clear hcz7_5
     try clear hcz8_0
     try clear hcz8_1
     try clear hcz8_2
     try clear hcz8_3
     try clear hcz8_4
     try clear hcz8_5
     try clear hcz9_0
     try clear hcz9_1
     try clear hcz9_2
     try clear hcz9_3
     try clear hcz9_4
     try clear hcz9_5
     try clear hfz12_0
     try clear hfz12_1
     try clear hfz12_2
     try clear hfz12_3
     try clear hfz12_4
     try clear hfz12_5
     try clear hfz7_0
     try clear hfz7_1
     try clear hfz7_2
     try clear hfz7_3
     try clear hfz7_4
     try clear hfz7_5
     try clear hfz8_0
     try clear hfz8_1
     try clear hfz8_2
     try clear hfz8_3
     try clear hfz8_4
     try clear hfz8_5
     try clear hfz9_0
     try clear hfz9_1
     try clear hfz9_2
     try clear hfz9_3
     try clear hfz9_4
     try clear hfz9_5
     try clear p2
     obtain ⟨kq, x19_10, rfl, HA, HJ10, BK317, HB⟩ := hcut
     cases kq with
     | zero => exact absurd HA.out (by simp [spec_RecOk.j1])
     | succ kj10 =>
      have H := HA.out
      clear HA
      simp only [spec_RecOk.j1] at H
      by_cases c14 : x19_10 = true
      ·subst c14
       have H1 : ((spec_KeyOk.f a0_2).bind fun t319 => (if t319 = true then (if (a0_3.size : Int) ≤ 24 then (if a0_4 = 0 then (some (a0_5 == 0)) else (some false)) else (some false)) else (some false))) = some r := by rw [if_pos rfl] at H; exact H
       clear H
       have H := H1
       clear H1
       replace H := Option.bind_eq_some_iff.mp H
       obtain ⟨t319, A150, H⟩ := H
       replace H : (if t319 = true then (if (a0_3.size : Int) ≤ 24 then (if a0_4 = 0 then (some (a0_5 == 0)) else (some false)) else (some false)) else (some false)) = some r := H
       have A15 := Aside0.mk A150
       clear A150
       by_cases c16 : t319 = true
       ·subst c16
        have H1 : (if (a0_3.size : Int) ≤ 24 then (if a0_4 = 0 then (some (a0_5 == 0)) else (some false)) else (some false)) = some r := by rw [if_pos rfl] at H; exact H
        clear H
        have H := H1
        clear H1
        by_cases c17 : (a0_3.size : Int) ≤ 24
        ·rw [if_pos c17] at H
         have c17b0 : decide ((a0_3.size : Int) ≤ 24) = true := decide_eq_true c17
         have c17b1 : decide (a0_3.size ≤ 24) = true := decide_eq_true (by omega)
         clear c17
         by_cases c18 : a0_4 = 0
         ·rw [if_pos c18] at H
          have c18b0 : (a0_4 == 0) = true := beq_iff_eq.mpr c18
          have c18b1 : (a0_4 != 0) = false := bne_eq_false_iff_eq.mpr c18
          clear c18
          obtain rfl := Option.some.inj H
          have hcz19_0 : wc.cell? ⟨gb317, 0, none⟩ = some (.int .i64 a0_0) := (blk_cell BK317.out 0).trans rfl
          have hcz19_1 : wc.cell? ⟨gb317, 1, none⟩ = some (.int .i64 a0_1) := (blk_cell BK317.out 1).trans rfl
          have hcz19_2 : wc.cell? ⟨gb317, 2, none⟩ = some (.string a0_2) := (blk_cell BK317.out 2).trans rfl
          have hcz19_3 : wc.cell? ⟨gb317, 3, none⟩ = some (.string a0_3) := (blk_cell BK317.out 3).trans rfl
          have hcz19_4 : wc.cell? ⟨gb317, 4, none⟩ = some (.int .i64 a0_4) := (blk_cell BK317.out 4).trans rfl
          have hcz19_5 : wc.cell? ⟨gb317, 5, none⟩ = some (.int .i64 a0_5) := (blk_cell BK317.out 5).trans rfl
          have hfz19_0 := blk_frozen BK317.out 0
          have hfz19_1 := blk_frozen BK317.out 1
          have hfz19_2 := blk_frozen BK317.out 2
          have hfz19_3 := blk_frozen BK317.out 3
          have hfz19_4 := blk_frozen BK317.out 4
          have hfz19_5 := blk_frozen BK317.out 5
          go_wp2_with (first | ((with_reducible refine gate_callee (f := 106) rfl ?_); refine goesL_ (some 24) rfl rfl Try.func106 (by kernel_rfl) rfl #[.string a0_2] rfl ar_ ?_; (with_reducible refine (spec_KeyOk.calls a0_2 true _ A15.out).mono ?_); rintro e w' ⟨rfl, ⟨nd, rfl⟩⟩; refine ⟨_, rfl, ?_⟩))
          go_ret
          exact ⟨re_, hs_ HB GE317⟩
         ·rw [if_neg c18] at H
          have c18b0 : (a0_4 == 0) = false := beq_eq_false_iff_ne.mpr c18
          have c18b1 : (a0_4 != 0) = true := bne_iff_ne.mpr c18
          obtain rfl := Option.some.inj H
          have hcz20_0 : wc.cell? ⟨gb317, 0, none⟩ = some (.int .i64 a0_0) := (blk_cell BK317.out 0).trans rfl
          have hcz20_1 : wc.cell? ⟨gb317, 1, none⟩ = some (.int .i64 a0_1) := (blk_cell BK317.out 1).trans rfl
          have hcz20_2 : wc.cell? ⟨gb317, 2, none⟩ = some (.string a0_2) := (blk_cell BK317.out 2).trans rfl
          have hcz20_3 : wc.cell? ⟨gb317, 3, none⟩ = some (.string a0_3) := (blk_cell BK317.out 3).trans rfl
          have hcz20_4 : wc.cell? ⟨gb317, 4, none⟩ = some (.int .i64 a0_4) := (blk_cell BK317.out 4).trans rfl
          have hcz20_5 : wc.cell? ⟨gb317, 5, none⟩ = some (.int .i64 a0_5) := (blk_cell BK317.out 5).trans rfl
          have hfz20_0 := blk_frozen BK317.out 0
          have hfz20_1 := blk_frozen BK317.out 1
          have hfz20_2 := blk_frozen BK317.out 2
          have hfz20_3 := blk_frozen BK317.out 3
          have hfz20_4 := blk_frozen BK317.out 4
          have hfz20_5 := blk_frozen BK317.out 5
          go_wp2_with (first | ((with_reducible refine gate_callee (f := 106) rfl ?_); refine goesL_ (some 24) rfl rfl Try.func106 (by kernel_rfl) rfl #[.string a0_2] rfl ar_ ?_; (with_reducible refine (spec_KeyOk.calls a0_2 true _ A15.out).mono ?_); rintro e w' ⟨rfl, ⟨nd, rfl⟩⟩; refine ⟨_, rfl, ?_⟩))
          go_ret
          exact ⟨re_, hs_ HB GE317⟩
        ·rw [if_neg c17] at H
         have c17b0 : decide ((a0_3.size : Int) ≤ 24) = false := decide_eq_false c17
         have c17b1 : decide (a0_3.size ≤ 24) = false := decide_eq_false (by omega)
         clear c17
         obtain rfl := Option.some.inj H
         have hcz21_0 : wc.cell? ⟨gb317, 0, none⟩ = some (.int .i64 a0_0) := (blk_cell BK317.out 0).trans rfl
         have hcz21_1 : wc.cell? ⟨gb317, 1, none⟩ = some (.int .i64 a0_1) := (blk_cell BK317.out 1).trans rfl
         have hcz21_2 : wc.cell? ⟨gb317, 2, none⟩ = some (.string a0_2) := (blk_cell BK317.out 2).trans rfl
         have hcz21_3 : wc.cell? ⟨gb317, 3, none⟩ = some (.string a0_3) := (blk_cell BK317.out 3).trans rfl
         have hcz21_4 : wc.cell? ⟨gb317, 4, none⟩ = some (.int .i64 a0_4) := (blk_cell BK317.out 4).trans rfl
         have hcz21_5 : wc.cell? ⟨gb317, 5, none⟩ = some (.int .i64 a0_5) := (blk_cell BK317.out 5).trans rfl
         have hfz21_0 := blk_frozen BK317.out 0
         have hfz21_1 := blk_frozen BK317.out 1
         have hfz21_2 := blk_frozen BK317.out 2
         have hfz21_3 := blk_frozen BK317.out 3
         have hfz21_4 := blk_frozen BK317.out 4
         have hfz21_5 := blk_frozen BK317.out 5
         go_wp2_with (first | ((with_reducible refine gate_callee (f := 106) rfl ?_); refine goesL_ (some 24) rfl rfl Try.func106 (by kernel_rfl) rfl #[.string a0_2] rfl ar_ ?_; (with_reducible refine (spec_KeyOk.calls a0_2 true _ A15.out).mono ?_); rintro e w' ⟨rfl, ⟨nd, rfl⟩⟩; refine ⟨_, rfl, ?_⟩))
         go_ret
         exact ⟨re_, hs_ HB GE317⟩
       ·replace c16 := Bool.eq_false_iff.mpr c16
        subst c16
        have H1 : (some false) = some r := by rw [if_neg (show ¬ (false = true) by decide)] at H; exact H
        clear H
        have H := H1
        clear H1
        obtain rfl := Option.some.inj H
        have hcz22_0 : wc.cell? ⟨gb317, 0, none⟩ = some (.int .i64 a0_0) := (blk_cell BK317.out 0).trans rfl
        have hcz22_1 : wc.cell? ⟨gb317, 1, none⟩ = some (.int .i64 a0_1) := (blk_cell BK317.out 1).trans rfl
        have hcz22_2 : wc.cell? ⟨gb317, 2, none⟩ = some (.string a0_2) := (blk_cell BK317.out 2).trans rfl
        have hcz22_3 : wc.cell? ⟨gb317, 3, none⟩ = some (.string a0_3) := (blk_cell BK317.out 3).trans rfl
        have hcz22_4 : wc.cell? ⟨gb317, 4, none⟩ = some (.int .i64 a0_4) := (blk_cell BK317.out 4).trans rfl
        have hcz22_5 : wc.cell? ⟨gb317, 5, none⟩ = some (.int .i64 a0_5) := (blk_cell BK317.out 5).trans rfl
        have hfz22_0 := blk_frozen BK317.out 0
        have hfz22_1 := blk_frozen BK317.out 1
        have hfz22_2 := blk_frozen BK317.out 2
        have hfz22_3 := blk_frozen BK317.out 3
        have hfz22_4 := blk_frozen BK317.out 4
        have hfz22_5 := blk_frozen BK317.out 5
        go_wp2_with (first | ((with_reducible refine gate_callee (f := 106) rfl ?_); refine goesL_ (some 24) rfl rfl Try.func106 (by kernel_rfl) rfl #[.string a0_2] rfl ar_ ?_; (with_reducible refine (spec_KeyOk.calls a0_2 false _ A15.out).mono ?_); rintro e w' ⟨rfl, ⟨nd, rfl⟩⟩; refine ⟨_, rfl, ?_⟩))
        go_ret
        exact ⟨re_, hs_ HB GE317⟩
      ·replace c14 := Bool.eq_false_iff.mpr c14
       subst c14
       have H1 : (if a0_0 = 2 then ((spec_KeyOk.f a0_2).bind fun t320 => (if t320 = true then (if a0_3.toList = ([] : List UInt8) then (if a0_4 = 0 then (some (a0_5 == 0)) else (some false)) else (some false)) else (some false))) else (if a0_0 = 3 then (if a0_2.toList = ([] : List UInt8) then (if a0_3.toList = ([] : List UInt8) then ((spec_l1In.f a0_4 0 8).bind fun t321 => (if t321 = true then ((spec_l1In.f a0_5 0 4294967295).bind fun t322 => (some t322)) else (some false))) else (some false)) else (some false)) else (if a0_0 = 5 then (if a0_2.toList = ([] : List UInt8) then (if a0_3.toList = ([] : List UInt8) then ((spec_l1In.f a0_4 0 20).bind fun t323 => (if t323 = true then ((spec_l1In.f a0_5 0 4294967295).bind fun t324 => (some t324)) else (some false))) else (some false)) else (some false)) else (some false)))) = some r := by rw [if_neg (show ¬ (false = true) by decide)] at H; exact H
       clear H
       have H := H1
       clear H1
       by_cases c23 : a0_0 = 2
       ·rw [if_pos c23] at H
        have c23b0 : (a0_0 == 2) = true := beq_iff_eq.mpr c23
        have c23b1 : (a0_0 != 2) = false := bne_eq_false_iff_eq.mpr c23
        clear c23
        replace H := Option.bind_eq_some_iff.mp H
        obtain ⟨t320, A240, H⟩ := H
        replace H : (if t320 = true then (if a0_3.toList = ([] : List UInt8) then (if a0_4 = 0 then (some (a0_5 == 0)) else (some false)) else (some false)) else (some false)) = some r := H
        have A24 := Aside0.mk A240
        clear A240
        by_cases c25 : t320 = true
        ·subst c25
         have H1 : (if a0_3.toList = ([] : List UInt8) then (if a0_4 = 0 then (some (a0_5 == 0)) else (some false)) else (some false)) = some r := by rw [if_pos rfl] at H; exact H
         clear H
         have H := H1
         clear H1
         by_cases c26 : a0_3.toList = ([] : List UInt8)
         ·rw [if_pos c26] at H
          have c26b0 : (a0_3.toList == ([] : List UInt8)) = true := beq_iff_eq.mpr c26
          have c26b1 : (a0_3.toList != ([] : List UInt8)) = false := bne_eq_false_iff_eq.mpr c26
          clear c26
          by_cases c27 : a0_4 = 0
          ·rw [if_pos c27] at H
           have c27b0 : (a0_4 == 0) = true := beq_iff_eq.mpr c27
           have c27b1 : (a0_4 != 0) = false := bne_eq_false_iff_eq.mpr c27
           clear c27
           obtain rfl := Option.some.inj H
           have hcz28_0 : wc.cell? ⟨gb317, 0, none⟩ = some (.int .i64 a0_0) := (blk_cell BK317.out 0).trans rfl
           have hcz28_1 : wc.cell? ⟨gb317, 1, none⟩ = some (.int .i64 a0_1) := (blk_cell BK317.out 1).trans rfl
           have hcz28_2 : wc.cell? ⟨gb317, 2, none⟩ = some (.string a0_2) := (blk_cell BK317.out 2).trans rfl
           have hcz28_3 : wc.cell? ⟨gb317, 3, none⟩ = some (.string a0_3) := (blk_cell BK317.out 3).trans rfl
           have hcz28_4 : wc.cell? ⟨gb317, 4, none⟩ = some (.int .i64 a0_4) := (blk_cell BK317.out 4).trans rfl
           have hcz28_5 : wc.cell? ⟨gb317, 5, none⟩ = some (.int .i64 a0_5) := (blk_cell BK317.out 5).trans rfl
           have hfz28_0 := blk_frozen BK317.out 0
           have hfz28_1 := blk_frozen BK317.out 1
           have hfz28_2 := blk_frozen BK317.out 2
           have hfz28_3 := blk_frozen BK317.out 3
           have hfz28_4 := blk_frozen BK317.out 4
           have hfz28_5 := blk_frozen BK317.out 5
           go_wp2_with (first | ((with_reducible refine gate_callee (f := 106) rfl ?_); refine goesL_ (some 45) rfl rfl Try.func106 (by kernel_rfl) rfl #[.string a0_2] rfl ar_ ?_; (with_reducible refine (spec_KeyOk.calls a0_2 true _ A24.out).mono ?_); rintro e w' ⟨rfl, ⟨nd, rfl⟩⟩; refine ⟨_, rfl, ?_⟩))
           go_ret
           exact ⟨re_, hs_ HB GE317⟩
          ·rw [if_neg c27] at H
           have c27b0 : (a0_4 == 0) = false := beq_eq_false_iff_ne.mpr c27
           have c27b1 : (a0_4 != 0) = true := bne_iff_ne.mpr c27
           obtain rfl := Option.some.inj H
           have hcz29_0 : wc.cell? ⟨gb317, 0, none⟩ = some (.int .i64 a0_0) := (blk_cell BK317.out 0).trans rfl
           have hcz29_1 : wc.cell? ⟨gb317, 1, none⟩ = some (.int .i64 a0_1) := (blk_cell BK317.out 1).trans rfl
           have hcz29_2 : wc.cell? ⟨gb317, 2, none⟩ = some (.string a0_2) := (blk_cell BK317.out 2).trans rfl
           have hcz29_3 : wc.cell? ⟨gb317, 3, none⟩ = some (.string a0_3) := (blk_cell BK317.out 3).trans rfl
           have hcz29_4 : wc.cell? ⟨gb317, 4, none⟩ = some (.int .i64 a0_4) := (blk_cell BK317.out 4).trans rfl
           have hcz29_5 : wc.cell? ⟨gb317, 5, none⟩ = some (.int .i64 a0_5) := (blk_cell BK317.out 5).trans rfl
           have hfz29_0 := blk_frozen BK317.out 0
           have hfz29_1 := blk_frozen BK317.out 1
           have hfz29_2 := blk_frozen BK317.out 2
           have hfz29_3 := blk_frozen BK317.out 3
           have hfz29_4 := blk_frozen BK317.out 4
           have hfz29_5 := blk_frozen BK317.out 5
           go_wp2_with (first | ((with_reducible refine gate_callee (f := 106) rfl ?_); refine goesL_ (some 45) rfl rfl Try.func106 (by kernel_rfl) rfl #[.string a0_2] rfl ar_ ?_; (with_reducible refine (spec_KeyOk.calls a0_2 true _ A24.out).mono ?_); rintro e w' ⟨rfl, ⟨nd, rfl⟩⟩; refine ⟨_, rfl, ?_⟩))
           go_ret
           exact ⟨re_, hs_ HB GE317⟩
         ·rw [if_neg c26] at H
          have c26b0 : (a0_3.toList == ([] : List UInt8)) = false := beq_eq_false_iff_ne.mpr c26
          have c26b1 : (a0_3.toList != ([] : List UInt8)) = true := bne_iff_ne.mpr c26
          obtain rfl := Option.some.inj H
          have hcz30_0 : wc.cell? ⟨gb317, 0, none⟩ = some (.int .i64 a0_0) := (blk_cell BK317.out 0).trans rfl
          have hcz30_1 : wc.cell? ⟨gb317, 1, none⟩ = some (.int .i64 a0_1) := (blk_cell BK317.out 1).trans rfl
          have hcz30_2 : wc.cell? ⟨gb317, 2, none⟩ = some (.string a0_2) := (blk_cell BK317.out 2).trans rfl
          have hcz30_3 : wc.cell? ⟨gb317, 3, none⟩ = some (.string a0_3) := (blk_cell BK317.out 3).trans rfl
          have hcz30_4 : wc.cell? ⟨gb317, 4, none⟩ = some (.int .i64 a0_4) := (blk_cell BK317.out 4).trans rfl
          have hcz30_5 : wc.cell? ⟨gb317, 5, none⟩ = some (.int .i64 a0_5) := (blk_cell BK317.out 5).trans rfl
          have hfz30_0 := blk_frozen BK317.out 0
          have hfz30_1 := blk_frozen BK317.out 1
          have hfz30_2 := blk_frozen BK317.out 2
          have hfz30_3 := blk_frozen BK317.out 3
          have hfz30_4 := blk_frozen BK317.out 4
          have hfz30_5 := blk_frozen BK317.out 5
          go_wp2_with (first | ((with_reducible refine gate_callee (f := 106) rfl ?_); refine goesL_ (some 45) rfl rfl Try.func106 (by kernel_rfl) rfl #[.string a0_2] rfl ar_ ?_; (with_reducible refine (spec_KeyOk.calls a0_2 true _ A24.out).mono ?_); rintro e w' ⟨rfl, ⟨nd, rfl⟩⟩; refine ⟨_, rfl, ?_⟩))
          go_ret
          exact ⟨re_, hs_ HB GE317⟩
        ·replace c25 := Bool.eq_false_iff.mpr c25
         subst c25
         have H1 : (some false) = some r := by rw [if_neg (show ¬ (false = true) by decide)] at H; exact H
         clear H
         have H := H1
         clear H1
         obtain rfl := Option.some.inj H
         have hcz31_0 : wc.cell? ⟨gb317, 0, none⟩ = some (.int .i64 a0_0) := (blk_cell BK317.out 0).trans rfl
         have hcz31_1 : wc.cell? ⟨gb317, 1, none⟩ = some (.int .i64 a0_1) := (blk_cell BK317.out 1).trans rfl
         have hcz31_2 : wc.cell? ⟨gb317, 2, none⟩ = some (.string a0_2) := (blk_cell BK317.out 2).trans rfl
         have hcz31_3 : wc.cell? ⟨gb317, 3, none⟩ = some (.string a0_3) := (blk_cell BK317.out 3).trans rfl
         have hcz31_4 : wc.cell? ⟨gb317, 4, none⟩ = some (.int .i64 a0_4) := (blk_cell BK317.out 4).trans rfl
         have hcz31_5 : wc.cell? ⟨gb317, 5, none⟩ = some (.int .i64 a0_5) := (blk_cell BK317.out 5).trans rfl
         have hfz31_0 := blk_frozen BK317.out 0
         have hfz31_1 := blk_frozen BK317.out 1
         have hfz31_2 := blk_frozen BK317.out 2
         have hfz31_3 := blk_frozen BK317.out 3
         have hfz31_4 := blk_frozen BK317.out 4
         have hfz31_5 := blk_frozen BK317.out 5
         go_wp2_with (first | ((with_reducible refine gate_callee (f := 106) rfl ?_); refine goesL_ (some 45) rfl rfl Try.func106 (by kernel_rfl) rfl #[.string a0_2] rfl ar_ ?_; (with_reducible refine (spec_KeyOk.calls a0_2 false _ A24.out).mono ?_); rintro e w' ⟨rfl, ⟨nd, rfl⟩⟩; refine ⟨_, rfl, ?_⟩))
         go_ret
         exact ⟨re_, hs_ HB GE317⟩
       ·rw [if_neg c23] at H
        have c23b0 : (a0_0 == 2) = false := beq_eq_false_iff_ne.mpr c23
        have c23b1 : (a0_0 != 2) = true := bne_iff_ne.mpr c23
        by_cases c32 : a0_0 = 3
        ·rw [if_pos c32] at H
         have c32b0 : (a0_0 == 3) = true := beq_iff_eq.mpr c32
         have c32b1 : (a0_0 != 3) = false := bne_eq_false_iff_eq.mpr c32
         clear c32
         by_cases c33 : a0_2.toList = ([] : List UInt8)
         ·rw [if_pos c33] at H
          have c33b0 : (a0_2.toList == ([] : List UInt8)) = true := beq_iff_eq.mpr c33
          have c33b1 : (a0_2.toList != ([] : List UInt8)) = false := bne_eq_false_iff_eq.mpr c33
          clear c33
          by_cases c34 : a0_3.toList = ([] : List UInt8)
          ·rw [if_pos c34] at H
           have c34b0 : (a0_3.toList == ([] : List UInt8)) = true := beq_iff_eq.mpr c34
           have c34b1 : (a0_3.toList != ([] : List UInt8)) = false := bne_eq_false_iff_eq.mpr c34
           clear c34
           replace H := Option.bind_eq_some_iff.mp H
           obtain ⟨t321, A350, H⟩ := H
           replace H : (if t321 = true then ((spec_l1In.f a0_5 0 4294967295).bind fun t322 => (some t322)) else (some false)) = some r := H
           have A35 := Aside0.mk A350
           clear A350
           by_cases c36 : t321 = true
           ·subst c36
            have H1 : ((spec_l1In.f a0_5 0 4294967295).bind fun t322 => (some t322)) = some r := by rw [if_pos rfl] at H; exact H
            clear H
            have H := H1
            clear H1
            replace H := Option.bind_eq_some_iff.mp H
            obtain ⟨t322, A370, H⟩ := H
            replace H : (some t322) = some r := H
            have A37 := Aside0.mk A370
            clear A370
            obtain rfl := Option.some.inj H
            have hcz38_0 : wc.cell? ⟨gb317, 0, none⟩ = some (.int .i64 a0_0) := (blk_cell BK317.out 0).trans rfl
            have hcz38_1 : wc.cell? ⟨gb317, 1, none⟩ = some (.int .i64 a0_1) := (blk_cell BK317.out 1).trans rfl
            have hcz38_2 : wc.cell? ⟨gb317, 2, none⟩ = some (.string a0_2) := (blk_cell BK317.out 2).trans rfl
            have hcz38_3 : wc.cell? ⟨gb317, 3, none⟩ = some (.string a0_3) := (blk_cell BK317.out 3).trans rfl
            have hcz38_4 : wc.cell? ⟨gb317, 4, none⟩ = some (.int .i64 a0_4) := (blk_cell BK317.out 4).trans rfl
            have hcz38_5 : wc.cell? ⟨gb317, 5, none⟩ = some (.int .i64 a0_5) := (blk_cell BK317.out 5).trans rfl
            have hfz38_0 := blk_frozen BK317.out 0
            have hfz38_1 := blk_frozen BK317.out 1
            have hfz38_2 := blk_frozen BK317.out 2
            have hfz38_3 := blk_frozen BK317.out 3
            have hfz38_4 := blk_frozen BK317.out 4
            have hfz38_5 := blk_frozen BK317.out 5
            go_wp2_with (first | (go_at_call 64; (with_reducible refine (spec_l1In.calls a0_4 0 8 true _ A35.out).mono ?_); rintro e w' ⟨rfl, ⟨nd, rfl⟩⟩) | (go_at_call 64; (with_reducible refine (spec_l1In.calls a0_5 0 4294967295 t322 _ A37.out).mono ?_); rintro e w' ⟨rfl, ⟨nd, rfl⟩⟩))
            go_ret
            exact ⟨re_, hs_ HB GE317⟩
           ·replace c36 := Bool.eq_false_iff.mpr c36
            subst c36
            have H1 : (some false) = some r := by rw [if_neg (show ¬ (false = true) by decide)] at H; exact H
            clear H
            have H := H1
            clear H1
            obtain rfl := Option.some.inj H
            have hcz39_0 : wc.cell? ⟨gb317, 0, none⟩ = some (.int .i64 a0_0) := (blk_cell BK317.out 0).trans rfl
            have hcz39_1 : wc.cell? ⟨gb317, 1, none⟩ = some (.int .i64 a0_1) := (blk_cell BK317.out 1).trans rfl
            have hcz39_2 : wc.cell? ⟨gb317, 2, none⟩ = some (.string a0_2) := (blk_cell BK317.out 2).trans rfl
            have hcz39_3 : wc.cell? ⟨gb317, 3, none⟩ = some (.string a0_3) := (blk_cell BK317.out 3).trans rfl
            have hcz39_4 : wc.cell? ⟨gb317, 4, none⟩ = some (.int .i64 a0_4) := (blk_cell BK317.out 4).trans rfl
            have hcz39_5 : wc.cell? ⟨gb317, 5, none⟩ = some (.int .i64 a0_5) := (blk_cell BK317.out 5).trans rfl
            have hfz39_0 := blk_frozen BK317.out 0
            have hfz39_1 := blk_frozen BK317.out 1
            have hfz39_2 := blk_frozen BK317.out 2
            have hfz39_3 := blk_frozen BK317.out 3
            have hfz39_4 := blk_frozen BK317.out 4
            have hfz39_5 := blk_frozen BK317.out 5
            go_wp2_with (first | (go_at_call 64; (with_reducible refine (spec_l1In.calls a0_4 0 8 false _ A35.out).mono ?_); rintro e w' ⟨rfl, ⟨nd, rfl⟩⟩))
            go_ret
            exact ⟨re_, hs_ HB GE317⟩
          ·rw [if_neg c34] at H
           have c34b0 : (a0_3.toList == ([] : List UInt8)) = false := beq_eq_false_iff_ne.mpr c34
           have c34b1 : (a0_3.toList != ([] : List UInt8)) = true := bne_iff_ne.mpr c34
           obtain rfl := Option.some.inj H
           have hcz40_0 : wc.cell? ⟨gb317, 0, none⟩ = some (.int .i64 a0_0) := (blk_cell BK317.out 0).trans rfl
           have hcz40_1 : wc.cell? ⟨gb317, 1, none⟩ = some (.int .i64 a0_1) := (blk_cell BK317.out 1).trans rfl
           have hcz40_2 : wc.cell? ⟨gb317, 2, none⟩ = some (.string a0_2) := (blk_cell BK317.out 2).trans rfl
           have hcz40_3 : wc.cell? ⟨gb317, 3, none⟩ = some (.string a0_3) := (blk_cell BK317.out 3).trans rfl
           have hcz40_4 : wc.cell? ⟨gb317, 4, none⟩ = some (.int .i64 a0_4) := (blk_cell BK317.out 4).trans rfl
           have hcz40_5 : wc.cell? ⟨gb317, 5, none⟩ = some (.int .i64 a0_5) := (blk_cell BK317.out 5).trans rfl
           have hfz40_0 := blk_frozen BK317.out 0
           have hfz40_1 := blk_frozen BK317.out 1
           have hfz40_2 := blk_frozen BK317.out 2
           have hfz40_3 := blk_frozen BK317.out 3
           have hfz40_4 := blk_frozen BK317.out 4
           have hfz40_5 := blk_frozen BK317.out 5
           go_wp2
           go_ret
           exact ⟨re_, hs_ HB GE317⟩
         ·rw [if_neg c33] at H
          have c33b0 : (a0_2.toList == ([] : List UInt8)) = false := beq_eq_false_iff_ne.mpr c33
          have c33b1 : (a0_2.toList != ([] : List UInt8)) = true := bne_iff_ne.mpr c33
          obtain rfl := Option.some.inj H
          have hcz41_0 : wc.cell? ⟨gb317, 0, none⟩ = some (.int .i64 a0_0) := (blk_cell BK317.out 0).trans rfl
          have hcz41_1 : wc.cell? ⟨gb317, 1, none⟩ = some (.int .i64 a0_1) := (blk_cell BK317.out 1).trans rfl
          have hcz41_2 : wc.cell? ⟨gb317, 2, none⟩ = some (.string a0_2) := (blk_cell BK317.out 2).trans rfl
          have hcz41_3 : wc.cell? ⟨gb317, 3, none⟩ = some (.string a0_3) := (blk_cell BK317.out 3).trans rfl
          have hcz41_4 : wc.cell? ⟨gb317, 4, none⟩ = some (.int .i64 a0_4) := (blk_cell BK317.out 4).trans rfl
          have hcz41_5 : wc.cell? ⟨gb317, 5, none⟩ = some (.int .i64 a0_5) := (blk_cell BK317.out 5).trans rfl
          have hfz41_0 := blk_frozen BK317.out 0
          have hfz41_1 := blk_frozen BK317.out 1
          have hfz41_2 := blk_frozen BK317.out 2
          have hfz41_3 := blk_frozen BK317.out 3
          have hfz41_4 := blk_frozen BK317.out 4
          have hfz41_5 := blk_frozen BK317.out 5
          go_wp2
          go_ret
          exact ⟨re_, hs_ HB GE317⟩
        ·rw [if_neg c32] at H
         have c32b0 : (a0_0 == 3) = false := beq_eq_false_iff_ne.mpr c32
         have c32b1 : (a0_0 != 3) = true := bne_iff_ne.mpr c32
         by_cases c42 : a0_0 = 5
         ·rw [if_pos c42] at H
          have c42b0 : (a0_0 == 5) = true := beq_iff_eq.mpr c42
          have c42b1 : (a0_0 != 5) = false := bne_eq_false_iff_eq.mpr c42
          clear c42
          by_cases c43 : a0_2.toList = ([] : List UInt8)
          ·rw [if_pos c43] at H
           have c43b0 : (a0_2.toList == ([] : List UInt8)) = true := beq_iff_eq.mpr c43
           have c43b1 : (a0_2.toList != ([] : List UInt8)) = false := bne_eq_false_iff_eq.mpr c43
           clear c43
           by_cases c44 : a0_3.toList = ([] : List UInt8)
           ·rw [if_pos c44] at H
            have c44b0 : (a0_3.toList == ([] : List UInt8)) = true := beq_iff_eq.mpr c44
            have c44b1 : (a0_3.toList != ([] : List UInt8)) = false := bne_eq_false_iff_eq.mpr c44
            clear c44
            replace H := Option.bind_eq_some_iff.mp H
            obtain ⟨t323, A450, H⟩ := H
            replace H : (if t323 = true then ((spec_l1In.f a0_5 0 4294967295).bind fun t324 => (some t324)) else (some false)) = some r := H
            have A45 := Aside0.mk A450
            clear A450
            by_cases c46 : t323 = true
            ·subst c46
             have H1 : ((spec_l1In.f a0_5 0 4294967295).bind fun t324 => (some t324)) = some r := by rw [if_pos rfl] at H; exact H
             clear H
             have H := H1
             clear H1
             replace H := Option.bind_eq_some_iff.mp H
             obtain ⟨t324, A470, H⟩ := H
             replace H : (some t324) = some r := H
             have A47 := Aside0.mk A470
             clear A470
             obtain rfl := Option.some.inj H
             have hcz48_0 : wc.cell? ⟨gb317, 0, none⟩ = some (.int .i64 a0_0) := (blk_cell BK317.out 0).trans rfl
             have hcz48_1 : wc.cell? ⟨gb317, 1, none⟩ = some (.int .i64 a0_1) := (blk_cell BK317.out 1).trans rfl
             have hcz48_2 : wc.cell? ⟨gb317, 2, none⟩ = some (.string a0_2) := (blk_cell BK317.out 2).trans rfl
             have hcz48_3 : wc.cell? ⟨gb317, 3, none⟩ = some (.string a0_3) := (blk_cell BK317.out 3).trans rfl
             have hcz48_4 : wc.cell? ⟨gb317, 4, none⟩ = some (.int .i64 a0_4) := (blk_cell BK317.out 4).trans rfl
             have hcz48_5 : wc.cell? ⟨gb317, 5, none⟩ = some (.int .i64 a0_5) := (blk_cell BK317.out 5).trans rfl
             have hfz48_0 := blk_frozen BK317.out 0
             have hfz48_1 := blk_frozen BK317.out 1
             have hfz48_2 := blk_frozen BK317.out 2
             have hfz48_3 := blk_frozen BK317.out 3
             have hfz48_4 := blk_frozen BK317.out 4
             have hfz48_5 := blk_frozen BK317.out 5
             go_wp2_with (first | (go_at_call 64; (with_reducible refine (spec_l1In.calls a0_4 0 20 true _ A45.out).mono ?_); rintro e w' ⟨rfl, ⟨nd, rfl⟩⟩) | (go_at_call 64; (with_reducible refine (spec_l1In.calls a0_5 0 4294967295 t324 _ A47.out).mono ?_); rintro e w' ⟨rfl, ⟨nd, rfl⟩⟩))
             go_ret
             exact ⟨re_, hs_ HB GE317⟩
            ·replace c46 := Bool.eq_false_iff.mpr c46
             subst c46
             have H1 : (some false) = some r := by rw [if_neg (show ¬ (false = true) by decide)] at H; exact H
             clear H
             have H := H1
             clear H1
             obtain rfl := Option.some.inj H
             have hcz49_0 : wc.cell? ⟨gb317, 0, none⟩ = some (.int .i64 a0_0) := (blk_cell BK317.out 0).trans rfl
             have hcz49_1 : wc.cell? ⟨gb317, 1, none⟩ = some (.int .i64 a0_1) := (blk_cell BK317.out 1).trans rfl
             have hcz49_2 : wc.cell? ⟨gb317, 2, none⟩ = some (.string a0_2) := (blk_cell BK317.out 2).trans rfl
             have hcz49_3 : wc.cell? ⟨gb317, 3, none⟩ = some (.string a0_3) := (blk_cell BK317.out 3).trans rfl
             have hcz49_4 : wc.cell? ⟨gb317, 4, none⟩ = some (.int .i64 a0_4) := (blk_cell BK317.out 4).trans rfl
             have hcz49_5 : wc.cell? ⟨gb317, 5, none⟩ = some (.int .i64 a0_5) := (blk_cell BK317.out 5).trans rfl
             have hfz49_0 := blk_frozen BK317.out 0
             have hfz49_1 := blk_frozen BK317.out 1
             have hfz49_2 := blk_frozen BK317.out 2
             have hfz49_3 := blk_frozen BK317.out 3
             have hfz49_4 := blk_frozen BK317.out 4
             have hfz49_5 := blk_frozen BK317.out 5
             go_wp2_with (first | (go_at_call 64; (with_reducible refine (spec_l1In.calls a0_4 0 20 false _ A45.out).mono ?_); rintro e w' ⟨rfl, ⟨nd, rfl⟩⟩))
             go_ret
             exact ⟨re_, hs_ HB GE317⟩
           ·rw [if_neg c44] at H
            have c44b0 : (a0_3.toList == ([] : List UInt8)) = false := beq_eq_false_iff_ne.mpr c44
            have c44b1 : (a0_3.toList != ([] : List UInt8)) = true := bne_iff_ne.mpr c44
            obtain rfl := Option.some.inj H
            have hcz50_0 : wc.cell? ⟨gb317, 0, none⟩ = some (.int .i64 a0_0) := (blk_cell BK317.out 0).trans rfl
            have hcz50_1 : wc.cell? ⟨gb317, 1, none⟩ = some (.int .i64 a0_1) := (blk_cell BK317.out 1).trans rfl
            have hcz50_2 : wc.cell? ⟨gb317, 2, none⟩ = some (.string a0_2) := (blk_cell BK317.out 2).trans rfl
            have hcz50_3 : wc.cell? ⟨gb317, 3, none⟩ = some (.string a0_3) := (blk_cell BK317.out 3).trans rfl
            have hcz50_4 : wc.cell? ⟨gb317, 4, none⟩ = some (.int .i64 a0_4) := (blk_cell BK317.out 4).trans rfl
            have hcz50_5 : wc.cell? ⟨gb317, 5, none⟩ = some (.int .i64 a0_5) := (blk_cell BK317.out 5).trans rfl
            have hfz50_0 := blk_frozen BK317.out 0
            have hfz50_1 := blk_frozen BK317.out 1
            have hfz50_2 := blk_frozen BK317.out 2
            have hfz50_3 := blk_frozen BK317.out 3
            have hfz50_4 := blk_frozen BK317.out 4
            have hfz50_5 := blk_frozen BK317.out 5
            go_wp2
            go_ret
            exact ⟨re_, hs_ HB GE317⟩
          ·rw [if_neg c43] at H
           have c43b0 : (a0_2.toList == ([] : List UInt8)) = false := beq_eq_false_iff_ne.mpr c43
           have c43b1 : (a0_2.toList != ([] : List UInt8)) = true := bne_iff_ne.mpr c43
           obtain rfl := Option.some.inj H
           have hcz51_0 : wc.cell? ⟨gb317, 0, none⟩ = some (.int .i64 a0_0) := (blk_cell BK317.out 0).trans rfl
           have hcz51_1 : wc.cell? ⟨gb317, 1, none⟩ = some (.int .i64 a0_1) := (blk_cell BK317.out 1).trans rfl
           have hcz51_2 : wc.cell? ⟨gb317, 2, none⟩ = some (.string a0_2) := (blk_cell BK317.out 2).trans rfl
           have hcz51_3 : wc.cell? ⟨gb317, 3, none⟩ = some (.string a0_3) := (blk_cell BK317.out 3).trans rfl
           have hcz51_4 : wc.cell? ⟨gb317, 4, none⟩ = some (.int .i64 a0_4) := (blk_cell BK317.out 4).trans rfl
           have hcz51_5 : wc.cell? ⟨gb317, 5, none⟩ = some (.int .i64 a0_5) := (blk_cell BK317.out 5).trans rfl
           have hfz51_0 := blk_frozen BK317.out 0
           have hfz51_1 := blk_frozen BK317.out 1
           have hfz51_2 := blk_frozen BK317.out 2
           have hfz51_3 := blk_frozen BK317.out 3
           have hfz51_4 := blk_frozen BK317.out 4
           have hfz51_5 := blk_frozen BK317.out 5
           go_wp2
           go_ret
           exact ⟨re_, hs_ HB GE317⟩
         ·rw [if_neg c42] at H
          have c42b0 : (a0_0 == 5) = false := beq_eq_false_iff_ne.mpr c42
          have c42b1 : (a0_0 != 5) = true := bne_iff_ne.mpr c42
          obtain rfl := Option.some.inj H
          go_wp2
          go_ret
          exact ⟨re_, hs_ HB GE317⟩

/-! ### spec_Var: function 86 -/
def spec_Var.l0 : Nat → Int → List Int → Option (ByteArray)
 | 0, _, _ => none
 | k + 1, x0, x3 => if x0 ≥ 128 then (if x3.length < 140737488355328 then (spec_Var.l0 k (wrap64 (Int.tdiv x0 128)) (x3 ++ [(wrap64 (128 + (Int.tmod x0 128))) % 256])) else (none)) else (if x3.length < 140737488355328 then (some (strOfNums (x3 ++ [(x0) % 256]))) else (none))
def spec_Var.f (k : Nat) (a0 : Int) : Option (ByteArray) := (spec_l1In.f a0 0 562949953421311).bind fun t325 => (if t325 = true then (spec_Var.l0 k a0 (([] : List Int))) else (some (⟨#[]⟩ : ByteArray)))
theorem spec_Var.mono_l : ∀ k, (∀ y0 y1, LeO (spec_Var.l0 k y0 y1) (spec_Var.l0 (k + 1) y0 y1))
 | 0 => fun _ _ r h => by simp [spec_Var.l0] at h
 | k + 1 => by
  have ih0 := spec_Var.mono_l k
  ·intro y0 y1
   unfold spec_Var.l0
   repeat' first
   | (with_reducible exact ih0 _ _)
   | (with_reducible exact LeO.refl _)
   | (with_reducible exact LeO.none _)
   | (with_reducible refine LeO.ite ?_ ?_)
   | (with_reducible refine LeO.bind ?_ (fun _ => ?_))
   | exact ih0 _ _
   | exact LeO.none _
   | refine LeO.ite ?_ ?_
   | refine LeO.bind ?_ (fun _ => ?_)
theorem spec_Var.mono : ∀ a0 k, LeO (spec_Var.f k a0) (spec_Var.f (k + 1) a0) := by
 intro a0 k
 have ih0 := spec_Var.mono_l k
 unfold spec_Var.f
 repeat' first
   | (with_reducible exact ih0 _ _)
   | (with_reducible exact LeO.refl _)
   | (with_reducible exact LeO.none _)
   | (with_reducible refine LeO.ite ?_ ?_)
   | (with_reducible refine LeO.bind ?_ (fun _ => ?_))
   | exact ih0 _ _
   | exact LeO.none _
   | refine LeO.ite ?_ ?_
   | refine LeO.bind ?_ (fun _ => ?_)
set_option maxHeartbeats 8000000 in
set_option maxRecDepth 100000 in
theorem spec_Var.calls (k : Nat) (a0 : Int) (r : ByteArray) (w : World) (h : spec_Var.f k a0 = some r) :
  Calls Try.prog 86 #[.int .i64 a0] w fun e w' => e = .returned (.string r) ∧ Below w.heap.size w w' := by
 have HB := Aside0.mk (Below.refl w.heap.size w)
 have H : ((spec_l1In.f a0 0 562949953421311).bind fun t325 => (if t325 = true then (spec_Var.l0 k a0 (([] : List Int))) else (some (⟨#[]⟩ : ByteArray)))) = some r := h
 clear h
 replace H := Option.bind_eq_some_iff.mp H
 obtain ⟨t325, A20, H⟩ := H
 replace H : (if t325 = true then (spec_Var.l0 k a0 (([] : List Int))) else (some (⟨#[]⟩ : ByteArray))) = some r := H
 have A2 := Aside0.mk A20
 clear A20
 by_cases c3 : t325 = true
 ·subst c3
  have H1 : (spec_Var.l0 k a0 (([] : List Int))) = some r := by rw [if_pos rfl] at H; exact H
  clear H
  have H := H1
  clear H1
  obtain ⟨y326, hy326⟩ : ∃ y_ : List Int, y_ = (([] : List Int)) := ⟨_, rfl⟩
  replace H : (spec_Var.l0 k a0 y326) = some r := by first | (rw [hy326]; with_reducible exact H) | (have H2_ := (Option.bind_some _ _).symm.trans H; rw [hy326]; with_reducible exact H2_) | (have H2_ := (Option.bind_some _ _).symm.trans H; with_reducible exact H2_) | with_reducible exact H | (rw [hy326]; exact H) | exact H
  have Ny326 := Aside0.mk hy326
  clear hy326
  have H' := Aside0.mk H
  clear H
  go_enter Try.func86, Try.ntmps86
  go_wp2_with (first | ((with_reducible refine gate_callee (f := 64) rfl ?_); refine goesL_ (some 5) rfl rfl Try.func64 (by kernel_rfl) rfl #[.int .i64 a0, .int .i64 0, .int .i64 562949953421311] rfl ar_ ?_; (with_reducible refine (spec_l1In.calls a0 0 562949953421311 true _ A2.out).mono ?_); rintro e w' ⟨rfl, ⟨nd, rfl⟩⟩; refine ⟨_, rfl, ?_⟩) | ((with_reducible refine gate_dst (N := 7) rfl ?_); refine Kd.R_lit (Kd.int .u8) _ 5 ?hg (N := 7) ?hd (xs := ([] : List Int)) (inner := []) (ok := fun _ => True) (okp := fun _ => True) ?hr ?hp (fun _ hk => hk) trivial (Below.refl _ _) (Nat.le_refl _) (by simp) ?_; (case hd => rfl); (case hg => rfl); (case hr => first | (go_simp; done) | (go_simp; rfl)); (case hp => exact (Reps.none _ _)); intro v327 w4 ho5 hb hg_ hnew_; clear hg_ hnew_; (first | rw [← Ny326.out] at ho5 | (simp only [Int.reduceToNat] at ho5; rw [← Ny326.out] at ho5)); have n0_ := Aside0.mk (Kd.R_lower ho5 (below_size (hb_ HB))); have n1_ := Aside0.mk (below_step (hb_ HB) hb); clear HB; have HO328 := n0_; have HB := n1_; clear n0_ n1_; clear hb ho5))
  go_loopg [0, 3] k (fun kq v0 v3 w' => ∃ (x0_1 : Int) (x3_1 : List Int), v0 = .int .i64 x0_1 ∧ Aside0 (spec_Var.l0 kq x0_1 x3_1 = some r) ∧ Aside0 (kq ≤ k) ∧ Aside0 (Kd.R (Kd.int .u8) 5 w' w.heap.size (fun _ => True) v3 x3_1) ∧ Aside0 (Below w.heap.size w w'))
  case atStart => exact ⟨(a0), (y326), rs_, H', ⟨Nat.le_refl _⟩, ⟨rr_ HO328⟩, ⟨hb_ HB⟩⟩
  case round =>
   clear H'
   try clear p2
   try clear c3
   obtain ⟨x0_1, x3_1, rfl, HA, HK1, HO_3, HB⟩ := hrel
   cases gk with
   | zero => exact absurd HA.out (by simp [spec_Var.l0])
   | succ k1 =>
    have H := HA.out
    clear HA
    simp only [spec_Var.l0] at H
    by_cases c6 : x0_1 ≥ 128
    ·rw [if_pos c6] at H
     have c6b0 : decide (128 ≤ x0_1) = true := decide_eq_true c6
     clear c6
     by_cases c7 : x3_1.length < 140737488355328
     ·rw [if_pos c7] at H
      have LMc7 := Aside0.mk c7
      clear c7
      obtain ⟨y329, hy329⟩ : ∃ y_ : List Int, y_ = (x3_1 ++ [(wrap64 (128 + (Int.tmod x0_1 128))) % 256]) := ⟨_, rfl⟩
      replace H : (spec_Var.l0 k1 (wrap64 (Int.tdiv x0_1 128)) y329) = some r := by first | (rw [hy329]; with_reducible exact H) | (have H2_ := (Option.bind_some _ _).symm.trans H; rw [hy329]; with_reducible exact H2_) | (have H2_ := (Option.bind_some _ _).symm.trans H; with_reducible exact H2_) | with_reducible exact H | (rw [hy329]; exact H) | exact H
      have Ny329 := Aside0.mk hy329
      clear hy329
      have H' := Aside0.mk H
      clear H
      go_wp2_with (first | ((with_reducible refine gate_builtin (b := .append) (xs := #[.tmp 10, .tmp 15]) rfl ?_); at_builtin; refine Kd.R_append (Kd.int .u8) (w0 := w) w.heap.size rfl (.tmp 10) (.tmp 15) 70 5 (.int .u8 0) 1 rfl Try.underlying70 info5 rfl (by decide) (by omega) u3 x3_1 ((wrap64 (128 + (Int.tmod x0_1 128))) % 256) [.int .u8 ((wrap64 (128 + (Int.tmod x0_1 128))) % 256)] (fun _ => True) (fun _ => False) rfl rfl ?aP (fun _ hk => hk.elim) ?aF ?aO ?aB ?aS ?aL ?_; (case aP => exact rfl); (case aB => exact (hb_ HB)); (case aF => exact (fun _ _ => trivial)); (case aO => exact (rr_ HO_3)); (case aS => exact (below_size (hb_ HB))); (case aL => have := LMc7.out; omega); intro v330 w8 ho hb hg hat; rw [← Ny329.out] at ho; have n0_ := Aside0.mk (hb); have n1_ := Aside0.mk (ho); clear HB; clear HO_3; have HB := n0_; have HO331 := n1_; clear n0_ n1_; clear ho hb hg hat))
      go_roundg k1
      case measure => have := HK1.out; first | exact this | exact Nat.le_of_succ_le this | exact Nat.le_refl _ | omega
      case rel => exact ⟨(wrap64 (Int.tdiv x0_1 128)), (y329), rs_, H', ⟨by have := HK1.out; first | exact this | exact Nat.le_of_succ_le this | exact Nat.le_refl _ | omega⟩, ⟨rr_ HO331⟩, ⟨hb_ HB⟩⟩
     ·rw [if_neg c7] at H
      exact absurd H (by simp)
    ·rw [if_neg c6] at H
     have c6b0 : decide (128 ≤ x0_1) = false := decide_eq_false c6
     clear c6
     by_cases c9 : x3_1.length < 140737488355328
     ·rw [if_pos c9] at H
      have LMc9 := Aside0.mk c9
      clear c9
      obtain ⟨y332, hy332⟩ : ∃ y_ : List Int, y_ = (x3_1 ++ [(x0_1) % 256]) := ⟨_, rfl⟩
      replace H : (some (strOfNums y332)) = some r := by first | (rw [hy332]; with_reducible exact H) | (have H2_ := (Option.bind_some _ _).symm.trans H; rw [hy332]; with_reducible exact H2_) | (have H2_ := (Option.bind_some _ _).symm.trans H; with_reducible exact H2_) | with_reducible exact H | (rw [hy332]; exact H) | exact H
      have Ny332 := Aside0.mk hy332
      clear hy332
      obtain rfl := Option.some.inj H
      go_wp2_with (first | ((with_reducible refine gate_builtin (b := .append) (xs := #[.tmp 19, .tmp 22]) rfl ?_); at_builtin; refine Kd.R_append (Kd.int .u8) (w0 := w) w.heap.size rfl (.tmp 19) (.tmp 22) 70 5 (.int .u8 0) 1 rfl Try.underlying70 info5 rfl (by decide) (by omega) u3 x3_1 ((x0_1) % 256) [.int .u8 ((x0_1) % 256)] (fun _ => True) (fun _ => False) rfl rfl ?aP (fun _ hk => hk.elim) ?aF ?aO ?aB ?aS ?aL ?_; (case aP => exact rfl); (case aB => exact (hb_ HB)); (case aF => exact (fun _ _ => trivial)); (case aO => exact (rr_ HO_3)); (case aS => exact (below_size (hb_ HB))); (case aL => have := LMc9.out; omega); intro v333 w10 ho hb hg hat; rw [← Ny332.out] at ho; have n0_ := Aside0.mk (hb); have n1_ := Aside0.mk (ho); clear HB; clear HO_3; have HB := n0_; have HO334 := n1_; clear n0_ n1_; clear ho hb hg hat; have hcv11 := own_string (P := Try.prog) Try.underlying70 Try.underlying5 Try.underlying9 (Kd.own_of_R HO334.out)))
      go_ret
      exact ⟨re_, hb_ HB⟩
     ·rw [if_neg c9] at H
      exact absurd H (by simp)
 ·replace c3 := Bool.eq_false_iff.mpr c3
  subst c3
  have H1 : (some (⟨#[]⟩ : ByteArray)) = some r := by rw [if_neg (show ¬ (false = true) by decide)] at H; exact H
  clear H
  have H := H1
  clear H1
  obtain rfl := Option.some.inj H
  go_enter Try.func86, Try.ntmps86
  go_wp2_with (first | ((with_reducible refine gate_callee (f := 64) rfl ?_); refine goesL_ (some 5) rfl rfl Try.func64 (by kernel_rfl) rfl #[.int .i64 a0, .int .i64 0, .int .i64 562949953421311] rfl ar_ ?_; (with_reducible refine (spec_l1In.calls a0 0 562949953421311 false _ A2.out).mono ?_); rintro e w' ⟨rfl, ⟨nd, rfl⟩⟩; refine ⟨_, rfl, ?_⟩))
  go_ret
  exact ⟨re_, hb_ HB⟩

end Go.Proofs.Ytebeafcdabkkfaa.PFnRecords
