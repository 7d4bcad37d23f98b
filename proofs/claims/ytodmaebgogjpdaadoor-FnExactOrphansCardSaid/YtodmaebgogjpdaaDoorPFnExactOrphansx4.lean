-- Laid by a program of this session, a copy of the kit's printer with additions (wip/patch_print.py): myhead. Lean checks it.
import Derived.Test.YtodmaebgogjpdaaDoorPFnExactOrphansx0
import Derived.Test.YtodmaebgogjpdaaDoorPFnExactOrphansx2
import Derived.Test.YtodmaebgogjpdaaDoorPFnExactOrphansx3
namespace Go.Proofs.YtodmaebgogjpdaaDoor.PFnExactOrphans
open Go.RowKit Go.Proofs.YtodmaebgogjpdaaDoorW.PrintWords Go.Proofs.YtodmaebgogjpdaaDoorW.PrintLast Go.Proofs.YtodmaebgogjpdaaDoorW.PrintMore
attribute [local go_sem] max2_int min2_int max_two min_two max_three min_three max_four min_four   -- for this text's walks alone
set_option linter.unusedVariables false
set_option linter.unusedSimpArgs false

/-! ### spec_IdOf: function 20 -/
mutual
def spec_IdOf.l0 : Nat → ByteArray → Int → Option (Int × Bool)
 | 0, _, _ => none
 | k + 1, x0, x4 => if x4 ≤ 4 then (if (x0.size : Int) > x4 then (if 0 ≤ x4 then (if x4 ≤ (x0.size : Int) then ((spec_ReadDec.f k (x0.extract (x4 : Int).toNat x0.size)).bind fun bt133 => (if bt133.2 = true then (if bt133.1 ≥ 1 then ((spec_SegName.f k bt133.1).bind fun t135 => (if t135.toList = x0.toList then (spec_IdOf.j1 k x0 x4 bt133.1 true) else ((spec_HintName.f k bt133.1).bind fun t136 => (spec_IdOf.j1 k x0 x4 bt133.1 (t136.toList == x0.toList))))) else (spec_IdOf.j1 k x0 x4 bt133.1 false)) else (spec_IdOf.j1 k x0 x4 bt133.1 false))) else (none)) else (none)) else (spec_IdOf.l0 k x0 (wrap64 (x4 + 1)))) else (some (0, false))
def spec_IdOf.j1 : Nat → ByteArray → Int → Int → Bool → Option (Int × Bool)
 | 0, _, _, _, _ => none
 | k + 1, x0, x4, x5, x38 => if x38 = true then (some (x5, true)) else (spec_IdOf.l0 k x0 (wrap64 (x4 + 1)))
end
def spec_IdOf.f (k : Nat) (a0 : ByteArray) : Option (Int × Bool) := spec_IdOf.l0 k a0 3
theorem spec_IdOf.mono_l : ∀ k, (∀ y0 y1, LeO (spec_IdOf.l0 k y0 y1) (spec_IdOf.l0 (k + 1) y0 y1)) ∧ (∀ y0 y1 y2 y3, LeO (spec_IdOf.j1 k y0 y1 y2 y3) (spec_IdOf.j1 (k + 1) y0 y1 y2 y3))
 | 0 => ⟨fun _ _ r h => by simp [spec_IdOf.l0] at h, fun _ _ _ _ r h => by simp [spec_IdOf.j1] at h⟩
 | k + 1 => by
  obtain ⟨ih0, ih1⟩ := spec_IdOf.mono_l k
  refine ⟨?_, ?_⟩
  ·intro y0 y1
   unfold spec_IdOf.l0
   repeat' first
   | (with_reducible exact ih0 _ _)
   | (with_reducible exact ih1 _ _ _ _)
   | (with_reducible exact spec_HintName.mono _ _)
   | (with_reducible exact spec_ReadDec.mono _ _)
   | (with_reducible exact spec_SegName.mono _ _)
   | (with_reducible exact LeO.refl _)
   | (with_reducible exact LeO.none _)
   | (with_reducible refine LeO.ite ?_ ?_)
   | (with_reducible refine LeO.bind ?_ (fun _ => ?_))
   | exact ih0 _ _
   | exact ih1 _ _ _ _
   | exact spec_HintName.mono _ _
   | exact spec_ReadDec.mono _ _
   | exact spec_SegName.mono _ _
   | exact LeO.none _
   | refine LeO.ite ?_ ?_
   | refine LeO.bind ?_ (fun _ => ?_)
  ·intro y0 y1 y2 y3
   unfold spec_IdOf.j1
   repeat' first
   | (with_reducible exact ih0 _ _)
   | (with_reducible exact ih1 _ _ _ _)
   | (with_reducible exact spec_HintName.mono _ _)
   | (with_reducible exact spec_ReadDec.mono _ _)
   | (with_reducible exact spec_SegName.mono _ _)
   | (with_reducible exact LeO.refl _)
   | (with_reducible exact LeO.none _)
   | (with_reducible refine LeO.ite ?_ ?_)
   | (with_reducible refine LeO.bind ?_ (fun _ => ?_))
   | exact ih0 _ _
   | exact ih1 _ _ _ _
   | exact spec_HintName.mono _ _
   | exact spec_ReadDec.mono _ _
   | exact spec_SegName.mono _ _
   | exact LeO.none _
   | refine LeO.ite ?_ ?_
   | refine LeO.bind ?_ (fun _ => ?_)
theorem spec_IdOf.mono : ∀ a0 k, LeO (spec_IdOf.f k a0) (spec_IdOf.f (k + 1) a0) := by
 intro a0 k
 obtain ⟨ih0, ih1⟩ := spec_IdOf.mono_l k
 unfold spec_IdOf.f
 repeat' first
   | (with_reducible exact ih0 _ _)
   | (with_reducible exact ih1 _ _ _ _)
   | (with_reducible exact spec_HintName.mono _ _)
   | (with_reducible exact spec_ReadDec.mono _ _)
   | (with_reducible exact spec_SegName.mono _ _)
   | (with_reducible exact LeO.refl _)
   | (with_reducible exact LeO.none _)
   | (with_reducible refine LeO.ite ?_ ?_)
   | (with_reducible refine LeO.bind ?_ (fun _ => ?_))
   | exact ih0 _ _
   | exact ih1 _ _ _ _
   | exact spec_HintName.mono _ _
   | exact spec_ReadDec.mono _ _
   | exact spec_SegName.mono _ _
   | exact LeO.none _
   | refine LeO.ite ?_ ?_
   | refine LeO.bind ?_ (fun _ => ?_)
set_option maxHeartbeats 8000000 in
set_option maxRecDepth 100000 in
theorem spec_IdOf.calls (k : Nat) (a0 : ByteArray) (r1 : Int) (r2 : Bool) (w : World) (h : spec_IdOf.f k a0 = some (r1, r2)) :
  Calls Tryd.prog 20 #[.string a0] w fun e w' => e = .returned (.tuple #[.int .i64 r1, .bool r2]) ∧ Below w.heap.size w w' := by
 have HB := Aside0.mk (Below.refl w.heap.size w)
 have H : (spec_IdOf.l0 k a0 3) = some (r1, r2) := h
 clear h
 have H' := Aside0.mk H
 clear H
 go_enter Tryd.func20, Tryd.ntmps20
 go_wp2
 go_loopg [4] k (fun kq v4 w' => ∃ (x4_1 : Int), v4 = .int .i64 x4_1 ∧ Aside0 (spec_IdOf.l0 kq a0 x4_1 = some (r1, r2)) ∧ Aside0 (kq ≤ k) ∧ Aside0 (Below w.heap.size w w'))
 case atStart => exact ⟨(3), rs_, H', ⟨Nat.le_refl _⟩, ⟨hb_ HB⟩⟩
 case round =>
  clear H'
  obtain ⟨x4_1, rfl, HA, HK1, HB⟩ := hrel
  cases gk with
  | zero => exact absurd HA.out (by simp [spec_IdOf.l0])
  | succ k1 =>
   have H := HA.out
   clear HA
   simp only [spec_IdOf.l0] at H
   by_cases c2 : x4_1 ≤ 4
   ·rw [if_pos c2] at H
    have c2b0 : decide (x4_1 ≤ 4) = true := decide_eq_true c2
    clear c2
    by_cases c3 : (a0.size : Int) > x4_1
    ·rw [if_pos c3] at H
     have c3b0 : decide (x4_1 < (a0.size : Int)) = true := decide_eq_true c3
     clear c3
     by_cases c4 : 0 ≤ x4_1
     ·rw [if_pos c4] at H
      have c4b0 := eq_true c4
      have c4b1 : decide (0 ≤ x4_1) = true := decide_eq_true c4
      clear c4
      by_cases c5 : x4_1 ≤ (a0.size : Int)
      ·rw [if_pos c5] at H
       have c5b0 := eq_true c5
       have c5b1 : decide (x4_1 ≤ (a0.size : Int)) = true := decide_eq_true c5
       clear c5
       replace H := Option.bind_eq_some_iff.mp H
       obtain ⟨⟨t133, t134⟩, A60, H⟩ := H
       replace H : (if t134 = true then (if t133 ≥ 1 then ((spec_SegName.f k1 t133).bind fun t135 => (if t135.toList = a0.toList then (spec_IdOf.j1 k1 a0 x4_1 t133 true) else ((spec_HintName.f k1 t133).bind fun t136 => (spec_IdOf.j1 k1 a0 x4_1 t133 (t136.toList == a0.toList))))) else (spec_IdOf.j1 k1 a0 x4_1 t133 false)) else (spec_IdOf.j1 k1 a0 x4_1 t133 false)) = some (r1, r2) := H
       have A6 := Aside0.mk A60
       clear A60
       have HC7 := Aside0.mk H
       clear H
       go_upto_region 6 with (first | ((with_reducible refine gate_callee (f := 35) rfl ?_); refine goesL_ (some 19) rfl rfl Tryd.func35 (by kernel_rfl) rfl #[.string (a0.extract (x4_1 : Int).toNat a0.size)] rfl ar_ ?_; (with_reducible refine (spec_ReadDec.calls k1 (a0.extract (x4_1 : Int).toNat a0.size) t133 t134 _ A6.out).mono ?_); rintro e w8 ⟨rfl, hb⟩; refine ⟨_, rfl, ?_⟩; have n0_ := Aside0.mk (below_step (hb_ HB) hb); clear HB; have HB := n0_; clear n0_; (try clear hb); (try clear hb2); (try clear hk); (try clear hi)))
       (try simp only [Act.put, la_, lz_, ls_])
       go_cut [38] (fun v38 wc => ∃ (kq : Nat) (x38_6 : Bool), v38 = .bool x38_6 ∧ Aside0 (spec_IdOf.j1 kq a0 x4_1 t133 x38_6 = some (r1, r2)) ∧ Aside0 (kq ≤ k1) ∧ Aside0 (Below w.heap.size w wc))
       case first =>
        have H := HC7.out
        clear HC7
        by_cases c9 : t134 = true
        ·subst c9
         have H1 : (if t133 ≥ 1 then ((spec_SegName.f k1 t133).bind fun t135 => (if t135.toList = a0.toList then (spec_IdOf.j1 k1 a0 x4_1 t133 true) else ((spec_HintName.f k1 t133).bind fun t136 => (spec_IdOf.j1 k1 a0 x4_1 t133 (t136.toList == a0.toList))))) else (spec_IdOf.j1 k1 a0 x4_1 t133 false)) = some (r1, r2) := by rw [if_pos rfl] at H; exact H
         clear H
         have H := H1
         clear H1
         by_cases c10 : t133 ≥ 1
         ·rw [if_pos c10] at H
          have c10b0 : decide (1 ≤ t133) = true := decide_eq_true c10
          clear c10
          (first | rw [c10b0] | (simp only [i64_w, i32_w]; rw [c10b0]) | skip)
          replace H := Option.bind_eq_some_iff.mp H
          obtain ⟨t135, A110, H⟩ := H
          replace H : (if t135.toList = a0.toList then (spec_IdOf.j1 k1 a0 x4_1 t133 true) else ((spec_HintName.f k1 t133).bind fun t136 => (spec_IdOf.j1 k1 a0 x4_1 t133 (t136.toList == a0.toList)))) = some (r1, r2) := H
          have A11 := Aside0.mk A110
          clear A110
          by_cases c12 : t135.toList = a0.toList
          ·rw [if_pos c12] at H
           have c12b0 : (t135.toList == a0.toList) = true := beq_iff_eq.mpr c12
           have c12b1 : (t135.toList != a0.toList) = false := bne_eq_false_iff_eq.mpr c12
           clear c12
           have H' := Aside0.mk H
           clear H
           go_wp2_with (first | (go_at_call 36; (with_reducible refine (spec_SegName.calls k1 t133 t135 _ A11.out).mono ?_); rintro e w13 ⟨rfl, hb⟩; have n0_ := Aside0.mk (below_step (hb_ HB) hb); clear HB; have HB := n0_; clear n0_; (try clear hb); (try clear hb2); (try clear hk); (try clear hi)))
           go_meet
           case rel => exact ⟨_, (true), rs_, H', ⟨by have := HK1.out; first | exact Nat.le_refl _ | exact Nat.le_of_succ_le this | omega⟩, ⟨hb_ HB⟩⟩
          ·rw [if_neg c12] at H
           have c12b0 : (t135.toList == a0.toList) = false := beq_eq_false_iff_ne.mpr c12
           have c12b1 : (t135.toList != a0.toList) = true := bne_iff_ne.mpr c12
           replace H := Option.bind_eq_some_iff.mp H
           obtain ⟨t136, A140, H⟩ := H
           replace H : (spec_IdOf.j1 k1 a0 x4_1 t133 (t136.toList == a0.toList)) = some (r1, r2) := H
           have A14 := Aside0.mk A140
           clear A140
           have H' := Aside0.mk H
           clear H
           go_wp2_with (first | (go_at_call 36; (with_reducible refine (spec_SegName.calls k1 t133 t135 _ A11.out).mono ?_); rintro e w15 ⟨rfl, hb⟩; have n0_ := Aside0.mk (below_step (hb_ HB) hb); clear HB; have HB := n0_; clear n0_; (try clear hb); (try clear hb2); (try clear hk); (try clear hi)) | (go_at_call 37; (with_reducible refine (spec_HintName.calls k1 t133 t136 _ A14.out).mono ?_); rintro e w16 ⟨rfl, hb⟩; have n0_ := Aside0.mk (below_step (hb_ HB) hb); clear HB; have HB := n0_; clear n0_; (try clear hb); (try clear hb2); (try clear hk); (try clear hi)))
           go_meet
           case rel => exact ⟨_, ((t136.toList == a0.toList)), rs_, H', ⟨by have := HK1.out; first | exact Nat.le_refl _ | exact Nat.le_of_succ_le this | omega⟩, ⟨hb_ HB⟩⟩
         ·rw [if_neg c10] at H
          have c10b0 : decide (1 ≤ t133) = false := decide_eq_false c10
          clear c10
          (first | rw [c10b0] | (simp only [i64_w, i32_w]; rw [c10b0]) | skip)
          have H' := Aside0.mk H
          clear H
          go_wp2
          go_meet
          case rel => exact ⟨_, (false), rs_, H', ⟨by have := HK1.out; first | exact Nat.le_refl _ | exact Nat.le_of_succ_le this | omega⟩, ⟨hb_ HB⟩⟩
        ·replace c9 := Bool.eq_false_iff.mpr c9
         subst c9
         have H1 : (spec_IdOf.j1 k1 a0 x4_1 t133 false) = some (r1, r2) := by rw [if_neg (show ¬ (false = true) by decide)] at H; exact H
         clear H
         have H := H1
         clear H1
         have H' := Aside0.mk H
         clear H
         go_wp2
         go_meet
         case rel => exact ⟨_, (false), rs_, H', ⟨by have := HK1.out; first | exact Nat.le_refl _ | exact Nat.le_of_succ_le this | omega⟩, ⟨hb_ HB⟩⟩
       case rest =>
        clear HC7
        try clear c1
        try clear c2
        try clear c2b0
        try clear p2
        try clear c3
        try clear c3b0
        try clear c4
        try clear c4b0
        try clear c4b1
        try clear c5
        try clear c5b0
        try clear c5b1
        try clear c9
        try clear c10
        try clear c10b0
        try clear c12
        try clear c12b0
        try clear c12b1
        obtain ⟨kq, x38_6, rfl, HA, HJ6, HB⟩ := hcut
        cases kq with
        | zero => exact absurd HA.out (by simp [spec_IdOf.j1])
        | succ kj6 =>
         have H := HA.out
         clear HA
         simp only [spec_IdOf.j1] at H
         by_cases c17 : x38_6 = true
         ·subst c17
          have H1 : (some (t133, true)) = some (r1, r2) := by rw [if_pos rfl] at H; exact H
          clear H
          have H := H1
          clear H1
          simp only [Option.some.injEq, Prod.mk.injEq] at H
          obtain ⟨rfl, rfl⟩ := H
          go_wp2
          go_ret2
          exact ⟨re_, hb_ HB⟩
         ·replace c17 := Bool.eq_false_iff.mpr c17
          subst c17
          have H1 : (spec_IdOf.l0 kj6 a0 (wrap64 (x4_1 + 1))) = some (r1, r2) := by rw [if_neg (show ¬ (false = true) by decide)] at H; exact H
          clear H
          have H := H1
          clear H1
          have H' := Aside0.mk H
          clear H
          go_wp2
          go_roundg kj6
          case measure => have := HK1.out; have := HJ6.out; omega
          case rel => exact ⟨(wrap64 (x4_1 + 1)), rs_, H', ⟨by have := HK1.out; have := HJ6.out; omega⟩, ⟨hb_ HB⟩⟩
      ·rw [if_neg c5] at H
       exact absurd H (by simp)
     ·rw [if_neg c4] at H
      exact absurd H (by simp)
    ·rw [if_neg c3] at H
     have c3b0 : decide (x4_1 < (a0.size : Int)) = false := decide_eq_false c3
     clear c3
     have H' := Aside0.mk H
     clear H
     go_wp2
     go_roundg k1
     case measure => have := HK1.out; first | exact this | exact Nat.le_of_succ_le this | exact Nat.le_refl _ | omega
     case rel => exact ⟨(wrap64 (x4_1 + 1)), rs_, H', ⟨by have := HK1.out; first | exact this | exact Nat.le_of_succ_le this | exact Nat.le_refl _ | omega⟩, ⟨hb_ HB⟩⟩
   ·rw [if_neg c2] at H
    have c2b0 : decide (x4_1 ≤ 4) = false := decide_eq_false c2
    clear c2
    simp only [Option.some.injEq, Prod.mk.injEq] at H
    obtain ⟨rfl, rfl⟩ := H
    go_wp2
    go_ret2
    exact ⟨re_, hb_ HB⟩

/-! ### spec_Orphans: function 6 -/
mutual
def spec_Orphans.l0 : Nat → List ByteArray → Int → List (S51) → Int → Int → Bool → Int → List Int → Option (List ByteArray)
 | 0, _, _, _, _, _, _, _, _ => none
 | k + 1, x5, x6, x138000, x138001, x138002, x138003, x139000, x139001 => if x6 < (x138000.length : Int) then (if 0 ≤ x6 then ((spec_IdOf.f k ((rd_T51 x138000 x6).f0)).bind fun bt144 => (spec_Orphans.l1 k x5 x6 bt144.1 bt144.2 false 0 x138000 x138001 x138002 x138003 x139000 x139001)) else (none)) else (some x5)
def spec_Orphans.l1 : Nat → List ByteArray → Int → Int → Bool → Bool → Int → List (S51) → Int → Int → Bool → Int → List Int → Option (List ByteArray)
 | 0, _, _, _, _, _, _, _, _, _, _, _, _ => none
 | k + 1, x5, x6, x7, x8, x9, x10, x138000, x138001, x138002, x138003, x139000, x139001 => if x10 < (x139001.length : Int) then (if x9 = true then (spec_Orphans.l1 k x5 x6 x7 x8 true (wrap64 (x10 + 1)) x138000 x138001 x138002 x138003 x139000 x139001) else (if 0 ≤ x10 then (spec_Orphans.l1 k x5 x6 x7 x8 ((rd x139001 x10) == x7) (wrap64 (x10 + 1)) x138000 x138001 x138002 x138003 x139000 x139001) else (none))) else (if x8 = true then (if x9 = true then (if 0 ≤ x6 then (if x6 < (x138000.length : Int) then (spec_Orphans.j2 k x5 x6 (((rd_T51 x138000 x6).f0).toList == ([116, 101, 109, 112] : List UInt8)) x138000 x138001 x138002 x138003 x139000 x139001) else (none)) else (none)) else (spec_Orphans.j2 k x5 x6 true x138000 x138001 x138002 x138003 x139000 x139001)) else (if 0 ≤ x6 then (if x6 < (x138000.length : Int) then (spec_Orphans.j2 k x5 x6 (((rd_T51 x138000 x6).f0).toList == ([116, 101, 109, 112] : List UInt8)) x138000 x138001 x138002 x138003 x139000 x139001) else (none)) else (none)))
def spec_Orphans.j2 : Nat → List ByteArray → Int → Bool → List (S51) → Int → Int → Bool → Int → List Int → Option (List ByteArray)
 | 0, _, _, _, _, _, _, _, _, _ => none
 | k + 1, x5, x6, x63, x138000, x138001, x138002, x138003, x139000, x139001 => if x63 = true then (if 0 ≤ x6 then (if x6 < (x138000.length : Int) then (if x5.length < 8796093022208 then (spec_Orphans.l0 k (x5 ++ [(rd_T51 x138000 x6).f0]) (wrap64 (x6 + 1)) x138000 x138001 x138002 x138003 x139000 x139001) else (none)) else (none)) else (none)) else (spec_Orphans.l0 k x5 (wrap64 (x6 + 1)) x138000 x138001 x138002 x138003 x139000 x139001)
end
def spec_Orphans.f (k : Nat) (l0_0 : List (S51)) (a0_1 : Int) (a0_2 : Int) (a0_3 : Bool) (a1_0 : Int) (l1_1 : List Int) : Option (List ByteArray) := (some (([] : List ByteArray) : List ByteArray)).bind fun y139 => ((spec_DiskOk.f k l0_0 a0_1 a0_2 a0_3).bind fun t142 => (if t142 = true then (spec_Orphans.l0 k y139 0 l0_0 a0_1 a0_2 a0_3 a1_0 l1_1) else (some y139)))
theorem spec_Orphans.mono_l : ∀ k, (∀ y0 y1 y2 y3 y4 y5 y6 y7, LeO (spec_Orphans.l0 k y0 y1 y2 y3 y4 y5 y6 y7) (spec_Orphans.l0 (k + 1) y0 y1 y2 y3 y4 y5 y6 y7)) ∧ (∀ y0 y1 y2 y3 y4 y5 y6 y7 y8 y9 y10 y11, LeO (spec_Orphans.l1 k y0 y1 y2 y3 y4 y5 y6 y7 y8 y9 y10 y11) (spec_Orphans.l1 (k + 1) y0 y1 y2 y3 y4 y5 y6 y7 y8 y9 y10 y11)) ∧ (∀ y0 y1 y2 y3 y4 y5 y6 y7 y8, LeO (spec_Orphans.j2 k y0 y1 y2 y3 y4 y5 y6 y7 y8) (spec_Orphans.j2 (k + 1) y0 y1 y2 y3 y4 y5 y6 y7 y8))
 | 0 => ⟨fun _ _ _ _ _ _ _ _ r h => by simp [spec_Orphans.l0] at h, fun _ _ _ _ _ _ _ _ _ _ _ _ r h => by simp [spec_Orphans.l1] at h, fun _ _ _ _ _ _ _ _ _ r h => by simp [spec_Orphans.j2] at h⟩
 | k + 1 => by
  obtain ⟨ih0, ih1, ih2⟩ := spec_Orphans.mono_l k
  refine ⟨?_, ?_, ?_⟩
  ·intro y0 y1 y2 y3 y4 y5 y6 y7
   unfold spec_Orphans.l0
   repeat' first
   | (with_reducible exact ih0 _ _ _ _ _ _ _ _)
   | (with_reducible exact ih1 _ _ _ _ _ _ _ _ _ _ _ _)
   | (with_reducible exact ih2 _ _ _ _ _ _ _ _ _)
   | (with_reducible exact spec_DiskOk.mono _ _ _ _ _)
   | (with_reducible exact spec_IdOf.mono _ _)
   | (with_reducible exact LeO.refl _)
   | (with_reducible exact LeO.none _)
   | (with_reducible refine LeO.ite ?_ ?_)
   | (with_reducible refine LeO.bind ?_ (fun _ => ?_))
   | exact ih0 _ _ _ _ _ _ _ _
   | exact ih1 _ _ _ _ _ _ _ _ _ _ _ _
   | exact ih2 _ _ _ _ _ _ _ _ _
   | exact spec_DiskOk.mono _ _ _ _ _
   | exact spec_IdOf.mono _ _
   | exact LeO.none _
   | refine LeO.ite ?_ ?_
   | refine LeO.bind ?_ (fun _ => ?_)
  ·intro y0 y1 y2 y3 y4 y5 y6 y7 y8 y9 y10 y11
   unfold spec_Orphans.l1
   repeat' first
   | (with_reducible exact ih0 _ _ _ _ _ _ _ _)
   | (with_reducible exact ih1 _ _ _ _ _ _ _ _ _ _ _ _)
   | (with_reducible exact ih2 _ _ _ _ _ _ _ _ _)
   | (with_reducible exact spec_DiskOk.mono _ _ _ _ _)
   | (with_reducible exact spec_IdOf.mono _ _)
   | (with_reducible exact LeO.refl _)
   | (with_reducible exact LeO.none _)
   | (with_reducible refine LeO.ite ?_ ?_)
   | (with_reducible refine LeO.bind ?_ (fun _ => ?_))
   | exact ih0 _ _ _ _ _ _ _ _
   | exact ih1 _ _ _ _ _ _ _ _ _ _ _ _
   | exact ih2 _ _ _ _ _ _ _ _ _
   | exact spec_DiskOk.mono _ _ _ _ _
   | exact spec_IdOf.mono _ _
   | exact LeO.none _
   | refine LeO.ite ?_ ?_
   | refine LeO.bind ?_ (fun _ => ?_)
  ·intro y0 y1 y2 y3 y4 y5 y6 y7 y8
   unfold spec_Orphans.j2
   repeat' first
   | (with_reducible exact ih0 _ _ _ _ _ _ _ _)
   | (with_reducible exact ih1 _ _ _ _ _ _ _ _ _ _ _ _)
   | (with_reducible exact ih2 _ _ _ _ _ _ _ _ _)
   | (with_reducible exact spec_DiskOk.mono _ _ _ _ _)
   | (with_reducible exact spec_IdOf.mono _ _)
   | (with_reducible exact LeO.refl _)
   | (with_reducible exact LeO.none _)
   | (with_reducible refine LeO.ite ?_ ?_)
   | (with_reducible refine LeO.bind ?_ (fun _ => ?_))
   | exact ih0 _ _ _ _ _ _ _ _
   | exact ih1 _ _ _ _ _ _ _ _ _ _ _ _
   | exact ih2 _ _ _ _ _ _ _ _ _
   | exact spec_DiskOk.mono _ _ _ _ _
   | exact spec_IdOf.mono _ _
   | exact LeO.none _
   | refine LeO.ite ?_ ?_
   | refine LeO.bind ?_ (fun _ => ?_)
theorem spec_Orphans.mono : ∀ a0 a1 a2 a3 a4 a5 k, LeO (spec_Orphans.f k a0 a1 a2 a3 a4 a5) (spec_Orphans.f (k + 1) a0 a1 a2 a3 a4 a5) := by
 intro a0 a1 a2 a3 a4 a5 k
 obtain ⟨ih0, ih1, ih2⟩ := spec_Orphans.mono_l k
 unfold spec_Orphans.f
 repeat' first
   | (with_reducible exact ih0 _ _ _ _ _ _ _ _)
   | (with_reducible exact ih1 _ _ _ _ _ _ _ _ _ _ _ _)
   | (with_reducible exact ih2 _ _ _ _ _ _ _ _ _)
   | (with_reducible exact spec_DiskOk.mono _ _ _ _ _)
   | (with_reducible exact spec_IdOf.mono _ _)
   | (with_reducible exact LeO.refl _)
   | (with_reducible exact LeO.none _)
   | (with_reducible refine LeO.ite ?_ ?_)
   | (with_reducible refine LeO.bind ?_ (fun _ => ?_))
   | exact ih0 _ _ _ _ _ _ _ _
   | exact ih1 _ _ _ _ _ _ _ _ _ _ _ _
   | exact ih2 _ _ _ _ _ _ _ _ _
   | exact spec_DiskOk.mono _ _ _ _ _
   | exact spec_IdOf.mono _ _
   | exact LeO.none _
   | refine LeO.ite ?_ ?_
   | refine LeO.bind ?_ (fun _ => ?_)
set_option maxHeartbeats 8000000 in
set_option maxRecDepth 100000 in
theorem spec_Orphans.calls (k : Nat) (A0_0 : Option Addr) (c0_0 : Nat) (l0_0 : List (S51)) (a0_1 : Int) (a0_2 : Int) (a0_3 : Bool) (a1_0 : Int) (A1_1 : Option Addr) (c1_1 : Nat) (l1_1 : List Int) (r : List ByteArray) (w : World) (hr0_0 : Kd.C k51 w A0_0 l0_0.length l0_0) (hc0_0 : l0_0.length ≤ c0_0) (hr1_1 : Kd.C (Kd.int .i64) w A1_1 l1_1.length l1_1) (hc1_1 : l1_1.length ≤ c1_1) (h : spec_Orphans.f k l0_0 a0_1 a0_2 a0_3 a1_0 l1_1 = some r) :
  Calls Tryd.prog 6 #[.agg #[.slice A0_0 l0_0.length c0_0, .int .i64 a0_1, .int .i64 a0_2, .bool a0_3], .agg #[.int .i64 a1_0, .slice A1_1 l1_1.length c1_1]] w fun e w' => ∃ v0_ : Value, e = .returned (v0_) ∧ Kd.R Kd.string 9 w' w.heap.size (fun _ => True) v0_ r ∧ Below w.heap.size w w' := by
 have hu34 := Tryd.underlying34
 have hu36 := Tryd.underlying36
 have HR0_0 := Aside0.mk hr0_0
 have HC0_0 := Aside0.mk hc0_0
 clear hr0_0 hc0_0
 have HR1_1 := Aside0.mk hr1_1
 have HC1_1 := Aside0.mk hc1_1
 clear hr1_1 hc1_1
 have HB := Aside0.mk (Below.refl w.heap.size w)
 have H : ((some (([] : List ByteArray) : List ByteArray)).bind fun y139 => ((spec_DiskOk.f k l0_0 a0_1 a0_2 a0_3).bind fun t142 => (if t142 = true then (spec_Orphans.l0 k y139 0 l0_0 a0_1 a0_2 a0_3 a1_0 l1_1) else (some y139)))) = some r := h
 clear h
 obtain ⟨y139, hy139⟩ : ∃ y_ : List ByteArray, y_ = (([] : List ByteArray)) := ⟨_, rfl⟩
 replace H : ((spec_DiskOk.f k l0_0 a0_1 a0_2 a0_3).bind fun t142 => (if t142 = true then (spec_Orphans.l0 k y139 0 l0_0 a0_1 a0_2 a0_3 a1_0 l1_1) else (some y139))) = some r := by first | (rw [hy139]; with_reducible exact H) | (have H2_ := (Option.bind_some _ _).symm.trans H; rw [hy139]; with_reducible exact H2_) | (have H2_ := (Option.bind_some _ _).symm.trans H; with_reducible exact H2_) | with_reducible exact H | (rw [hy139]; exact H) | exact H
 have Ny139 := Aside0.mk hy139
 clear hy139
 replace H := Option.bind_eq_some_iff.mp H
 obtain ⟨t142, A30, H⟩ := H
 replace H : (if t142 = true then (spec_Orphans.l0 k y139 0 l0_0 a0_1 a0_2 a0_3 a1_0 l1_1) else (some y139)) = some r := H
 have A3 := Aside0.mk A30
 clear A30
 by_cases c4 : t142 = true
 ·subst c4
  have H1 : (spec_Orphans.l0 k y139 0 l0_0 a0_1 a0_2 a0_3 a1_0 l1_1) = some r := by rw [if_pos rfl] at H; exact H
  clear H
  have H := H1
  clear H1
  have H' := Aside0.mk H
  clear H
  go_enter Tryd.func6, Tryd.ntmps6
  go_wp2_with (first | ((with_reducible refine gate_dst (N := 2) rfl ?_); refine box_event ?hg (N := 2) ?hd (cs := #[.slice A0_0 l0_0.length c0_0, .int .i64 a0_1, .int .i64 a0_2, .bool a0_3]) (t := 34) ?hr ?_; (case hd => rfl); (case hg => rfl); (case hr => first | (go_simp; done) | (go_simp; rfl)); intro gb137 hg w5 hbox hb; have n0_ := Aside0.mk (below_step (hb_ HB) hb); have n1_ := Aside0.mk (hbox); have n2_ := Aside0.mk ((by rw [hg]; exact (below_size (hb_ HB)) : w.heap.size ≤ gb137)); have n3_ := Aside0.mk ((by rw [hg]; exact (below_size (hb_ HB)) : w.heap.size ≤ gb137)); clear HB; have HB := n0_; have BK137 := n1_; have GW137 := n2_; have GE137 := n3_; clear n0_ n1_ n2_ n3_; clear hb hbox hg) | ((with_reducible refine gate_dst (N := 3) rfl ?_); refine box_event ?hg (N := 3) ?hd (cs := #[.int .i64 a1_0, .slice A1_1 l1_1.length c1_1]) (t := 36) ?hr ?_; (case hd => rfl); (case hg => rfl); (case hr => first | (go_simp; done) | (go_simp; rfl)); intro gb138 hg w6 hbox hb; have n0_ := Aside0.mk (blk_below (g := gb137) (o := .cells #[.slice A0_0 l0_0.length c0_0, .int .i64 a0_1, .int .i64 a0_2, .bool a0_3] 34 (0, 0)) (bk_ BK137) hb); have n1_ := Aside0.mk (below_step (hs_ HB GE137) hb); have n2_ := Aside0.mk (hbox); have n3_ := Aside0.mk ((by rw [hg]; exact (below_size (hs_ HB GE137)) : w.heap.size ≤ gb138)); have n4_ := Aside0.mk ((by rw [hg]; exact (below_size (hs_ HB GE137)) : w.heap.size ≤ gb138)); have n5_ := Aside0.mk ((by rw [hg]; exact Nat.ne_of_lt (blk_lt (g := gb137) (o := .cells #[.slice A0_0 l0_0.length c0_0, .int .i64 a0_1, .int .i64 a0_2, .bool a0_3] 34 (0, 0)) (bk_ BK137)) : gb137 ≠ gb138)); have n6_ := Aside0.mk ((by rw [hg]; exact Nat.ne_of_gt (blk_lt (g := gb137) (o := .cells #[.slice A0_0 l0_0.length c0_0, .int .i64 a0_1, .int .i64 a0_2, .bool a0_3] 34 (0, 0)) (bk_ BK137)) : gb138 ≠ gb137)); clear BK137; clear HB; have BK137 := n0_; have HB := n1_; have BK138 := n2_; have GW138 := n3_; have GE138 := n4_; have NB137_138 := n5_; have NB138_137 := n6_; clear n0_ n1_ n2_ n3_ n4_ n5_ n6_; clear hb hbox hg) | ((with_reducible refine gate_dst (N := 11) rfl ?_); refine Kd.R_lit Kd.string _ 9 ?hg (N := 11) ?hd (xs := ([] : List ByteArray)) (inner := []) (ok := fun _ => True) (okp := fun _ => True) ?hr ?hp (fun _ hk => hk) trivial (Below.refl _ _) (Nat.le_refl _) (by simp) ?_; (case hd => rfl); (case hg => rfl); (case hr => first | (go_simp; done) | (go_simp; rfl)); (case hp => exact (Reps.none _ _)); intro v140 w7 ho8 hb hg_ hnew_; clear hg_ hnew_; (first | rw [← Ny139.out] at ho8 | (simp only [Int.reduceToNat] at ho8; rw [← Ny139.out] at ho8)); have n0_ := Aside0.mk (Kd.R_lower ho8 (below_size (by repeat (first | (with_reducible first | exact HB.out | apply below_alloc | apply pw_below_drewN | apply below_drew1 | refine below_set ?_ GE137.out | refine below_set ?_ GE138.out) | exact HB.out)))); have n1_ := Aside0.mk (blk_below (g := gb137) (o := .cells #[.slice A0_0 l0_0.length c0_0, .int .i64 a0_1, .int .i64 a0_2, .bool a0_3] 34 (0, 0)) (bk_ BK137) hb); have n2_ := Aside0.mk (blk_below (g := gb138) (o := .cells #[.int .i64 a1_0, .slice A1_1 l1_1.length c1_1] 36 (0, 0)) (bk_ BK138) hb); have n3_ := Aside0.mk (below_step (by repeat (first | (with_reducible first | exact HB.out | apply below_alloc | apply pw_below_drewN | apply below_drew1 | refine below_set ?_ GE137.out | refine below_set ?_ GE138.out) | exact HB.out)) hb); clear BK137; clear BK138; clear HB; have HO141 := n0_; have BK137 := n1_; have BK138 := n2_; have HB := n3_; clear n0_ n1_ n2_ n3_; clear hb ho8; have hnb9 := NB137_138.out; have hnc9 := NB138_137.out; have hcz10_0 : w7.cell? ⟨gb137, 0, none⟩ = some (.slice A0_0 l0_0.length c0_0) := (blk_cell BK137.out 0).trans rfl; have hcz10_1 : w7.cell? ⟨gb137, 1, none⟩ = some (.int .i64 a0_1) := (blk_cell BK137.out 1).trans rfl; have hcz10_2 : w7.cell? ⟨gb137, 2, none⟩ = some (.int .i64 a0_2) := (blk_cell BK137.out 2).trans rfl; have hcz10_3 : w7.cell? ⟨gb137, 3, none⟩ = some (.bool a0_3) := (blk_cell BK137.out 3).trans rfl; have hfz10_0 := blk_frozen BK137.out 0; have hfz10_1 := blk_frozen BK137.out 1; have hfz10_2 := blk_frozen BK137.out 2; have hfz10_3 := blk_frozen BK137.out 3) | ((with_reducible refine gate_callee (f := 19) rfl ?_); refine goesL_ (some 13) rfl rfl Tryd.func19 (by kernel_rfl) rfl #[.agg #[.slice A0_0 l0_0.length c0_0, .int .i64 a0_1, .int .i64 a0_2, .bool a0_3]] rfl ar_ ?_; (with_reducible refine (spec_DiskOk.calls k _ _ l0_0 a0_1 a0_2 a0_3 true _ ?side1 ?side2 A3.out).mono ?_); (case side1 => repeat (first | exact (Kd.C_below HR0_0.out HB.out) | (with_reducible refine Kd.C_alloc ?_ _) | (with_reducible refine Kd.C_drewN ?_ _) | (with_reducible refine Kd.C_drew ?_))); (case side2 => exact HC0_0.out); rintro e w11 ⟨rfl, hb⟩; refine ⟨_, rfl, ?_⟩; have n0_ := Aside0.mk (Kd.R_below (rr_ HO141) hb); have n1_ := Aside0.mk (blk_below (g := gb137) (o := .cells #[.slice A0_0 l0_0.length c0_0, .int .i64 a0_1, .int .i64 a0_2, .bool a0_3] 34 (0, 0)) (bk_ BK137) hb); have n2_ := Aside0.mk (blk_below (g := gb138) (o := .cells #[.int .i64 a1_0, .slice A1_1 l1_1.length c1_1] 36 (0, 0)) (bk_ BK138) hb); have n3_ := Aside0.mk (below_step (by repeat (first | (with_reducible first | exact HB.out | apply below_alloc | apply pw_below_drewN | apply below_drew1 | refine below_set ?_ GE137.out | refine below_set ?_ GE138.out) | exact HB.out)) hb); clear HO141; clear BK137; clear BK138; clear HB; have HO141 := n0_; have BK137 := n1_; have BK138 := n2_; have HB := n3_; clear n0_ n1_ n2_ n3_; (try clear hb); (try clear hb2); (try clear hk); (try clear hi)))
  go_loopg [5, 6] k (fun kq v5 v6 w' => ∃ (x5_1 : List ByteArray) (x6_1 : Int), v6 = .int .i64 x6_1 ∧ Aside0 (spec_Orphans.l0 kq x5_1 x6_1 l0_0 a0_1 a0_2 a0_3 a1_0 l1_1 = some r) ∧ Aside0 (kq ≤ k) ∧ Aside0 (Kd.R Kd.string 9 w' w.heap.size (fun _ => True) v5 x5_1) ∧ Aside0 (w'.heap[gb137]? = some (.cells #[(.slice A0_0 l0_0.length c0_0), .int .i64 a0_1, .int .i64 a0_2, .bool a0_3] 34 (0, 0))) ∧ Aside0 (w'.heap[gb138]? = some (.cells #[.int .i64 a1_0, (.slice A1_1 l1_1.length c1_1)] 36 (0, 0))) ∧ Aside0 (Below w.heap.size w w'))
  case atStart => exact ⟨(y139), (0), rs_, H', ⟨Nat.le_refl _⟩, ⟨rr_ HO141⟩, ⟨bk_ BK137⟩, ⟨bk_ BK138⟩, ⟨by repeat (first | (with_reducible first | exact HB.out | apply below_alloc | apply pw_below_drewN | apply below_drew1 | refine below_set ?_ GE137.out | refine below_set ?_ GE138.out) | exact HB.out)⟩⟩
  case round =>
   clear H'
   try clear c1
   try clear p2
   try clear c4
   try clear c6
   try clear c9
   try clear hcz10_0
   try clear hcz10_1
   try clear hcz10_2
   try clear hcz10_3
   try clear hfz10_0
   try clear hfz10_1
   try clear hfz10_2
   try clear hfz10_3
   obtain ⟨x5_1, x6_1, rfl, HA, HK1, HO_5, BK137, BK138, HB⟩ := hrel
   cases gk with
   | zero => exact absurd HA.out (by simp [spec_Orphans.l0])
   | succ k1 =>
    have H := HA.out
    clear HA
    simp only [spec_Orphans.l0] at H
    by_cases c12 : x6_1 < (l0_0.length : Int)
    ·rw [if_pos c12] at H
     have c12b0 : decide (x6_1 < (l0_0.length : Int)) = true := decide_eq_true c12
     clear c12
     by_cases c13 : 0 ≤ x6_1
     ·rw [if_pos c13] at H
      have c13b0 : decide (0 ≤ x6_1) = true := decide_eq_true c13
      clear c13
      replace H := Option.bind_eq_some_iff.mp H
      obtain ⟨⟨t144, t145⟩, A140, H⟩ := H
      replace H : (spec_Orphans.l1 k1 x5_1 x6_1 t144 t145 false 0 l0_0 a0_1 a0_2 a0_3 a1_0 l1_1) = some r := H
      have A14 := Aside0.mk A140
      clear A140
      have H' := Aside0.mk H
      clear H
      have hnb15 := NB137_138.out
      have hnc15 := NB138_137.out
      have hcz16_0 : wr.cell? ⟨gb137, 0, none⟩ = some (.slice A0_0 l0_0.length c0_0) := (blk_cell BK137.out 0).trans rfl
      have hcz16_1 : wr.cell? ⟨gb137, 1, none⟩ = some (.int .i64 a0_1) := (blk_cell BK137.out 1).trans rfl
      have hcz16_2 : wr.cell? ⟨gb137, 2, none⟩ = some (.int .i64 a0_2) := (blk_cell BK137.out 2).trans rfl
      have hcz16_3 : wr.cell? ⟨gb137, 3, none⟩ = some (.bool a0_3) := (blk_cell BK137.out 3).trans rfl
      have hfz16_0 := blk_frozen BK137.out 0
      have hfz16_1 := blk_frozen BK137.out 1
      have hfz16_2 := blk_frozen BK137.out 2
      have hfz16_3 := blk_frozen BK137.out 3
      have p143 : 0 ≤ (x6_1 : Int) := of_decide_eq_true as_
      have q143 : x6_1 < (l0_0.length : Int) := of_decide_eq_true as_
      obtain ⟨ad143, e143, hx143_0, hx143_1, hx143_2⟩ := at_T51 HR0_0.out x6_1 p143 q143
      cases e143
      replace hx143_0 := cb_ HB hx143_0
      replace hx143_1 := cb_ HB hx143_1
      replace hx143_2 := cb_ HB hx143_2
      replace p143 := eq_true p143
      replace q143 := eq_true q143
      go_wp2_with (first | ((with_reducible refine gate_callee (f := 20) rfl ?_); refine goesL_ (some 30) rfl rfl Tryd.func20 (by kernel_rfl) rfl #[.string ((rd_T51 l0_0 x6_1).f0)] rfl ar_ ?_; (with_reducible refine (spec_IdOf.calls k1 ((rd_T51 l0_0 x6_1).f0) t144 t145 _ A14.out).mono ?_); rintro e w17 ⟨rfl, hb⟩; refine ⟨_, rfl, ?_⟩; have n0_ := Aside0.mk (Kd.R_below (rr_ HO_5) hb); have n1_ := Aside0.mk (blk_below (g := gb137) (o := .cells #[.slice (some ad143) l0_0.length c0_0, .int .i64 a0_1, .int .i64 a0_2, .bool a0_3] 34 (0, 0)) (bk_ BK137) hb); have n2_ := Aside0.mk (blk_below (g := gb138) (o := .cells #[.int .i64 a1_0, .slice A1_1 l1_1.length c1_1] 36 (0, 0)) (bk_ BK138) hb); have n3_ := Aside0.mk (below_step (by repeat (first | (with_reducible first | exact HB.out | apply below_alloc | apply pw_below_drewN | apply below_drew1 | refine below_set ?_ GE137.out | refine below_set ?_ GE138.out) | exact HB.out)) hb); clear HO_5; clear BK137; clear BK138; clear HB; have HO_5 := n0_; have BK137 := n1_; have BK138 := n2_; have HB := n3_; clear n0_ n1_ n2_ n3_; (try clear hb); (try clear hb2); (try clear hk); (try clear hi)))
      go_loopg [9, 10] k1 (fun kq v9 v10 w' => ∃ (x9_2 : Bool) (x10_2 : Int), v9 = .bool x9_2 ∧ v10 = .int .i64 x10_2 ∧ Aside0 (spec_Orphans.l1 kq x5_1 x6_1 t144 t145 x9_2 x10_2 l0_0 a0_1 a0_2 a0_3 a1_0 l1_1 = some r) ∧ Aside0 (kq ≤ k1) ∧ Aside0 (Kd.R Kd.string 9 w' w.heap.size (fun _ => True) u5 x5_1) ∧ Aside0 (w'.heap[gb137]? = some (.cells #[(.slice (some ad143) l0_0.length c0_0), .int .i64 a0_1, .int .i64 a0_2, .bool a0_3] 34 (0, 0))) ∧ Aside0 (w'.heap[gb138]? = some (.cells #[.int .i64 a1_0, (.slice A1_1 l1_1.length c1_1)] 36 (0, 0))) ∧ Aside0 (Below w.heap.size w w'))
      case atStart => exact ⟨(false), (0), rs_, rs_, H', ⟨Nat.le_refl _⟩, ⟨rr_ HO_5⟩, ⟨bk_ BK137⟩, ⟨bk_ BK138⟩, ⟨by repeat (first | (with_reducible first | exact HB.out | apply below_alloc | apply pw_below_drewN | apply below_drew1 | refine below_set ?_ GE137.out | refine below_set ?_ GE138.out) | exact HB.out)⟩⟩
      case round =>
       clear H'
       try clear c1
       try clear p1
       try clear q1
       try clear hx1
       try clear c2
       try clear p2
       try clear c4
       try clear c6
       try clear c9
       try clear c12
       try clear c12b0
       try clear c13
       try clear c13b0
       try clear p14
       try clear q14
       try clear hx14
       try clear c15
       try clear hcz10_0
       try clear hcz10_1
       try clear hcz10_2
       try clear hcz10_3
       try clear hcz16_0
       try clear hcz16_1
       try clear hcz16_2
       try clear hcz16_3
       try clear hfz10_0
       try clear hfz10_1
       try clear hfz10_2
       try clear hfz10_3
       try clear hfz16_0
       try clear hfz16_1
       try clear hfz16_2
       try clear hfz16_3
       try clear hx143_0
       try clear hx143_1
       try clear hx143_2
       try clear p143
       try clear p2
       try clear q143
       obtain ⟨x9_2, x10_2, rfl, rfl, HA, HK2, HO_5, BK137, BK138, HB⟩ := hrel
       cases gk with
       | zero => exact absurd HA.out (by simp [spec_Orphans.l1])
       | succ k2 =>
        have H := HA.out
        clear HA
        simp only [spec_Orphans.l1] at H
        by_cases c18 : x10_2 < (l1_1.length : Int)
        ·rw [if_pos c18] at H
         have c18b0 : decide (x10_2 < (l1_1.length : Int)) = true := decide_eq_true c18
         clear c18
         by_cases c19 : x9_2 = true
         ·subst c19
          have H1 : (spec_Orphans.l1 k2 x5_1 x6_1 t144 t145 true (wrap64 (x10_2 + 1)) l0_0 a0_1 a0_2 a0_3 a1_0 l1_1) = some r := by rw [if_pos rfl] at H; exact H
          clear H
          have H := H1
          clear H1
          have H' := Aside0.mk H
          clear H
          have hnb20 := NB138_137.out
          have hnc20 := NB137_138.out
          have hcz21_0 : wr.cell? ⟨gb138, 0, none⟩ = some (.int .i64 a1_0) := (blk_cell BK138.out 0).trans rfl
          have hcz21_1 : wr.cell? ⟨gb138, 1, none⟩ = some (.slice A1_1 l1_1.length c1_1) := (blk_cell BK138.out 1).trans rfl
          have hfz21_0 := blk_frozen BK138.out 0
          have hfz21_1 := blk_frozen BK138.out 1
          go_wp2
          go_roundg k2
          case measure => have := HK1.out; have := HK2.out; first | exact this | exact Nat.le_of_succ_le this | exact Nat.le_refl _ | omega
          case rel => exact ⟨(true), (wrap64 (x10_2 + 1)), rs_, rs_, H', ⟨by have := HK1.out; have := HK2.out; first | exact this | exact Nat.le_of_succ_le this | exact Nat.le_refl _ | omega⟩, ⟨rr_ HO_5⟩, ⟨bk_ BK137⟩, ⟨bk_ BK138⟩, ⟨by repeat (first | (with_reducible first | exact HB.out | apply below_alloc | apply pw_below_drewN | apply below_drew1 | refine below_set ?_ GE137.out | refine below_set ?_ GE138.out) | exact HB.out)⟩⟩
         ·replace c19 := Bool.eq_false_iff.mpr c19
          subst c19
          have H1 : (if 0 ≤ x10_2 then (spec_Orphans.l1 k2 x5_1 x6_1 t144 t145 ((rd l1_1 x10_2) == t144) (wrap64 (x10_2 + 1)) l0_0 a0_1 a0_2 a0_3 a1_0 l1_1) else (none)) = some r := by rw [if_neg (show ¬ (false = true) by decide)] at H; exact H
          clear H
          have H := H1
          clear H1
          by_cases c22 : 0 ≤ x10_2
          ·rw [if_pos c22] at H
           have c22b0 : decide (0 ≤ x10_2) = true := decide_eq_true c22
           clear c22
           have H' := Aside0.mk H
           clear H
           have hnb23 := NB138_137.out
           have hnc23 := NB137_138.out
           have hcz24_0 : wr.cell? ⟨gb138, 0, none⟩ = some (.int .i64 a1_0) := (blk_cell BK138.out 0).trans rfl
           have hcz24_1 : wr.cell? ⟨gb138, 1, none⟩ = some (.slice A1_1 l1_1.length c1_1) := (blk_cell BK138.out 1).trans rfl
           have hfz24_0 := blk_frozen BK138.out 0
           have hfz24_1 := blk_frozen BK138.out 1
           have p146 : 0 ≤ (x10_2 : Int) := of_decide_eq_true as_
           have q146 : x10_2 < (l1_1.length : Int) := of_decide_eq_true as_
           obtain ⟨ad146, e146, hx146_0⟩ := Kd.at_int HR1_1.out x10_2 p146 q146
           cases e146
           replace hx146_0 := cb_ HB hx146_0
           replace p146 := eq_true p146
           replace q146 := eq_true q146
           go_wp2
           go_roundg k2
           case measure => have := HK1.out; have := HK2.out; first | exact this | exact Nat.le_of_succ_le this | exact Nat.le_refl _ | omega
           case rel => exact ⟨(((rd l1_1 x10_2) == t144)), (wrap64 (x10_2 + 1)), rs_, rs_, H', ⟨by have := HK1.out; have := HK2.out; first | exact this | exact Nat.le_of_succ_le this | exact Nat.le_refl _ | omega⟩, ⟨rr_ HO_5⟩, ⟨bk_ BK137⟩, ⟨bk_ BK138⟩, ⟨by repeat (first | (with_reducible first | exact HB.out | apply below_alloc | apply pw_below_drewN | apply below_drew1 | refine below_set ?_ GE137.out | refine below_set ?_ GE138.out) | exact HB.out)⟩⟩
          ·rw [if_neg c22] at H
           exact absurd H (by simp)
        ·rw [if_neg c18] at H
         have c18b0 : decide (x10_2 < (l1_1.length : Int)) = false := decide_eq_false c18
         clear c18
         have HC25 := Aside0.mk H
         clear H
         have hnb26 := NB138_137.out
         have hnc26 := NB137_138.out
         have hcz27_0 : wr.cell? ⟨gb138, 0, none⟩ = some (.int .i64 a1_0) := (blk_cell BK138.out 0).trans rfl
         have hcz27_1 : wr.cell? ⟨gb138, 1, none⟩ = some (.slice A1_1 l1_1.length c1_1) := (blk_cell BK138.out 1).trans rfl
         have hfz27_0 := blk_frozen BK138.out 0
         have hfz27_1 := blk_frozen BK138.out 1
         go_upto_region 13 with (fail)
         go_cut [63] (fun v63 wc => ∃ (kq : Nat) (x63_24 : Bool), v63 = .bool x63_24 ∧ Aside0 (spec_Orphans.j2 kq x5_1 x6_1 x63_24 l0_0 a0_1 a0_2 a0_3 a1_0 l1_1 = some r) ∧ Aside0 (kq ≤ k2) ∧ Aside0 (Kd.R Kd.string 9 wc w.heap.size (fun _ => True) u5 x5_1) ∧ Aside0 (wc.heap[gb137]? = some (.cells #[(.slice (some ad143) l0_0.length c0_0), .int .i64 a0_1, .int .i64 a0_2, .bool a0_3] 34 (0, 0))) ∧ Aside0 (wc.heap[gb138]? = some (.cells #[.int .i64 a1_0, (.slice A1_1 l1_1.length c1_1)] 36 (0, 0))) ∧ Aside0 (Below w.heap.size w wc))
         case first =>
          have H := HC25.out
          clear HC25
          by_cases c28 : t145 = true
          ·subst c28
           have H1 : (if x9_2 = true then (if 0 ≤ x6_1 then (if x6_1 < (l0_0.length : Int) then (spec_Orphans.j2 k2 x5_1 x6_1 (((rd_T51 l0_0 x6_1).f0).toList == ([116, 101, 109, 112] : List UInt8)) l0_0 a0_1 a0_2 a0_3 a1_0 l1_1) else (none)) else (none)) else (spec_Orphans.j2 k2 x5_1 x6_1 true l0_0 a0_1 a0_2 a0_3 a1_0 l1_1)) = some r := by rw [if_pos rfl] at H; exact H
           clear H
           have H := H1
           clear H1
           by_cases c29 : x9_2 = true
           ·subst c29
            have H1 : (if 0 ≤ x6_1 then (if x6_1 < (l0_0.length : Int) then (spec_Orphans.j2 k2 x5_1 x6_1 (((rd_T51 l0_0 x6_1).f0).toList == ([116, 101, 109, 112] : List UInt8)) l0_0 a0_1 a0_2 a0_3 a1_0 l1_1) else (none)) else (none)) = some r := by rw [if_pos rfl] at H; exact H
            clear H
            have H := H1
            clear H1
            by_cases c30 : 0 ≤ x6_1
            ·rw [if_pos c30] at H
             have c30b0 : decide (0 ≤ x6_1) = true := decide_eq_true c30
             clear c30
             (first | rw [c30b0] | (simp only [i64_w, i32_w]; rw [c30b0]) | skip)
             by_cases c31 : x6_1 < (l0_0.length : Int)
             ·rw [if_pos c31] at H
              have c31b0 : decide (x6_1 < (l0_0.length : Int)) = true := decide_eq_true c31
              clear c31
              have H' := Aside0.mk H
              clear H
              have hnb32 := NB137_138.out
              have hnc32 := NB138_137.out
              have hcz33_0 : wr.cell? ⟨gb137, 0, none⟩ = some (.slice (some ad143) l0_0.length c0_0) := (blk_cell BK137.out 0).trans rfl
              have hcz33_1 : wr.cell? ⟨gb137, 1, none⟩ = some (.int .i64 a0_1) := (blk_cell BK137.out 1).trans rfl
              have hcz33_2 : wr.cell? ⟨gb137, 2, none⟩ = some (.int .i64 a0_2) := (blk_cell BK137.out 2).trans rfl
              have hcz33_3 : wr.cell? ⟨gb137, 3, none⟩ = some (.bool a0_3) := (blk_cell BK137.out 3).trans rfl
              have hfz33_0 := blk_frozen BK137.out 0
              have hfz33_1 := blk_frozen BK137.out 1
              have hfz33_2 := blk_frozen BK137.out 2
              have hfz33_3 := blk_frozen BK137.out 3
              have p147 : 0 ≤ (x6_1 : Int) := of_decide_eq_true as_
              have q147 : x6_1 < (l0_0.length : Int) := of_decide_eq_true as_
              obtain ⟨ad147, e147, hx147_0, hx147_1, hx147_2⟩ := at_T51 HR0_0.out x6_1 p147 q147
              obtain rfl : ad143 = ad147 := (by injection e147)
              replace hx147_0 := cb_ HB hx147_0
              replace hx147_1 := cb_ HB hx147_1
              replace hx147_2 := cb_ HB hx147_2
              replace p147 := eq_true p147
              replace q147 := eq_true q147
              go_wp2
              go_meet
              case rel => exact ⟨_, ((((rd_T51 l0_0 x6_1).f0).toList == ([116, 101, 109, 112] : List UInt8))), rs_, H', ⟨by have := HK1.out; have := HK2.out; first | exact Nat.le_refl _ | exact Nat.le_of_succ_le this | omega⟩, ⟨rr_ HO_5⟩, ⟨bk_ BK137⟩, ⟨bk_ BK138⟩, ⟨by repeat (first | (with_reducible first | exact HB.out | apply below_alloc | apply pw_below_drewN | apply below_drew1 | refine below_set ?_ GE137.out | refine below_set ?_ GE138.out) | exact HB.out)⟩⟩
             ·rw [if_neg c31] at H
              exact absurd H (by simp)
            ·rw [if_neg c30] at H
             exact absurd H (by simp)
           ·replace c29 := Bool.eq_false_iff.mpr c29
            subst c29
            have H1 : (spec_Orphans.j2 k2 x5_1 x6_1 true l0_0 a0_1 a0_2 a0_3 a1_0 l1_1) = some r := by rw [if_neg (show ¬ (false = true) by decide)] at H; exact H
            clear H
            have H := H1
            clear H1
            have H' := Aside0.mk H
            clear H
            go_wp2
            go_meet
            case rel => exact ⟨_, (true), rs_, H', ⟨by have := HK1.out; have := HK2.out; first | exact Nat.le_refl _ | exact Nat.le_of_succ_le this | omega⟩, ⟨rr_ HO_5⟩, ⟨bk_ BK137⟩, ⟨bk_ BK138⟩, ⟨by repeat (first | (with_reducible first | exact HB.out | apply below_alloc | apply pw_below_drewN | apply below_drew1 | refine below_set ?_ GE137.out | refine below_set ?_ GE138.out) | exact HB.out)⟩⟩
          ·replace c28 := Bool.eq_false_iff.mpr c28
           subst c28
           have H1 : (if 0 ≤ x6_1 then (if x6_1 < (l0_0.length : Int) then (spec_Orphans.j2 k2 x5_1 x6_1 (((rd_T51 l0_0 x6_1).f0).toList == ([116, 101, 109, 112] : List UInt8)) l0_0 a0_1 a0_2 a0_3 a1_0 l1_1) else (none)) else (none)) = some r := by rw [if_neg (show ¬ (false = true) by decide)] at H; exact H
           clear H
           have H := H1
           clear H1
           by_cases c34 : 0 ≤ x6_1
           ·rw [if_pos c34] at H
            have c34b0 : decide (0 ≤ x6_1) = true := decide_eq_true c34
            clear c34
            by_cases c35 : x6_1 < (l0_0.length : Int)
            ·rw [if_pos c35] at H
             have c35b0 : decide (x6_1 < (l0_0.length : Int)) = true := decide_eq_true c35
             clear c35
             have H' := Aside0.mk H
             clear H
             have hnb36 := NB137_138.out
             have hnc36 := NB138_137.out
             have hcz37_0 : wr.cell? ⟨gb137, 0, none⟩ = some (.slice (some ad143) l0_0.length c0_0) := (blk_cell BK137.out 0).trans rfl
             have hcz37_1 : wr.cell? ⟨gb137, 1, none⟩ = some (.int .i64 a0_1) := (blk_cell BK137.out 1).trans rfl
             have hcz37_2 : wr.cell? ⟨gb137, 2, none⟩ = some (.int .i64 a0_2) := (blk_cell BK137.out 2).trans rfl
             have hcz37_3 : wr.cell? ⟨gb137, 3, none⟩ = some (.bool a0_3) := (blk_cell BK137.out 3).trans rfl
             have hfz37_0 := blk_frozen BK137.out 0
             have hfz37_1 := blk_frozen BK137.out 1
             have hfz37_2 := blk_frozen BK137.out 2
             have hfz37_3 := blk_frozen BK137.out 3
             have p148 : 0 ≤ (x6_1 : Int) := of_decide_eq_true as_
             have q148 : x6_1 < (l0_0.length : Int) := of_decide_eq_true as_
             obtain ⟨ad148, e148, hx148_0, hx148_1, hx148_2⟩ := at_T51 HR0_0.out x6_1 p148 q148
             obtain rfl : ad143 = ad148 := (by injection e148)
             replace hx148_0 := cb_ HB hx148_0
             replace hx148_1 := cb_ HB hx148_1
             replace hx148_2 := cb_ HB hx148_2
             replace p148 := eq_true p148
             replace q148 := eq_true q148
             go_wp2
             go_meet
             case rel => exact ⟨_, ((((rd_T51 l0_0 x6_1).f0).toList == ([116, 101, 109, 112] : List UInt8))), rs_, H', ⟨by have := HK1.out; have := HK2.out; first | exact Nat.le_refl _ | exact Nat.le_of_succ_le this | omega⟩, ⟨rr_ HO_5⟩, ⟨bk_ BK137⟩, ⟨bk_ BK138⟩, ⟨by repeat (first | (with_reducible first | exact HB.out | apply below_alloc | apply pw_below_drewN | apply below_drew1 | refine below_set ?_ GE137.out | refine below_set ?_ GE138.out) | exact HB.out)⟩⟩
            ·rw [if_neg c35] at H
             exact absurd H (by simp)
           ·rw [if_neg c34] at H
            exact absurd H (by simp)
         case rest =>
          clear HC25
          try clear c1
          try clear p1
          try clear q1
          try clear hx1
          try clear c2
          try clear p2
          try clear c3
          try clear c4
          try clear c6
          try clear p6
          try clear c9
          try clear c12
          try clear c12b0
          try clear c13
          try clear c13b0
          try clear p14
          try clear q14
          try clear hx14
          try clear c15
          try clear c18
          try clear c18b0
          try clear c19
          try clear c20
          try clear c22
          try clear c22b0
          try clear c23
          try clear c26
          try clear c28
          try clear c29
          try clear c30
          try clear c30b0
          try clear c31
          try clear c31b0
          try clear c32
          try clear c34
          try clear c34b0
          try clear c35
          try clear c35b0
          try clear c36
          try clear hcz10_0
          try clear hcz10_1
          try clear hcz10_2
          try clear hcz10_3
          try clear hcz16_0
          try clear hcz16_1
          try clear hcz16_2
          try clear hcz16_3
          try clear hcz21_0
          try clear hcz21_1
          try clear hcz24_0
          try clear hcz24_1
          try clear hcz27_0
          try clear hcz27_1
          try clear hcz33_0
          try clear hcz33_1
          try clear hcz33_2
          try clear hcz33_3
          try clear hcz37_0
          try clear hcz37_1
          try clear hcz37_2
          try clear hcz37_3
          try clear hfz10_0
          try clear hfz10_1
          try clear hfz10_2
          try clear hfz10_3
          try clear hfz16_0
          try clear hfz16_1
          try clear hfz16_2
          try clear hfz16_3
          try clear hfz21_0
          try clear hfz21_1
          try clear hfz24_0
          try clear hfz24_1
          try clear hfz27_0
          try clear hfz27_1
          try clear hfz33_0
          try clear hfz33_1
          try clear hfz33_2
          try clear hfz33_3
          try clear hfz37_0
          try clear hfz37_1
          try clear hfz37_2
          try clear hfz37_3
          try clear hx143_0
          try clear hx143_1
          try clear hx143_2
          try clear hx146_0
          try clear hx147_0
          try clear hx147_1
          try clear hx147_2
          try clear hx148_0
          try clear hx148_1
          try clear hx148_2
          try clear p1
          try clear p14
          try clear p143
          try clear p146
          try clear p147
          try clear p148
          try clear p2
          try clear q1
          try clear q14
          try clear q143
          try clear q146
          try clear q147
          try clear q148
          obtain ⟨kq, x63_24, rfl, HA, HJ24, HO_5, BK137, BK138, HB⟩ := hcut
          cases kq with
          | zero => exact absurd HA.out (by simp [spec_Orphans.j2])
          | succ kj24 =>
           have H := HA.out
           clear HA
           simp only [spec_Orphans.j2] at H
           by_cases c38 : x63_24 = true
           ·subst c38
            have H1 : (if 0 ≤ x6_1 then (if x6_1 < (l0_0.length : Int) then (if x5_1.length < 8796093022208 then (spec_Orphans.l0 kj24 (x5_1 ++ [(rd_T51 l0_0 x6_1).f0]) (wrap64 (x6_1 + 1)) l0_0 a0_1 a0_2 a0_3 a1_0 l1_1) else (none)) else (none)) else (none)) = some r := by rw [if_pos rfl] at H; exact H
            clear H
            have H := H1
            clear H1
            by_cases c39 : 0 ≤ x6_1
            ·rw [if_pos c39] at H
             have c39b0 : decide (0 ≤ x6_1) = true := decide_eq_true c39
             clear c39
             by_cases c40 : x6_1 < (l0_0.length : Int)
             ·rw [if_pos c40] at H
              have c40b0 : decide (x6_1 < (l0_0.length : Int)) = true := decide_eq_true c40
              clear c40
              by_cases c41 : x5_1.length < 8796093022208
              ·rw [if_pos c41] at H
               have LMc41 := Aside0.mk c41
               clear c41
               obtain ⟨y150, hy150⟩ : ∃ y_ : List ByteArray, y_ = (x5_1 ++ [(rd_T51 l0_0 x6_1).f0]) := ⟨_, rfl⟩
               replace H : (spec_Orphans.l0 kj24 y150 (wrap64 (x6_1 + 1)) l0_0 a0_1 a0_2 a0_3 a1_0 l1_1) = some r := by first | (rw [hy150]; with_reducible exact H) | (have H2_ := (Option.bind_some _ _).symm.trans H; rw [hy150]; with_reducible exact H2_) | (have H2_ := (Option.bind_some _ _).symm.trans H; with_reducible exact H2_) | with_reducible exact H | (rw [hy150]; exact H) | exact H
               have Ny150 := Aside0.mk hy150
               clear hy150
               have H' := Aside0.mk H
               clear H
               have hnb42 := NB137_138.out
               have hnc42 := NB138_137.out
               have hcz43_0 : wc.cell? ⟨gb137, 0, none⟩ = some (.slice (some ad143) l0_0.length c0_0) := (blk_cell BK137.out 0).trans rfl
               have hcz43_1 : wc.cell? ⟨gb137, 1, none⟩ = some (.int .i64 a0_1) := (blk_cell BK137.out 1).trans rfl
               have hcz43_2 : wc.cell? ⟨gb137, 2, none⟩ = some (.int .i64 a0_2) := (blk_cell BK137.out 2).trans rfl
               have hcz43_3 : wc.cell? ⟨gb137, 3, none⟩ = some (.bool a0_3) := (blk_cell BK137.out 3).trans rfl
               have hfz43_0 := blk_frozen BK137.out 0
               have hfz43_1 := blk_frozen BK137.out 1
               have hfz43_2 := blk_frozen BK137.out 2
               have hfz43_3 := blk_frozen BK137.out 3
               have p149 : 0 ≤ (x6_1 : Int) := of_decide_eq_true as_
               have q149 : x6_1 < (l0_0.length : Int) := of_decide_eq_true as_
               obtain ⟨ad149, e149, hx149_0, hx149_1, hx149_2⟩ := at_T51 HR0_0.out x6_1 p149 q149
               obtain rfl : ad143 = ad149 := (by injection e149)
               replace hx149_0 := cb_ HB hx149_0
               replace hx149_1 := cb_ HB hx149_1
               replace hx149_2 := cb_ HB hx149_2
               replace p149 := eq_true p149
               replace q149 := eq_true q149
               go_wp2_with (first | ((with_reducible refine gate_builtin (b := .append) (xs := #[.tmp 64, .tmp 71]) rfl ?_); at_builtin; refine Kd.R_append Kd.string (w0 := w) w.heap.size rfl (.tmp 64) (.tmp 71) 30 9 (.string ⟨#[]⟩) 16 rfl Tryd.underlying30 info9 rfl (by decide) (by omega) u5 x5_1 ((rd_T51 l0_0 x6_1).f0) [.string ((rd_T51 l0_0 x6_1).f0)] (fun _ => True) (fun _ => False) rfl rfl ?aP (fun _ hk => hk.elim) ?aF ?aO ?aB ?aS ?aL ?_; (case aP => exact rfl); (case aB => exact (by repeat (first | (with_reducible first | exact HB.out | apply below_alloc | apply pw_below_drewN | apply below_drew1 | refine below_set ?_ GE137.out | refine below_set ?_ GE138.out) | exact HB.out))); (case aF => exact (fun _ _ => trivial)); (case aO => exact (rr_ HO_5)); (case aS => exact (below_size (by repeat (first | (with_reducible first | exact HB.out | apply below_alloc | apply pw_below_drewN | apply below_drew1 | refine below_set ?_ GE137.out | refine below_set ?_ GE138.out) | exact HB.out)))); (case aL => have := LMc41.out; omega); intro v151 w44 ho hb hg hat; rw [← Ny150.out] at ho; have n0_ := Aside0.mk (blk_grown (g := gb137) (o := .cells #[.slice (some ad143) l0_0.length c0_0, .int .i64 a0_1, .int .i64 a0_2, .bool a0_3] 34 (0, 0)) (bk_ BK137) hg (Kd.R_ne HO_5.out BK137.out (by decide))); have n1_ := Aside0.mk (blk_grown (g := gb138) (o := .cells #[.int .i64 a1_0, .slice A1_1 l1_1.length c1_1] 36 (0, 0)) (bk_ BK138) hg (Kd.R_ne HO_5.out BK138.out (by decide))); have n2_ := Aside0.mk (hb); have n3_ := Aside0.mk (ho); clear BK137; clear BK138; clear HB; clear HO_5; have BK137 := n0_; have BK138 := n1_; have HB := n2_; have HO152 := n3_; clear n0_ n1_ n2_ n3_; clear ho hb hg hat))
               go_roundg kj24
               case measure => have := HK1.out; have := HK2.out; have := HJ24.out; omega
               case rel => exact ⟨(y150), (wrap64 (x6_1 + 1)), rs_, H', ⟨by have := HK1.out; have := HK2.out; have := HJ24.out; omega⟩, ⟨rr_ HO152⟩, ⟨bk_ BK137⟩, ⟨bk_ BK138⟩, ⟨by repeat (first | (with_reducible first | exact HB.out | apply below_alloc | apply pw_below_drewN | apply below_drew1 | refine below_set ?_ GE137.out | refine below_set ?_ GE138.out) | exact HB.out)⟩⟩
              ·rw [if_neg c41] at H
               exact absurd H (by simp)
             ·rw [if_neg c40] at H
              exact absurd H (by simp)
            ·rw [if_neg c39] at H
             exact absurd H (by simp)
           ·replace c38 := Bool.eq_false_iff.mpr c38
            subst c38
            have H1 : (spec_Orphans.l0 kj24 x5_1 (wrap64 (x6_1 + 1)) l0_0 a0_1 a0_2 a0_3 a1_0 l1_1) = some r := by rw [if_neg (show ¬ (false = true) by decide)] at H; exact H
            clear H
            have H := H1
            clear H1
            have H' := Aside0.mk H
            clear H
            go_wp2
            go_roundg kj24
            case measure => have := HK1.out; have := HK2.out; have := HJ24.out; omega
            case rel => exact ⟨(x5_1), (wrap64 (x6_1 + 1)), rs_, H', ⟨by have := HK1.out; have := HK2.out; have := HJ24.out; omega⟩, ⟨rr_ HO_5⟩, ⟨bk_ BK137⟩, ⟨bk_ BK138⟩, ⟨by repeat (first | (with_reducible first | exact HB.out | apply below_alloc | apply pw_below_drewN | apply below_drew1 | refine below_set ?_ GE137.out | refine below_set ?_ GE138.out) | exact HB.out)⟩⟩
     ·rw [if_neg c13] at H
      exact absurd H (by simp)
    ·rw [if_neg c12] at H
     have c12b0 : decide (x6_1 < (l0_0.length : Int)) = false := decide_eq_false c12
     clear c12
     obtain rfl := Option.some.inj H
     have hnb45 := NB137_138.out
     have hnc45 := NB138_137.out
     have hcz46_0 : wr.cell? ⟨gb137, 0, none⟩ = some (.slice A0_0 l0_0.length c0_0) := (blk_cell BK137.out 0).trans rfl
     have hcz46_1 : wr.cell? ⟨gb137, 1, none⟩ = some (.int .i64 a0_1) := (blk_cell BK137.out 1).trans rfl
     have hcz46_2 : wr.cell? ⟨gb137, 2, none⟩ = some (.int .i64 a0_2) := (blk_cell BK137.out 2).trans rfl
     have hcz46_3 : wr.cell? ⟨gb137, 3, none⟩ = some (.bool a0_3) := (blk_cell BK137.out 3).trans rfl
     have hfz46_0 := blk_frozen BK137.out 0
     have hfz46_1 := blk_frozen BK137.out 1
     have hfz46_2 := blk_frozen BK137.out 2
     have hfz46_3 := blk_frozen BK137.out 3
     go_wp2
     go_ret
     exact ⟨_, by first | rfl | (simp [errW_none, errW_some] <;> rfl) | (simp [*, errW_none, errW_some] <;> rfl), rr_ HO_5, by repeat (first | (with_reducible first | exact HB.out | apply below_alloc | apply pw_below_drewN | apply below_drew1 | refine below_set ?_ GE137.out | refine below_set ?_ GE138.out) | exact HB.out)⟩
 ·replace c4 := Bool.eq_false_iff.mpr c4
  subst c4
  have H1 : (some y139) = some r := by rw [if_neg (show ¬ (false = true) by decide)] at H; exact H
  clear H
  have H := H1
  clear H1
  obtain rfl := Option.some.inj H
  go_enter Tryd.func6, Tryd.ntmps6
  go_wp2_with (first | ((with_reducible refine gate_dst (N := 2) rfl ?_); refine box_event ?hg (N := 2) ?hd (cs := #[.slice A0_0 l0_0.length c0_0, .int .i64 a0_1, .int .i64 a0_2, .bool a0_3]) (t := 34) ?hr ?_; (case hd => rfl); (case hg => rfl); (case hr => first | (go_simp; done) | (go_simp; rfl)); intro gb137 hg w47 hbox hb; have n0_ := Aside0.mk (below_step (hb_ HB) hb); have n1_ := Aside0.mk (hbox); have n2_ := Aside0.mk ((by rw [hg]; exact (below_size (hb_ HB)) : w.heap.size ≤ gb137)); have n3_ := Aside0.mk ((by rw [hg]; exact (below_size (hb_ HB)) : w.heap.size ≤ gb137)); clear HB; have HB := n0_; have BK137 := n1_; have GW137 := n2_; have GE137 := n3_; clear n0_ n1_ n2_ n3_; clear hb hbox hg) | ((with_reducible refine gate_dst (N := 3) rfl ?_); refine box_event ?hg (N := 3) ?hd (cs := #[.int .i64 a1_0, .slice A1_1 l1_1.length c1_1]) (t := 36) ?hr ?_; (case hd => rfl); (case hg => rfl); (case hr => first | (go_simp; done) | (go_simp; rfl)); intro gb138 hg w48 hbox hb; have n0_ := Aside0.mk (blk_below (g := gb137) (o := .cells #[.slice A0_0 l0_0.length c0_0, .int .i64 a0_1, .int .i64 a0_2, .bool a0_3] 34 (0, 0)) (bk_ BK137) hb); have n1_ := Aside0.mk (below_step (hs_ HB GE137) hb); have n2_ := Aside0.mk (hbox); have n3_ := Aside0.mk ((by rw [hg]; exact (below_size (hs_ HB GE137)) : w.heap.size ≤ gb138)); have n4_ := Aside0.mk ((by rw [hg]; exact (below_size (hs_ HB GE137)) : w.heap.size ≤ gb138)); have n5_ := Aside0.mk ((by rw [hg]; exact Nat.ne_of_lt (blk_lt (g := gb137) (o := .cells #[.slice A0_0 l0_0.length c0_0, .int .i64 a0_1, .int .i64 a0_2, .bool a0_3] 34 (0, 0)) (bk_ BK137)) : gb137 ≠ gb138)); have n6_ := Aside0.mk ((by rw [hg]; exact Nat.ne_of_gt (blk_lt (g := gb137) (o := .cells #[.slice A0_0 l0_0.length c0_0, .int .i64 a0_1, .int .i64 a0_2, .bool a0_3] 34 (0, 0)) (bk_ BK137)) : gb138 ≠ gb137)); clear BK137; clear HB; have BK137 := n0_; have HB := n1_; have BK138 := n2_; have GW138 := n3_; have GE138 := n4_; have NB137_138 := n5_; have NB138_137 := n6_; clear n0_ n1_ n2_ n3_ n4_ n5_ n6_; clear hb hbox hg) | ((with_reducible refine gate_dst (N := 11) rfl ?_); refine Kd.R_lit Kd.string _ 9 ?hg (N := 11) ?hd (xs := ([] : List ByteArray)) (inner := []) (ok := fun _ => True) (okp := fun _ => True) ?hr ?hp (fun _ hk => hk) trivial (Below.refl _ _) (Nat.le_refl _) (by simp) ?_; (case hd => rfl); (case hg => rfl); (case hr => first | (go_simp; done) | (go_simp; rfl)); (case hp => exact (Reps.none _ _)); intro v140 w49 ho50 hb hg_ hnew_; clear hg_ hnew_; (first | rw [← Ny139.out] at ho50 | (simp only [Int.reduceToNat] at ho50; rw [← Ny139.out] at ho50)); have n0_ := Aside0.mk (Kd.R_lower ho50 (below_size (by repeat (first | (with_reducible first | exact HB.out | apply below_alloc | apply pw_below_drewN | apply below_drew1 | refine below_set ?_ GE137.out | refine below_set ?_ GE138.out) | exact HB.out)))); have n1_ := Aside0.mk (blk_below (g := gb137) (o := .cells #[.slice A0_0 l0_0.length c0_0, .int .i64 a0_1, .int .i64 a0_2, .bool a0_3] 34 (0, 0)) (bk_ BK137) hb); have n2_ := Aside0.mk (blk_below (g := gb138) (o := .cells #[.int .i64 a1_0, .slice A1_1 l1_1.length c1_1] 36 (0, 0)) (bk_ BK138) hb); have n3_ := Aside0.mk (below_step (by repeat (first | (with_reducible first | exact HB.out | apply below_alloc | apply pw_below_drewN | apply below_drew1 | refine below_set ?_ GE137.out | refine below_set ?_ GE138.out) | exact HB.out)) hb); clear BK137; clear BK138; clear HB; have HO141 := n0_; have BK137 := n1_; have BK138 := n2_; have HB := n3_; clear n0_ n1_ n2_ n3_; clear hb ho50; have hnb51 := NB137_138.out; have hnc51 := NB138_137.out; have hcz52_0 : w49.cell? ⟨gb137, 0, none⟩ = some (.slice A0_0 l0_0.length c0_0) := (blk_cell BK137.out 0).trans rfl; have hcz52_1 : w49.cell? ⟨gb137, 1, none⟩ = some (.int .i64 a0_1) := (blk_cell BK137.out 1).trans rfl; have hcz52_2 : w49.cell? ⟨gb137, 2, none⟩ = some (.int .i64 a0_2) := (blk_cell BK137.out 2).trans rfl; have hcz52_3 : w49.cell? ⟨gb137, 3, none⟩ = some (.bool a0_3) := (blk_cell BK137.out 3).trans rfl; have hfz52_0 := blk_frozen BK137.out 0; have hfz52_1 := blk_frozen BK137.out 1; have hfz52_2 := blk_frozen BK137.out 2; have hfz52_3 := blk_frozen BK137.out 3) | ((with_reducible refine gate_callee (f := 19) rfl ?_); refine goesL_ (some 13) rfl rfl Tryd.func19 (by kernel_rfl) rfl #[.agg #[.slice A0_0 l0_0.length c0_0, .int .i64 a0_1, .int .i64 a0_2, .bool a0_3]] rfl ar_ ?_; (with_reducible refine (spec_DiskOk.calls k _ _ l0_0 a0_1 a0_2 a0_3 false _ ?side1 ?side2 A3.out).mono ?_); (case side1 => repeat (first | exact (Kd.C_below HR0_0.out HB.out) | (with_reducible refine Kd.C_alloc ?_ _) | (with_reducible refine Kd.C_drewN ?_ _) | (with_reducible refine Kd.C_drew ?_))); (case side2 => exact HC0_0.out); rintro e w53 ⟨rfl, hb⟩; refine ⟨_, rfl, ?_⟩; have n0_ := Aside0.mk (Kd.R_below (rr_ HO141) hb); have n1_ := Aside0.mk (blk_below (g := gb137) (o := .cells #[.slice A0_0 l0_0.length c0_0, .int .i64 a0_1, .int .i64 a0_2, .bool a0_3] 34 (0, 0)) (bk_ BK137) hb); have n2_ := Aside0.mk (blk_below (g := gb138) (o := .cells #[.int .i64 a1_0, .slice A1_1 l1_1.length c1_1] 36 (0, 0)) (bk_ BK138) hb); have n3_ := Aside0.mk (below_step (by repeat (first | (with_reducible first | exact HB.out | apply below_alloc | apply pw_below_drewN | apply below_drew1 | refine below_set ?_ GE137.out | refine below_set ?_ GE138.out) | exact HB.out)) hb); clear HO141; clear BK137; clear BK138; clear HB; have HO141 := n0_; have BK137 := n1_; have BK138 := n2_; have HB := n3_; clear n0_ n1_ n2_ n3_; (try clear hb); (try clear hb2); (try clear hk); (try clear hi)))
  go_ret
  exact ⟨_, by first | rfl | (simp [errW_none, errW_some] <;> rfl) | (simp [*, errW_none, errW_some] <;> rfl), rr_ HO141, by repeat (first | (with_reducible first | exact HB.out | apply below_alloc | apply pw_below_drewN | apply below_drew1 | refine below_set ?_ GE137.out | refine below_set ?_ GE138.out) | exact HB.out)⟩

end Go.Proofs.YtodmaebgogjpdaaDoor.PFnExactOrphans
