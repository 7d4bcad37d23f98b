-- Laid by a program of this session, a copy of the kit's printer with additions (wip/patch_print.py): myhead. Lean checks it.
import Derived.Test.YtnjmehiploelnaaPFnExactHintFitsx0
import Derived.Test.YtnjmehiploelnaaPFnExactHintFitsx4
namespace Go.Proofs.Ytnjmehiploelnaa.PFnExactHintFits
open Go.RowKit Go.Proofs.YtnjmehiploelnaaW.PrintWords Go.Proofs.YtnjmehiploelnaaW.PrintLast Go.Proofs.YtnjmehiploelnaaW.PrintMore
attribute [local go_sem] max2_int min2_int max_two min_two max_three min_three max_four min_four   -- for this text's walks alone
set_option linter.unusedVariables false
set_option linter.unusedSimpArgs false

/-! ### spec_ReadVar: function 59 -/
mutual
def spec_ReadVar.l0 : Nat → ByteArray → Int → Option (Int × Int)
 | 0, _, _ => none
 | k + 1, x0, x4 => if x4 ≤ 7 then (spec_ReadVar.j1 k x0 x4 (decide (x4 ≤ (x0.size : Int)))) else (spec_ReadVar.j1 k x0 x4 false)
def spec_ReadVar.j1 : Nat → ByteArray → Int → Bool → Option (Int × Int)
 | 0, _, _, _ => none
 | k + 1, x0, x4, x14 => if x14 = true then (spec_ReadVar.l1 k x0 x4 0 (wrap64 (x4 - 1))) else (some (0, 0))
def spec_ReadVar.l1 : Nat → ByteArray → Int → Int → Int → Option (Int × Int)
 | 0, _, _, _, _ => none
 | k + 1, x0, x4, x5, x6 => if x6 ≥ 0 then (if 0 ≤ x6 then (if x6 < (x0.size : Int) then (spec_ReadVar.l1 k x0 x4 (wrap64 ((wrap64 (x5 * 128)) + (Int.tmod (wrap64 (bt x0 x6)) 128))) (wrap64 (x6 - 1))) else (none)) else (none)) else ((spec_Var.f k x5).bind fun t131 => (if 0 ≤ x4 then (if x4 ≤ (x0.size : Int) then (if t131.toList = (x0.extract 0 (x4 : Int).toNat).toList then (some (x5, x4)) else (spec_ReadVar.l0 k x0 (wrap64 (x4 + 1)))) else (none)) else (none)))
end
def spec_ReadVar.f (k : Nat) (a0 : ByteArray) : Option (Int × Int) := spec_ReadVar.l0 k a0 1
theorem spec_ReadVar.mono_l : ∀ k, (∀ y0 y1, LeO (spec_ReadVar.l0 k y0 y1) (spec_ReadVar.l0 (k + 1) y0 y1)) ∧ (∀ y0 y1 y2, LeO (spec_ReadVar.j1 k y0 y1 y2) (spec_ReadVar.j1 (k + 1) y0 y1 y2)) ∧ (∀ y0 y1 y2 y3, LeO (spec_ReadVar.l1 k y0 y1 y2 y3) (spec_ReadVar.l1 (k + 1) y0 y1 y2 y3))
 | 0 => ⟨fun _ _ r h => by simp [spec_ReadVar.l0] at h, fun _ _ _ r h => by simp [spec_ReadVar.j1] at h, fun _ _ _ _ r h => by simp [spec_ReadVar.l1] at h⟩
 | k + 1 => by
  obtain ⟨ih0, ih1, ih2⟩ := spec_ReadVar.mono_l k
  refine ⟨?_, ?_, ?_⟩
  ·intro y0 y1
   unfold spec_ReadVar.l0
   repeat' first | (with_reducible first | exact ih0 .. | exact ih1 .. | exact ih2 .. | exact spec_Var.mono .. | exact LeO.refl .. | exact LeO.none .. | refine LeO.ite ?_ ?_ | refine LeO.bind ?_ (fun _ => ?_)) | exact ih0 .. | exact ih1 .. | exact ih2 .. | exact spec_Var.mono .. | exact LeO.none .. | refine LeO.ite ?_ ?_ | refine LeO.bind ?_ (fun _ => ?_)
  ·intro y0 y1 y2
   unfold spec_ReadVar.j1
   repeat' first | (with_reducible first | exact ih0 .. | exact ih1 .. | exact ih2 .. | exact spec_Var.mono .. | exact LeO.refl .. | exact LeO.none .. | refine LeO.ite ?_ ?_ | refine LeO.bind ?_ (fun _ => ?_)) | exact ih0 .. | exact ih1 .. | exact ih2 .. | exact spec_Var.mono .. | exact LeO.none .. | refine LeO.ite ?_ ?_ | refine LeO.bind ?_ (fun _ => ?_)
  ·intro y0 y1 y2 y3
   unfold spec_ReadVar.l1
   repeat' first | (with_reducible first | exact ih0 .. | exact ih1 .. | exact ih2 .. | exact spec_Var.mono .. | exact LeO.refl .. | exact LeO.none .. | refine LeO.ite ?_ ?_ | refine LeO.bind ?_ (fun _ => ?_)) | exact ih0 .. | exact ih1 .. | exact ih2 .. | exact spec_Var.mono .. | exact LeO.none .. | refine LeO.ite ?_ ?_ | refine LeO.bind ?_ (fun _ => ?_)
theorem spec_ReadVar.mono : ∀ a0 k, LeO (spec_ReadVar.f k a0) (spec_ReadVar.f (k + 1) a0) := by
 intro a0 k
 obtain ⟨ih0, ih1, ih2⟩ := spec_ReadVar.mono_l k
 unfold spec_ReadVar.f
 repeat' first | (with_reducible first | exact ih0 .. | exact ih1 .. | exact ih2 .. | exact spec_Var.mono .. | exact LeO.refl .. | exact LeO.none .. | refine LeO.ite ?_ ?_ | refine LeO.bind ?_ (fun _ => ?_)) | exact ih0 .. | exact ih1 .. | exact ih2 .. | exact spec_Var.mono .. | exact LeO.none .. | refine LeO.ite ?_ ?_ | refine LeO.bind ?_ (fun _ => ?_)
set_option maxHeartbeats 80000000 in
set_option maxRecDepth 100000 in
theorem spec_ReadVar.calls (k : Nat) (a0 : ByteArray) (r1 : Int) (r2 : Int) (w : World) (h : spec_ReadVar.f k a0 = some (r1, r2)) :
  Calls Try.prog 59 #[.string a0] w fun e w' => e = .returned (.tuple #[.int .i64 r1, .int .i64 r2]) ∧ Below w.heap.size w w' := by
 have HB := Aside0.mk (Below.refl w.heap.size w)
 have H : (spec_ReadVar.l0 k a0 1) = some (r1, r2) := h
 clear h
 have H' := Aside0.mk H
 clear H
 go_enter Try.func59, Try.ntmps59
 go_wp2
 go_loopg [4] k (fun kq v4 w' => ∃ (x4_1 : Int), v4 = .int .i64 x4_1 ∧ Aside0 (spec_ReadVar.l0 kq a0 x4_1 = some (r1, r2)) ∧ Aside0 (kq ≤ k) ∧ Aside0 (Below w.heap.size w w'))
 case atStart => exact ⟨(1), rs_, H', ⟨Nat.le_refl _⟩, ⟨hb_ HB⟩⟩
 case round =>
  clear H'
  obtain ⟨x4_1, rfl, HA, HK1, HB⟩ := hrel
  cases gk with
  | zero => exact absurd HA.out (by simp [spec_ReadVar.l0])
  | succ k1 =>
   have H := HA.out
   clear HA
   simp only [spec_ReadVar.l0] at H
   have HC2 := Aside0.mk H
   clear H
   go_upto_region 2 with (fail)
   go_cut [14] (fun v14 wc => ∃ (kq : Nat) (x14_1 : Bool), v14 = .bool x14_1 ∧ Aside0 (spec_ReadVar.j1 kq a0 x4_1 x14_1 = some (r1, r2)) ∧ Aside0 (kq ≤ k1) ∧ Aside0 (Below w.heap.size w wc))
   case first =>
    have H := HC2.out
    clear HC2
    by_cases c3 : x4_1 ≤ 7
    ·rw [if_pos c3] at H
     have c3b0 : decide (x4_1 ≤ 7) = true := decide_eq_true c3
     clear c3
     (first | rw [c3b0] | (simp only [i64_w, i32_w]; rw [c3b0]) | skip)
     have H' := Aside0.mk H
     clear H
     go_wp2
     go_meet
     case rel => exact ⟨_, (decide (x4_1 ≤ (a0.size : Int))), rs_, H', ⟨by have := HK1.out; first | exact Nat.le_refl _ | exact Nat.le_of_succ_le this | omega⟩, ⟨hb_ HB⟩⟩
    ·rw [if_neg c3] at H
     have c3b0 : decide (x4_1 ≤ 7) = false := decide_eq_false c3
     clear c3
     (first | rw [c3b0] | (simp only [i64_w, i32_w]; rw [c3b0]) | skip)
     have H' := Aside0.mk H
     clear H
     go_wp2
     go_meet
     case rel => exact ⟨_, (false), rs_, H', ⟨by have := HK1.out; first | exact Nat.le_refl _ | exact Nat.le_of_succ_le this | omega⟩, ⟨hb_ HB⟩⟩
   case rest =>
    clear HC2
    try clear p2
    try clear c3
    try clear c3b0
    obtain ⟨kq, x14_1, rfl, HA, HJ1, HB⟩ := hcut
    cases kq with
    | zero => exact absurd HA.out (by simp [spec_ReadVar.j1])
    | succ kj1 =>
     have H := HA.out
     clear HA
     simp only [spec_ReadVar.j1] at H
     by_cases c4 : x14_1 = true
     ·subst c4
      have H1 : (spec_ReadVar.l1 kj1 a0 x4_1 0 (wrap64 (x4_1 - 1))) = some (r1, r2) := by rw [if_pos rfl] at H; exact H
      clear H
      have H := H1
      clear H1
      have H' := Aside0.mk H
      clear H
      go_wp2
      go_loopg [5, 6] kj1 (fun kq v5 v6 w' => ∃ (x5_3 : Int) (x6_3 : Int), v5 = .int .i64 x5_3 ∧ v6 = .int .i64 x6_3 ∧ Aside0 (spec_ReadVar.l1 kq a0 x4_1 x5_3 x6_3 = some (r1, r2)) ∧ Aside0 (kq ≤ kj1) ∧ Aside0 (Below w.heap.size w w'))
      case atStart => exact ⟨(0), (wrap64 (x4_1 - 1)), rs_, rs_, H', ⟨Nat.le_refl _⟩, ⟨hb_ HB⟩⟩
      case round =>
       clear H'
       try clear p2
       try clear c3
       try clear c3b0
       try clear c4
       try clear p2
       obtain ⟨x5_3, x6_3, rfl, rfl, HA, HK3, HB⟩ := hrel
       cases gk with
       | zero => exact absurd HA.out (by simp [spec_ReadVar.l1])
       | succ k3 =>
        have H := HA.out
        clear HA
        simp only [spec_ReadVar.l1] at H
        by_cases c5 : x6_3 ≥ 0
        ·rw [if_pos c5] at H
         have c5b0 : decide (0 ≤ x6_3) = true := decide_eq_true c5
         clear c5
         by_cases c6 : 0 ≤ x6_3
         ·rw [if_pos c6] at H
          have c6b0 : decide (0 ≤ x6_3) = true := decide_eq_true c6
          clear c6
          by_cases c7 : x6_3 < (a0.size : Int)
          ·rw [if_pos c7] at H
           have c7b0 : decide (x6_3 < (a0.size : Int)) = true := decide_eq_true c7
           clear c7
           have H' := Aside0.mk H
           clear H
           have p8 : 0 ≤ (x6_3 : Int) := of_decide_eq_true as_
           have q8 : x6_3 < (a0.size : Int) := of_decide_eq_true as_
           have hx8 := bt_at a0 x6_3
           replace p8 := eq_true p8
           replace q8 := eq_true q8
           go_wp2
           go_roundg k3
           case measure => have := HK1.out; have := HJ1.out; have := HK3.out; first | exact this | exact Nat.le_of_succ_le this | exact Nat.le_refl _ | omega
           case rel => exact ⟨(wrap64 ((wrap64 (x5_3 * 128)) + (Int.tmod (wrap64 (bt a0 x6_3)) 128))), (wrap64 (x6_3 - 1)), rs_, rs_, H', ⟨by have := HK1.out; have := HJ1.out; have := HK3.out; first | exact this | exact Nat.le_of_succ_le this | exact Nat.le_refl _ | omega⟩, ⟨hb_ HB⟩⟩
          ·rw [if_neg c7] at H
           exact absurd H (by simp)
         ·rw [if_neg c6] at H
          exact absurd H (by simp)
        ·rw [if_neg c5] at H
         have c5b0 : decide (0 ≤ x6_3) = false := decide_eq_false c5
         clear c5
         replace H := Option.bind_eq_some_iff.mp H
         obtain ⟨t131, A90, H⟩ := H
         replace H : (if 0 ≤ x4_1 then (if x4_1 ≤ (a0.size : Int) then (if t131.toList = (a0.extract 0 (x4_1 : Int).toNat).toList then (some (x5_3, x4_1)) else (spec_ReadVar.l0 k3 a0 (wrap64 (x4_1 + 1)))) else (none)) else (none)) = some (r1, r2) := H
         have A9 := Aside0.mk A90
         clear A90
         by_cases c10 : 0 ≤ x4_1
         ·rw [if_pos c10] at H
          have c10b0 := eq_true c10
          have c10b1 : decide (0 ≤ x4_1) = true := decide_eq_true c10
          clear c10
          by_cases c11 : x4_1 ≤ (a0.size : Int)
          ·rw [if_pos c11] at H
           have c11b0 := eq_true c11
           have c11b1 : decide (x4_1 ≤ (a0.size : Int)) = true := decide_eq_true c11
           clear c11
           by_cases c12 : t131.toList = (a0.extract 0 (x4_1 : Int).toNat).toList
           ·rw [if_pos c12] at H
            have c12b0 : (t131.toList == (a0.extract 0 (x4_1 : Int).toNat).toList) = true := beq_iff_eq.mpr c12
            have c12b1 : (t131.toList != (a0.extract 0 (x4_1 : Int).toNat).toList) = false := bne_eq_false_iff_eq.mpr c12
            clear c12
            simp only [Option.some.injEq, Prod.mk.injEq] at H
            obtain ⟨rfl, rfl⟩ := H
            try go_wp2
            replace HB := hd_ HB
            refine start_ (n := 6) (S := fun w' => True) (ds := []) (on_ 0 6) (by kernel_rfl) rfl rfl trivial (fun hHeld => ?_)
            generalize wr.drew = w13 at HB hHeld ⊢
            refine pure_ (i := 0) (N := some 31) (v := ?_) (a' := ?_) (on_ 1 5) rfl rfl (by kernel_rfl) (fun _ _ _ h => h) (Or.inl ⟨by rfl, ?_⟩) ?_ ?_
            rotate_left;·intro w';go_simp;with_reducible rfl
            rotate_left;·simp only [Act.put, la_, lz_, ls_, i64_w, i32_w];rfl
            refine pure_ (i := 2) (N := some 33) (v := ?_) (a' := ?_) #[i',o',i',o',o',o'] rfl rfl (by kernel_rfl) (fun _ _ _ h => h) (Or.inl ⟨by rfl, ?_⟩) ?_ ?_
            rotate_left;·intro w';go_simp;with_reducible rfl
            rotate_left;·simp only [Act.put, la_, lz_, ls_, i64_w, i32_w];rfl
            refine pure_ (i := 3) (N := some 34) (v := ?_) (a' := ?_) #[i',o',i',i',o',o'] rfl rfl (by kernel_rfl) (fun _ _ _ h => h) (Or.inl ⟨by rfl, ?_⟩) ?_ ?_
            rotate_left;·intro w';go_simp;with_reducible rfl
            rotate_left;·simp only [Act.put, la_, lz_, ls_, i64_w, i32_w];rfl
            refine pure_ (i := 4) (N := some 35) (v := ?_) (a' := ?_) #[i',o',i',i',i',o'] rfl rfl (by kernel_rfl) (fun _ _ _ h => h) (Or.inl ⟨by rfl, ?_⟩) ?_ ?_
            rotate_left;·intro w';go_simp;with_reducible rfl
            rotate_left;·simp only [Act.put, la_, lz_, ls_, i64_w, i32_w];rfl
            refine one_ (i := 1) (N := some 32) (on_ 5 1) rfl rfl (by kernel_rfl) (by decide) (fun K hK => ?_)
            refine goes_ Try.func71 (by kernel_rfl) rfl #[.int .i64 x5_3] (by rfl) rfl rfl ar_ ?_
            with_reducible refine (spec_Var.calls k3 x5_3 t131 _ A9.out).mono ?_
            rintro e w14 ⟨rfl, hb⟩
            refine ⟨_, rfl, ?_⟩
            replace HB := bs_ HB hb
            (try clear hb)
            (try clear hb2)
            (try clear hk)
            (try clear hi)
            refine hK.out _ _ trivial (fun hHeld => ?_)
            clear hK K
            refine norm_ (a' := ?_) ?_ ?_
            rotate_left
            ·show Act.put _ (some 32) _ = _
             simp only [Act.put, la_, lz_, ls_, i64_w, i32_w]
             rfl
            refine pure_ (i := 5) (N := some 36) (v := ?_) (a' := ?_) (on_ 6 0) rfl rfl (by kernel_rfl) (fun _ _ _ h => h) (Or.inl ⟨by rfl, ?_⟩) ?_ ?_
            rotate_left;·intro w';go_simp;with_reducible rfl
            rotate_left;·simp only [Act.put, la_, lz_, ls_, i64_w, i32_w];rfl
            refine done_ (by kernel_rfl) ?_
            try go_wp2
            go_ret2
            exact ⟨re_, hb_ HB⟩
           ·rw [if_neg c12] at H
            have c12b0 : (t131.toList == (a0.extract 0 (x4_1 : Int).toNat).toList) = false := beq_eq_false_iff_ne.mpr c12
            have c12b1 : (t131.toList != (a0.extract 0 (x4_1 : Int).toNat).toList) = true := bne_iff_ne.mpr c12
            have H' := Aside0.mk H
            clear H
            try go_wp2
            replace HB := hd_ HB
            refine start_ (n := 6) (S := fun w' => True) (ds := []) (on_ 0 6) (by kernel_rfl) rfl rfl trivial (fun hHeld => ?_)
            generalize wr.drew = w15 at HB hHeld ⊢
            refine pure_ (i := 0) (N := some 31) (v := ?_) (a' := ?_) (on_ 1 5) rfl rfl (by kernel_rfl) (fun _ _ _ h => h) (Or.inl ⟨by rfl, ?_⟩) ?_ ?_
            rotate_left;·intro w';go_simp;with_reducible rfl
            rotate_left;·simp only [Act.put, la_, lz_, ls_, i64_w, i32_w];rfl
            refine pure_ (i := 2) (N := some 33) (v := ?_) (a' := ?_) #[i',o',i',o',o',o'] rfl rfl (by kernel_rfl) (fun _ _ _ h => h) (Or.inl ⟨by rfl, ?_⟩) ?_ ?_
            rotate_left;·intro w';go_simp;with_reducible rfl
            rotate_left;·simp only [Act.put, la_, lz_, ls_, i64_w, i32_w];rfl
            refine pure_ (i := 3) (N := some 34) (v := ?_) (a' := ?_) #[i',o',i',i',o',o'] rfl rfl (by kernel_rfl) (fun _ _ _ h => h) (Or.inl ⟨by rfl, ?_⟩) ?_ ?_
            rotate_left;·intro w';go_simp;with_reducible rfl
            rotate_left;·simp only [Act.put, la_, lz_, ls_, i64_w, i32_w];rfl
            refine pure_ (i := 4) (N := some 35) (v := ?_) (a' := ?_) #[i',o',i',i',i',o'] rfl rfl (by kernel_rfl) (fun _ _ _ h => h) (Or.inl ⟨by rfl, ?_⟩) ?_ ?_
            rotate_left;·intro w';go_simp;with_reducible rfl
            rotate_left;·simp only [Act.put, la_, lz_, ls_, i64_w, i32_w];rfl
            refine one_ (i := 1) (N := some 32) (on_ 5 1) rfl rfl (by kernel_rfl) (by decide) (fun K hK => ?_)
            refine goes_ Try.func71 (by kernel_rfl) rfl #[.int .i64 x5_3] (by rfl) rfl rfl ar_ ?_
            with_reducible refine (spec_Var.calls k3 x5_3 t131 _ A9.out).mono ?_
            rintro e w16 ⟨rfl, hb⟩
            refine ⟨_, rfl, ?_⟩
            replace HB := bs_ HB hb
            (try clear hb)
            (try clear hb2)
            (try clear hk)
            (try clear hi)
            refine hK.out _ _ trivial (fun hHeld => ?_)
            clear hK K
            refine norm_ (a' := ?_) ?_ ?_
            rotate_left
            ·show Act.put _ (some 32) _ = _
             simp only [Act.put, la_, lz_, ls_, i64_w, i32_w]
             rfl
            refine pure_ (i := 5) (N := some 36) (v := ?_) (a' := ?_) (on_ 6 0) rfl rfl (by kernel_rfl) (fun _ _ _ h => h) (Or.inl ⟨by rfl, ?_⟩) ?_ ?_
            rotate_left;·intro w';go_simp;with_reducible rfl
            rotate_left;·simp only [Act.put, la_, lz_, ls_, i64_w, i32_w];rfl
            refine done_ (by kernel_rfl) ?_
            try go_wp2
            go_roundg k3
            case measure => have := HK1.out; have := HJ1.out; have := HK3.out; first | exact this | exact Nat.le_of_succ_le this | exact Nat.le_refl _ | omega
            case rel => exact ⟨(wrap64 (x4_1 + 1)), rs_, H', ⟨by have := HK1.out; have := HJ1.out; have := HK3.out; first | exact this | exact Nat.le_of_succ_le this | exact Nat.le_refl _ | omega⟩, ⟨hb_ HB⟩⟩
          ·rw [if_neg c11] at H
           exact absurd H (by simp)
         ·rw [if_neg c10] at H
          exact absurd H (by simp)
     ·replace c4 := Bool.eq_false_iff.mpr c4
      subst c4
      have H1 : (some (0, 0)) = some (r1, r2) := by rw [if_neg (show ¬ (false = true) by decide)] at H; exact H
      clear H
      have H := H1
      clear H1
      simp only [Option.some.injEq, Prod.mk.injEq] at H
      obtain ⟨rfl, rfl⟩ := H
      go_wp2
      go_ret2
      exact ⟨re_, hb_ HB⟩

/-! ### spec_Unframe: function 34 -/
def spec_Unframe.j0 : Nat → ByteArray → Int → Int → Bool → Option (ByteArray × Int)
 | 0, _, _, _, _ => none
 | k + 1, x0, x4, x5, x30 => if x30 = true then (some ((⟨#[]⟩ : ByteArray), 0)) else (if 0 ≤ (wrap64 (4 + x5)) then (if (wrap64 (4 + x5)) ≤ (wrap64 ((wrap64 (4 + x5)) + x4)) then (if (wrap64 ((wrap64 (4 + x5)) + x4)) ≤ (x0.size : Int) then (if 0 ≤ (wrap64 ((wrap64 (4 + x5)) + x4)) then ((spec_Frame.f k (x0.extract ((wrap64 (4 + x5)) : Int).toNat ((wrap64 ((wrap64 (4 + x5)) + x4)) : Int).toNat)).bind fun t134 => (if (x0.extract 0 ((wrap64 ((wrap64 (4 + x5)) + x4)) : Int).toNat).toList = t134.toList then (some (x0.extract ((wrap64 (4 + x5)) : Int).toNat ((wrap64 ((wrap64 (4 + x5)) + x4)) : Int).toNat, wrap64 ((wrap64 (4 + x5)) + x4))) else (some ((⟨#[]⟩ : ByteArray), 0)))) else (none)) else (none)) else (none)) else (none))
def spec_Unframe.f (k : Nat) (a0 : ByteArray) : Option (ByteArray × Int) := if (a0.size : Int) < 5 then (some ((⟨#[]⟩ : ByteArray), 0)) else (if 4 ≤ (a0.size : Int) then ((spec_ReadVar.f k (a0.extract 4 a0.size)).bind fun bt132 => (if bt132.2 = 0 then (spec_Unframe.j0 k a0 bt132.1 bt132.2 true) else (if bt132.1 > 200 then (spec_Unframe.j0 k a0 bt132.1 bt132.2 true) else (spec_Unframe.j0 k a0 bt132.1 bt132.2 (decide (bt132.1 > (wrap64 ((wrap64 ((a0.size : Int) - 4)) - bt132.2)))))))) else (none))
theorem spec_Unframe.mono_l : ∀ k, (∀ y0 y1 y2 y3, LeO (spec_Unframe.j0 k y0 y1 y2 y3) (spec_Unframe.j0 (k + 1) y0 y1 y2 y3))
 | 0 => fun _ _ _ _ r h => by simp [spec_Unframe.j0] at h
 | k + 1 => by
  have ih0 := spec_Unframe.mono_l k
  ·intro y0 y1 y2 y3
   unfold spec_Unframe.j0
   repeat' first | (with_reducible first | exact ih0 .. | exact spec_Frame.mono .. | exact spec_ReadVar.mono .. | exact LeO.refl .. | exact LeO.none .. | refine LeO.ite ?_ ?_ | refine LeO.bind ?_ (fun _ => ?_)) | exact ih0 .. | exact spec_Frame.mono .. | exact spec_ReadVar.mono .. | exact LeO.none .. | refine LeO.ite ?_ ?_ | refine LeO.bind ?_ (fun _ => ?_)
theorem spec_Unframe.mono : ∀ a0 k, LeO (spec_Unframe.f k a0) (spec_Unframe.f (k + 1) a0) := by
 intro a0 k
 have ih0 := spec_Unframe.mono_l k
 unfold spec_Unframe.f
 repeat' first | (with_reducible first | exact ih0 .. | exact spec_Frame.mono .. | exact spec_ReadVar.mono .. | exact LeO.refl .. | exact LeO.none .. | refine LeO.ite ?_ ?_ | refine LeO.bind ?_ (fun _ => ?_)) | exact ih0 .. | exact spec_Frame.mono .. | exact spec_ReadVar.mono .. | exact LeO.none .. | refine LeO.ite ?_ ?_ | refine LeO.bind ?_ (fun _ => ?_)
def spec_Unframe.T7 : Bool × List (List Nat × List Nat) := (true, [([], []), ([], []), ([1], [1]), ([], []), ([2, 3], [2, 3]), ([0, 4], [0, 4]), ([], []), ([6], [6]), ([5, 7], [5, 7])])
def spec_Unframe.B7 : List Nat := [0, 0, 2, 0, 14, 31, 0, 64, 255]
theorem spec_Unframe.tab7 : rtab .any (opsOf Try.f34 7) = spec_Unframe.T7 := by kernel_rfl
theorem spec_Unframe.bits7 : waitsOk spec_Unframe.T7.2 spec_Unframe.B7 = true := by kernel_rfl
set_option maxHeartbeats 80000000 in
set_option maxRecDepth 100000 in
theorem spec_Unframe.calls (k : Nat) (a0 : ByteArray) (r1 : ByteArray) (r2 : Int) (w : World) (h : spec_Unframe.f k a0 = some (r1, r2)) :
  Calls Try.prog 34 #[.string a0] w fun e w' => e = .returned (.tuple #[.string r1, .int .i64 r2]) ∧ Below w.heap.size w w' := by
 have HB := Aside0.mk (Below.refl w.heap.size w)
 have H : (if (a0.size : Int) < 5 then (some ((⟨#[]⟩ : ByteArray), 0)) else (if 4 ≤ (a0.size : Int) then ((spec_ReadVar.f k (a0.extract 4 a0.size)).bind fun bt132 => (if bt132.2 = 0 then (spec_Unframe.j0 k a0 bt132.1 bt132.2 true) else (if bt132.1 > 200 then (spec_Unframe.j0 k a0 bt132.1 bt132.2 true) else (spec_Unframe.j0 k a0 bt132.1 bt132.2 (decide (bt132.1 > (wrap64 ((wrap64 ((a0.size : Int) - 4)) - bt132.2)))))))) else (none))) = some (r1, r2) := h
 clear h
 by_cases c2 : (a0.size : Int) < 5
 ·rw [if_pos c2] at H
  have c2b0 : decide ((a0.size : Int) < 5) = true := decide_eq_true c2
  have c2b1 : decide (a0.size < 5) = true := decide_eq_true (by omega)
  clear c2
  simp only [Option.some.injEq, Prod.mk.injEq] at H
  obtain ⟨rfl, rfl⟩ := H
  go_enter Try.func34, Try.ntmps34
  go_wp2
  go_ret2
  exact ⟨re_, hb_ HB⟩
 ·rw [if_neg c2] at H
  have c2b0 : decide ((a0.size : Int) < 5) = false := decide_eq_false c2
  have c2b1 : decide (a0.size < 5) = false := decide_eq_false (by omega)
  clear c2
  by_cases c3 : 4 ≤ (a0.size : Int)
  ·rw [if_pos c3] at H
   have c3b0 := eq_true c3
   have c3b1 : decide (4 ≤ (a0.size : Int)) = true := decide_eq_true c3
   clear c3
   replace H := Option.bind_eq_some_iff.mp H
   obtain ⟨⟨t132, t133⟩, A40, H⟩ := H
   replace H : (if t133 = 0 then (spec_Unframe.j0 k a0 t132 t133 true) else (if t132 > 200 then (spec_Unframe.j0 k a0 t132 t133 true) else (spec_Unframe.j0 k a0 t132 t133 (decide (t132 > (wrap64 ((wrap64 ((a0.size : Int) - 4)) - t133))))))) = some (r1, r2) := H
   have A4 := Aside0.mk A40
   clear A40
   have HC5 := Aside0.mk H
   clear H
   go_enter Try.func34, Try.ntmps34
   go_upto_region 4 with (first | ((with_reducible refine gate_callee (f := 59) rfl ?_); refine goesL_ (some 13) rfl rfl Try.func59 (by kernel_rfl) rfl #[.string (a0.extract 4 a0.size)] rfl ar_ ?_; (with_reducible refine (spec_ReadVar.calls k (a0.extract 4 a0.size) t132 t133 _ A4.out).mono ?_); rintro e w6 ⟨rfl, hb⟩; refine ⟨_, rfl, ?_⟩; replace HB := bs_ HB hb; (try clear hb); (try clear hb2); (try clear hk); (try clear hi)))
   (try simp only [Act.put, la_, lz_, ls_])
   go_cut [30] (fun v30 wc => ∃ (kq : Nat) (x30_4 : Bool), v30 = .bool x30_4 ∧ Aside0 (spec_Unframe.j0 kq a0 t132 t133 x30_4 = some (r1, r2)) ∧ Aside0 (kq ≤ k) ∧ Aside0 (Below w.heap.size w wc))
   case first =>
    have H := HC5.out
    clear HC5
    by_cases c7 : t133 = 0
    ·rw [if_pos c7] at H
     have c7b0 : (t133 == 0) = true := beq_iff_eq.mpr c7
     have c7b1 : (t133 != 0) = false := bne_eq_false_iff_eq.mpr c7
     clear c7
     (first | rw [c7b0] | (simp only [i64_w, i32_w]; rw [c7b0]) | skip)
     have H' := Aside0.mk H
     clear H
     go_wp2
     go_meet
     case rel => exact ⟨_, (true), rs_, H', ⟨by first | exact Nat.le_refl _ | exact Nat.le_of_succ_le this | omega⟩, ⟨hb_ HB⟩⟩
    ·rw [if_neg c7] at H
     have c7b0 : (t133 == 0) = false := beq_eq_false_iff_ne.mpr c7
     have c7b1 : (t133 != 0) = true := bne_iff_ne.mpr c7
     (first | rw [c7b0] | (simp only [i64_w, i32_w]; rw [c7b0]) | skip)
     by_cases c8 : t132 > 200
     ·rw [if_pos c8] at H
      have c8b0 : decide (200 < t132) = true := decide_eq_true c8
      clear c8
      have H' := Aside0.mk H
      clear H
      go_wp2
      go_meet
      case rel => exact ⟨_, (true), rs_, H', ⟨by first | exact Nat.le_refl _ | exact Nat.le_of_succ_le this | omega⟩, ⟨hb_ HB⟩⟩
     ·rw [if_neg c8] at H
      have c8b0 : decide (200 < t132) = false := decide_eq_false c8
      clear c8
      have H' := Aside0.mk H
      clear H
      go_wp2
      go_meet
      case rel => exact ⟨_, (decide (t132 > (wrap64 ((wrap64 ((a0.size : Int) - 4)) - t133)))), rs_, H', ⟨by first | exact Nat.le_refl _ | exact Nat.le_of_succ_le this | omega⟩, ⟨hb_ HB⟩⟩
   case rest =>
    clear HC5
    try clear c2
    try clear c2b0
    try clear c2b1
    try clear p2
    try clear c3
    try clear c3b0
    try clear c3b1
    try clear c5
    try clear p6
    try clear c7
    try clear c7b0
    try clear c7b1
    try clear c8
    try clear c8b0
    obtain ⟨kq, x30_4, rfl, HA, HJ4, HB⟩ := hcut
    cases kq with
    | zero => exact absurd HA.out (by simp [spec_Unframe.j0])
    | succ kj4 =>
     have H := HA.out
     clear HA
     simp only [spec_Unframe.j0] at H
     by_cases c9 : x30_4 = true
     ·subst c9
      have H1 : (some ((⟨#[]⟩ : ByteArray), 0)) = some (r1, r2) := by rw [if_pos rfl] at H; exact H
      clear H
      have H := H1
      clear H1
      simp only [Option.some.injEq, Prod.mk.injEq] at H
      obtain ⟨rfl, rfl⟩ := H
      go_wp2
      go_ret2
      exact ⟨re_, hb_ HB⟩
     ·replace c9 := Bool.eq_false_iff.mpr c9
      subst c9
      have H1 : (if 0 ≤ (wrap64 (4 + t133)) then (if (wrap64 (4 + t133)) ≤ (wrap64 ((wrap64 (4 + t133)) + t132)) then (if (wrap64 ((wrap64 (4 + t133)) + t132)) ≤ (a0.size : Int) then (if 0 ≤ (wrap64 ((wrap64 (4 + t133)) + t132)) then ((spec_Frame.f kj4 (a0.extract ((wrap64 (4 + t133)) : Int).toNat ((wrap64 ((wrap64 (4 + t133)) + t132)) : Int).toNat)).bind fun t134 => (if (a0.extract 0 ((wrap64 ((wrap64 (4 + t133)) + t132)) : Int).toNat).toList = t134.toList then (some (a0.extract ((wrap64 (4 + t133)) : Int).toNat ((wrap64 ((wrap64 (4 + t133)) + t132)) : Int).toNat, wrap64 ((wrap64 (4 + t133)) + t132))) else (some ((⟨#[]⟩ : ByteArray), 0)))) else (none)) else (none)) else (none)) else (none)) = some (r1, r2) := by rw [if_neg (show ¬ (false = true) by decide)] at H; exact H
      clear H
      have H := H1
      clear H1
      obtain ⟨ji10, hji10⟩ : ∃ j_ : Int, (wrap64 (4 + t133)) = j_ := ⟨_, rfl⟩
      replace H : (if 0 ≤ (ji10) then (if (ji10) ≤ (wrap64 ((ji10) + t132)) then (if (wrap64 ((ji10) + t132)) ≤ (a0.size : Int) then (if 0 ≤ (wrap64 ((ji10) + t132)) then ((spec_Frame.f kj4 (a0.extract ((ji10) : Int).toNat ((wrap64 ((ji10) + t132)) : Int).toNat)).bind fun t134 => (if (a0.extract 0 ((wrap64 ((ji10) + t132)) : Int).toNat).toList = t134.toList then (some (a0.extract ((ji10) : Int).toNat ((wrap64 ((ji10) + t132)) : Int).toNat, wrap64 ((ji10) + t132))) else (some ((⟨#[]⟩ : ByteArray), 0)))) else (none)) else (none)) else (none)) else (none)) = some (r1, r2) := by first | (rw [hji10] at H; exact H) | (simp only [hji10] at H ⊢; exact H)
      have hji10w : (IntKind.i64.wrap (4 + t133)) = ji10 := (i64_w _).trans hji10
      by_cases c11 : 0 ≤ (ji10)
      ·rw [if_pos c11] at H
       have c11b0 := eq_true c11
       have c11b1 : decide (0 ≤ (ji10)) = true := decide_eq_true c11
       clear c11
       by_cases c12 : (ji10) ≤ (wrap64 ((ji10) + t132))
       ·rw [if_pos c12] at H
        have c12b0 := eq_true c12
        have c12b1 : decide ((ji10) ≤ (wrap64 ((ji10) + t132))) = true := decide_eq_true c12
        by_cases c13 : (wrap64 ((ji10) + t132)) ≤ (a0.size : Int)
        ·rw [if_pos c13] at H
         have c13b0 := eq_true c13
         have c13b1 : decide ((wrap64 ((ji10) + t132)) ≤ (a0.size : Int)) = true := decide_eq_true c13
         obtain ⟨ji14, hji14⟩ : ∃ j_ : Int, (wrap64 ((ji10) + t132)) = j_ := ⟨_, rfl⟩
         replace H : (if 0 ≤ (ji14) then ((spec_Frame.f kj4 (a0.extract ((ji10) : Int).toNat ((ji14) : Int).toNat)).bind fun t134 => (if (a0.extract 0 ((ji14) : Int).toNat).toList = t134.toList then (some (a0.extract ((ji10) : Int).toNat ((ji14) : Int).toNat, ji14)) else (some ((⟨#[]⟩ : ByteArray), 0)))) else (none)) = some (r1, r2) := by first | (rw [hji14] at H; exact H) | (simp only [hji14] at H ⊢; exact H)
         (try rw [hji14] at c12b0)
         (try rw [hji14] at c12b1)
         (try rw [hji14] at c12)
         (try rw [hji14] at c13b0)
         (try rw [hji14] at c13b1)
         (try rw [hji14] at c13)
         have hji14w : (IntKind.i64.wrap ((ji10) + t132)) = ji14 := (i64_w _).trans hji14
         by_cases c15 : 0 ≤ (ji14)
         ·rw [if_pos c15] at H
          have c15b0 := eq_true c15
          have c15b1 : decide (0 ≤ (ji14)) = true := decide_eq_true c15
          clear c15
          have c16b0 := eq_true (of_decide_eq_true as_ : (ji14) ≤ (a0.size : Int))
          replace H := Option.bind_eq_some_iff.mp H
          obtain ⟨t134, A170, H⟩ := H
          replace H : (if (a0.extract 0 ((ji14) : Int).toNat).toList = t134.toList then (some (a0.extract ((ji10) : Int).toNat ((ji14) : Int).toNat, ji14)) else (some ((⟨#[]⟩ : ByteArray), 0))) = some (r1, r2) := H
          have A17 := Aside0.mk A170
          clear A170
          by_cases c18 : (a0.extract 0 ((ji14) : Int).toNat).toList = t134.toList
          ·rw [if_pos c18] at H
           have c18b0 : ((a0.extract 0 ((ji14) : Int).toNat).toList == t134.toList) = true := beq_iff_eq.mpr c18
           have c18b1 : ((a0.extract 0 ((ji14) : Int).toNat).toList != t134.toList) = false := bne_eq_false_iff_eq.mpr c18
           clear c18
           simp only [Option.some.injEq, Prod.mk.injEq] at H
           obtain ⟨rfl, rfl⟩ := H
           try go_wp2
           replace HB := hd_ HB
           refine start_ (n := 9) (S := fun w' => True) (ds := []) (on_ 0 9) (by kernel_rfl) rfl rfl trivial (fun hHeld => ?_); refine with_tabW spec_Unframe.tab7 spec_Unframe.bits7 (fun HT_ HW_ => ?_)
           generalize wc.drew = w19 at HB hHeld ⊢
           refine pv_' 0 39 (on_ 1 8) rfl rfl HT_ ?_
           refine pv_' 1 40 (on_ 2 7) rfl rfl HT_ ?_
           refine pv_' 2 41 (on_ 3 6) rfl rfl HT_ ?_
           refine pv_' 3 42 (on_ 4 5) rfl rfl HT_ ?_
           refine pv_' 4 43 (on_ 5 4) rfl rfl HT_ ?_
           refine pv_' 5 44 (on_ 6 3) rfl rfl HT_ ?_
           refine pv_' 6 45 (on_ 7 2) rfl rfl HT_ ?_
           refine one_ (i := 7) (N := some 46) (on_ 8 1) rfl rfl (one_of HT_.out (by kernel_rfl)) (by decide) (fun K hK => ?_)
           refine goes_ Try.func51 (by kernel_rfl) rfl #[.string (a0.extract ((ji10) : Int).toNat ((ji14) : Int).toNat)] (by rfl) rfl rfl (by (try simp only [List.map_toArray, List.map_cons, List.map_nil]); first | done | (simp only [hji10, hji14]; rfl) | rfl | (simp only [List.length_drop, List.length_take]; rfl)) ?_
           with_reducible refine (spec_Frame.calls kj4 (a0.extract ((ji10) : Int).toNat ((ji14) : Int).toNat) t134 _ A17.out).mono ?_
           rintro e w20 ⟨rfl, hb⟩
           refine ⟨_, rfl, ?_⟩
           replace HB := bs_ HB hb
           (try clear hb)
           (try clear hb2)
           (try clear hk)
           (try clear hi)
           refine hK.out _ _ trivial (fun hHeld => ?_)
           clear hK K
           refine norm_ (a' := ?_) ?_ ?_
           rotate_left
           ·show Act.put _ (some 46) _ = _
            simp only [Act.put, la_, lz_, ls_, i64_w, i32_w]
            rfl
           refine pv_' 8 47 (on_ 9 0) rfl rfl HT_ ?_
           refine done_ (done_of HT_.out (by kernel_rfl)) ?_
           have Nji14_ := Aside0.mk hji14
           clear hji14
           (try clear hji14w)
           have Nji10_ := Aside0.mk hji10
           clear hji10
           (try clear hji10w)
           try go_wp2
           have hji10 := Nji10_.out
           clear Nji10_
           (try have hji10w := (i64_w _).trans hji10)
           have hji14 := Nji14_.out
           clear Nji14_
           (try have hji14w := (i64_w _).trans hji14)
           go_ret2
           exact ⟨by first | rfl | (simp [errW_none, errW_some] <;> rfl) | (simp only [← hji10, ← hji14]; first | rfl | (simp [errW_none, errW_some] <;> rfl)) | (simp [*, errW_none, errW_some] <;> rfl), hb_ HB⟩
          ·rw [if_neg c18] at H
           have c18b0 : ((a0.extract 0 ((ji14) : Int).toNat).toList == t134.toList) = false := beq_eq_false_iff_ne.mpr c18
           have c18b1 : ((a0.extract 0 ((ji14) : Int).toNat).toList != t134.toList) = true := bne_iff_ne.mpr c18
           simp only [Option.some.injEq, Prod.mk.injEq] at H
           obtain ⟨rfl, rfl⟩ := H
           try go_wp2
           replace HB := hd_ HB
           refine start_ (n := 9) (S := fun w' => True) (ds := []) (on_ 0 9) (by kernel_rfl) rfl rfl trivial (fun hHeld => ?_); refine with_tabW spec_Unframe.tab7 spec_Unframe.bits7 (fun HT_ HW_ => ?_)
           generalize wc.drew = w21 at HB hHeld ⊢
           refine pv_' 0 39 (on_ 1 8) rfl rfl HT_ ?_
           refine pv_' 1 40 (on_ 2 7) rfl rfl HT_ ?_
           refine pv_' 2 41 (on_ 3 6) rfl rfl HT_ ?_
           refine pv_' 3 42 (on_ 4 5) rfl rfl HT_ ?_
           refine pv_' 4 43 (on_ 5 4) rfl rfl HT_ ?_
           refine pv_' 5 44 (on_ 6 3) rfl rfl HT_ ?_
           refine pv_' 6 45 (on_ 7 2) rfl rfl HT_ ?_
           refine one_ (i := 7) (N := some 46) (on_ 8 1) rfl rfl (one_of HT_.out (by kernel_rfl)) (by decide) (fun K hK => ?_)
           refine goes_ Try.func51 (by kernel_rfl) rfl #[.string (a0.extract ((ji10) : Int).toNat ((ji14) : Int).toNat)] (by rfl) rfl rfl (by (try simp only [List.map_toArray, List.map_cons, List.map_nil]); first | done | (simp only [hji10, hji14]; rfl) | rfl | (simp only [List.length_drop, List.length_take]; rfl)) ?_
           with_reducible refine (spec_Frame.calls kj4 (a0.extract ((ji10) : Int).toNat ((ji14) : Int).toNat) t134 _ A17.out).mono ?_
           rintro e w22 ⟨rfl, hb⟩
           refine ⟨_, rfl, ?_⟩
           replace HB := bs_ HB hb
           (try clear hb)
           (try clear hb2)
           (try clear hk)
           (try clear hi)
           refine hK.out _ _ trivial (fun hHeld => ?_)
           clear hK K
           refine norm_ (a' := ?_) ?_ ?_
           rotate_left
           ·show Act.put _ (some 46) _ = _
            simp only [Act.put, la_, lz_, ls_, i64_w, i32_w]
            rfl
           refine pv_' 8 47 (on_ 9 0) rfl rfl HT_ ?_
           refine done_ (done_of HT_.out (by kernel_rfl)) ?_
           have Nji14_ := Aside0.mk hji14
           clear hji14
           (try clear hji14w)
           have Nji10_ := Aside0.mk hji10
           clear hji10
           (try clear hji10w)
           try go_wp2
           have hji10 := Nji10_.out
           clear Nji10_
           (try have hji10w := (i64_w _).trans hji10)
           have hji14 := Nji14_.out
           clear Nji14_
           (try have hji14w := (i64_w _).trans hji14)
           go_ret2
           exact ⟨by first | rfl | (simp [errW_none, errW_some] <;> rfl) | (simp only [← hji10, ← hji14]; first | rfl | (simp [errW_none, errW_some] <;> rfl)) | (simp [*, errW_none, errW_some] <;> rfl), hb_ HB⟩
         ·rw [if_neg c15] at H
          exact absurd H (by simp)
        ·rw [if_neg c13] at H
         exact absurd H (by simp)
       ·rw [if_neg c12] at H
        exact absurd H (by simp)
      ·rw [if_neg c11] at H
       exact absurd H (by simp)
  ·rw [if_neg c3] at H
   exact absurd H (by simp)

/-! ### spec_KeyOk: function 78 -/
def spec_KeyOk.f (a0 : ByteArray) : Option (Bool) := (spec_l1In.f (a0.size : Int) 1 8).bind fun t135 => (some t135)
set_option maxHeartbeats 80000000 in
set_option maxRecDepth 100000 in
theorem spec_KeyOk.calls (a0 : ByteArray) (r : Bool) (w : World) (h : spec_KeyOk.f a0 = some r) :
  Calls Try.prog 78 #[.string a0] w fun e w' => e = .returned (.bool r) ∧ Drawn0 w w' := by
 have H : ((spec_l1In.f (a0.size : Int) 1 8).bind fun t135 => (some t135)) = some r := h
 clear h
 replace H := Option.bind_eq_some_iff.mp H
 obtain ⟨t135, A20, H⟩ := H
 replace H : (some t135) = some r := H
 have A2 := Aside0.mk A20
 clear A20
 obtain rfl := Option.some.inj H
 go_enter Try.func78, Try.ntmps78
 go_wp2_with (first | ((with_reducible refine gate_callee (f := 62) rfl ?_); refine goesL_ (some 5) rfl rfl Try.func62 (by kernel_rfl) rfl #[.int .i64 (a0.size : Int), .int .i64 1, .int .i64 8] rfl ar_ ?_; (with_reducible refine (spec_l1In.calls (a0.size : Int) 1 8 t135 _ A2.out).mono ?_); rintro e w' ⟨rfl, ⟨nd, rfl⟩⟩; refine ⟨_, rfl, ?_⟩))
 go_ret
 exact ⟨by first | rfl | (simp; done) | (simp [*]; done), by repeat (first | exact Drawn0.refl _ | apply Drawn0.step)⟩

end Go.Proofs.Ytnjmehiploelnaa.PFnExactHintFits
