-- Laid by a program of this session, a copy of the kit's printer with additions (wip/patch_print.py): myhead. Lean checks it.
import Derived.Test.YtnmileaeadhiaaaDoorPFnNumbersx0
namespace Go.Proofs.YtnmileaeadhiaaaDoor.PFnNumbers
open Go.RowKit Go.Proofs.YtnmileaeadhiaaaDoorW.PrintWords Go.Proofs.YtnmileaeadhiaaaDoorW.PrintLast Go.Proofs.YtnmileaeadhiaaaDoorW.PrintMore
attribute [local go_sem] max2_int min2_int max_two min_two max_three min_three max_four min_four   -- for this text's walks alone
set_option linter.unusedVariables false
set_option linter.unusedSimpArgs false

/-! ### impl_digit: function 22 -/
def impl_digit.j0 : Nat → Int → Bool → Option (Int)
 | 0, _, _ => none
 | k + 1, x0, x3 => if x3 = true then (some ((x0 - 48) % 256)) else (if x0 ≥ 97 then (if x0 ≤ 102 then (some (((x0 - 97) % 256) + 10)) else (some (-1))) else (some (-1)))
def impl_digit.f (k : Nat) (a0 : Int) : Option (Int) := if a0 ≥ 48 then (impl_digit.j0 k a0 (decide (a0 ≤ 57))) else (impl_digit.j0 k a0 false)
theorem impl_digit.mono_l : ∀ k, (∀ y0 y1, LeO (impl_digit.j0 k y0 y1) (impl_digit.j0 (k + 1) y0 y1))
 | 0 => fun _ _ r h => by simp [impl_digit.j0] at h
 | k + 1 => by
  have ih0 := impl_digit.mono_l k
  ·intro y0 y1
   unfold impl_digit.j0
   repeat' first | (with_reducible first | exact ih0 .. | exact LeO.refl .. | exact LeO.none .. | refine LeO.ite ?_ ?_ | refine LeO.bind ?_ (fun _ => ?_)) | exact ih0 .. | exact LeO.none .. | refine LeO.ite ?_ ?_ | refine LeO.bind ?_ (fun _ => ?_)
theorem impl_digit.mono : ∀ a0 k, LeO (impl_digit.f k a0) (impl_digit.f (k + 1) a0) := by
 intro a0 k
 have ih0 := impl_digit.mono_l k
 unfold impl_digit.f
 repeat' first | (with_reducible first | exact ih0 .. | exact LeO.refl .. | exact LeO.none .. | refine LeO.ite ?_ ?_ | refine LeO.bind ?_ (fun _ => ?_)) | exact ih0 .. | exact LeO.none .. | refine LeO.ite ?_ ?_ | refine LeO.bind ?_ (fun _ => ?_)
set_option maxHeartbeats 80000000 in
set_option maxRecDepth 100000 in
theorem impl_digit.calls (k : Nat) (a0 : Int) (r : Int) (w : World) (h : impl_digit.f k a0 = some r) :
  Calls Tryd.prog 22 #[.int .u8 a0] w fun e w' => e = .returned (.int .i64 r) ∧ Drawn0 w w' := by
 have H : (if a0 ≥ 48 then (impl_digit.j0 k a0 (decide (a0 ≤ 57))) else (impl_digit.j0 k a0 false)) = some r := h
 clear h
 have HC2 := Aside0.mk H
 clear H
 go_enter Tryd.func22, Tryd.ntmps22
 go_upto_region 1 with (fail)
 go_cut [3] (fun v3 wc => ∃ (kq : Nat) (x3_1 : Bool), v3 = .bool x3_1 ∧ Aside0 (impl_digit.j0 kq a0 x3_1 = some r) ∧ Aside0 (kq ≤ k) ∧ Drawn0 w wc)
 case first =>
  have H := HC2.out
  clear HC2
  by_cases c3 : a0 ≥ 48
  ·rw [if_pos c3] at H
   have c3b0 : decide (48 ≤ a0) = true := decide_eq_true c3
   clear c3
   (first | rw [c3b0] | (simp only [i64_w, i32_w]; rw [c3b0]) | skip)
   have H' := Aside0.mk H
   clear H
   go_wp2
   go_meet
   case rel => exact ⟨_, (decide (a0 ≤ 57)), rs_, H', ⟨by first | exact Nat.le_refl _ | exact Nat.le_of_succ_le this | omega⟩, by repeat (first | exact Drawn0.refl _ | apply Drawn0.step)⟩
  ·rw [if_neg c3] at H
   have c3b0 : decide (48 ≤ a0) = false := decide_eq_false c3
   clear c3
   (first | rw [c3b0] | (simp only [i64_w, i32_w]; rw [c3b0]) | skip)
   have H' := Aside0.mk H
   clear H
   go_wp2
   go_meet
   case rel => exact ⟨_, (false), rs_, H', ⟨by first | exact Nat.le_refl _ | exact Nat.le_of_succ_le this | omega⟩, by repeat (first | exact Drawn0.refl _ | apply Drawn0.step)⟩
 case rest =>
  clear HC2
  try clear c2
  try clear p2
  try clear c3
  try clear c3b0
  obtain ⟨kq, x3_1, rfl, HA, HJ1, ⟨mc1, rfl⟩⟩ := hcut
  cases kq with
  | zero => exact absurd HA.out (by simp [impl_digit.j0])
  | succ kj1 =>
   have H := HA.out
   clear HA
   simp only [impl_digit.j0] at H
   by_cases c4 : x3_1 = true
   ·subst c4
    have H1 : (some ((a0 - 48) % 256)) = some r := by rw [if_pos rfl] at H; exact H
    clear H
    have H := H1
    clear H1
    obtain rfl := Option.some.inj H
    go_wp2
    go_ret
    exact ⟨by first | rfl | (simp; done) | (simp [*]; done), by repeat (first | exact Drawn0.refl _ | apply Drawn0.step)⟩
   ·replace c4 := Bool.eq_false_iff.mpr c4
    subst c4
    have H1 : (if a0 ≥ 97 then (if a0 ≤ 102 then (some (((a0 - 97) % 256) + 10)) else (some (-1))) else (some (-1))) = some r := by rw [if_neg (show ¬ (false = true) by decide)] at H; exact H
    clear H
    have H := H1
    clear H1
    by_cases c5 : a0 ≥ 97
    ·rw [if_pos c5] at H
     have c5b0 : decide (97 ≤ a0) = true := decide_eq_true c5
     clear c5
     by_cases c6 : a0 ≤ 102
     ·rw [if_pos c6] at H
      have c6b0 : decide (a0 ≤ 102) = true := decide_eq_true c6
      clear c6
      obtain rfl := Option.some.inj H
      go_wp2
      go_ret
      exact ⟨by first | rfl | (simp; done) | (simp [*]; done), by repeat (first | exact Drawn0.refl _ | apply Drawn0.step)⟩
     ·rw [if_neg c6] at H
      have c6b0 : decide (a0 ≤ 102) = false := decide_eq_false c6
      clear c6
      obtain rfl := Option.some.inj H
      go_wp2
      go_ret
      exact ⟨by first | rfl | (simp; done) | (simp [*]; done), by repeat (first | exact Drawn0.refl _ | apply Drawn0.step)⟩
    ·rw [if_neg c5] at H
     have c5b0 : decide (97 ≤ a0) = false := decide_eq_false c5
     clear c5
     obtain rfl := Option.some.inj H
     go_wp2
     go_ret
     exact ⟨by first | rfl | (simp; done) | (simp [*]; done), by repeat (first | exact Drawn0.refl _ | apply Drawn0.step)⟩

/-! ### impl_Unhex: function 13 -/
def impl_Unhex.l0 : Nat → ByteArray → List Int → Int → Option (ByteArray × Bool)
 | 0, _, _, _ => none
 | k + 1, x0, x4, x5 => if x5 < (x0.size : Int) then (if 0 ≤ x5 then ((impl_digit.f k (bt x0 x5)).bind fun t190 => (if 0 ≤ (wrap64 (x5 + 1)) then (if (wrap64 (x5 + 1)) < (x0.size : Int) then ((impl_digit.f k (bt x0 (wrap64 (x5 + 1)))).bind fun t191 => (if t190 < 0 then (some ((⟨#[]⟩ : ByteArray), false)) else (if t191 < 0 then (some ((⟨#[]⟩ : ByteArray), false)) else (if x4.length < 140737488355328 then (impl_Unhex.l0 k x0 (x4 ++ [(wrap64 ((wrap64 (16 * t190)) + t191)) % 256]) (wrap64 (x5 + 2))) else (none))))) else (none)) else (none))) else (none)) else (some (strOfNums x4, true))
def impl_Unhex.f (k : Nat) (a0 : ByteArray) : Option (ByteArray × Bool) := if ((a0.size : Int) % 2) = 0 then (impl_Unhex.l0 k a0 ([] : List Int) 0) else (some ((⟨#[]⟩ : ByteArray), false))
theorem impl_Unhex.mono_l : ∀ k, (∀ y0 y1 y2, LeO (impl_Unhex.l0 k y0 y1 y2) (impl_Unhex.l0 (k + 1) y0 y1 y2))
 | 0 => fun _ _ _ r h => by simp [impl_Unhex.l0] at h
 | k + 1 => by
  have ih0 := impl_Unhex.mono_l k
  ·intro y0 y1 y2
   unfold impl_Unhex.l0
   repeat' first | (with_reducible first | exact ih0 .. | exact impl_digit.mono .. | exact LeO.refl .. | exact LeO.none .. | refine LeO.ite ?_ ?_ | refine LeO.bind ?_ (fun _ => ?_)) | exact ih0 .. | exact impl_digit.mono .. | exact LeO.none .. | refine LeO.ite ?_ ?_ | refine LeO.bind ?_ (fun _ => ?_)
theorem impl_Unhex.mono : ∀ a0 k, LeO (impl_Unhex.f k a0) (impl_Unhex.f (k + 1) a0) := by
 intro a0 k
 have ih0 := impl_Unhex.mono_l k
 unfold impl_Unhex.f
 repeat' first | (with_reducible first | exact ih0 .. | exact impl_digit.mono .. | exact LeO.refl .. | exact LeO.none .. | refine LeO.ite ?_ ?_ | refine LeO.bind ?_ (fun _ => ?_)) | exact ih0 .. | exact impl_digit.mono .. | exact LeO.none .. | refine LeO.ite ?_ ?_ | refine LeO.bind ?_ (fun _ => ?_)
def impl_Unhex.T7 : Bool × List (List Nat × List Nat) := (true, [([], []), ([], []), ([0, 1], [0, 1]), ([2], [2]), ([], []), ([], []), ([5], [5]), ([4, 6], [4, 6]), ([7, 3], [7]), ([3, 8, 0, 1, 2, 3], [3]), ([8, 9, 0, 1, 2, 3, 4, 5, 6, 7, 8, 9], [8])])
def impl_Unhex.B7 : List Nat := [0, 0, 3, 7, 0, 0, 32, 112, 255, 511, 1023]
theorem impl_Unhex.tab7 : rtab .any (opsOf Tryd.f13 7) = impl_Unhex.T7 := by kernel_rfl
theorem impl_Unhex.bits7 : waitsOk impl_Unhex.T7.2 impl_Unhex.B7 = true := by kernel_rfl
set_option maxHeartbeats 80000000 in
set_option maxRecDepth 100000 in
theorem impl_Unhex.calls (k : Nat) (a0 : ByteArray) (r1 : ByteArray) (r2 : Bool) (w : World) (h : impl_Unhex.f k a0 = some (r1, r2)) :
  Calls Tryd.prog 13 #[.string a0] w fun e w' => e = .returned (.tuple #[.string r1, .bool r2]) ∧ Below w.heap.size w w' := by
 have HB := Aside0.mk (Below.refl w.heap.size w)
 have H : (if ((a0.size : Int) % 2) = 0 then (impl_Unhex.l0 k a0 ([] : List Int) 0) else (some ((⟨#[]⟩ : ByteArray), false))) = some (r1, r2) := h
 clear h
 by_cases c2 : ((a0.size : Int) % 2) = 0
 ·rw [if_pos c2] at H
  have c2b0 : (((a0.size : Int) % 2) == 0) = true := beq_iff_eq.mpr c2
  have c2b1 : (((a0.size : Int) % 2) != 0) = false := bne_eq_false_iff_eq.mpr c2
  clear c2
  have H' := Aside0.mk H
  clear H
  go_enter Tryd.func13, Tryd.ntmps13
  go_wp2
  go_loopg [4, 5] k (fun kq v4 v5 w' => ∃ (x4_1 : List Int) (x5_1 : Int), v5 = .int .i64 x5_1 ∧ Aside0 (impl_Unhex.l0 kq a0 x4_1 x5_1 = some (r1, r2)) ∧ Aside0 (kq ≤ k) ∧ Aside0 (Kd.R (Kd.int .u8) 5 w' w.heap.size (fun _ => True) v4 x4_1) ∧ Aside0 (Below w.heap.size w w'))
  case atStart => exact ⟨(([] : List Int)), (0), rs_, H', ⟨Nat.le_refl _⟩, ⟨by first | exact Kd.R_nil _ _ _ _ _ | exact Kd.N_nil _ _ _ _ _ | exact Kd.V_nil _ _ _ _ _ | exact Kd.Q_nil _ _ _ _ _ | exact Kd.S_nil _ _ _ _ _⟩, ⟨hb_ HB⟩⟩
  case round =>
   clear H'
   try clear c1
   try clear c2
   try clear c2b0
   try clear c2b1
   try clear p2
   obtain ⟨x4_1, x5_1, rfl, HA, HK1, HO_4, HB⟩ := hrel
   cases gk with
   | zero => exact absurd HA.out (by simp [impl_Unhex.l0])
   | succ k1 =>
    have H := HA.out
    clear HA
    simp only [impl_Unhex.l0] at H
    by_cases c3 : x5_1 < (a0.size : Int)
    ·rw [if_pos c3] at H
     have c3b0 : decide (x5_1 < (a0.size : Int)) = true := decide_eq_true c3
     clear c3
     by_cases c4 : 0 ≤ x5_1
     ·rw [if_pos c4] at H
      have c4b0 : decide (0 ≤ x5_1) = true := decide_eq_true c4
      clear c4
      replace H := Option.bind_eq_some_iff.mp H
      obtain ⟨t190, A60, H⟩ := H
      replace H : (if 0 ≤ (wrap64 (x5_1 + 1)) then (if (wrap64 (x5_1 + 1)) < (a0.size : Int) then ((impl_digit.f k1 (bt a0 (wrap64 (x5_1 + 1)))).bind fun t191 => (if t190 < 0 then (some ((⟨#[]⟩ : ByteArray), false)) else (if t191 < 0 then (some ((⟨#[]⟩ : ByteArray), false)) else (if x4_1.length < 140737488355328 then (impl_Unhex.l0 k1 a0 (x4_1 ++ [(wrap64 ((wrap64 (16 * t190)) + t191)) % 256]) (wrap64 (x5_1 + 2))) else (none))))) else (none)) else (none)) = some (r1, r2) := H
      have A6 := Aside0.mk A60
      clear A60
      obtain ⟨ji7, hji7⟩ : ∃ j_ : Int, (wrap64 (x5_1 + 1)) = j_ := ⟨_, rfl⟩
      replace H : (if 0 ≤ (ji7) then (if (ji7) < (a0.size : Int) then ((impl_digit.f k1 (bt a0 (ji7))).bind fun t191 => (if t190 < 0 then (some ((⟨#[]⟩ : ByteArray), false)) else (if t191 < 0 then (some ((⟨#[]⟩ : ByteArray), false)) else (if x4_1.length < 140737488355328 then (impl_Unhex.l0 k1 a0 (x4_1 ++ [(wrap64 ((wrap64 (16 * t190)) + t191)) % 256]) (wrap64 (x5_1 + 2))) else (none))))) else (none)) else (none)) = some (r1, r2) := by first | (rw [hji7] at H; exact H) | (simp only [hji7] at H ⊢; exact H)
      (try rw [hji7] at A6)
      have hji7w : (IntKind.i64.wrap (x5_1 + 1)) = ji7 := (i64_w _).trans hji7
      by_cases c8 : 0 ≤ (ji7)
      ·rw [if_pos c8] at H
       have c8b0 : decide (0 ≤ (ji7)) = true := decide_eq_true c8
       clear c8
       by_cases c9 : (ji7) < (a0.size : Int)
       ·rw [if_pos c9] at H
        have c9b0 : decide ((ji7) < (a0.size : Int)) = true := decide_eq_true c9
        clear c9
        replace H := Option.bind_eq_some_iff.mp H
        obtain ⟨t191, A110, H⟩ := H
        replace H : (if t190 < 0 then (some ((⟨#[]⟩ : ByteArray), false)) else (if t191 < 0 then (some ((⟨#[]⟩ : ByteArray), false)) else (if x4_1.length < 140737488355328 then (impl_Unhex.l0 k1 a0 (x4_1 ++ [(wrap64 ((wrap64 (16 * t190)) + t191)) % 256]) (wrap64 (x5_1 + 2))) else (none)))) = some (r1, r2) := H
        have A11 := Aside0.mk A110
        clear A110
        by_cases c12 : t190 < 0
        ·rw [if_pos c12] at H
         have c12b0 : decide (t190 < 0) = true := decide_eq_true c12
         clear c12
         simp only [Option.some.injEq, Prod.mk.injEq] at H
         obtain ⟨rfl, rfl⟩ := H
         try go_wp2
         replace HO_4 := rd_ HO_4
         replace HB := hd_ HB
         have p5 : 0 ≤ (x5_1 : Int) := of_decide_eq_true as_
         have q5 : x5_1 < (a0.size : Int) := of_decide_eq_true as_
         have hx5 := bt_at a0 x5_1
         replace p5 := eq_true p5
         replace q5 := eq_true q5
         have p10 : 0 ≤ ((ji7) : Int) := of_decide_eq_true as_
         have q10 : (ji7) < (a0.size : Int) := of_decide_eq_true as_
         have hx10 := bt_at a0 (ji7)
         replace p10 := eq_true p10
         replace q10 := eq_true q10
         refine start_ (n := 11) (S := fun w' => True) (ds := []) (on_ 0 11) (by kernel_rfl) rfl rfl trivial (fun hHeld => ?_); refine with_tabW impl_Unhex.tab7 impl_Unhex.bits7 (fun HT_ HW_ => ?_)
         generalize wr.drew = w13 at HO_4 HB hHeld ⊢
         refine pv_' 0 18 (on_ 1 10) rfl rfl HT_ ?_
         refine pv_' 1 19 (on_ 2 9) rfl rfl HT_ ?_
         refine pv_' 4 22 #[i',i',o',o',i',o',o',o',o',o',o'] rfl rfl HT_ ?_
         refine pv_' 5 23 #[i',i',o',o',i',i',o',o',o',o',o'] rfl rfl HT_ ?_
         refine pv_' 6 24 #[i',i',o',o',i',i',i',o',o',o',o'] rfl rfl HT_ ?_
         refine take_ (i := 2) (N := some 20) (v := ?_) (a' := ?_) #[i',i',i',o',i',i',i',o',o',o',o'] rfl rfl (take_ofW HT_.out HW_.out (by kernel_rfl)) (fun _ _ _ h => h) (Or.inl ⟨by rfl, ?_⟩) hHeld ?_ ?_
         rotate_left
         ·intro w' _
          go_simp
          with_reducible rfl
         rotate_left
         ·simp only [Act.put, la_, lz_, ls_, i64_w, i32_w]
          rfl
         refine take_ (i := 7) (N := some 25) (v := ?_) (a' := ?_) #[i',i',i',o',i',i',i',i',o',o',o'] rfl rfl (take_ofW HT_.out HW_.out (by kernel_rfl)) (fun _ _ _ h => h) (Or.inl ⟨by rfl, ?_⟩) hHeld ?_ ?_
         rotate_left
         ·intro w' _
          go_simp
          with_reducible rfl
         rotate_left
         ·simp only [Act.put, la_, lz_, ls_, i64_w, i32_w]
          rfl
         refine one_ (i := 3) (N := some 21) (on_ 8 3) rfl rfl (one_of HT_.out (by kernel_rfl)) (by decide) (fun K hK => ?_)
         refine goes_ Tryd.func22 (by kernel_rfl) rfl #[.int .u8 (bt a0 x5_1)] (by rfl) rfl rfl ar_ ?_
         with_reducible refine (impl_digit.calls k1 (bt a0 x5_1) t190 _ A6.out).mono ?_
         rintro e w' ⟨rfl, ⟨nd, rfl⟩⟩
         refine ⟨_, rfl, ?_⟩
         refine hK.out _ _ trivial (fun hHeld => ?_)
         clear hK K
         refine norm_ (a' := ?_) ?_ ?_
         rotate_left
         ·show Act.put _ (some 21) _ = _
          simp only [Act.put, la_, lz_, ls_, i64_w, i32_w]
          rfl
         refine one_ (i := 8) (N := some 26) (on_ 9 2) rfl rfl (one_of HT_.out (by kernel_rfl)) (by decide) (fun K hK => ?_)
         refine goes_ Tryd.func22 (by kernel_rfl) rfl #[.int .u8 (bt a0 (ji7))] (by rfl) rfl rfl (by (try simp only [List.map_toArray, List.map_cons, List.map_nil]); first | done | (simp only [hji7]; rfl) | rfl | (simp only [List.length_drop, List.length_take]; rfl)) ?_
         with_reducible refine (impl_digit.calls k1 (bt a0 (ji7)) t191 _ A11.out).mono ?_
         rintro e w' ⟨rfl, ⟨nd, rfl⟩⟩
         refine ⟨_, rfl, ?_⟩
         refine hK.out _ _ trivial (fun hHeld => ?_)
         clear hK K
         refine norm_ (a' := ?_) ?_ ?_
         rotate_left
         ·show Act.put _ (some 26) _ = _
          simp only [Act.put, la_, lz_, ls_, i64_w, i32_w]
          rfl
         refine pv_' 9 6 (on_ 10 1) rfl rfl HT_ ?_
         refine pv_' 10 7 (on_ 11 0) rfl rfl HT_ ?_
         refine done_ (done_of HT_.out (by kernel_rfl)) ?_
         have Nji7_ := Aside0.mk hji7
         clear hji7
         (try clear hji7w)
         try go_wp2
         have hji7 := Nji7_.out
         clear Nji7_
         (try have hji7w := (i64_w _).trans hji7)
         go_ret2
         exact ⟨by first | rfl | (simp [errW_none, errW_some] <;> rfl) | (simp only [← hji7]; first | rfl | (simp [errW_none, errW_some] <;> rfl)) | (simp [*, errW_none, errW_some] <;> rfl), hb_ HB⟩
        ·rw [if_neg c12] at H
         have c12b0 : decide (t190 < 0) = false := decide_eq_false c12
         clear c12
         by_cases c14 : t191 < 0
         ·rw [if_pos c14] at H
          have c14b0 : decide (t191 < 0) = true := decide_eq_true c14
          clear c14
          simp only [Option.some.injEq, Prod.mk.injEq] at H
          obtain ⟨rfl, rfl⟩ := H
          try go_wp2
          replace HO_4 := rd_ HO_4
          replace HB := hd_ HB
          have p5 : 0 ≤ (x5_1 : Int) := of_decide_eq_true as_
          have q5 : x5_1 < (a0.size : Int) := of_decide_eq_true as_
          have hx5 := bt_at a0 x5_1
          replace p5 := eq_true p5
          replace q5 := eq_true q5
          have p10 : 0 ≤ ((ji7) : Int) := of_decide_eq_true as_
          have q10 : (ji7) < (a0.size : Int) := of_decide_eq_true as_
          have hx10 := bt_at a0 (ji7)
          replace p10 := eq_true p10
          replace q10 := eq_true q10
          refine start_ (n := 11) (S := fun w' => True) (ds := []) (on_ 0 11) (by kernel_rfl) rfl rfl trivial (fun hHeld => ?_); refine with_tabW impl_Unhex.tab7 impl_Unhex.bits7 (fun HT_ HW_ => ?_)
          generalize wr.drew = w15 at HO_4 HB hHeld ⊢
          refine pv_' 0 18 (on_ 1 10) rfl rfl HT_ ?_
          refine pv_' 1 19 (on_ 2 9) rfl rfl HT_ ?_
          refine pv_' 4 22 #[i',i',o',o',i',o',o',o',o',o',o'] rfl rfl HT_ ?_
          refine pv_' 5 23 #[i',i',o',o',i',i',o',o',o',o',o'] rfl rfl HT_ ?_
          refine pv_' 6 24 #[i',i',o',o',i',i',i',o',o',o',o'] rfl rfl HT_ ?_
          refine take_ (i := 2) (N := some 20) (v := ?_) (a' := ?_) #[i',i',i',o',i',i',i',o',o',o',o'] rfl rfl (take_ofW HT_.out HW_.out (by kernel_rfl)) (fun _ _ _ h => h) (Or.inl ⟨by rfl, ?_⟩) hHeld ?_ ?_
          rotate_left
          ·intro w' _
           go_simp
           with_reducible rfl
          rotate_left
          ·simp only [Act.put, la_, lz_, ls_, i64_w, i32_w]
           rfl
          refine take_ (i := 7) (N := some 25) (v := ?_) (a' := ?_) #[i',i',i',o',i',i',i',i',o',o',o'] rfl rfl (take_ofW HT_.out HW_.out (by kernel_rfl)) (fun _ _ _ h => h) (Or.inl ⟨by rfl, ?_⟩) hHeld ?_ ?_
          rotate_left
          ·intro w' _
           go_simp
           with_reducible rfl
          rotate_left
          ·simp only [Act.put, la_, lz_, ls_, i64_w, i32_w]
           rfl
          refine one_ (i := 3) (N := some 21) (on_ 8 3) rfl rfl (one_of HT_.out (by kernel_rfl)) (by decide) (fun K hK => ?_)
          refine goes_ Tryd.func22 (by kernel_rfl) rfl #[.int .u8 (bt a0 x5_1)] (by rfl) rfl rfl ar_ ?_
          with_reducible refine (impl_digit.calls k1 (bt a0 x5_1) t190 _ A6.out).mono ?_
          rintro e w' ⟨rfl, ⟨nd, rfl⟩⟩
          refine ⟨_, rfl, ?_⟩
          refine hK.out _ _ trivial (fun hHeld => ?_)
          clear hK K
          refine norm_ (a' := ?_) ?_ ?_
          rotate_left
          ·show Act.put _ (some 21) _ = _
           simp only [Act.put, la_, lz_, ls_, i64_w, i32_w]
           rfl
          refine one_ (i := 8) (N := some 26) (on_ 9 2) rfl rfl (one_of HT_.out (by kernel_rfl)) (by decide) (fun K hK => ?_)
          refine goes_ Tryd.func22 (by kernel_rfl) rfl #[.int .u8 (bt a0 (ji7))] (by rfl) rfl rfl (by (try simp only [List.map_toArray, List.map_cons, List.map_nil]); first | done | (simp only [hji7]; rfl) | rfl | (simp only [List.length_drop, List.length_take]; rfl)) ?_
          with_reducible refine (impl_digit.calls k1 (bt a0 (ji7)) t191 _ A11.out).mono ?_
          rintro e w' ⟨rfl, ⟨nd, rfl⟩⟩
          refine ⟨_, rfl, ?_⟩
          refine hK.out _ _ trivial (fun hHeld => ?_)
          clear hK K
          refine norm_ (a' := ?_) ?_ ?_
          rotate_left
          ·show Act.put _ (some 26) _ = _
           simp only [Act.put, la_, lz_, ls_, i64_w, i32_w]
           rfl
          refine pv_' 9 6 (on_ 10 1) rfl rfl HT_ ?_
          refine pv_' 10 7 (on_ 11 0) rfl rfl HT_ ?_
          refine done_ (done_of HT_.out (by kernel_rfl)) ?_
          have Nji7_ := Aside0.mk hji7
          clear hji7
          (try clear hji7w)
          try go_wp2
          have hji7 := Nji7_.out
          clear Nji7_
          (try have hji7w := (i64_w _).trans hji7)
          go_ret2
          exact ⟨by first | rfl | (simp [errW_none, errW_some] <;> rfl) | (simp only [← hji7]; first | rfl | (simp [errW_none, errW_some] <;> rfl)) | (simp [*, errW_none, errW_some] <;> rfl), hb_ HB⟩
         ·rw [if_neg c14] at H
          have c14b0 : decide (t191 < 0) = false := decide_eq_false c14
          clear c14
          by_cases c16 : x4_1.length < 140737488355328
          ·rw [if_pos c16] at H
           have LMc16 := Aside0.mk c16
           clear c16
           obtain ⟨y192, hy192⟩ : ∃ y_ : List Int, y_ = (x4_1 ++ [(wrap64 ((wrap64 (16 * t190)) + t191)) % 256]) := ⟨_, rfl⟩
           replace H : (impl_Unhex.l0 k1 a0 y192 (wrap64 (x5_1 + 2))) = some (r1, r2) := by first | (rw [hy192]; with_reducible exact H) | (have H2_ := (Option.bind_some _ _).symm.trans H; rw [hy192]; with_reducible exact H2_) | (have H2_ := (Option.bind_some _ _).symm.trans H; with_reducible exact H2_) | with_reducible exact H | (rw [hy192]; exact H) | exact H
           have Ny192 := Aside0.mk hy192
           clear hy192
           have H' := Aside0.mk H
           clear H
           try go_wp2
           replace HO_4 := rd_ HO_4
           replace HB := hd_ HB
           have p5 : 0 ≤ (x5_1 : Int) := of_decide_eq_true as_
           have q5 : x5_1 < (a0.size : Int) := of_decide_eq_true as_
           have hx5 := bt_at a0 x5_1
           replace p5 := eq_true p5
           replace q5 := eq_true q5
           have p10 : 0 ≤ ((ji7) : Int) := of_decide_eq_true as_
           have q10 : (ji7) < (a0.size : Int) := of_decide_eq_true as_
           have hx10 := bt_at a0 (ji7)
           replace p10 := eq_true p10
           replace q10 := eq_true q10
           refine start_ (n := 11) (S := fun w' => True) (ds := []) (on_ 0 11) (by kernel_rfl) rfl rfl trivial (fun hHeld => ?_); refine with_tabW impl_Unhex.tab7 impl_Unhex.bits7 (fun HT_ HW_ => ?_)
           generalize wr.drew = w17 at HO_4 HB hHeld ⊢
           refine pv_' 0 18 (on_ 1 10) rfl rfl HT_ ?_
           refine pv_' 1 19 (on_ 2 9) rfl rfl HT_ ?_
           refine pv_' 4 22 #[i',i',o',o',i',o',o',o',o',o',o'] rfl rfl HT_ ?_
           refine pv_' 5 23 #[i',i',o',o',i',i',o',o',o',o',o'] rfl rfl HT_ ?_
           refine pv_' 6 24 #[i',i',o',o',i',i',i',o',o',o',o'] rfl rfl HT_ ?_
           refine take_ (i := 2) (N := some 20) (v := ?_) (a' := ?_) #[i',i',i',o',i',i',i',o',o',o',o'] rfl rfl (take_ofW HT_.out HW_.out (by kernel_rfl)) (fun _ _ _ h => h) (Or.inl ⟨by rfl, ?_⟩) hHeld ?_ ?_
           rotate_left
           ·intro w' _
            go_simp
            with_reducible rfl
           rotate_left
           ·simp only [Act.put, la_, lz_, ls_, i64_w, i32_w]
            rfl
           refine take_ (i := 7) (N := some 25) (v := ?_) (a' := ?_) #[i',i',i',o',i',i',i',i',o',o',o'] rfl rfl (take_ofW HT_.out HW_.out (by kernel_rfl)) (fun _ _ _ h => h) (Or.inl ⟨by rfl, ?_⟩) hHeld ?_ ?_
           rotate_left
           ·intro w' _
            go_simp
            with_reducible rfl
           rotate_left
           ·simp only [Act.put, la_, lz_, ls_, i64_w, i32_w]
            rfl
           refine one_ (i := 3) (N := some 21) (on_ 8 3) rfl rfl (one_of HT_.out (by kernel_rfl)) (by decide) (fun K hK => ?_)
           refine goes_ Tryd.func22 (by kernel_rfl) rfl #[.int .u8 (bt a0 x5_1)] (by rfl) rfl rfl ar_ ?_
           with_reducible refine (impl_digit.calls k1 (bt a0 x5_1) t190 _ A6.out).mono ?_
           rintro e w' ⟨rfl, ⟨nd, rfl⟩⟩
           refine ⟨_, rfl, ?_⟩
           refine hK.out _ _ trivial (fun hHeld => ?_)
           clear hK K
           refine norm_ (a' := ?_) ?_ ?_
           rotate_left
           ·show Act.put _ (some 21) _ = _
            simp only [Act.put, la_, lz_, ls_, i64_w, i32_w]
            rfl
           refine one_ (i := 8) (N := some 26) (on_ 9 2) rfl rfl (one_of HT_.out (by kernel_rfl)) (by decide) (fun K hK => ?_)
           refine goes_ Tryd.func22 (by kernel_rfl) rfl #[.int .u8 (bt a0 (ji7))] (by rfl) rfl rfl (by (try simp only [List.map_toArray, List.map_cons, List.map_nil]); first | done | (simp only [hji7]; rfl) | rfl | (simp only [List.length_drop, List.length_take]; rfl)) ?_
           with_reducible refine (impl_digit.calls k1 (bt a0 (ji7)) t191 _ A11.out).mono ?_
           rintro e w' ⟨rfl, ⟨nd, rfl⟩⟩
           refine ⟨_, rfl, ?_⟩
           refine hK.out _ _ trivial (fun hHeld => ?_)
           clear hK K
           refine norm_ (a' := ?_) ?_ ?_
           rotate_left
           ·show Act.put _ (some 26) _ = _
            simp only [Act.put, la_, lz_, ls_, i64_w, i32_w]
            rfl
           refine pv_' 9 6 (on_ 10 1) rfl rfl HT_ ?_
           refine pv_' 10 7 (on_ 11 0) rfl rfl HT_ ?_
           refine done_ (done_of HT_.out (by kernel_rfl)) ?_
           try go_wp2_with (first | (at_builtin; (with_reducible refine gate_builtin (b := .append) (xs := #[.tmp 33, .tmp 39]) rfl ?_); refine Kd.R_append (Kd.int .u8) (w0 := w) w.heap.size rfl (.tmp 33) (.tmp 39) 22 5 (.int .u8 0) 1 rfl Tryd.underlying22 info5 rfl (by decide) (by omega) u4 x4_1 ((wrap64 ((wrap64 (16 * t190)) + t191)) % 256) [.int .u8 ((wrap64 ((wrap64 (16 * t190)) + t191)) % 256)] (fun _ => True) (fun _ => False) rfl rfl ?aP (fun _ hk => hk.elim) ?aF ?aO ?aB ?aS ?aL ?_; (case aP => exact rfl); (case aB => exact (hb_ HB)); (case aF => exact (fun _ _ => trivial)); (case aO => exact (rr_ HO_4)); (case aS => exact (below_size (hb_ HB))); (case aL => have := LMc16.out; omega); intro v193 w18 ho hb hg hat; rw [← Ny192.out] at ho; replace HB := Aside0.mk (hb); have HO194 := Aside0.mk (ho); clear HO_4; clear ho hb hg hat))
           go_roundg k1
           case measure => have := HK1.out; first | exact this | exact Nat.le_of_succ_le this | exact Nat.le_refl _ | omega
           case rel => exact ⟨(y192), (wrap64 (x5_1 + 2)), rs_, (by first | exact H' | (simp only [hji7]; exact H')), ⟨by have := HK1.out; first | exact this | exact Nat.le_of_succ_le this | exact Nat.le_refl _ | omega⟩, ⟨rr_ HO194⟩, ⟨hb_ HB⟩⟩
          ·rw [if_neg c16] at H
           exact absurd H (by simp)
       ·rw [if_neg c9] at H
        exact absurd H (by simp)
      ·rw [if_neg c8] at H
       exact absurd H (by simp)
     ·rw [if_neg c4] at H
      exact absurd H (by simp)
    ·rw [if_neg c3] at H
     have c3b0 : decide (x5_1 < (a0.size : Int)) = false := decide_eq_false c3
     clear c3
     simp only [Option.some.injEq, Prod.mk.injEq] at H
     obtain ⟨rfl, rfl⟩ := H
     have hcv19 := own_string (P := Tryd.prog) Tryd.underlying22 Tryd.underlying5 Tryd.underlying9 (Kd.own_of_R HO_4.out)
     go_wp2
     go_ret2
     exact ⟨re_, hb_ HB⟩
 ·rw [if_neg c2] at H
  have c2b0 : (((a0.size : Int) % 2) == 0) = false := beq_eq_false_iff_ne.mpr c2
  have c2b1 : (((a0.size : Int) % 2) != 0) = true := bne_iff_ne.mpr c2
  simp only [Option.some.injEq, Prod.mk.injEq] at H
  obtain ⟨rfl, rfl⟩ := H
  go_enter Tryd.func13, Tryd.ntmps13
  go_wp2
  go_ret2
  exact ⟨re_, hb_ HB⟩

end Go.Proofs.YtnmileaeadhiaaaDoor.PFnNumbers
