-- Laid by a program of this session, a copy of the kit's printer with additions (wip/patch_print.py): myhead. Lean checks it.
import Derived.Test.YtebeafcdabkkfabPFnExactSealedx0
import Derived.Test.YtebeafcdabkkfabPFnExactSealedx2
import Derived.Test.YtebeafcdabkkfabPFnExactSealedx7
import Derived.Test.YtebeafcdabkkfabPFnExactSealedx8
import Derived.Test.YtebeafcdabkkfabPFnExactSealedx13
import Derived.Test.YtebeafcdabkkfabPFnExactSealedx14
namespace Go.Proofs.Ytebeafcdabkkfab.PFnExactSealed
open Go.RowKit Go.Proofs.YtebeafcdabkkfabW.PrintWords Go.Proofs.YtebeafcdabkkfabW.PrintLast Go.Proofs.YtebeafcdabkkfabW.PrintMore
attribute [local go_sem] max2_int min2_int max_two min_two max_three min_three max_four min_four   -- for this text's walks alone
set_option linter.unusedVariables false
set_option linter.unusedSimpArgs false

/-! ### laws_markPlaceS: function 15 -/
def laws_markPlaceS.l0 : Nat → List (S82) → Int → Int → Option (Int × (List (S82)))
 | 0, _, _, _ => none
 | k + 1, x0, x1, x5 => if x5 < (x0.length : Int) then (if 0 ≤ x5 then ((some (x0.set (x5 : Int).toNat (⟨x1, (rd_T82 x0 x5).f1, (rd_T82 x0 x5).f2, (⟨(rd_T82 x0 x5).f3.f0, (rd_T82 x0 x5).f3.f1, (rd_T82 x0 x5).f3.f2, (rd_T82 x0 x5).f3.f3, (rd_T82 x0 x5).f3.f4, (rd_T82 x0 x5).f3.f5⟩ : S47)⟩ : S82) : List (S82))).bind fun y304 => ((some (y304.set (x5 : Int).toNat (⟨(rd_T82 y304 x5).f0, wrap64 (x1 + 1), (rd_T82 y304 x5).f2, (⟨(rd_T82 y304 x5).f3.f0, (rd_T82 y304 x5).f3.f1, (rd_T82 y304 x5).f3.f2, (rd_T82 y304 x5).f3.f3, (rd_T82 y304 x5).f3.f4, (rd_T82 y304 x5).f3.f5⟩ : S47)⟩ : S82) : List (S82))).bind fun y305 => ((some (y305.set (x5 : Int).toNat (⟨(rd_T82 y305 x5).f0, (rd_T82 y305 x5).f1, wrap64 ((wrap64 (x1 + 1)) + 1), (⟨(rd_T82 y305 x5).f3.f0, (rd_T82 y305 x5).f3.f1, (rd_T82 y305 x5).f3.f2, (rd_T82 y305 x5).f3.f3, (rd_T82 y305 x5).f3.f4, (rd_T82 y305 x5).f3.f5⟩ : S47)⟩ : S82) : List (S82))).bind fun y306 => ((some (y306.set (x5 : Int).toNat (⟨(rd_T82 y306 x5).f0, (rd_T82 y306 x5).f1, (rd_T82 y306 x5).f2, (⟨wrap64 ((wrap64 ((wrap64 (x1 + 1)) + 1)) + 1), (rd_T82 y306 x5).f3.f1, (rd_T82 y306 x5).f3.f2, (rd_T82 y306 x5).f3.f3, (rd_T82 y306 x5).f3.f4, (rd_T82 y306 x5).f3.f5⟩ : S47)⟩ : S82) : List (S82))).bind fun y307 => ((some (y307.set (x5 : Int).toNat (⟨(rd_T82 y307 x5).f0, (rd_T82 y307 x5).f1, (rd_T82 y307 x5).f2, (⟨(rd_T82 y307 x5).f3.f0, wrap64 ((wrap64 ((wrap64 ((wrap64 (x1 + 1)) + 1)) + 1)) + 1), (rd_T82 y307 x5).f3.f2, (rd_T82 y307 x5).f3.f3, (rd_T82 y307 x5).f3.f4, (rd_T82 y307 x5).f3.f5⟩ : S47)⟩ : S82) : List (S82))).bind fun y308 => ((laws_markText.f k (wrap64 ((wrap64 ((wrap64 ((wrap64 ((wrap64 (x1 + 1)) + 1)) + 1)) + 1)) + 1))).bind fun t309 => ((some (y308.set (x5 : Int).toNat (⟨(rd_T82 y308 x5).f0, (rd_T82 y308 x5).f1, (rd_T82 y308 x5).f2, (⟨(rd_T82 y308 x5).f3.f0, (rd_T82 y308 x5).f3.f1, t309, (rd_T82 y308 x5).f3.f3, (rd_T82 y308 x5).f3.f4, (rd_T82 y308 x5).f3.f5⟩ : S47)⟩ : S82) : List (S82))).bind fun y310 => ((laws_markText.f k (wrap64 ((wrap64 ((wrap64 ((wrap64 ((wrap64 ((wrap64 (x1 + 1)) + 1)) + 1)) + 1)) + 1)) + 1))).bind fun t311 => ((some (y310.set (x5 : Int).toNat (⟨(rd_T82 y310 x5).f0, (rd_T82 y310 x5).f1, (rd_T82 y310 x5).f2, (⟨(rd_T82 y310 x5).f3.f0, (rd_T82 y310 x5).f3.f1, (rd_T82 y310 x5).f3.f2, t311, (rd_T82 y310 x5).f3.f4, (rd_T82 y310 x5).f3.f5⟩ : S47)⟩ : S82) : List (S82))).bind fun y312 => ((some (y312.set (x5 : Int).toNat (⟨(rd_T82 y312 x5).f0, (rd_T82 y312 x5).f1, (rd_T82 y312 x5).f2, (⟨(rd_T82 y312 x5).f3.f0, (rd_T82 y312 x5).f3.f1, (rd_T82 y312 x5).f3.f2, (rd_T82 y312 x5).f3.f3, wrap64 ((wrap64 ((wrap64 ((wrap64 ((wrap64 ((wrap64 ((wrap64 (x1 + 1)) + 1)) + 1)) + 1)) + 1)) + 1)) + 1), (rd_T82 y312 x5).f3.f5⟩ : S47)⟩ : S82) : List (S82))).bind fun y313 => (laws_markPlaceS.l0 k (y313.set (x5 : Int).toNat (⟨(rd_T82 y313 x5).f0, (rd_T82 y313 x5).f1, (rd_T82 y313 x5).f2, (⟨(rd_T82 y313 x5).f3.f0, (rd_T82 y313 x5).f3.f1, (rd_T82 y313 x5).f3.f2, (rd_T82 y313 x5).f3.f3, (rd_T82 y313 x5).f3.f4, wrap64 ((wrap64 ((wrap64 ((wrap64 ((wrap64 ((wrap64 ((wrap64 ((wrap64 (x1 + 1)) + 1)) + 1)) + 1)) + 1)) + 1)) + 1)) + 1)⟩ : S47)⟩ : S82)) (wrap64 ((wrap64 ((wrap64 ((wrap64 ((wrap64 ((wrap64 ((wrap64 ((wrap64 ((wrap64 (x1 + 1)) + 1)) + 1)) + 1)) + 1)) + 1)) + 1)) + 1)) + 1)) (wrap64 (x5 + 1))))))))))))) else (none)) else (some (x1, x0))
def laws_markPlaceS.f (k : Nat) (l0 : List (S82)) (a1 : Int) : Option (Int × (List (S82))) := laws_markPlaceS.l0 k l0 a1 0
theorem laws_markPlaceS.mono_l : ∀ k, (∀ y0 y1 y2, LeO (laws_markPlaceS.l0 k y0 y1 y2) (laws_markPlaceS.l0 (k + 1) y0 y1 y2))
 | 0 => fun _ _ _ r h => by simp [laws_markPlaceS.l0] at h
 | k + 1 => by
  have ih0 := laws_markPlaceS.mono_l k
  ·intro y0 y1 y2
   unfold laws_markPlaceS.l0
   repeat' first
   | (with_reducible exact ih0 _ _ _)
   | (with_reducible exact laws_markText.mono _ _)
   | (with_reducible exact LeO.refl _)
   | (with_reducible exact LeO.none _)
   | (with_reducible refine LeO.ite ?_ ?_)
   | (with_reducible refine LeO.bind ?_ (fun _ => ?_))
   | exact ih0 _ _ _
   | exact laws_markText.mono _ _
   | exact LeO.none _
   | refine LeO.ite ?_ ?_
   | refine LeO.bind ?_ (fun _ => ?_)
theorem laws_markPlaceS.mono : ∀ a0 a1 k, LeO (laws_markPlaceS.f k a0 a1) (laws_markPlaceS.f (k + 1) a0 a1) := by
 intro a0 a1 k
 have ih0 := laws_markPlaceS.mono_l k
 unfold laws_markPlaceS.f
 repeat' first
   | (with_reducible exact ih0 _ _ _)
   | (with_reducible exact laws_markText.mono _ _)
   | (with_reducible exact LeO.refl _)
   | (with_reducible exact LeO.none _)
   | (with_reducible refine LeO.ite ?_ ?_)
   | (with_reducible refine LeO.bind ?_ (fun _ => ?_))
   | exact ih0 _ _ _
   | exact laws_markText.mono _ _
   | exact LeO.none _
   | refine LeO.ite ?_ ?_
   | refine LeO.bind ?_ (fun _ => ?_)
set_option maxHeartbeats 8000000 in
set_option maxRecDepth 100000 in
theorem laws_markPlaceS.calls (k : Nat) (P0_ : Nat → Prop) (u9000_ : Value) (l0 : List (S82)) (a1 : Int) (r1 : Int) (r2 : List (S82)) (w0 w : World) (hB : Below w0.heap.size w0 w) (ho0 : Kd.R k82 82 w w0.heap.size P0_ u9000_ l0) (h : laws_markPlaceS.f k l0 a1 = some (r1, r2)) :
  Calls Try.prog 15 #[u9000_, .int .i64 a1] w fun e w' => e = .returned (.int .i64 r1) ∧ Kd.R k82 82 w' w0.heap.size (fun k_ => (P0_ k_ ∨ w.heap.size ≤ k_)) u9000_ r2 ∧ Below w0.heap.size w0 w' ∧ Kept w w' (fun k_ => P0_ k_) := by
 have HO0 := Aside0.mk (show Kd.R k82 82 w w0.heap.size (fun k_ => (P0_ k_ ∨ w.heap.size ≤ k_)) u9000_ l0 from Kd.R_mono ho0 (fun k_ hk => (.inl hk)))
 have HK := Aside0.mk (Kept.refl w (fun k_ => P0_ k_))
 have HW0 := Aside0.mk hB.size
 have HB := Aside0.mk hB
 clear hB
 have H : (laws_markPlaceS.l0 k l0 a1 0) = some (r1, r2) := h
 clear h
 have H' := Aside0.mk H
 clear H
 go_enter Try.func15, Try.ntmps15
 go_wp2
 go_loopg [1, 5] k (fun kq v1 v5 w' => ∃ (x0_1 : List (S82)) (x1_1 : Int) (x5_1 : Int), v1 = .int .i64 x1_1 ∧ v5 = .int .i64 x5_1 ∧ Aside0 (laws_markPlaceS.l0 kq x0_1 x1_1 x5_1 = some (r1, r2)) ∧ Aside0 (kq ≤ k) ∧ Aside0 (Kd.R k82 82 w' w0.heap.size (fun k_ => (P0_ k_ ∨ w.heap.size ≤ k_)) u9000_ x0_1) ∧ Aside0 (Kept w w' (fun k_ => P0_ k_)) ∧ Aside0 (Below w0.heap.size w0 w'))
 case atStart => exact ⟨(l0), (a1), (0), rs_, rs_, H', ⟨Nat.le_refl _⟩, ⟨rr_ HO0⟩, ⟨by repeat (first | (with_reducible first | exact HK.out | apply Kept.alloc | apply Kept.drewN | apply Kept.drew) | exact HK.out)⟩, ⟨hb_ HB⟩⟩
 case round =>
  clear H'
  try clear c1
  try clear p2
  obtain ⟨x0_1, x1_1, x5_1, rfl, rfl, HA, HK1, HO_0, HK, HB⟩ := hrel
  cases gk with
  | zero => exact absurd HA.out (by simp [laws_markPlaceS.l0])
  | succ k1 =>
   have H := HA.out
   clear HA
   simp only [laws_markPlaceS.l0] at H
   by_cases c3 : x5_1 < (x0_1.length : Int)
   ·rw [if_pos c3] at H
    have c3b0 : decide (x5_1 < (x0_1.length : Int)) = true := decide_eq_true c3
    clear c3
    by_cases c4 : 0 ≤ x5_1
    ·rw [if_pos c4] at H
     have c4b0 : decide (0 ≤ x5_1) = true := decide_eq_true c4
     clear c4
     obtain ⟨y304, hy304⟩ : ∃ y_ : List (S82), y_ = (x0_1.set (x5_1 : Int).toNat (⟨x1_1, (rd_T82 x0_1 x5_1).f1, (rd_T82 x0_1 x5_1).f2, (⟨(rd_T82 x0_1 x5_1).f3.f0, (rd_T82 x0_1 x5_1).f3.f1, (rd_T82 x0_1 x5_1).f3.f2, (rd_T82 x0_1 x5_1).f3.f3, (rd_T82 x0_1 x5_1).f3.f4, (rd_T82 x0_1 x5_1).f3.f5⟩ : S47)⟩ : S82)) := ⟨_, rfl⟩
     replace H : ((some (y304.set (x5_1 : Int).toNat (⟨(rd_T82 y304 x5_1).f0, wrap64 (x1_1 + 1), (rd_T82 y304 x5_1).f2, (⟨(rd_T82 y304 x5_1).f3.f0, (rd_T82 y304 x5_1).f3.f1, (rd_T82 y304 x5_1).f3.f2, (rd_T82 y304 x5_1).f3.f3, (rd_T82 y304 x5_1).f3.f4, (rd_T82 y304 x5_1).f3.f5⟩ : S47)⟩ : S82) : List (S82))).bind fun y305 => ((some (y305.set (x5_1 : Int).toNat (⟨(rd_T82 y305 x5_1).f0, (rd_T82 y305 x5_1).f1, wrap64 ((wrap64 (x1_1 + 1)) + 1), (⟨(rd_T82 y305 x5_1).f3.f0, (rd_T82 y305 x5_1).f3.f1, (rd_T82 y305 x5_1).f3.f2, (rd_T82 y305 x5_1).f3.f3, (rd_T82 y305 x5_1).f3.f4, (rd_T82 y305 x5_1).f3.f5⟩ : S47)⟩ : S82) : List (S82))).bind fun y306 => ((some (y306.set (x5_1 : Int).toNat (⟨(rd_T82 y306 x5_1).f0, (rd_T82 y306 x5_1).f1, (rd_T82 y306 x5_1).f2, (⟨wrap64 ((wrap64 ((wrap64 (x1_1 + 1)) + 1)) + 1), (rd_T82 y306 x5_1).f3.f1, (rd_T82 y306 x5_1).f3.f2, (rd_T82 y306 x5_1).f3.f3, (rd_T82 y306 x5_1).f3.f4, (rd_T82 y306 x5_1).f3.f5⟩ : S47)⟩ : S82) : List (S82))).bind fun y307 => ((some (y307.set (x5_1 : Int).toNat (⟨(rd_T82 y307 x5_1).f0, (rd_T82 y307 x5_1).f1, (rd_T82 y307 x5_1).f2, (⟨(rd_T82 y307 x5_1).f3.f0, wrap64 ((wrap64 ((wrap64 ((wrap64 (x1_1 + 1)) + 1)) + 1)) + 1), (rd_T82 y307 x5_1).f3.f2, (rd_T82 y307 x5_1).f3.f3, (rd_T82 y307 x5_1).f3.f4, (rd_T82 y307 x5_1).f3.f5⟩ : S47)⟩ : S82) : List (S82))).bind fun y308 => ((laws_markText.f k1 (wrap64 ((wrap64 ((wrap64 ((wrap64 ((wrap64 (x1_1 + 1)) + 1)) + 1)) + 1)) + 1))).bind fun t309 => ((some (y308.set (x5_1 : Int).toNat (⟨(rd_T82 y308 x5_1).f0, (rd_T82 y308 x5_1).f1, (rd_T82 y308 x5_1).f2, (⟨(rd_T82 y308 x5_1).f3.f0, (rd_T82 y308 x5_1).f3.f1, t309, (rd_T82 y308 x5_1).f3.f3, (rd_T82 y308 x5_1).f3.f4, (rd_T82 y308 x5_1).f3.f5⟩ : S47)⟩ : S82) : List (S82))).bind fun y310 => ((laws_markText.f k1 (wrap64 ((wrap64 ((wrap64 ((wrap64 ((wrap64 ((wrap64 (x1_1 + 1)) + 1)) + 1)) + 1)) + 1)) + 1))).bind fun t311 => ((some (y310.set (x5_1 : Int).toNat (⟨(rd_T82 y310 x5_1).f0, (rd_T82 y310 x5_1).f1, (rd_T82 y310 x5_1).f2, (⟨(rd_T82 y310 x5_1).f3.f0, (rd_T82 y310 x5_1).f3.f1, (rd_T82 y310 x5_1).f3.f2, t311, (rd_T82 y310 x5_1).f3.f4, (rd_T82 y310 x5_1).f3.f5⟩ : S47)⟩ : S82) : List (S82))).bind fun y312 => ((some (y312.set (x5_1 : Int).toNat (⟨(rd_T82 y312 x5_1).f0, (rd_T82 y312 x5_1).f1, (rd_T82 y312 x5_1).f2, (⟨(rd_T82 y312 x5_1).f3.f0, (rd_T82 y312 x5_1).f3.f1, (rd_T82 y312 x5_1).f3.f2, (rd_T82 y312 x5_1).f3.f3, wrap64 ((wrap64 ((wrap64 ((wrap64 ((wrap64 ((wrap64 ((wrap64 (x1_1 + 1)) + 1)) + 1)) + 1)) + 1)) + 1)) + 1), (rd_T82 y312 x5_1).f3.f5⟩ : S47)⟩ : S82) : List (S82))).bind fun y313 => (laws_markPlaceS.l0 k1 (y313.set (x5_1 : Int).toNat (⟨(rd_T82 y313 x5_1).f0, (rd_T82 y313 x5_1).f1, (rd_T82 y313 x5_1).f2, (⟨(rd_T82 y313 x5_1).f3.f0, (rd_T82 y313 x5_1).f3.f1, (rd_T82 y313 x5_1).f3.f2, (rd_T82 y313 x5_1).f3.f3, (rd_T82 y313 x5_1).f3.f4, wrap64 ((wrap64 ((wrap64 ((wrap64 ((wrap64 ((wrap64 ((wrap64 ((wrap64 (x1_1 + 1)) + 1)) + 1)) + 1)) + 1)) + 1)) + 1)) + 1)⟩ : S47)⟩ : S82)) (wrap64 ((wrap64 ((wrap64 ((wrap64 ((wrap64 ((wrap64 ((wrap64 ((wrap64 ((wrap64 (x1_1 + 1)) + 1)) + 1)) + 1)) + 1)) + 1)) + 1)) + 1)) + 1)) (wrap64 (x5_1 + 1)))))))))))) = some (r1, r2) := by first | (rw [hy304]; with_reducible exact H) | (have H2_ := (Option.bind_some _ _).symm.trans H; rw [hy304]; with_reducible exact H2_) | (have H2_ := (Option.bind_some _ _).symm.trans H; with_reducible exact H2_) | with_reducible exact H | (rw [hy304]; exact H) | exact H
     have Ny304 := Aside0.mk hy304
     clear hy304
     obtain ⟨y305, hy305⟩ : ∃ y_ : List (S82), y_ = (y304.set (x5_1 : Int).toNat (⟨(rd_T82 y304 x5_1).f0, wrap64 (x1_1 + 1), (rd_T82 y304 x5_1).f2, (⟨(rd_T82 y304 x5_1).f3.f0, (rd_T82 y304 x5_1).f3.f1, (rd_T82 y304 x5_1).f3.f2, (rd_T82 y304 x5_1).f3.f3, (rd_T82 y304 x5_1).f3.f4, (rd_T82 y304 x5_1).f3.f5⟩ : S47)⟩ : S82)) := ⟨_, rfl⟩
     replace H : ((some (y305.set (x5_1 : Int).toNat (⟨(rd_T82 y305 x5_1).f0, (rd_T82 y305 x5_1).f1, wrap64 ((wrap64 (x1_1 + 1)) + 1), (⟨(rd_T82 y305 x5_1).f3.f0, (rd_T82 y305 x5_1).f3.f1, (rd_T82 y305 x5_1).f3.f2, (rd_T82 y305 x5_1).f3.f3, (rd_T82 y305 x5_1).f3.f4, (rd_T82 y305 x5_1).f3.f5⟩ : S47)⟩ : S82) : List (S82))).bind fun y306 => ((some (y306.set (x5_1 : Int).toNat (⟨(rd_T82 y306 x5_1).f0, (rd_T82 y306 x5_1).f1, (rd_T82 y306 x5_1).f2, (⟨wrap64 ((wrap64 ((wrap64 (x1_1 + 1)) + 1)) + 1), (rd_T82 y306 x5_1).f3.f1, (rd_T82 y306 x5_1).f3.f2, (rd_T82 y306 x5_1).f3.f3, (rd_T82 y306 x5_1).f3.f4, (rd_T82 y306 x5_1).f3.f5⟩ : S47)⟩ : S82) : List (S82))).bind fun y307 => ((some (y307.set (x5_1 : Int).toNat (⟨(rd_T82 y307 x5_1).f0, (rd_T82 y307 x5_1).f1, (rd_T82 y307 x5_1).f2, (⟨(rd_T82 y307 x5_1).f3.f0, wrap64 ((wrap64 ((wrap64 ((wrap64 (x1_1 + 1)) + 1)) + 1)) + 1), (rd_T82 y307 x5_1).f3.f2, (rd_T82 y307 x5_1).f3.f3, (rd_T82 y307 x5_1).f3.f4, (rd_T82 y307 x5_1).f3.f5⟩ : S47)⟩ : S82) : List (S82))).bind fun y308 => ((laws_markText.f k1 (wrap64 ((wrap64 ((wrap64 ((wrap64 ((wrap64 (x1_1 + 1)) + 1)) + 1)) + 1)) + 1))).bind fun t309 => ((some (y308.set (x5_1 : Int).toNat (⟨(rd_T82 y308 x5_1).f0, (rd_T82 y308 x5_1).f1, (rd_T82 y308 x5_1).f2, (⟨(rd_T82 y308 x5_1).f3.f0, (rd_T82 y308 x5_1).f3.f1, t309, (rd_T82 y308 x5_1).f3.f3, (rd_T82 y308 x5_1).f3.f4, (rd_T82 y308 x5_1).f3.f5⟩ : S47)⟩ : S82) : List (S82))).bind fun y310 => ((laws_markText.f k1 (wrap64 ((wrap64 ((wrap64 ((wrap64 ((wrap64 ((wrap64 (x1_1 + 1)) + 1)) + 1)) + 1)) + 1)) + 1))).bind fun t311 => ((some (y310.set (x5_1 : Int).toNat (⟨(rd_T82 y310 x5_1).f0, (rd_T82 y310 x5_1).f1, (rd_T82 y310 x5_1).f2, (⟨(rd_T82 y310 x5_1).f3.f0, (rd_T82 y310 x5_1).f3.f1, (rd_T82 y310 x5_1).f3.f2, t311, (rd_T82 y310 x5_1).f3.f4, (rd_T82 y310 x5_1).f3.f5⟩ : S47)⟩ : S82) : List (S82))).bind fun y312 => ((some (y312.set (x5_1 : Int).toNat (⟨(rd_T82 y312 x5_1).f0, (rd_T82 y312 x5_1).f1, (rd_T82 y312 x5_1).f2, (⟨(rd_T82 y312 x5_1).f3.f0, (rd_T82 y312 x5_1).f3.f1, (rd_T82 y312 x5_1).f3.f2, (rd_T82 y312 x5_1).f3.f3, wrap64 ((wrap64 ((wrap64 ((wrap64 ((wrap64 ((wrap64 ((wrap64 (x1_1 + 1)) + 1)) + 1)) + 1)) + 1)) + 1)) + 1), (rd_T82 y312 x5_1).f3.f5⟩ : S47)⟩ : S82) : List (S82))).bind fun y313 => (laws_markPlaceS.l0 k1 (y313.set (x5_1 : Int).toNat (⟨(rd_T82 y313 x5_1).f0, (rd_T82 y313 x5_1).f1, (rd_T82 y313 x5_1).f2, (⟨(rd_T82 y313 x5_1).f3.f0, (rd_T82 y313 x5_1).f3.f1, (rd_T82 y313 x5_1).f3.f2, (rd_T82 y313 x5_1).f3.f3, (rd_T82 y313 x5_1).f3.f4, wrap64 ((wrap64 ((wrap64 ((wrap64 ((wrap64 ((wrap64 ((wrap64 ((wrap64 (x1_1 + 1)) + 1)) + 1)) + 1)) + 1)) + 1)) + 1)) + 1)⟩ : S47)⟩ : S82)) (wrap64 ((wrap64 ((wrap64 ((wrap64 ((wrap64 ((wrap64 ((wrap64 ((wrap64 ((wrap64 (x1_1 + 1)) + 1)) + 1)) + 1)) + 1)) + 1)) + 1)) + 1)) + 1)) (wrap64 (x5_1 + 1))))))))))) = some (r1, r2) := by first | (rw [hy305]; with_reducible exact H) | (have H2_ := (Option.bind_some _ _).symm.trans H; rw [hy305]; with_reducible exact H2_) | (have H2_ := (Option.bind_some _ _).symm.trans H; with_reducible exact H2_) | with_reducible exact H | (rw [hy305]; exact H) | exact H
     have Ny305 := Aside0.mk hy305
     clear hy305
     obtain ⟨y306, hy306⟩ : ∃ y_ : List (S82), y_ = (y305.set (x5_1 : Int).toNat (⟨(rd_T82 y305 x5_1).f0, (rd_T82 y305 x5_1).f1, wrap64 ((wrap64 (x1_1 + 1)) + 1), (⟨(rd_T82 y305 x5_1).f3.f0, (rd_T82 y305 x5_1).f3.f1, (rd_T82 y305 x5_1).f3.f2, (rd_T82 y305 x5_1).f3.f3, (rd_T82 y305 x5_1).f3.f4, (rd_T82 y305 x5_1).f3.f5⟩ : S47)⟩ : S82)) := ⟨_, rfl⟩
     replace H : ((some (y306.set (x5_1 : Int).toNat (⟨(rd_T82 y306 x5_1).f0, (rd_T82 y306 x5_1).f1, (rd_T82 y306 x5_1).f2, (⟨wrap64 ((wrap64 ((wrap64 (x1_1 + 1)) + 1)) + 1), (rd_T82 y306 x5_1).f3.f1, (rd_T82 y306 x5_1).f3.f2, (rd_T82 y306 x5_1).f3.f3, (rd_T82 y306 x5_1).f3.f4, (rd_T82 y306 x5_1).f3.f5⟩ : S47)⟩ : S82) : List (S82))).bind fun y307 => ((some (y307.set (x5_1 : Int).toNat (⟨(rd_T82 y307 x5_1).f0, (rd_T82 y307 x5_1).f1, (rd_T82 y307 x5_1).f2, (⟨(rd_T82 y307 x5_1).f3.f0, wrap64 ((wrap64 ((wrap64 ((wrap64 (x1_1 + 1)) + 1)) + 1)) + 1), (rd_T82 y307 x5_1).f3.f2, (rd_T82 y307 x5_1).f3.f3, (rd_T82 y307 x5_1).f3.f4, (rd_T82 y307 x5_1).f3.f5⟩ : S47)⟩ : S82) : List (S82))).bind fun y308 => ((laws_markText.f k1 (wrap64 ((wrap64 ((wrap64 ((wrap64 ((wrap64 (x1_1 + 1)) + 1)) + 1)) + 1)) + 1))).bind fun t309 => ((some (y308.set (x5_1 : Int).toNat (⟨(rd_T82 y308 x5_1).f0, (rd_T82 y308 x5_1).f1, (rd_T82 y308 x5_1).f2, (⟨(rd_T82 y308 x5_1).f3.f0, (rd_T82 y308 x5_1).f3.f1, t309, (rd_T82 y308 x5_1).f3.f3, (rd_T82 y308 x5_1).f3.f4, (rd_T82 y308 x5_1).f3.f5⟩ : S47)⟩ : S82) : List (S82))).bind fun y310 => ((laws_markText.f k1 (wrap64 ((wrap64 ((wrap64 ((wrap64 ((wrap64 ((wrap64 (x1_1 + 1)) + 1)) + 1)) + 1)) + 1)) + 1))).bind fun t311 => ((some (y310.set (x5_1 : Int).toNat (⟨(rd_T82 y310 x5_1).f0, (rd_T82 y310 x5_1).f1, (rd_T82 y310 x5_1).f2, (⟨(rd_T82 y310 x5_1).f3.f0, (rd_T82 y310 x5_1).f3.f1, (rd_T82 y310 x5_1).f3.f2, t311, (rd_T82 y310 x5_1).f3.f4, (rd_T82 y310 x5_1).f3.f5⟩ : S47)⟩ : S82) : List (S82))).bind fun y312 => ((some (y312.set (x5_1 : Int).toNat (⟨(rd_T82 y312 x5_1).f0, (rd_T82 y312 x5_1).f1, (rd_T82 y312 x5_1).f2, (⟨(rd_T82 y312 x5_1).f3.f0, (rd_T82 y312 x5_1).f3.f1, (rd_T82 y312 x5_1).f3.f2, (rd_T82 y312 x5_1).f3.f3, wrap64 ((wrap64 ((wrap64 ((wrap64 ((wrap64 ((wrap64 ((wrap64 (x1_1 + 1)) + 1)) + 1)) + 1)) + 1)) + 1)) + 1), (rd_T82 y312 x5_1).f3.f5⟩ : S47)⟩ : S82) : List (S82))).bind fun y313 => (laws_markPlaceS.l0 k1 (y313.set (x5_1 : Int).toNat (⟨(rd_T82 y313 x5_1).f0, (rd_T82 y313 x5_1).f1, (rd_T82 y313 x5_1).f2, (⟨(rd_T82 y313 x5_1).f3.f0, (rd_T82 y313 x5_1).f3.f1, (rd_T82 y313 x5_1).f3.f2, (rd_T82 y313 x5_1).f3.f3, (rd_T82 y313 x5_1).f3.f4, wrap64 ((wrap64 ((wrap64 ((wrap64 ((wrap64 ((wrap64 ((wrap64 ((wrap64 (x1_1 + 1)) + 1)) + 1)) + 1)) + 1)) + 1)) + 1)) + 1)⟩ : S47)⟩ : S82)) (wrap64 ((wrap64 ((wrap64 ((wrap64 ((wrap64 ((wrap64 ((wrap64 ((wrap64 ((wrap64 (x1_1 + 1)) + 1)) + 1)) + 1)) + 1)) + 1)) + 1)) + 1)) + 1)) (wrap64 (x5_1 + 1)))))))))) = some (r1, r2) := by first | (rw [hy306]; with_reducible exact H) | (have H2_ := (Option.bind_some _ _).symm.trans H; rw [hy306]; with_reducible exact H2_) | (have H2_ := (Option.bind_some _ _).symm.trans H; with_reducible exact H2_) | with_reducible exact H | (rw [hy306]; exact H) | exact H
     have Ny306 := Aside0.mk hy306
     clear hy306
     obtain ⟨y307, hy307⟩ : ∃ y_ : List (S82), y_ = (y306.set (x5_1 : Int).toNat (⟨(rd_T82 y306 x5_1).f0, (rd_T82 y306 x5_1).f1, (rd_T82 y306 x5_1).f2, (⟨wrap64 ((wrap64 ((wrap64 (x1_1 + 1)) + 1)) + 1), (rd_T82 y306 x5_1).f3.f1, (rd_T82 y306 x5_1).f3.f2, (rd_T82 y306 x5_1).f3.f3, (rd_T82 y306 x5_1).f3.f4, (rd_T82 y306 x5_1).f3.f5⟩ : S47)⟩ : S82)) := ⟨_, rfl⟩
     replace H : ((some (y307.set (x5_1 : Int).toNat (⟨(rd_T82 y307 x5_1).f0, (rd_T82 y307 x5_1).f1, (rd_T82 y307 x5_1).f2, (⟨(rd_T82 y307 x5_1).f3.f0, wrap64 ((wrap64 ((wrap64 ((wrap64 (x1_1 + 1)) + 1)) + 1)) + 1), (rd_T82 y307 x5_1).f3.f2, (rd_T82 y307 x5_1).f3.f3, (rd_T82 y307 x5_1).f3.f4, (rd_T82 y307 x5_1).f3.f5⟩ : S47)⟩ : S82) : List (S82))).bind fun y308 => ((laws_markText.f k1 (wrap64 ((wrap64 ((wrap64 ((wrap64 ((wrap64 (x1_1 + 1)) + 1)) + 1)) + 1)) + 1))).bind fun t309 => ((some (y308.set (x5_1 : Int).toNat (⟨(rd_T82 y308 x5_1).f0, (rd_T82 y308 x5_1).f1, (rd_T82 y308 x5_1).f2, (⟨(rd_T82 y308 x5_1).f3.f0, (rd_T82 y308 x5_1).f3.f1, t309, (rd_T82 y308 x5_1).f3.f3, (rd_T82 y308 x5_1).f3.f4, (rd_T82 y308 x5_1).f3.f5⟩ : S47)⟩ : S82) : List (S82))).bind fun y310 => ((laws_markText.f k1 (wrap64 ((wrap64 ((wrap64 ((wrap64 ((wrap64 ((wrap64 (x1_1 + 1)) + 1)) + 1)) + 1)) + 1)) + 1))).bind fun t311 => ((some (y310.set (x5_1 : Int).toNat (⟨(rd_T82 y310 x5_1).f0, (rd_T82 y310 x5_1).f1, (rd_T82 y310 x5_1).f2, (⟨(rd_T82 y310 x5_1).f3.f0, (rd_T82 y310 x5_1).f3.f1, (rd_T82 y310 x5_1).f3.f2, t311, (rd_T82 y310 x5_1).f3.f4, (rd_T82 y310 x5_1).f3.f5⟩ : S47)⟩ : S82) : List (S82))).bind fun y312 => ((some (y312.set (x5_1 : Int).toNat (⟨(rd_T82 y312 x5_1).f0, (rd_T82 y312 x5_1).f1, (rd_T82 y312 x5_1).f2, (⟨(rd_T82 y312 x5_1).f3.f0, (rd_T82 y312 x5_1).f3.f1, (rd_T82 y312 x5_1).f3.f2, (rd_T82 y312 x5_1).f3.f3, wrap64 ((wrap64 ((wrap64 ((wrap64 ((wrap64 ((wrap64 ((wrap64 (x1_1 + 1)) + 1)) + 1)) + 1)) + 1)) + 1)) + 1), (rd_T82 y312 x5_1).f3.f5⟩ : S47)⟩ : S82) : List (S82))).bind fun y313 => (laws_markPlaceS.l0 k1 (y313.set (x5_1 : Int).toNat (⟨(rd_T82 y313 x5_1).f0, (rd_T82 y313 x5_1).f1, (rd_T82 y313 x5_1).f2, (⟨(rd_T82 y313 x5_1).f3.f0, (rd_T82 y313 x5_1).f3.f1, (rd_T82 y313 x5_1).f3.f2, (rd_T82 y313 x5_1).f3.f3, (rd_T82 y313 x5_1).f3.f4, wrap64 ((wrap64 ((wrap64 ((wrap64 ((wrap64 ((wrap64 ((wrap64 ((wrap64 (x1_1 + 1)) + 1)) + 1)) + 1)) + 1)) + 1)) + 1)) + 1)⟩ : S47)⟩ : S82)) (wrap64 ((wrap64 ((wrap64 ((wrap64 ((wrap64 ((wrap64 ((wrap64 ((wrap64 ((wrap64 (x1_1 + 1)) + 1)) + 1)) + 1)) + 1)) + 1)) + 1)) + 1)) + 1)) (wrap64 (x5_1 + 1))))))))) = some (r1, r2) := by first | (rw [hy307]; with_reducible exact H) | (have H2_ := (Option.bind_some _ _).symm.trans H; rw [hy307]; with_reducible exact H2_) | (have H2_ := (Option.bind_some _ _).symm.trans H; with_reducible exact H2_) | with_reducible exact H | (rw [hy307]; exact H) | exact H
     have Ny307 := Aside0.mk hy307
     clear hy307
     obtain ⟨y308, hy308⟩ : ∃ y_ : List (S82), y_ = (y307.set (x5_1 : Int).toNat (⟨(rd_T82 y307 x5_1).f0, (rd_T82 y307 x5_1).f1, (rd_T82 y307 x5_1).f2, (⟨(rd_T82 y307 x5_1).f3.f0, wrap64 ((wrap64 ((wrap64 ((wrap64 (x1_1 + 1)) + 1)) + 1)) + 1), (rd_T82 y307 x5_1).f3.f2, (rd_T82 y307 x5_1).f3.f3, (rd_T82 y307 x5_1).f3.f4, (rd_T82 y307 x5_1).f3.f5⟩ : S47)⟩ : S82)) := ⟨_, rfl⟩
     replace H : ((laws_markText.f k1 (wrap64 ((wrap64 ((wrap64 ((wrap64 ((wrap64 (x1_1 + 1)) + 1)) + 1)) + 1)) + 1))).bind fun t309 => ((some (y308.set (x5_1 : Int).toNat (⟨(rd_T82 y308 x5_1).f0, (rd_T82 y308 x5_1).f1, (rd_T82 y308 x5_1).f2, (⟨(rd_T82 y308 x5_1).f3.f0, (rd_T82 y308 x5_1).f3.f1, t309, (rd_T82 y308 x5_1).f3.f3, (rd_T82 y308 x5_1).f3.f4, (rd_T82 y308 x5_1).f3.f5⟩ : S47)⟩ : S82) : List (S82))).bind fun y310 => ((laws_markText.f k1 (wrap64 ((wrap64 ((wrap64 ((wrap64 ((wrap64 ((wrap64 (x1_1 + 1)) + 1)) + 1)) + 1)) + 1)) + 1))).bind fun t311 => ((some (y310.set (x5_1 : Int).toNat (⟨(rd_T82 y310 x5_1).f0, (rd_T82 y310 x5_1).f1, (rd_T82 y310 x5_1).f2, (⟨(rd_T82 y310 x5_1).f3.f0, (rd_T82 y310 x5_1).f3.f1, (rd_T82 y310 x5_1).f3.f2, t311, (rd_T82 y310 x5_1).f3.f4, (rd_T82 y310 x5_1).f3.f5⟩ : S47)⟩ : S82) : List (S82))).bind fun y312 => ((some (y312.set (x5_1 : Int).toNat (⟨(rd_T82 y312 x5_1).f0, (rd_T82 y312 x5_1).f1, (rd_T82 y312 x5_1).f2, (⟨(rd_T82 y312 x5_1).f3.f0, (rd_T82 y312 x5_1).f3.f1, (rd_T82 y312 x5_1).f3.f2, (rd_T82 y312 x5_1).f3.f3, wrap64 ((wrap64 ((wrap64 ((wrap64 ((wrap64 ((wrap64 ((wrap64 (x1_1 + 1)) + 1)) + 1)) + 1)) + 1)) + 1)) + 1), (rd_T82 y312 x5_1).f3.f5⟩ : S47)⟩ : S82) : List (S82))).bind fun y313 => (laws_markPlaceS.l0 k1 (y313.set (x5_1 : Int).toNat (⟨(rd_T82 y313 x5_1).f0, (rd_T82 y313 x5_1).f1, (rd_T82 y313 x5_1).f2, (⟨(rd_T82 y313 x5_1).f3.f0, (rd_T82 y313 x5_1).f3.f1, (rd_T82 y313 x5_1).f3.f2, (rd_T82 y313 x5_1).f3.f3, (rd_T82 y313 x5_1).f3.f4, wrap64 ((wrap64 ((wrap64 ((wrap64 ((wrap64 ((wrap64 ((wrap64 ((wrap64 (x1_1 + 1)) + 1)) + 1)) + 1)) + 1)) + 1)) + 1)) + 1)⟩ : S47)⟩ : S82)) (wrap64 ((wrap64 ((wrap64 ((wrap64 ((wrap64 ((wrap64 ((wrap64 ((wrap64 ((wrap64 (x1_1 + 1)) + 1)) + 1)) + 1)) + 1)) + 1)) + 1)) + 1)) + 1)) (wrap64 (x5_1 + 1)))))))) = some (r1, r2) := by first | (rw [hy308]; with_reducible exact H) | (have H2_ := (Option.bind_some _ _).symm.trans H; rw [hy308]; with_reducible exact H2_) | (have H2_ := (Option.bind_some _ _).symm.trans H; with_reducible exact H2_) | with_reducible exact H | (rw [hy308]; exact H) | exact H
     have Ny308 := Aside0.mk hy308
     clear hy308
     replace H := Option.bind_eq_some_iff.mp H
     obtain ⟨t309, A100, H⟩ := H
     replace H : ((some (y308.set (x5_1 : Int).toNat (⟨(rd_T82 y308 x5_1).f0, (rd_T82 y308 x5_1).f1, (rd_T82 y308 x5_1).f2, (⟨(rd_T82 y308 x5_1).f3.f0, (rd_T82 y308 x5_1).f3.f1, t309, (rd_T82 y308 x5_1).f3.f3, (rd_T82 y308 x5_1).f3.f4, (rd_T82 y308 x5_1).f3.f5⟩ : S47)⟩ : S82) : List (S82))).bind fun y310 => ((laws_markText.f k1 (wrap64 ((wrap64 ((wrap64 ((wrap64 ((wrap64 ((wrap64 (x1_1 + 1)) + 1)) + 1)) + 1)) + 1)) + 1))).bind fun t311 => ((some (y310.set (x5_1 : Int).toNat (⟨(rd_T82 y310 x5_1).f0, (rd_T82 y310 x5_1).f1, (rd_T82 y310 x5_1).f2, (⟨(rd_T82 y310 x5_1).f3.f0, (rd_T82 y310 x5_1).f3.f1, (rd_T82 y310 x5_1).f3.f2, t311, (rd_T82 y310 x5_1).f3.f4, (rd_T82 y310 x5_1).f3.f5⟩ : S47)⟩ : S82) : List (S82))).bind fun y312 => ((some (y312.set (x5_1 : Int).toNat (⟨(rd_T82 y312 x5_1).f0, (rd_T82 y312 x5_1).f1, (rd_T82 y312 x5_1).f2, (⟨(rd_T82 y312 x5_1).f3.f0, (rd_T82 y312 x5_1).f3.f1, (rd_T82 y312 x5_1).f3.f2, (rd_T82 y312 x5_1).f3.f3, wrap64 ((wrap64 ((wrap64 ((wrap64 ((wrap64 ((wrap64 ((wrap64 (x1_1 + 1)) + 1)) + 1)) + 1)) + 1)) + 1)) + 1), (rd_T82 y312 x5_1).f3.f5⟩ : S47)⟩ : S82) : List (S82))).bind fun y313 => (laws_markPlaceS.l0 k1 (y313.set (x5_1 : Int).toNat (⟨(rd_T82 y313 x5_1).f0, (rd_T82 y313 x5_1).f1, (rd_T82 y313 x5_1).f2, (⟨(rd_T82 y313 x5_1).f3.f0, (rd_T82 y313 x5_1).f3.f1, (rd_T82 y313 x5_1).f3.f2, (rd_T82 y313 x5_1).f3.f3, (rd_T82 y313 x5_1).f3.f4, wrap64 ((wrap64 ((wrap64 ((wrap64 ((wrap64 ((wrap64 ((wrap64 ((wrap64 (x1_1 + 1)) + 1)) + 1)) + 1)) + 1)) + 1)) + 1)) + 1)⟩ : S47)⟩ : S82)) (wrap64 ((wrap64 ((wrap64 ((wrap64 ((wrap64 ((wrap64 ((wrap64 ((wrap64 ((wrap64 (x1_1 + 1)) + 1)) + 1)) + 1)) + 1)) + 1)) + 1)) + 1)) + 1)) (wrap64 (x5_1 + 1))))))) = some (r1, r2) := H
     have A10 := Aside0.mk A100
     clear A100
     obtain ⟨y310, hy310⟩ : ∃ y_ : List (S82), y_ = (y308.set (x5_1 : Int).toNat (⟨(rd_T82 y308 x5_1).f0, (rd_T82 y308 x5_1).f1, (rd_T82 y308 x5_1).f2, (⟨(rd_T82 y308 x5_1).f3.f0, (rd_T82 y308 x5_1).f3.f1, t309, (rd_T82 y308 x5_1).f3.f3, (rd_T82 y308 x5_1).f3.f4, (rd_T82 y308 x5_1).f3.f5⟩ : S47)⟩ : S82)) := ⟨_, rfl⟩
     replace H : ((laws_markText.f k1 (wrap64 ((wrap64 ((wrap64 ((wrap64 ((wrap64 ((wrap64 (x1_1 + 1)) + 1)) + 1)) + 1)) + 1)) + 1))).bind fun t311 => ((some (y310.set (x5_1 : Int).toNat (⟨(rd_T82 y310 x5_1).f0, (rd_T82 y310 x5_1).f1, (rd_T82 y310 x5_1).f2, (⟨(rd_T82 y310 x5_1).f3.f0, (rd_T82 y310 x5_1).f3.f1, (rd_T82 y310 x5_1).f3.f2, t311, (rd_T82 y310 x5_1).f3.f4, (rd_T82 y310 x5_1).f3.f5⟩ : S47)⟩ : S82) : List (S82))).bind fun y312 => ((some (y312.set (x5_1 : Int).toNat (⟨(rd_T82 y312 x5_1).f0, (rd_T82 y312 x5_1).f1, (rd_T82 y312 x5_1).f2, (⟨(rd_T82 y312 x5_1).f3.f0, (rd_T82 y312 x5_1).f3.f1, (rd_T82 y312 x5_1).f3.f2, (rd_T82 y312 x5_1).f3.f3, wrap64 ((wrap64 ((wrap64 ((wrap64 ((wrap64 ((wrap64 ((wrap64 (x1_1 + 1)) + 1)) + 1)) + 1)) + 1)) + 1)) + 1), (rd_T82 y312 x5_1).f3.f5⟩ : S47)⟩ : S82) : List (S82))).bind fun y313 => (laws_markPlaceS.l0 k1 (y313.set (x5_1 : Int).toNat (⟨(rd_T82 y313 x5_1).f0, (rd_T82 y313 x5_1).f1, (rd_T82 y313 x5_1).f2, (⟨(rd_T82 y313 x5_1).f3.f0, (rd_T82 y313 x5_1).f3.f1, (rd_T82 y313 x5_1).f3.f2, (rd_T82 y313 x5_1).f3.f3, (rd_T82 y313 x5_1).f3.f4, wrap64 ((wrap64 ((wrap64 ((wrap64 ((wrap64 ((wrap64 ((wrap64 ((wrap64 (x1_1 + 1)) + 1)) + 1)) + 1)) + 1)) + 1)) + 1)) + 1)⟩ : S47)⟩ : S82)) (wrap64 ((wrap64 ((wrap64 ((wrap64 ((wrap64 ((wrap64 ((wrap64 ((wrap64 ((wrap64 (x1_1 + 1)) + 1)) + 1)) + 1)) + 1)) + 1)) + 1)) + 1)) + 1)) (wrap64 (x5_1 + 1)))))) = some (r1, r2) := by first | (rw [hy310]; with_reducible exact H) | (have H2_ := (Option.bind_some _ _).symm.trans H; rw [hy310]; with_reducible exact H2_) | (have H2_ := (Option.bind_some _ _).symm.trans H; with_reducible exact H2_) | with_reducible exact H | (rw [hy310]; exact H) | exact H
     have Ny310 := Aside0.mk hy310
     clear hy310
     replace H := Option.bind_eq_some_iff.mp H
     obtain ⟨t311, A120, H⟩ := H
     replace H : ((some (y310.set (x5_1 : Int).toNat (⟨(rd_T82 y310 x5_1).f0, (rd_T82 y310 x5_1).f1, (rd_T82 y310 x5_1).f2, (⟨(rd_T82 y310 x5_1).f3.f0, (rd_T82 y310 x5_1).f3.f1, (rd_T82 y310 x5_1).f3.f2, t311, (rd_T82 y310 x5_1).f3.f4, (rd_T82 y310 x5_1).f3.f5⟩ : S47)⟩ : S82) : List (S82))).bind fun y312 => ((some (y312.set (x5_1 : Int).toNat (⟨(rd_T82 y312 x5_1).f0, (rd_T82 y312 x5_1).f1, (rd_T82 y312 x5_1).f2, (⟨(rd_T82 y312 x5_1).f3.f0, (rd_T82 y312 x5_1).f3.f1, (rd_T82 y312 x5_1).f3.f2, (rd_T82 y312 x5_1).f3.f3, wrap64 ((wrap64 ((wrap64 ((wrap64 ((wrap64 ((wrap64 ((wrap64 (x1_1 + 1)) + 1)) + 1)) + 1)) + 1)) + 1)) + 1), (rd_T82 y312 x5_1).f3.f5⟩ : S47)⟩ : S82) : List (S82))).bind fun y313 => (laws_markPlaceS.l0 k1 (y313.set (x5_1 : Int).toNat (⟨(rd_T82 y313 x5_1).f0, (rd_T82 y313 x5_1).f1, (rd_T82 y313 x5_1).f2, (⟨(rd_T82 y313 x5_1).f3.f0, (rd_T82 y313 x5_1).f3.f1, (rd_T82 y313 x5_1).f3.f2, (rd_T82 y313 x5_1).f3.f3, (rd_T82 y313 x5_1).f3.f4, wrap64 ((wrap64 ((wrap64 ((wrap64 ((wrap64 ((wrap64 ((wrap64 ((wrap64 (x1_1 + 1)) + 1)) + 1)) + 1)) + 1)) + 1)) + 1)) + 1)⟩ : S47)⟩ : S82)) (wrap64 ((wrap64 ((wrap64 ((wrap64 ((wrap64 ((wrap64 ((wrap64 ((wrap64 ((wrap64 (x1_1 + 1)) + 1)) + 1)) + 1)) + 1)) + 1)) + 1)) + 1)) + 1)) (wrap64 (x5_1 + 1))))) = some (r1, r2) := H
     have A12 := Aside0.mk A120
     clear A120
     obtain ⟨y312, hy312⟩ : ∃ y_ : List (S82), y_ = (y310.set (x5_1 : Int).toNat (⟨(rd_T82 y310 x5_1).f0, (rd_T82 y310 x5_1).f1, (rd_T82 y310 x5_1).f2, (⟨(rd_T82 y310 x5_1).f3.f0, (rd_T82 y310 x5_1).f3.f1, (rd_T82 y310 x5_1).f3.f2, t311, (rd_T82 y310 x5_1).f3.f4, (rd_T82 y310 x5_1).f3.f5⟩ : S47)⟩ : S82)) := ⟨_, rfl⟩
     replace H : ((some (y312.set (x5_1 : Int).toNat (⟨(rd_T82 y312 x5_1).f0, (rd_T82 y312 x5_1).f1, (rd_T82 y312 x5_1).f2, (⟨(rd_T82 y312 x5_1).f3.f0, (rd_T82 y312 x5_1).f3.f1, (rd_T82 y312 x5_1).f3.f2, (rd_T82 y312 x5_1).f3.f3, wrap64 ((wrap64 ((wrap64 ((wrap64 ((wrap64 ((wrap64 ((wrap64 (x1_1 + 1)) + 1)) + 1)) + 1)) + 1)) + 1)) + 1), (rd_T82 y312 x5_1).f3.f5⟩ : S47)⟩ : S82) : List (S82))).bind fun y313 => (laws_markPlaceS.l0 k1 (y313.set (x5_1 : Int).toNat (⟨(rd_T82 y313 x5_1).f0, (rd_T82 y313 x5_1).f1, (rd_T82 y313 x5_1).f2, (⟨(rd_T82 y313 x5_1).f3.f0, (rd_T82 y313 x5_1).f3.f1, (rd_T82 y313 x5_1).f3.f2, (rd_T82 y313 x5_1).f3.f3, (rd_T82 y313 x5_1).f3.f4, wrap64 ((wrap64 ((wrap64 ((wrap64 ((wrap64 ((wrap64 ((wrap64 ((wrap64 (x1_1 + 1)) + 1)) + 1)) + 1)) + 1)) + 1)) + 1)) + 1)⟩ : S47)⟩ : S82)) (wrap64 ((wrap64 ((wrap64 ((wrap64 ((wrap64 ((wrap64 ((wrap64 ((wrap64 ((wrap64 (x1_1 + 1)) + 1)) + 1)) + 1)) + 1)) + 1)) + 1)) + 1)) + 1)) (wrap64 (x5_1 + 1)))) = some (r1, r2) := by first | (rw [hy312]; with_reducible exact H) | (have H2_ := (Option.bind_some _ _).symm.trans H; rw [hy312]; with_reducible exact H2_) | (have H2_ := (Option.bind_some _ _).symm.trans H; with_reducible exact H2_) | with_reducible exact H | (rw [hy312]; exact H) | exact H
     have Ny312 := Aside0.mk hy312
     clear hy312
     obtain ⟨y313, hy313⟩ : ∃ y_ : List (S82), y_ = (y312.set (x5_1 : Int).toNat (⟨(rd_T82 y312 x5_1).f0, (rd_T82 y312 x5_1).f1, (rd_T82 y312 x5_1).f2, (⟨(rd_T82 y312 x5_1).f3.f0, (rd_T82 y312 x5_1).f3.f1, (rd_T82 y312 x5_1).f3.f2, (rd_T82 y312 x5_1).f3.f3, wrap64 ((wrap64 ((wrap64 ((wrap64 ((wrap64 ((wrap64 ((wrap64 (x1_1 + 1)) + 1)) + 1)) + 1)) + 1)) + 1)) + 1), (rd_T82 y312 x5_1).f3.f5⟩ : S47)⟩ : S82)) := ⟨_, rfl⟩
     replace H : (laws_markPlaceS.l0 k1 (y313.set (x5_1 : Int).toNat (⟨(rd_T82 y313 x5_1).f0, (rd_T82 y313 x5_1).f1, (rd_T82 y313 x5_1).f2, (⟨(rd_T82 y313 x5_1).f3.f0, (rd_T82 y313 x5_1).f3.f1, (rd_T82 y313 x5_1).f3.f2, (rd_T82 y313 x5_1).f3.f3, (rd_T82 y313 x5_1).f3.f4, wrap64 ((wrap64 ((wrap64 ((wrap64 ((wrap64 ((wrap64 ((wrap64 ((wrap64 (x1_1 + 1)) + 1)) + 1)) + 1)) + 1)) + 1)) + 1)) + 1)⟩ : S47)⟩ : S82)) (wrap64 ((wrap64 ((wrap64 ((wrap64 ((wrap64 ((wrap64 ((wrap64 ((wrap64 ((wrap64 (x1_1 + 1)) + 1)) + 1)) + 1)) + 1)) + 1)) + 1)) + 1)) + 1)) (wrap64 (x5_1 + 1))) = some (r1, r2) := by first | (rw [hy313]; with_reducible exact H) | (have H2_ := (Option.bind_some _ _).symm.trans H; rw [hy313]; with_reducible exact H2_) | (have H2_ := (Option.bind_some _ _).symm.trans H; with_reducible exact H2_) | with_reducible exact H | (rw [hy313]; exact H) | exact H
     have Ny313 := Aside0.mk hy313
     clear hy313
     obtain ⟨y314, hy314⟩ : ∃ y_ : List (S82), y_ = (y313.set (x5_1 : Int).toNat (⟨(rd_T82 y313 x5_1).f0, (rd_T82 y313 x5_1).f1, (rd_T82 y313 x5_1).f2, (⟨(rd_T82 y313 x5_1).f3.f0, (rd_T82 y313 x5_1).f3.f1, (rd_T82 y313 x5_1).f3.f2, (rd_T82 y313 x5_1).f3.f3, (rd_T82 y313 x5_1).f3.f4, wrap64 ((wrap64 ((wrap64 ((wrap64 ((wrap64 ((wrap64 ((wrap64 ((wrap64 (x1_1 + 1)) + 1)) + 1)) + 1)) + 1)) + 1)) + 1)) + 1)⟩ : S47)⟩ : S82)) := ⟨_, rfl⟩
     replace H : (laws_markPlaceS.l0 k1 y314 (wrap64 ((wrap64 ((wrap64 ((wrap64 ((wrap64 ((wrap64 ((wrap64 ((wrap64 ((wrap64 (x1_1 + 1)) + 1)) + 1)) + 1)) + 1)) + 1)) + 1)) + 1)) + 1)) (wrap64 (x5_1 + 1))) = some (r1, r2) := by first | (rw [hy314]; with_reducible exact H) | (have H2_ := (Option.bind_some _ _).symm.trans H; rw [hy314]; with_reducible exact H2_) | (have H2_ := (Option.bind_some _ _).symm.trans H; with_reducible exact H2_) | with_reducible exact H | (rw [hy314]; exact H) | exact H
     have Ny314 := Aside0.mk hy314
     clear hy314
     have H' := Aside0.mk H
     clear H
     obtain ⟨Ao16, co16, eo16⟩ := Kd.R_slice HO_0.out
     subst eo16
     have p5 : 0 ≤ (x5_1 : Int) := of_decide_eq_true as_
     have q5 : (x5_1 : Int) < ((x0_1.length : Int) : Int) := of_decide_eq_true as_
     obtain ⟨go5, co5, eo5, gb5, gl5, cl5, HG5⟩ := Kd.R_form HO_0.out (by omega)
     (first | cases eo5 | (injection eo5 with ea_ en_ ec_; (first | subst ea_ | (injection ea_ with ea_; subst ea_)); subst ec_; clear en_))
     have GB5 := Aside0.mk gb5
     have GG5 := Aside0.mk HG5
     clear gb5 gl5 HG5
     have HMgo5 := Aside0.mk (show (P0_ go5 ∨ w.heap.size ≤ go5) from (HO_0.out.1 _ rfl))
     obtain ⟨ce5, hcl5, hM5, hcc5, hfr5⟩ := Kd.R_elem HO_0.out z82 (x5_1 : Int) p5 q5
     obtain rfl := k82_openM hM5
     have hx5_0 : wr.cell? ⟨go5, (x5_1 : Int).toNat * 9, none⟩ = some (.int .i64 ((rd_T82 x0_1 x5_1).f0)) := hcc5 0 _ rfl
     have hx5_1 : wr.cell? ⟨go5, (x5_1 : Int).toNat * 9 + 1, none⟩ = some (.int .i64 ((rd_T82 x0_1 x5_1).f1)) := hcc5 1 _ rfl
     have hx5_2 : wr.cell? ⟨go5, (x5_1 : Int).toNat * 9 + 2, none⟩ = some (.int .i64 ((rd_T82 x0_1 x5_1).f2)) := hcc5 2 _ rfl
     have hx5_3 : wr.cell? ⟨go5, (x5_1 : Int).toNat * 9 + 3, none⟩ = some (.int .i64 ((rd_T82 x0_1 x5_1).f3.f0)) := hcc5 3 _ rfl
     have hx5_4 : wr.cell? ⟨go5, (x5_1 : Int).toNat * 9 + 4, none⟩ = some (.int .i64 ((rd_T82 x0_1 x5_1).f3.f1)) := hcc5 4 _ rfl
     have hx5_5 : wr.cell? ⟨go5, (x5_1 : Int).toNat * 9 + 5, none⟩ = some (.string ((rd_T82 x0_1 x5_1).f3.f2)) := hcc5 5 _ rfl
     have hx5_6 : wr.cell? ⟨go5, (x5_1 : Int).toNat * 9 + 6, none⟩ = some (.string ((rd_T82 x0_1 x5_1).f3.f3)) := hcc5 6 _ rfl
     have hx5_7 : wr.cell? ⟨go5, (x5_1 : Int).toNat * 9 + 7, none⟩ = some (.int .i64 ((rd_T82 x0_1 x5_1).f3.f4)) := hcc5 7 _ rfl
     have hx5_8 : wr.cell? ⟨go5, (x5_1 : Int).toNat * 9 + 8, none⟩ = some (.int .i64 ((rd_T82 x0_1 x5_1).f3.f5)) := hcc5 8 _ rfl
     have hf5_0 : wr.frozen? ⟨go5, (x5_1 : Int).toNat * 9, none⟩ = false := hfr5 0
     have hf5_1 : wr.frozen? ⟨go5, (x5_1 : Int).toNat * 9 + 1, none⟩ = false := hfr5 1
     have hf5_2 : wr.frozen? ⟨go5, (x5_1 : Int).toNat * 9 + 2, none⟩ = false := hfr5 2
     have hf5_3 : wr.frozen? ⟨go5, (x5_1 : Int).toNat * 9 + 3, none⟩ = false := hfr5 3
     have hf5_4 : wr.frozen? ⟨go5, (x5_1 : Int).toNat * 9 + 4, none⟩ = false := hfr5 4
     have hf5_5 : wr.frozen? ⟨go5, (x5_1 : Int).toNat * 9 + 5, none⟩ = false := hfr5 5
     have hf5_6 : wr.frozen? ⟨go5, (x5_1 : Int).toNat * 9 + 6, none⟩ = false := hfr5 6
     have hf5_7 : wr.frozen? ⟨go5, (x5_1 : Int).toNat * 9 + 7, none⟩ = false := hfr5 7
     have hf5_8 : wr.frozen? ⟨go5, (x5_1 : Int).toNat * 9 + 8, none⟩ = false := hfr5 8
     clear hcl5 hcc5 hfr5 hM5
     replace p5 := eq_true p5
     replace q5 := eq_true q5
     have HX17 := Aside0.mk (show Kd.R k82 82 wr w0.heap.size (fun k_ => (P0_ k_ ∨ w.heap.size ≤ k_)) (.slice (some ⟨go5, 0, none⟩) x0_1.length co16) x0_1 from (rr_ HO_0))
     obtain ⟨ce17, hcl17, hM17, hcc17, hfr17⟩ := Kd.R_elem HX17.out z82 (x5_1 : Int) (of_decide_eq_true as_) (by have h_ : (x5_1 : Int) < ((x0_1.length : Int) : Int) := of_decide_eq_true as_; first | exact h_ | (have e_ := (Kd.R_reads' HO_0.out).1; omega) | simpa using h_)
     obtain rfl := k82_openM hM17
     have HP17 := Kd.R_seg HX17.out (x5_1 : Int) (of_decide_eq_true as_) (by have h_ : (x5_1 : Int) < ((x0_1.length : Int) : Int) := of_decide_eq_true as_; first | exact h_ | (have e_ := (Kd.R_reads' HO_0.out).1; omega) | simpa using h_) (seg := [.int .i64 x1_1]) (j := 0) hcl17 hcc17 (show 1 ≤ 9 from by decide) (x' := (⟨x1_1, (rd_T82 x0_1 x5_1).f1, (rd_T82 x0_1 x5_1).f2, (⟨(rd_T82 x0_1 x5_1).f3.f0, (rd_T82 x0_1 x5_1).f3.f1, (rd_T82 x0_1 x5_1).f3.f2, (rd_T82 x0_1 x5_1).f3.f3, (rd_T82 x0_1 x5_1).f3.f4, (rd_T82 x0_1 x5_1).f3.f5⟩ : S47)⟩ : S82)) (k82_mkM _ _ _ (⟨x1_1, (rd_T82 x0_1 x5_1).f1, (rd_T82 x0_1 x5_1).f2, (⟨(rd_T82 x0_1 x5_1).f3.f0, (rd_T82 x0_1 x5_1).f3.f1, (rd_T82 x0_1 x5_1).f3.f2, (rd_T82 x0_1 x5_1).f3.f3, (rd_T82 x0_1 x5_1).f3.f4, (rd_T82 x0_1 x5_1).f3.f5⟩ : S47)⟩ : S82) ) (fun _ hk => hk)
     have hx17_0 := hcc17 0 _ rfl
     (try simp only [show (k82).sz = 9 from rfl, Nat.mul_one, Nat.add_zero] at hx17_0)
     have hf17_0 := hfr17 0
     (try simp only [show (k82).sz = 9 from rfl, Nat.mul_one, Nat.add_zero] at hf17_0)
     clear hcl17 hcc17 hfr17 hM17
     go_wp2_with (first | ((with_reducible refine gate_store (t := 3) (p := 16) rfl ?_); refine store_event (t := 3) (p := 16) (v := ?vo_w18) (w1 := (wr.setCell ⟨go5, (x5_1 : Int).toNat * 9, none⟩ (.int .i64 x1_1))) ?hg ?ho ?hn ?hr ?_; (case ho => rfl); (case hg => rfl); (case hn => rfl); (case hr => first | (go_simp; done) | (go_simp; rfl)); intro w18 hw; have hg : wr.grownBy w18 (some go5) := (by rw [hw]; exact HP17.2); have hp_ : Kd.R k82 82 w18 w0.heap.size (fun k_ => (P0_ k_ ∨ w.heap.size ≤ k_)) (.slice (some ⟨go5, 0, none⟩) x0_1.length co16) y304 := (by rw [hw, Ny304.out]; exact HP17.1); clear HP17; have n0_ := Aside0.mk (hp_); have n1_ := Aside0.mk ((by rw [hw]; exact below_set (HB.out) GB5.out : Below w0.heap.size w0 w18)); have n2_ := Aside0.mk (Kept.of_grown (S := (fun k_ => P0_ k_)) hg (by repeat (first | (with_reducible first | exact HK.out | apply Kept.alloc | apply Kept.drewN | apply Kept.drew) | exact HK.out)) (fun k_ e_ => (HO_0.out.1 k_ e_))); clear HO_0; clear HB; clear HK; have HO_0 := n0_; have HB := n1_; have HK := n2_; clear n0_ n1_ n2_; clear hg hw hp_; have p6 : 0 ≤ (x5_1 : Int) := of_decide_eq_true as_; have q6 : (x5_1 : Int) < ((x0_1.length : Int) : Int) := of_decide_eq_true as_; obtain ⟨ce6, hcl6, hM6, hcc6, hfr6⟩ := Kd.R_elem HO_0.out z82 (x5_1 : Int) p6 q6; obtain rfl := k82_openM hM6; have hx6_0 : w18.cell? ⟨go5, (x5_1 : Int).toNat * 9, none⟩ = some (.int .i64 ((rd_T82 y304 x5_1).f0)) := hcc6 0 _ rfl; have hx6_1 : w18.cell? ⟨go5, (x5_1 : Int).toNat * 9 + 1, none⟩ = some (.int .i64 ((rd_T82 y304 x5_1).f1)) := hcc6 1 _ rfl; have hx6_2 : w18.cell? ⟨go5, (x5_1 : Int).toNat * 9 + 2, none⟩ = some (.int .i64 ((rd_T82 y304 x5_1).f2)) := hcc6 2 _ rfl; have hx6_3 : w18.cell? ⟨go5, (x5_1 : Int).toNat * 9 + 3, none⟩ = some (.int .i64 ((rd_T82 y304 x5_1).f3.f0)) := hcc6 3 _ rfl; have hx6_4 : w18.cell? ⟨go5, (x5_1 : Int).toNat * 9 + 4, none⟩ = some (.int .i64 ((rd_T82 y304 x5_1).f3.f1)) := hcc6 4 _ rfl; have hx6_5 : w18.cell? ⟨go5, (x5_1 : Int).toNat * 9 + 5, none⟩ = some (.string ((rd_T82 y304 x5_1).f3.f2)) := hcc6 5 _ rfl; have hx6_6 : w18.cell? ⟨go5, (x5_1 : Int).toNat * 9 + 6, none⟩ = some (.string ((rd_T82 y304 x5_1).f3.f3)) := hcc6 6 _ rfl; have hx6_7 : w18.cell? ⟨go5, (x5_1 : Int).toNat * 9 + 7, none⟩ = some (.int .i64 ((rd_T82 y304 x5_1).f3.f4)) := hcc6 7 _ rfl; have hx6_8 : w18.cell? ⟨go5, (x5_1 : Int).toNat * 9 + 8, none⟩ = some (.int .i64 ((rd_T82 y304 x5_1).f3.f5)) := hcc6 8 _ rfl; have hf6_0 : w18.frozen? ⟨go5, (x5_1 : Int).toNat * 9, none⟩ = false := hfr6 0; have hf6_1 : w18.frozen? ⟨go5, (x5_1 : Int).toNat * 9 + 1, none⟩ = false := hfr6 1; have hf6_2 : w18.frozen? ⟨go5, (x5_1 : Int).toNat * 9 + 2, none⟩ = false := hfr6 2; have hf6_3 : w18.frozen? ⟨go5, (x5_1 : Int).toNat * 9 + 3, none⟩ = false := hfr6 3; have hf6_4 : w18.frozen? ⟨go5, (x5_1 : Int).toNat * 9 + 4, none⟩ = false := hfr6 4; have hf6_5 : w18.frozen? ⟨go5, (x5_1 : Int).toNat * 9 + 5, none⟩ = false := hfr6 5; have hf6_6 : w18.frozen? ⟨go5, (x5_1 : Int).toNat * 9 + 6, none⟩ = false := hfr6 6; have hf6_7 : w18.frozen? ⟨go5, (x5_1 : Int).toNat * 9 + 7, none⟩ = false := hfr6 7; have hf6_8 : w18.frozen? ⟨go5, (x5_1 : Int).toNat * 9 + 8, none⟩ = false := hfr6 8; clear hcl6 hcc6 hfr6 hM6; replace p6 := eq_true p6; replace q6 := eq_true q6; have HX19 := Aside0.mk (show Kd.R k82 82 w18 w0.heap.size (fun k_ => (P0_ k_ ∨ w.heap.size ≤ k_)) (.slice (some ⟨go5, 0, none⟩) x0_1.length co16) y304 from (rr_ HO_0)); obtain ⟨ce19, hcl19, hM19, hcc19, hfr19⟩ := Kd.R_elem HX19.out z82 (x5_1 : Int) (of_decide_eq_true as_) (by have h_ : (x5_1 : Int) < ((x0_1.length : Int) : Int) := of_decide_eq_true as_; first | exact h_ | (have e_ := (Kd.R_reads' HO_0.out).1; omega) | simpa using h_); obtain rfl := k82_openM hM19; have HP19 := Kd.R_seg HX19.out (x5_1 : Int) (of_decide_eq_true as_) (by have h_ : (x5_1 : Int) < ((x0_1.length : Int) : Int) := of_decide_eq_true as_; first | exact h_ | (have e_ := (Kd.R_reads' HO_0.out).1; omega) | simpa using h_) (seg := [.int .i64 (wrap64 (x1_1 + 1))]) (j := 1) hcl19 hcc19 (show 2 ≤ 9 from by decide) (x' := (⟨(rd_T82 y304 x5_1).f0, wrap64 (x1_1 + 1), (rd_T82 y304 x5_1).f2, (⟨(rd_T82 y304 x5_1).f3.f0, (rd_T82 y304 x5_1).f3.f1, (rd_T82 y304 x5_1).f3.f2, (rd_T82 y304 x5_1).f3.f3, (rd_T82 y304 x5_1).f3.f4, (rd_T82 y304 x5_1).f3.f5⟩ : S47)⟩ : S82)) (k82_mkM _ _ _ (⟨(rd_T82 y304 x5_1).f0, wrap64 (x1_1 + 1), (rd_T82 y304 x5_1).f2, (⟨(rd_T82 y304 x5_1).f3.f0, (rd_T82 y304 x5_1).f3.f1, (rd_T82 y304 x5_1).f3.f2, (rd_T82 y304 x5_1).f3.f3, (rd_T82 y304 x5_1).f3.f4, (rd_T82 y304 x5_1).f3.f5⟩ : S47)⟩ : S82) ) (fun _ hk => hk); have hx19_1 := hcc19 1 _ rfl; (try simp only [show (k82).sz = 9 from rfl, Nat.mul_one, Nat.add_zero] at hx19_1); have hf19_1 := hfr19 1; (try simp only [show (k82).sz = 9 from rfl, Nat.mul_one, Nat.add_zero] at hf19_1); clear hcl19 hcc19 hfr19 hM19) | ((with_reducible refine gate_store (t := 3) (p := 23) rfl ?_); refine store_event (t := 3) (p := 23) (v := ?vo_w20) (w1 := (w18.setCell ⟨go5, (x5_1 : Int).toNat * 9 + 1, none⟩ (.int .i64 (wrap64 (x1_1 + 1))))) ?hg ?ho ?hn ?hr ?_; (case ho => rfl); (case hg => rfl); (case hn => rfl); (case hr => first | (go_simp; done) | (go_simp; rfl)); intro w20 hw; have hg : w18.grownBy w20 (some go5) := (by rw [hw]; exact HP19.2); have hp_ : Kd.R k82 82 w20 w0.heap.size (fun k_ => (P0_ k_ ∨ w.heap.size ≤ k_)) (.slice (some ⟨go5, 0, none⟩) x0_1.length co16) y305 := (by rw [hw, Ny305.out]; exact HP19.1); clear HP19; have n0_ := Aside0.mk (hp_); have n1_ := Aside0.mk ((by rw [hw]; exact below_set (HB.out) GB5.out : Below w0.heap.size w0 w20)); have n2_ := Aside0.mk (Kept.of_grown (S := (fun k_ => P0_ k_)) hg (by repeat (first | (with_reducible first | exact HK.out | apply Kept.alloc | apply Kept.drewN | apply Kept.drew) | exact HK.out)) (fun k_ e_ => (HO_0.out.1 k_ e_))); clear HO_0; clear HB; clear HK; have HO_0 := n0_; have HB := n1_; have HK := n2_; clear n0_ n1_ n2_; clear hg hw hp_; have p7 : 0 ≤ (x5_1 : Int) := of_decide_eq_true as_; have q7 : (x5_1 : Int) < ((x0_1.length : Int) : Int) := of_decide_eq_true as_; obtain ⟨ce7, hcl7, hM7, hcc7, hfr7⟩ := Kd.R_elem HO_0.out z82 (x5_1 : Int) p7 q7; obtain rfl := k82_openM hM7; have hx7_0 : w20.cell? ⟨go5, (x5_1 : Int).toNat * 9, none⟩ = some (.int .i64 ((rd_T82 y305 x5_1).f0)) := hcc7 0 _ rfl; have hx7_1 : w20.cell? ⟨go5, (x5_1 : Int).toNat * 9 + 1, none⟩ = some (.int .i64 ((rd_T82 y305 x5_1).f1)) := hcc7 1 _ rfl; have hx7_2 : w20.cell? ⟨go5, (x5_1 : Int).toNat * 9 + 2, none⟩ = some (.int .i64 ((rd_T82 y305 x5_1).f2)) := hcc7 2 _ rfl; have hx7_3 : w20.cell? ⟨go5, (x5_1 : Int).toNat * 9 + 3, none⟩ = some (.int .i64 ((rd_T82 y305 x5_1).f3.f0)) := hcc7 3 _ rfl; have hx7_4 : w20.cell? ⟨go5, (x5_1 : Int).toNat * 9 + 4, none⟩ = some (.int .i64 ((rd_T82 y305 x5_1).f3.f1)) := hcc7 4 _ rfl; have hx7_5 : w20.cell? ⟨go5, (x5_1 : Int).toNat * 9 + 5, none⟩ = some (.string ((rd_T82 y305 x5_1).f3.f2)) := hcc7 5 _ rfl; have hx7_6 : w20.cell? ⟨go5, (x5_1 : Int).toNat * 9 + 6, none⟩ = some (.string ((rd_T82 y305 x5_1).f3.f3)) := hcc7 6 _ rfl; have hx7_7 : w20.cell? ⟨go5, (x5_1 : Int).toNat * 9 + 7, none⟩ = some (.int .i64 ((rd_T82 y305 x5_1).f3.f4)) := hcc7 7 _ rfl; have hx7_8 : w20.cell? ⟨go5, (x5_1 : Int).toNat * 9 + 8, none⟩ = some (.int .i64 ((rd_T82 y305 x5_1).f3.f5)) := hcc7 8 _ rfl; have hf7_0 : w20.frozen? ⟨go5, (x5_1 : Int).toNat * 9, none⟩ = false := hfr7 0; have hf7_1 : w20.frozen? ⟨go5, (x5_1 : Int).toNat * 9 + 1, none⟩ = false := hfr7 1; have hf7_2 : w20.frozen? ⟨go5, (x5_1 : Int).toNat * 9 + 2, none⟩ = false := hfr7 2; have hf7_3 : w20.frozen? ⟨go5, (x5_1 : Int).toNat * 9 + 3, none⟩ = false := hfr7 3; have hf7_4 : w20.frozen? ⟨go5, (x5_1 : Int).toNat * 9 + 4, none⟩ = false := hfr7 4; have hf7_5 : w20.frozen? ⟨go5, (x5_1 : Int).toNat * 9 + 5, none⟩ = false := hfr7 5; have hf7_6 : w20.frozen? ⟨go5, (x5_1 : Int).toNat * 9 + 6, none⟩ = false := hfr7 6; have hf7_7 : w20.frozen? ⟨go5, (x5_1 : Int).toNat * 9 + 7, none⟩ = false := hfr7 7; have hf7_8 : w20.frozen? ⟨go5, (x5_1 : Int).toNat * 9 + 8, none⟩ = false := hfr7 8; clear hcl7 hcc7 hfr7 hM7; replace p7 := eq_true p7; replace q7 := eq_true q7; have HX21 := Aside0.mk (show Kd.R k82 82 w20 w0.heap.size (fun k_ => (P0_ k_ ∨ w.heap.size ≤ k_)) (.slice (some ⟨go5, 0, none⟩) x0_1.length co16) y305 from (rr_ HO_0)); obtain ⟨ce21, hcl21, hM21, hcc21, hfr21⟩ := Kd.R_elem HX21.out z82 (x5_1 : Int) (of_decide_eq_true as_) (by have h_ : (x5_1 : Int) < ((x0_1.length : Int) : Int) := of_decide_eq_true as_; first | exact h_ | (have e_ := (Kd.R_reads' HO_0.out).1; omega) | simpa using h_); obtain rfl := k82_openM hM21; have HP21 := Kd.R_seg HX21.out (x5_1 : Int) (of_decide_eq_true as_) (by have h_ : (x5_1 : Int) < ((x0_1.length : Int) : Int) := of_decide_eq_true as_; first | exact h_ | (have e_ := (Kd.R_reads' HO_0.out).1; omega) | simpa using h_) (seg := [.int .i64 (wrap64 ((wrap64 (x1_1 + 1)) + 1))]) (j := 2) hcl21 hcc21 (show 3 ≤ 9 from by decide) (x' := (⟨(rd_T82 y305 x5_1).f0, (rd_T82 y305 x5_1).f1, wrap64 ((wrap64 (x1_1 + 1)) + 1), (⟨(rd_T82 y305 x5_1).f3.f0, (rd_T82 y305 x5_1).f3.f1, (rd_T82 y305 x5_1).f3.f2, (rd_T82 y305 x5_1).f3.f3, (rd_T82 y305 x5_1).f3.f4, (rd_T82 y305 x5_1).f3.f5⟩ : S47)⟩ : S82)) (k82_mkM _ _ _ (⟨(rd_T82 y305 x5_1).f0, (rd_T82 y305 x5_1).f1, wrap64 ((wrap64 (x1_1 + 1)) + 1), (⟨(rd_T82 y305 x5_1).f3.f0, (rd_T82 y305 x5_1).f3.f1, (rd_T82 y305 x5_1).f3.f2, (rd_T82 y305 x5_1).f3.f3, (rd_T82 y305 x5_1).f3.f4, (rd_T82 y305 x5_1).f3.f5⟩ : S47)⟩ : S82) ) (fun _ hk => hk); have hx21_2 := hcc21 2 _ rfl; (try simp only [show (k82).sz = 9 from rfl, Nat.mul_one, Nat.add_zero] at hx21_2); have hf21_2 := hfr21 2; (try simp only [show (k82).sz = 9 from rfl, Nat.mul_one, Nat.add_zero] at hf21_2); clear hcl21 hcc21 hfr21 hM21) | ((with_reducible refine gate_store (t := 3) (p := 30) rfl ?_); refine store_event (t := 3) (p := 30) (v := ?vo_w22) (w1 := (w20.setCell ⟨go5, (x5_1 : Int).toNat * 9 + 2, none⟩ (.int .i64 (wrap64 ((wrap64 (x1_1 + 1)) + 1))))) ?hg ?ho ?hn ?hr ?_; (case ho => rfl); (case hg => rfl); (case hn => rfl); (case hr => first | (go_simp; done) | (go_simp; rfl)); intro w22 hw; have hg : w20.grownBy w22 (some go5) := (by rw [hw]; exact HP21.2); have hp_ : Kd.R k82 82 w22 w0.heap.size (fun k_ => (P0_ k_ ∨ w.heap.size ≤ k_)) (.slice (some ⟨go5, 0, none⟩) x0_1.length co16) y306 := (by rw [hw, Ny306.out]; exact HP21.1); clear HP21; have n0_ := Aside0.mk (hp_); have n1_ := Aside0.mk ((by rw [hw]; exact below_set (HB.out) GB5.out : Below w0.heap.size w0 w22)); have n2_ := Aside0.mk (Kept.of_grown (S := (fun k_ => P0_ k_)) hg (by repeat (first | (with_reducible first | exact HK.out | apply Kept.alloc | apply Kept.drewN | apply Kept.drew) | exact HK.out)) (fun k_ e_ => (HO_0.out.1 k_ e_))); clear HO_0; clear HB; clear HK; have HO_0 := n0_; have HB := n1_; have HK := n2_; clear n0_ n1_ n2_; clear hg hw hp_; have p8 : 0 ≤ (x5_1 : Int) := of_decide_eq_true as_; have q8 : (x5_1 : Int) < ((x0_1.length : Int) : Int) := of_decide_eq_true as_; obtain ⟨ce8, hcl8, hM8, hcc8, hfr8⟩ := Kd.R_elem HO_0.out z82 (x5_1 : Int) p8 q8; obtain rfl := k82_openM hM8; have hx8_0 : w22.cell? ⟨go5, (x5_1 : Int).toNat * 9, none⟩ = some (.int .i64 ((rd_T82 y306 x5_1).f0)) := hcc8 0 _ rfl; have hx8_1 : w22.cell? ⟨go5, (x5_1 : Int).toNat * 9 + 1, none⟩ = some (.int .i64 ((rd_T82 y306 x5_1).f1)) := hcc8 1 _ rfl; have hx8_2 : w22.cell? ⟨go5, (x5_1 : Int).toNat * 9 + 2, none⟩ = some (.int .i64 ((rd_T82 y306 x5_1).f2)) := hcc8 2 _ rfl; have hx8_3 : w22.cell? ⟨go5, (x5_1 : Int).toNat * 9 + 3, none⟩ = some (.int .i64 ((rd_T82 y306 x5_1).f3.f0)) := hcc8 3 _ rfl; have hx8_4 : w22.cell? ⟨go5, (x5_1 : Int).toNat * 9 + 4, none⟩ = some (.int .i64 ((rd_T82 y306 x5_1).f3.f1)) := hcc8 4 _ rfl; have hx8_5 : w22.cell? ⟨go5, (x5_1 : Int).toNat * 9 + 5, none⟩ = some (.string ((rd_T82 y306 x5_1).f3.f2)) := hcc8 5 _ rfl; have hx8_6 : w22.cell? ⟨go5, (x5_1 : Int).toNat * 9 + 6, none⟩ = some (.string ((rd_T82 y306 x5_1).f3.f3)) := hcc8 6 _ rfl; have hx8_7 : w22.cell? ⟨go5, (x5_1 : Int).toNat * 9 + 7, none⟩ = some (.int .i64 ((rd_T82 y306 x5_1).f3.f4)) := hcc8 7 _ rfl; have hx8_8 : w22.cell? ⟨go5, (x5_1 : Int).toNat * 9 + 8, none⟩ = some (.int .i64 ((rd_T82 y306 x5_1).f3.f5)) := hcc8 8 _ rfl; have hf8_0 : w22.frozen? ⟨go5, (x5_1 : Int).toNat * 9, none⟩ = false := hfr8 0; have hf8_1 : w22.frozen? ⟨go5, (x5_1 : Int).toNat * 9 + 1, none⟩ = false := hfr8 1; have hf8_2 : w22.frozen? ⟨go5, (x5_1 : Int).toNat * 9 + 2, none⟩ = false := hfr8 2; have hf8_3 : w22.frozen? ⟨go5, (x5_1 : Int).toNat * 9 + 3, none⟩ = false := hfr8 3; have hf8_4 : w22.frozen? ⟨go5, (x5_1 : Int).toNat * 9 + 4, none⟩ = false := hfr8 4; have hf8_5 : w22.frozen? ⟨go5, (x5_1 : Int).toNat * 9 + 5, none⟩ = false := hfr8 5; have hf8_6 : w22.frozen? ⟨go5, (x5_1 : Int).toNat * 9 + 6, none⟩ = false := hfr8 6; have hf8_7 : w22.frozen? ⟨go5, (x5_1 : Int).toNat * 9 + 7, none⟩ = false := hfr8 7; have hf8_8 : w22.frozen? ⟨go5, (x5_1 : Int).toNat * 9 + 8, none⟩ = false := hfr8 8; clear hcl8 hcc8 hfr8 hM8; replace p8 := eq_true p8; replace q8 := eq_true q8; have HX23 := Aside0.mk (show Kd.R k82 82 w22 w0.heap.size (fun k_ => (P0_ k_ ∨ w.heap.size ≤ k_)) (.slice (some ⟨go5, 0, none⟩) x0_1.length co16) y306 from (rr_ HO_0)); obtain ⟨ce23, hcl23, hM23, hcc23, hfr23⟩ := Kd.R_elem HX23.out z82 (x5_1 : Int) (of_decide_eq_true as_) (by have h_ : (x5_1 : Int) < ((x0_1.length : Int) : Int) := of_decide_eq_true as_; first | exact h_ | (have e_ := (Kd.R_reads' HO_0.out).1; omega) | simpa using h_); obtain rfl := k82_openM hM23; have HP23 := Kd.R_seg HX23.out (x5_1 : Int) (of_decide_eq_true as_) (by have h_ : (x5_1 : Int) < ((x0_1.length : Int) : Int) := of_decide_eq_true as_; first | exact h_ | (have e_ := (Kd.R_reads' HO_0.out).1; omega) | simpa using h_) (seg := [.int .i64 (wrap64 ((wrap64 ((wrap64 (x1_1 + 1)) + 1)) + 1))]) (j := 3) hcl23 hcc23 (show 4 ≤ 9 from by decide) (x' := (⟨(rd_T82 y306 x5_1).f0, (rd_T82 y306 x5_1).f1, (rd_T82 y306 x5_1).f2, (⟨wrap64 ((wrap64 ((wrap64 (x1_1 + 1)) + 1)) + 1), (rd_T82 y306 x5_1).f3.f1, (rd_T82 y306 x5_1).f3.f2, (rd_T82 y306 x5_1).f3.f3, (rd_T82 y306 x5_1).f3.f4, (rd_T82 y306 x5_1).f3.f5⟩ : S47)⟩ : S82)) (k82_mkM _ _ _ (⟨(rd_T82 y306 x5_1).f0, (rd_T82 y306 x5_1).f1, (rd_T82 y306 x5_1).f2, (⟨wrap64 ((wrap64 ((wrap64 (x1_1 + 1)) + 1)) + 1), (rd_T82 y306 x5_1).f3.f1, (rd_T82 y306 x5_1).f3.f2, (rd_T82 y306 x5_1).f3.f3, (rd_T82 y306 x5_1).f3.f4, (rd_T82 y306 x5_1).f3.f5⟩ : S47)⟩ : S82) ) (fun _ hk => hk); have hx23_3 := hcc23 3 _ rfl; (try simp only [show (k82).sz = 9 from rfl, Nat.mul_one, Nat.add_zero] at hx23_3); have hf23_3 := hfr23 3; (try simp only [show (k82).sz = 9 from rfl, Nat.mul_one, Nat.add_zero] at hf23_3); clear hcl23 hcc23 hfr23 hM23) | ((with_reducible refine gate_store (t := 3) (p := 38) rfl ?_); refine store_event (t := 3) (p := 38) (v := ?vo_w24) (w1 := (w22.setCell ⟨go5, (x5_1 : Int).toNat * 9 + 3, none⟩ (.int .i64 (wrap64 ((wrap64 ((wrap64 (x1_1 + 1)) + 1)) + 1))))) ?hg ?ho ?hn ?hr ?_; (case ho => rfl); (case hg => rfl); (case hn => rfl); (case hr => first | (go_simp; done) | (go_simp; rfl)); intro w24 hw; have hg : w22.grownBy w24 (some go5) := (by rw [hw]; exact HP23.2); have hp_ : Kd.R k82 82 w24 w0.heap.size (fun k_ => (P0_ k_ ∨ w.heap.size ≤ k_)) (.slice (some ⟨go5, 0, none⟩) x0_1.length co16) y307 := (by rw [hw, Ny307.out]; exact HP23.1); clear HP23; have n0_ := Aside0.mk (hp_); have n1_ := Aside0.mk ((by rw [hw]; exact below_set (HB.out) GB5.out : Below w0.heap.size w0 w24)); have n2_ := Aside0.mk (Kept.of_grown (S := (fun k_ => P0_ k_)) hg (by repeat (first | (with_reducible first | exact HK.out | apply Kept.alloc | apply Kept.drewN | apply Kept.drew) | exact HK.out)) (fun k_ e_ => (HO_0.out.1 k_ e_))); clear HO_0; clear HB; clear HK; have HO_0 := n0_; have HB := n1_; have HK := n2_; clear n0_ n1_ n2_; clear hg hw hp_; have p9 : 0 ≤ (x5_1 : Int) := of_decide_eq_true as_; have q9 : (x5_1 : Int) < ((x0_1.length : Int) : Int) := of_decide_eq_true as_; obtain ⟨ce9, hcl9, hM9, hcc9, hfr9⟩ := Kd.R_elem HO_0.out z82 (x5_1 : Int) p9 q9; obtain rfl := k82_openM hM9; have hx9_0 : w24.cell? ⟨go5, (x5_1 : Int).toNat * 9, none⟩ = some (.int .i64 ((rd_T82 y307 x5_1).f0)) := hcc9 0 _ rfl; have hx9_1 : w24.cell? ⟨go5, (x5_1 : Int).toNat * 9 + 1, none⟩ = some (.int .i64 ((rd_T82 y307 x5_1).f1)) := hcc9 1 _ rfl; have hx9_2 : w24.cell? ⟨go5, (x5_1 : Int).toNat * 9 + 2, none⟩ = some (.int .i64 ((rd_T82 y307 x5_1).f2)) := hcc9 2 _ rfl; have hx9_3 : w24.cell? ⟨go5, (x5_1 : Int).toNat * 9 + 3, none⟩ = some (.int .i64 ((rd_T82 y307 x5_1).f3.f0)) := hcc9 3 _ rfl; have hx9_4 : w24.cell? ⟨go5, (x5_1 : Int).toNat * 9 + 4, none⟩ = some (.int .i64 ((rd_T82 y307 x5_1).f3.f1)) := hcc9 4 _ rfl; have hx9_5 : w24.cell? ⟨go5, (x5_1 : Int).toNat * 9 + 5, none⟩ = some (.string ((rd_T82 y307 x5_1).f3.f2)) := hcc9 5 _ rfl; have hx9_6 : w24.cell? ⟨go5, (x5_1 : Int).toNat * 9 + 6, none⟩ = some (.string ((rd_T82 y307 x5_1).f3.f3)) := hcc9 6 _ rfl; have hx9_7 : w24.cell? ⟨go5, (x5_1 : Int).toNat * 9 + 7, none⟩ = some (.int .i64 ((rd_T82 y307 x5_1).f3.f4)) := hcc9 7 _ rfl; have hx9_8 : w24.cell? ⟨go5, (x5_1 : Int).toNat * 9 + 8, none⟩ = some (.int .i64 ((rd_T82 y307 x5_1).f3.f5)) := hcc9 8 _ rfl; have hf9_0 : w24.frozen? ⟨go5, (x5_1 : Int).toNat * 9, none⟩ = false := hfr9 0; have hf9_1 : w24.frozen? ⟨go5, (x5_1 : Int).toNat * 9 + 1, none⟩ = false := hfr9 1; have hf9_2 : w24.frozen? ⟨go5, (x5_1 : Int).toNat * 9 + 2, none⟩ = false := hfr9 2; have hf9_3 : w24.frozen? ⟨go5, (x5_1 : Int).toNat * 9 + 3, none⟩ = false := hfr9 3; have hf9_4 : w24.frozen? ⟨go5, (x5_1 : Int).toNat * 9 + 4, none⟩ = false := hfr9 4; have hf9_5 : w24.frozen? ⟨go5, (x5_1 : Int).toNat * 9 + 5, none⟩ = false := hfr9 5; have hf9_6 : w24.frozen? ⟨go5, (x5_1 : Int).toNat * 9 + 6, none⟩ = false := hfr9 6; have hf9_7 : w24.frozen? ⟨go5, (x5_1 : Int).toNat * 9 + 7, none⟩ = false := hfr9 7; have hf9_8 : w24.frozen? ⟨go5, (x5_1 : Int).toNat * 9 + 8, none⟩ = false := hfr9 8; clear hcl9 hcc9 hfr9 hM9; replace p9 := eq_true p9; replace q9 := eq_true q9; have HX25 := Aside0.mk (show Kd.R k82 82 w24 w0.heap.size (fun k_ => (P0_ k_ ∨ w.heap.size ≤ k_)) (.slice (some ⟨go5, 0, none⟩) x0_1.length co16) y307 from (rr_ HO_0)); obtain ⟨ce25, hcl25, hM25, hcc25, hfr25⟩ := Kd.R_elem HX25.out z82 (x5_1 : Int) (of_decide_eq_true as_) (by have h_ : (x5_1 : Int) < ((x0_1.length : Int) : Int) := of_decide_eq_true as_; first | exact h_ | (have e_ := (Kd.R_reads' HO_0.out).1; omega) | simpa using h_); obtain rfl := k82_openM hM25; have HP25 := Kd.R_seg HX25.out (x5_1 : Int) (of_decide_eq_true as_) (by have h_ : (x5_1 : Int) < ((x0_1.length : Int) : Int) := of_decide_eq_true as_; first | exact h_ | (have e_ := (Kd.R_reads' HO_0.out).1; omega) | simpa using h_) (seg := [.int .i64 (wrap64 ((wrap64 ((wrap64 ((wrap64 (x1_1 + 1)) + 1)) + 1)) + 1))]) (j := 4) hcl25 hcc25 (show 5 ≤ 9 from by decide) (x' := (⟨(rd_T82 y307 x5_1).f0, (rd_T82 y307 x5_1).f1, (rd_T82 y307 x5_1).f2, (⟨(rd_T82 y307 x5_1).f3.f0, wrap64 ((wrap64 ((wrap64 ((wrap64 (x1_1 + 1)) + 1)) + 1)) + 1), (rd_T82 y307 x5_1).f3.f2, (rd_T82 y307 x5_1).f3.f3, (rd_T82 y307 x5_1).f3.f4, (rd_T82 y307 x5_1).f3.f5⟩ : S47)⟩ : S82)) (k82_mkM _ _ _ (⟨(rd_T82 y307 x5_1).f0, (rd_T82 y307 x5_1).f1, (rd_T82 y307 x5_1).f2, (⟨(rd_T82 y307 x5_1).f3.f0, wrap64 ((wrap64 ((wrap64 ((wrap64 (x1_1 + 1)) + 1)) + 1)) + 1), (rd_T82 y307 x5_1).f3.f2, (rd_T82 y307 x5_1).f3.f3, (rd_T82 y307 x5_1).f3.f4, (rd_T82 y307 x5_1).f3.f5⟩ : S47)⟩ : S82) ) (fun _ hk => hk); have hx25_4 := hcc25 4 _ rfl; (try simp only [show (k82).sz = 9 from rfl, Nat.mul_one, Nat.add_zero] at hx25_4); have hf25_4 := hfr25 4; (try simp only [show (k82).sz = 9 from rfl, Nat.mul_one, Nat.add_zero] at hf25_4); clear hcl25 hcc25 hfr25 hM25) | ((with_reducible refine gate_store (t := 3) (p := 46) rfl ?_); refine store_event (t := 3) (p := 46) (v := ?vo_w26) (w1 := (w24.setCell ⟨go5, (x5_1 : Int).toNat * 9 + 4, none⟩ (.int .i64 (wrap64 ((wrap64 ((wrap64 ((wrap64 (x1_1 + 1)) + 1)) + 1)) + 1))))) ?hg ?ho ?hn ?hr ?_; (case ho => rfl); (case hg => rfl); (case hn => rfl); (case hr => first | (go_simp; done) | (go_simp; rfl)); intro w26 hw; have hg : w24.grownBy w26 (some go5) := (by rw [hw]; exact HP25.2); have hp_ : Kd.R k82 82 w26 w0.heap.size (fun k_ => (P0_ k_ ∨ w.heap.size ≤ k_)) (.slice (some ⟨go5, 0, none⟩) x0_1.length co16) y308 := (by rw [hw, Ny308.out]; exact HP25.1); clear HP25; have n0_ := Aside0.mk (hp_); have n1_ := Aside0.mk ((by rw [hw]; exact below_set (HB.out) GB5.out : Below w0.heap.size w0 w26)); have n2_ := Aside0.mk (Kept.of_grown (S := (fun k_ => P0_ k_)) hg (by repeat (first | (with_reducible first | exact HK.out | apply Kept.alloc | apply Kept.drewN | apply Kept.drew) | exact HK.out)) (fun k_ e_ => (HO_0.out.1 k_ e_))); clear HO_0; clear HB; clear HK; have HO_0 := n0_; have HB := n1_; have HK := n2_; clear n0_ n1_ n2_; clear hg hw hp_) | ((with_reducible refine gate_callee (f := 53) rfl ?_); refine goesL_ (some 52) rfl rfl Try.func53 (by kernel_rfl) rfl #[.int .i64 (wrap64 ((wrap64 ((wrap64 ((wrap64 ((wrap64 (x1_1 + 1)) + 1)) + 1)) + 1)) + 1))] rfl ar_ ?_; (with_reducible refine (laws_markText.calls k1 (wrap64 ((wrap64 ((wrap64 ((wrap64 ((wrap64 (x1_1 + 1)) + 1)) + 1)) + 1)) + 1)) t309 _ A10.out).mono ?_); rintro e w27 ⟨rfl, hb⟩; refine ⟨_, rfl, ?_⟩; have n0_ := Aside0.mk (Kd.R_below (rr_ HO_0) hb); have n1_ := Aside0.mk (Kept.below (S := (fun k_ => P0_ k_)) (by repeat (first | (with_reducible first | exact HK.out | apply Kept.alloc | apply Kept.drewN | apply Kept.drew) | exact HK.out)) hb); have n2_ := Aside0.mk (below_step (hb_ HB) hb); clear HO_0; clear HK; clear HB; have HO_0 := n0_; have HK := n1_; have HB := n2_; clear n0_ n1_ n2_; (try clear hb); (try clear hb2); (try clear hk); (try clear hi); have p11 : 0 ≤ (x5_1 : Int) := of_decide_eq_true as_; have q11 : (x5_1 : Int) < ((x0_1.length : Int) : Int) := of_decide_eq_true as_; obtain ⟨ce11, hcl11, hM11, hcc11, hfr11⟩ := Kd.R_elem HO_0.out z82 (x5_1 : Int) p11 q11; obtain rfl := k82_openM hM11; have hx11_0 : w27.cell? ⟨go5, (x5_1 : Int).toNat * 9, none⟩ = some (.int .i64 ((rd_T82 y308 x5_1).f0)) := hcc11 0 _ rfl; have hx11_1 : w27.cell? ⟨go5, (x5_1 : Int).toNat * 9 + 1, none⟩ = some (.int .i64 ((rd_T82 y308 x5_1).f1)) := hcc11 1 _ rfl; have hx11_2 : w27.cell? ⟨go5, (x5_1 : Int).toNat * 9 + 2, none⟩ = some (.int .i64 ((rd_T82 y308 x5_1).f2)) := hcc11 2 _ rfl; have hx11_3 : w27.cell? ⟨go5, (x5_1 : Int).toNat * 9 + 3, none⟩ = some (.int .i64 ((rd_T82 y308 x5_1).f3.f0)) := hcc11 3 _ rfl; have hx11_4 : w27.cell? ⟨go5, (x5_1 : Int).toNat * 9 + 4, none⟩ = some (.int .i64 ((rd_T82 y308 x5_1).f3.f1)) := hcc11 4 _ rfl; have hx11_5 : w27.cell? ⟨go5, (x5_1 : Int).toNat * 9 + 5, none⟩ = some (.string ((rd_T82 y308 x5_1).f3.f2)) := hcc11 5 _ rfl; have hx11_6 : w27.cell? ⟨go5, (x5_1 : Int).toNat * 9 + 6, none⟩ = some (.string ((rd_T82 y308 x5_1).f3.f3)) := hcc11 6 _ rfl; have hx11_7 : w27.cell? ⟨go5, (x5_1 : Int).toNat * 9 + 7, none⟩ = some (.int .i64 ((rd_T82 y308 x5_1).f3.f4)) := hcc11 7 _ rfl; have hx11_8 : w27.cell? ⟨go5, (x5_1 : Int).toNat * 9 + 8, none⟩ = some (.int .i64 ((rd_T82 y308 x5_1).f3.f5)) := hcc11 8 _ rfl; have hf11_0 : w27.frozen? ⟨go5, (x5_1 : Int).toNat * 9, none⟩ = false := hfr11 0; have hf11_1 : w27.frozen? ⟨go5, (x5_1 : Int).toNat * 9 + 1, none⟩ = false := hfr11 1; have hf11_2 : w27.frozen? ⟨go5, (x5_1 : Int).toNat * 9 + 2, none⟩ = false := hfr11 2; have hf11_3 : w27.frozen? ⟨go5, (x5_1 : Int).toNat * 9 + 3, none⟩ = false := hfr11 3; have hf11_4 : w27.frozen? ⟨go5, (x5_1 : Int).toNat * 9 + 4, none⟩ = false := hfr11 4; have hf11_5 : w27.frozen? ⟨go5, (x5_1 : Int).toNat * 9 + 5, none⟩ = false := hfr11 5; have hf11_6 : w27.frozen? ⟨go5, (x5_1 : Int).toNat * 9 + 6, none⟩ = false := hfr11 6; have hf11_7 : w27.frozen? ⟨go5, (x5_1 : Int).toNat * 9 + 7, none⟩ = false := hfr11 7; have hf11_8 : w27.frozen? ⟨go5, (x5_1 : Int).toNat * 9 + 8, none⟩ = false := hfr11 8; clear hcl11 hcc11 hfr11 hM11; replace p11 := eq_true p11; replace q11 := eq_true q11; have HX28 := Aside0.mk (show Kd.R k82 82 w27 w0.heap.size (fun k_ => (P0_ k_ ∨ w.heap.size ≤ k_)) (.slice (some ⟨go5, 0, none⟩) x0_1.length co16) y308 from (rr_ HO_0)); obtain ⟨ce28, hcl28, hM28, hcc28, hfr28⟩ := Kd.R_elem HX28.out z82 (x5_1 : Int) (of_decide_eq_true as_) (by have h_ : (x5_1 : Int) < ((x0_1.length : Int) : Int) := of_decide_eq_true as_; first | exact h_ | (have e_ := (Kd.R_reads' HO_0.out).1; omega) | simpa using h_); obtain rfl := k82_openM hM28; have HP28 := Kd.R_seg HX28.out (x5_1 : Int) (of_decide_eq_true as_) (by have h_ : (x5_1 : Int) < ((x0_1.length : Int) : Int) := of_decide_eq_true as_; first | exact h_ | (have e_ := (Kd.R_reads' HO_0.out).1; omega) | simpa using h_) (seg := [.string t309]) (j := 5) hcl28 hcc28 (show 6 ≤ 9 from by decide) (x' := (⟨(rd_T82 y308 x5_1).f0, (rd_T82 y308 x5_1).f1, (rd_T82 y308 x5_1).f2, (⟨(rd_T82 y308 x5_1).f3.f0, (rd_T82 y308 x5_1).f3.f1, t309, (rd_T82 y308 x5_1).f3.f3, (rd_T82 y308 x5_1).f3.f4, (rd_T82 y308 x5_1).f3.f5⟩ : S47)⟩ : S82)) (k82_mkM _ _ _ (⟨(rd_T82 y308 x5_1).f0, (rd_T82 y308 x5_1).f1, (rd_T82 y308 x5_1).f2, (⟨(rd_T82 y308 x5_1).f3.f0, (rd_T82 y308 x5_1).f3.f1, t309, (rd_T82 y308 x5_1).f3.f3, (rd_T82 y308 x5_1).f3.f4, (rd_T82 y308 x5_1).f3.f5⟩ : S47)⟩ : S82) ) (fun _ hk => hk); have hx28_5 := hcc28 5 _ rfl; (try simp only [show (k82).sz = 9 from rfl, Nat.mul_one, Nat.add_zero] at hx28_5); have hf28_5 := hfr28 5; (try simp only [show (k82).sz = 9 from rfl, Nat.mul_one, Nat.add_zero] at hf28_5); clear hcl28 hcc28 hfr28 hM28) | ((with_reducible refine gate_store (t := 9) (p := 55) rfl ?_); refine store_event (t := 9) (p := 55) (v := ?vo_w29) (w1 := (w27.setCell ⟨go5, (x5_1 : Int).toNat * 9 + 5, none⟩ (.string t309))) ?hg ?ho ?hn ?hr ?_; (case ho => rfl); (case hg => rfl); (case hn => rfl); (case hr => first | (go_simp; done) | (go_simp; rfl)); intro w29 hw; have hg : w27.grownBy w29 (some go5) := (by rw [hw]; exact HP28.2); have hp_ : Kd.R k82 82 w29 w0.heap.size (fun k_ => (P0_ k_ ∨ w.heap.size ≤ k_)) (.slice (some ⟨go5, 0, none⟩) x0_1.length co16) y310 := (by rw [hw, Ny310.out]; exact HP28.1); clear HP28; have n0_ := Aside0.mk (hp_); have n1_ := Aside0.mk ((by rw [hw]; exact below_set (HB.out) GB5.out : Below w0.heap.size w0 w29)); have n2_ := Aside0.mk (Kept.of_grown (S := (fun k_ => P0_ k_)) hg (by repeat (first | (with_reducible first | exact HK.out | apply Kept.alloc | apply Kept.drewN | apply Kept.drew) | exact HK.out)) (fun k_ e_ => (HO_0.out.1 k_ e_))); clear HO_0; clear HB; clear HK; have HO_0 := n0_; have HB := n1_; have HK := n2_; clear n0_ n1_ n2_; clear hg hw hp_) | ((with_reducible refine gate_callee (f := 53) rfl ?_); refine goesL_ (some 61) rfl rfl Try.func53 (by kernel_rfl) rfl #[.int .i64 (wrap64 ((wrap64 ((wrap64 ((wrap64 ((wrap64 ((wrap64 (x1_1 + 1)) + 1)) + 1)) + 1)) + 1)) + 1))] rfl ar_ ?_; (with_reducible refine (laws_markText.calls k1 (wrap64 ((wrap64 ((wrap64 ((wrap64 ((wrap64 ((wrap64 (x1_1 + 1)) + 1)) + 1)) + 1)) + 1)) + 1)) t311 _ A12.out).mono ?_); rintro e w30 ⟨rfl, hb⟩; refine ⟨_, rfl, ?_⟩; have n0_ := Aside0.mk (Kd.R_below (rr_ HO_0) hb); have n1_ := Aside0.mk (Kept.below (S := (fun k_ => P0_ k_)) (by repeat (first | (with_reducible first | exact HK.out | apply Kept.alloc | apply Kept.drewN | apply Kept.drew) | exact HK.out)) hb); have n2_ := Aside0.mk (below_step (hb_ HB) hb); clear HO_0; clear HK; clear HB; have HO_0 := n0_; have HK := n1_; have HB := n2_; clear n0_ n1_ n2_; (try clear hb); (try clear hb2); (try clear hk); (try clear hi); have p13 : 0 ≤ (x5_1 : Int) := of_decide_eq_true as_; have q13 : (x5_1 : Int) < ((x0_1.length : Int) : Int) := of_decide_eq_true as_; obtain ⟨ce13, hcl13, hM13, hcc13, hfr13⟩ := Kd.R_elem HO_0.out z82 (x5_1 : Int) p13 q13; obtain rfl := k82_openM hM13; have hx13_0 : w30.cell? ⟨go5, (x5_1 : Int).toNat * 9, none⟩ = some (.int .i64 ((rd_T82 y310 x5_1).f0)) := hcc13 0 _ rfl; have hx13_1 : w30.cell? ⟨go5, (x5_1 : Int).toNat * 9 + 1, none⟩ = some (.int .i64 ((rd_T82 y310 x5_1).f1)) := hcc13 1 _ rfl; have hx13_2 : w30.cell? ⟨go5, (x5_1 : Int).toNat * 9 + 2, none⟩ = some (.int .i64 ((rd_T82 y310 x5_1).f2)) := hcc13 2 _ rfl; have hx13_3 : w30.cell? ⟨go5, (x5_1 : Int).toNat * 9 + 3, none⟩ = some (.int .i64 ((rd_T82 y310 x5_1).f3.f0)) := hcc13 3 _ rfl; have hx13_4 : w30.cell? ⟨go5, (x5_1 : Int).toNat * 9 + 4, none⟩ = some (.int .i64 ((rd_T82 y310 x5_1).f3.f1)) := hcc13 4 _ rfl; have hx13_5 : w30.cell? ⟨go5, (x5_1 : Int).toNat * 9 + 5, none⟩ = some (.string ((rd_T82 y310 x5_1).f3.f2)) := hcc13 5 _ rfl; have hx13_6 : w30.cell? ⟨go5, (x5_1 : Int).toNat * 9 + 6, none⟩ = some (.string ((rd_T82 y310 x5_1).f3.f3)) := hcc13 6 _ rfl; have hx13_7 : w30.cell? ⟨go5, (x5_1 : Int).toNat * 9 + 7, none⟩ = some (.int .i64 ((rd_T82 y310 x5_1).f3.f4)) := hcc13 7 _ rfl; have hx13_8 : w30.cell? ⟨go5, (x5_1 : Int).toNat * 9 + 8, none⟩ = some (.int .i64 ((rd_T82 y310 x5_1).f3.f5)) := hcc13 8 _ rfl; have hf13_0 : w30.frozen? ⟨go5, (x5_1 : Int).toNat * 9, none⟩ = false := hfr13 0; have hf13_1 : w30.frozen? ⟨go5, (x5_1 : Int).toNat * 9 + 1, none⟩ = false := hfr13 1; have hf13_2 : w30.frozen? ⟨go5, (x5_1 : Int).toNat * 9 + 2, none⟩ = false := hfr13 2; have hf13_3 : w30.frozen? ⟨go5, (x5_1 : Int).toNat * 9 + 3, none⟩ = false := hfr13 3; have hf13_4 : w30.frozen? ⟨go5, (x5_1 : Int).toNat * 9 + 4, none⟩ = false := hfr13 4; have hf13_5 : w30.frozen? ⟨go5, (x5_1 : Int).toNat * 9 + 5, none⟩ = false := hfr13 5; have hf13_6 : w30.frozen? ⟨go5, (x5_1 : Int).toNat * 9 + 6, none⟩ = false := hfr13 6; have hf13_7 : w30.frozen? ⟨go5, (x5_1 : Int).toNat * 9 + 7, none⟩ = false := hfr13 7; have hf13_8 : w30.frozen? ⟨go5, (x5_1 : Int).toNat * 9 + 8, none⟩ = false := hfr13 8; clear hcl13 hcc13 hfr13 hM13; replace p13 := eq_true p13; replace q13 := eq_true q13; have HX31 := Aside0.mk (show Kd.R k82 82 w30 w0.heap.size (fun k_ => (P0_ k_ ∨ w.heap.size ≤ k_)) (.slice (some ⟨go5, 0, none⟩) x0_1.length co16) y310 from (rr_ HO_0)); obtain ⟨ce31, hcl31, hM31, hcc31, hfr31⟩ := Kd.R_elem HX31.out z82 (x5_1 : Int) (of_decide_eq_true as_) (by have h_ : (x5_1 : Int) < ((x0_1.length : Int) : Int) := of_decide_eq_true as_; first | exact h_ | (have e_ := (Kd.R_reads' HO_0.out).1; omega) | simpa using h_); obtain rfl := k82_openM hM31; have HP31 := Kd.R_seg HX31.out (x5_1 : Int) (of_decide_eq_true as_) (by have h_ : (x5_1 : Int) < ((x0_1.length : Int) : Int) := of_decide_eq_true as_; first | exact h_ | (have e_ := (Kd.R_reads' HO_0.out).1; omega) | simpa using h_) (seg := [.string t311]) (j := 6) hcl31 hcc31 (show 7 ≤ 9 from by decide) (x' := (⟨(rd_T82 y310 x5_1).f0, (rd_T82 y310 x5_1).f1, (rd_T82 y310 x5_1).f2, (⟨(rd_T82 y310 x5_1).f3.f0, (rd_T82 y310 x5_1).f3.f1, (rd_T82 y310 x5_1).f3.f2, t311, (rd_T82 y310 x5_1).f3.f4, (rd_T82 y310 x5_1).f3.f5⟩ : S47)⟩ : S82)) (k82_mkM _ _ _ (⟨(rd_T82 y310 x5_1).f0, (rd_T82 y310 x5_1).f1, (rd_T82 y310 x5_1).f2, (⟨(rd_T82 y310 x5_1).f3.f0, (rd_T82 y310 x5_1).f3.f1, (rd_T82 y310 x5_1).f3.f2, t311, (rd_T82 y310 x5_1).f3.f4, (rd_T82 y310 x5_1).f3.f5⟩ : S47)⟩ : S82) ) (fun _ hk => hk); have hx31_6 := hcc31 6 _ rfl; (try simp only [show (k82).sz = 9 from rfl, Nat.mul_one, Nat.add_zero] at hx31_6); have hf31_6 := hfr31 6; (try simp only [show (k82).sz = 9 from rfl, Nat.mul_one, Nat.add_zero] at hf31_6); clear hcl31 hcc31 hfr31 hM31) | ((with_reducible refine gate_store (t := 9) (p := 64) rfl ?_); refine store_event (t := 9) (p := 64) (v := ?vo_w32) (w1 := (w30.setCell ⟨go5, (x5_1 : Int).toNat * 9 + 6, none⟩ (.string t311))) ?hg ?ho ?hn ?hr ?_; (case ho => rfl); (case hg => rfl); (case hn => rfl); (case hr => first | (go_simp; done) | (go_simp; rfl)); intro w32 hw; have hg : w30.grownBy w32 (some go5) := (by rw [hw]; exact HP31.2); have hp_ : Kd.R k82 82 w32 w0.heap.size (fun k_ => (P0_ k_ ∨ w.heap.size ≤ k_)) (.slice (some ⟨go5, 0, none⟩) x0_1.length co16) y312 := (by rw [hw, Ny312.out]; exact HP31.1); clear HP31; have n0_ := Aside0.mk (hp_); have n1_ := Aside0.mk ((by rw [hw]; exact below_set (HB.out) GB5.out : Below w0.heap.size w0 w32)); have n2_ := Aside0.mk (Kept.of_grown (S := (fun k_ => P0_ k_)) hg (by repeat (first | (with_reducible first | exact HK.out | apply Kept.alloc | apply Kept.drewN | apply Kept.drew) | exact HK.out)) (fun k_ e_ => (HO_0.out.1 k_ e_))); clear HO_0; clear HB; clear HK; have HO_0 := n0_; have HB := n1_; have HK := n2_; clear n0_ n1_ n2_; clear hg hw hp_; have p14 : 0 ≤ (x5_1 : Int) := of_decide_eq_true as_; have q14 : (x5_1 : Int) < ((x0_1.length : Int) : Int) := of_decide_eq_true as_; obtain ⟨ce14, hcl14, hM14, hcc14, hfr14⟩ := Kd.R_elem HO_0.out z82 (x5_1 : Int) p14 q14; obtain rfl := k82_openM hM14; have hx14_0 : w32.cell? ⟨go5, (x5_1 : Int).toNat * 9, none⟩ = some (.int .i64 ((rd_T82 y312 x5_1).f0)) := hcc14 0 _ rfl; have hx14_1 : w32.cell? ⟨go5, (x5_1 : Int).toNat * 9 + 1, none⟩ = some (.int .i64 ((rd_T82 y312 x5_1).f1)) := hcc14 1 _ rfl; have hx14_2 : w32.cell? ⟨go5, (x5_1 : Int).toNat * 9 + 2, none⟩ = some (.int .i64 ((rd_T82 y312 x5_1).f2)) := hcc14 2 _ rfl; have hx14_3 : w32.cell? ⟨go5, (x5_1 : Int).toNat * 9 + 3, none⟩ = some (.int .i64 ((rd_T82 y312 x5_1).f3.f0)) := hcc14 3 _ rfl; have hx14_4 : w32.cell? ⟨go5, (x5_1 : Int).toNat * 9 + 4, none⟩ = some (.int .i64 ((rd_T82 y312 x5_1).f3.f1)) := hcc14 4 _ rfl; have hx14_5 : w32.cell? ⟨go5, (x5_1 : Int).toNat * 9 + 5, none⟩ = some (.string ((rd_T82 y312 x5_1).f3.f2)) := hcc14 5 _ rfl; have hx14_6 : w32.cell? ⟨go5, (x5_1 : Int).toNat * 9 + 6, none⟩ = some (.string ((rd_T82 y312 x5_1).f3.f3)) := hcc14 6 _ rfl; have hx14_7 : w32.cell? ⟨go5, (x5_1 : Int).toNat * 9 + 7, none⟩ = some (.int .i64 ((rd_T82 y312 x5_1).f3.f4)) := hcc14 7 _ rfl; have hx14_8 : w32.cell? ⟨go5, (x5_1 : Int).toNat * 9 + 8, none⟩ = some (.int .i64 ((rd_T82 y312 x5_1).f3.f5)) := hcc14 8 _ rfl; have hf14_0 : w32.frozen? ⟨go5, (x5_1 : Int).toNat * 9, none⟩ = false := hfr14 0; have hf14_1 : w32.frozen? ⟨go5, (x5_1 : Int).toNat * 9 + 1, none⟩ = false := hfr14 1; have hf14_2 : w32.frozen? ⟨go5, (x5_1 : Int).toNat * 9 + 2, none⟩ = false := hfr14 2; have hf14_3 : w32.frozen? ⟨go5, (x5_1 : Int).toNat * 9 + 3, none⟩ = false := hfr14 3; have hf14_4 : w32.frozen? ⟨go5, (x5_1 : Int).toNat * 9 + 4, none⟩ = false := hfr14 4; have hf14_5 : w32.frozen? ⟨go5, (x5_1 : Int).toNat * 9 + 5, none⟩ = false := hfr14 5; have hf14_6 : w32.frozen? ⟨go5, (x5_1 : Int).toNat * 9 + 6, none⟩ = false := hfr14 6; have hf14_7 : w32.frozen? ⟨go5, (x5_1 : Int).toNat * 9 + 7, none⟩ = false := hfr14 7; have hf14_8 : w32.frozen? ⟨go5, (x5_1 : Int).toNat * 9 + 8, none⟩ = false := hfr14 8; clear hcl14 hcc14 hfr14 hM14; replace p14 := eq_true p14; replace q14 := eq_true q14; have HX33 := Aside0.mk (show Kd.R k82 82 w32 w0.heap.size (fun k_ => (P0_ k_ ∨ w.heap.size ≤ k_)) (.slice (some ⟨go5, 0, none⟩) x0_1.length co16) y312 from (rr_ HO_0)); obtain ⟨ce33, hcl33, hM33, hcc33, hfr33⟩ := Kd.R_elem HX33.out z82 (x5_1 : Int) (of_decide_eq_true as_) (by have h_ : (x5_1 : Int) < ((x0_1.length : Int) : Int) := of_decide_eq_true as_; first | exact h_ | (have e_ := (Kd.R_reads' HO_0.out).1; omega) | simpa using h_); obtain rfl := k82_openM hM33; have HP33 := Kd.R_seg HX33.out (x5_1 : Int) (of_decide_eq_true as_) (by have h_ : (x5_1 : Int) < ((x0_1.length : Int) : Int) := of_decide_eq_true as_; first | exact h_ | (have e_ := (Kd.R_reads' HO_0.out).1; omega) | simpa using h_) (seg := [.int .i64 (wrap64 ((wrap64 ((wrap64 ((wrap64 ((wrap64 ((wrap64 ((wrap64 (x1_1 + 1)) + 1)) + 1)) + 1)) + 1)) + 1)) + 1))]) (j := 7) hcl33 hcc33 (show 8 ≤ 9 from by decide) (x' := (⟨(rd_T82 y312 x5_1).f0, (rd_T82 y312 x5_1).f1, (rd_T82 y312 x5_1).f2, (⟨(rd_T82 y312 x5_1).f3.f0, (rd_T82 y312 x5_1).f3.f1, (rd_T82 y312 x5_1).f3.f2, (rd_T82 y312 x5_1).f3.f3, wrap64 ((wrap64 ((wrap64 ((wrap64 ((wrap64 ((wrap64 ((wrap64 (x1_1 + 1)) + 1)) + 1)) + 1)) + 1)) + 1)) + 1), (rd_T82 y312 x5_1).f3.f5⟩ : S47)⟩ : S82)) (k82_mkM _ _ _ (⟨(rd_T82 y312 x5_1).f0, (rd_T82 y312 x5_1).f1, (rd_T82 y312 x5_1).f2, (⟨(rd_T82 y312 x5_1).f3.f0, (rd_T82 y312 x5_1).f3.f1, (rd_T82 y312 x5_1).f3.f2, (rd_T82 y312 x5_1).f3.f3, wrap64 ((wrap64 ((wrap64 ((wrap64 ((wrap64 ((wrap64 ((wrap64 (x1_1 + 1)) + 1)) + 1)) + 1)) + 1)) + 1)) + 1), (rd_T82 y312 x5_1).f3.f5⟩ : S47)⟩ : S82) ) (fun _ hk => hk); have hx33_7 := hcc33 7 _ rfl; (try simp only [show (k82).sz = 9 from rfl, Nat.mul_one, Nat.add_zero] at hx33_7); have hf33_7 := hfr33 7; (try simp only [show (k82).sz = 9 from rfl, Nat.mul_one, Nat.add_zero] at hf33_7); clear hcl33 hcc33 hfr33 hM33) | ((with_reducible refine gate_store (t := 3) (p := 72) rfl ?_); refine store_event (t := 3) (p := 72) (v := ?vo_w34) (w1 := (w32.setCell ⟨go5, (x5_1 : Int).toNat * 9 + 7, none⟩ (.int .i64 (wrap64 ((wrap64 ((wrap64 ((wrap64 ((wrap64 ((wrap64 ((wrap64 (x1_1 + 1)) + 1)) + 1)) + 1)) + 1)) + 1)) + 1))))) ?hg ?ho ?hn ?hr ?_; (case ho => rfl); (case hg => rfl); (case hn => rfl); (case hr => first | (go_simp; done) | (go_simp; rfl)); intro w34 hw; have hg : w32.grownBy w34 (some go5) := (by rw [hw]; exact HP33.2); have hp_ : Kd.R k82 82 w34 w0.heap.size (fun k_ => (P0_ k_ ∨ w.heap.size ≤ k_)) (.slice (some ⟨go5, 0, none⟩) x0_1.length co16) y313 := (by rw [hw, Ny313.out]; exact HP33.1); clear HP33; have n0_ := Aside0.mk (hp_); have n1_ := Aside0.mk ((by rw [hw]; exact below_set (HB.out) GB5.out : Below w0.heap.size w0 w34)); have n2_ := Aside0.mk (Kept.of_grown (S := (fun k_ => P0_ k_)) hg (by repeat (first | (with_reducible first | exact HK.out | apply Kept.alloc | apply Kept.drewN | apply Kept.drew) | exact HK.out)) (fun k_ e_ => (HO_0.out.1 k_ e_))); clear HO_0; clear HB; clear HK; have HO_0 := n0_; have HB := n1_; have HK := n2_; clear n0_ n1_ n2_; clear hg hw hp_; have p15 : 0 ≤ (x5_1 : Int) := of_decide_eq_true as_; have q15 : (x5_1 : Int) < ((x0_1.length : Int) : Int) := of_decide_eq_true as_; obtain ⟨ce15, hcl15, hM15, hcc15, hfr15⟩ := Kd.R_elem HO_0.out z82 (x5_1 : Int) p15 q15; obtain rfl := k82_openM hM15; have hx15_0 : w34.cell? ⟨go5, (x5_1 : Int).toNat * 9, none⟩ = some (.int .i64 ((rd_T82 y313 x5_1).f0)) := hcc15 0 _ rfl; have hx15_1 : w34.cell? ⟨go5, (x5_1 : Int).toNat * 9 + 1, none⟩ = some (.int .i64 ((rd_T82 y313 x5_1).f1)) := hcc15 1 _ rfl; have hx15_2 : w34.cell? ⟨go5, (x5_1 : Int).toNat * 9 + 2, none⟩ = some (.int .i64 ((rd_T82 y313 x5_1).f2)) := hcc15 2 _ rfl; have hx15_3 : w34.cell? ⟨go5, (x5_1 : Int).toNat * 9 + 3, none⟩ = some (.int .i64 ((rd_T82 y313 x5_1).f3.f0)) := hcc15 3 _ rfl; have hx15_4 : w34.cell? ⟨go5, (x5_1 : Int).toNat * 9 + 4, none⟩ = some (.int .i64 ((rd_T82 y313 x5_1).f3.f1)) := hcc15 4 _ rfl; have hx15_5 : w34.cell? ⟨go5, (x5_1 : Int).toNat * 9 + 5, none⟩ = some (.string ((rd_T82 y313 x5_1).f3.f2)) := hcc15 5 _ rfl; have hx15_6 : w34.cell? ⟨go5, (x5_1 : Int).toNat * 9 + 6, none⟩ = some (.string ((rd_T82 y313 x5_1).f3.f3)) := hcc15 6 _ rfl; have hx15_7 : w34.cell? ⟨go5, (x5_1 : Int).toNat * 9 + 7, none⟩ = some (.int .i64 ((rd_T82 y313 x5_1).f3.f4)) := hcc15 7 _ rfl; have hx15_8 : w34.cell? ⟨go5, (x5_1 : Int).toNat * 9 + 8, none⟩ = some (.int .i64 ((rd_T82 y313 x5_1).f3.f5)) := hcc15 8 _ rfl; have hf15_0 : w34.frozen? ⟨go5, (x5_1 : Int).toNat * 9, none⟩ = false := hfr15 0; have hf15_1 : w34.frozen? ⟨go5, (x5_1 : Int).toNat * 9 + 1, none⟩ = false := hfr15 1; have hf15_2 : w34.frozen? ⟨go5, (x5_1 : Int).toNat * 9 + 2, none⟩ = false := hfr15 2; have hf15_3 : w34.frozen? ⟨go5, (x5_1 : Int).toNat * 9 + 3, none⟩ = false := hfr15 3; have hf15_4 : w34.frozen? ⟨go5, (x5_1 : Int).toNat * 9 + 4, none⟩ = false := hfr15 4; have hf15_5 : w34.frozen? ⟨go5, (x5_1 : Int).toNat * 9 + 5, none⟩ = false := hfr15 5; have hf15_6 : w34.frozen? ⟨go5, (x5_1 : Int).toNat * 9 + 6, none⟩ = false := hfr15 6; have hf15_7 : w34.frozen? ⟨go5, (x5_1 : Int).toNat * 9 + 7, none⟩ = false := hfr15 7; have hf15_8 : w34.frozen? ⟨go5, (x5_1 : Int).toNat * 9 + 8, none⟩ = false := hfr15 8; clear hcl15 hcc15 hfr15 hM15; replace p15 := eq_true p15; replace q15 := eq_true q15; have HX35 := Aside0.mk (show Kd.R k82 82 w34 w0.heap.size (fun k_ => (P0_ k_ ∨ w.heap.size ≤ k_)) (.slice (some ⟨go5, 0, none⟩) x0_1.length co16) y313 from (rr_ HO_0)); obtain ⟨ce35, hcl35, hM35, hcc35, hfr35⟩ := Kd.R_elem HX35.out z82 (x5_1 : Int) (of_decide_eq_true as_) (by have h_ : (x5_1 : Int) < ((x0_1.length : Int) : Int) := of_decide_eq_true as_; first | exact h_ | (have e_ := (Kd.R_reads' HO_0.out).1; omega) | simpa using h_); obtain rfl := k82_openM hM35; have HP35 := Kd.R_seg HX35.out (x5_1 : Int) (of_decide_eq_true as_) (by have h_ : (x5_1 : Int) < ((x0_1.length : Int) : Int) := of_decide_eq_true as_; first | exact h_ | (have e_ := (Kd.R_reads' HO_0.out).1; omega) | simpa using h_) (seg := [.int .i64 (wrap64 ((wrap64 ((wrap64 ((wrap64 ((wrap64 ((wrap64 ((wrap64 ((wrap64 (x1_1 + 1)) + 1)) + 1)) + 1)) + 1)) + 1)) + 1)) + 1))]) (j := 8) hcl35 hcc35 (show 9 ≤ 9 from by decide) (x' := (⟨(rd_T82 y313 x5_1).f0, (rd_T82 y313 x5_1).f1, (rd_T82 y313 x5_1).f2, (⟨(rd_T82 y313 x5_1).f3.f0, (rd_T82 y313 x5_1).f3.f1, (rd_T82 y313 x5_1).f3.f2, (rd_T82 y313 x5_1).f3.f3, (rd_T82 y313 x5_1).f3.f4, wrap64 ((wrap64 ((wrap64 ((wrap64 ((wrap64 ((wrap64 ((wrap64 ((wrap64 (x1_1 + 1)) + 1)) + 1)) + 1)) + 1)) + 1)) + 1)) + 1)⟩ : S47)⟩ : S82)) (k82_mkM _ _ _ (⟨(rd_T82 y313 x5_1).f0, (rd_T82 y313 x5_1).f1, (rd_T82 y313 x5_1).f2, (⟨(rd_T82 y313 x5_1).f3.f0, (rd_T82 y313 x5_1).f3.f1, (rd_T82 y313 x5_1).f3.f2, (rd_T82 y313 x5_1).f3.f3, (rd_T82 y313 x5_1).f3.f4, wrap64 ((wrap64 ((wrap64 ((wrap64 ((wrap64 ((wrap64 ((wrap64 ((wrap64 (x1_1 + 1)) + 1)) + 1)) + 1)) + 1)) + 1)) + 1)) + 1)⟩ : S47)⟩ : S82) ) (fun _ hk => hk); have hx35_8 := hcc35 8 _ rfl; (try simp only [show (k82).sz = 9 from rfl, Nat.mul_one, Nat.add_zero] at hx35_8); have hf35_8 := hfr35 8; (try simp only [show (k82).sz = 9 from rfl, Nat.mul_one, Nat.add_zero] at hf35_8); clear hcl35 hcc35 hfr35 hM35) | ((with_reducible refine gate_store (t := 3) (p := 80) rfl ?_); refine store_event (t := 3) (p := 80) (v := ?vo_w36) (w1 := (w34.setCell ⟨go5, (x5_1 : Int).toNat * 9 + 8, none⟩ (.int .i64 (wrap64 ((wrap64 ((wrap64 ((wrap64 ((wrap64 ((wrap64 ((wrap64 ((wrap64 (x1_1 + 1)) + 1)) + 1)) + 1)) + 1)) + 1)) + 1)) + 1))))) ?hg ?ho ?hn ?hr ?_; (case ho => rfl); (case hg => rfl); (case hn => rfl); (case hr => first | (go_simp; done) | (go_simp; rfl)); intro w36 hw; have hg : w34.grownBy w36 (some go5) := (by rw [hw]; exact HP35.2); have hp_ : Kd.R k82 82 w36 w0.heap.size (fun k_ => (P0_ k_ ∨ w.heap.size ≤ k_)) (.slice (some ⟨go5, 0, none⟩) x0_1.length co16) y314 := (by rw [hw, Ny314.out]; exact HP35.1); clear HP35; have n0_ := Aside0.mk (hp_); have n1_ := Aside0.mk ((by rw [hw]; exact below_set (HB.out) GB5.out : Below w0.heap.size w0 w36)); have n2_ := Aside0.mk (Kept.of_grown (S := (fun k_ => P0_ k_)) hg (by repeat (first | (with_reducible first | exact HK.out | apply Kept.alloc | apply Kept.drewN | apply Kept.drew) | exact HK.out)) (fun k_ e_ => (HO_0.out.1 k_ e_))); clear HO_0; clear HB; clear HK; have HO_0 := n0_; have HB := n1_; have HK := n2_; clear n0_ n1_ n2_; clear hg hw hp_))
     go_roundg k1
     case measure => have := HK1.out; first | exact this | exact Nat.le_of_succ_le this | exact Nat.le_refl _ | omega
     case rel => exact ⟨(y314), (wrap64 ((wrap64 ((wrap64 ((wrap64 ((wrap64 ((wrap64 ((wrap64 ((wrap64 ((wrap64 (x1_1 + 1)) + 1)) + 1)) + 1)) + 1)) + 1)) + 1)) + 1)) + 1)), (wrap64 (x5_1 + 1)), rs_, rs_, H', ⟨by have := HK1.out; first | exact this | exact Nat.le_of_succ_le this | exact Nat.le_refl _ | omega⟩, ⟨rr_ HO_0⟩, ⟨by repeat (first | (with_reducible first | exact HK.out | apply Kept.alloc | apply Kept.drewN | apply Kept.drew) | exact HK.out)⟩, ⟨hb_ HB⟩⟩
    ·rw [if_neg c4] at H
     exact absurd H (by simp)
   ·rw [if_neg c3] at H
    have c3b0 : decide (x5_1 < (x0_1.length : Int)) = false := decide_eq_false c3
    clear c3
    simp only [Option.some.injEq, Prod.mk.injEq] at H
    obtain ⟨rfl, rfl⟩ := H
    obtain ⟨Ao37, co37, eo37⟩ := Kd.R_slice HO_0.out
    subst eo37
    go_wp2
    go_ret
    exact ⟨re_, rr_ HO_0, hb_ HB, by repeat (first | (with_reducible first | exact HK.out | apply Kept.alloc | apply Kept.drewN | apply Kept.drew) | exact HK.out)⟩

/-! ### laws_markIntS: function 16 -/
def laws_markIntS.l0 : Nat → List Int → Int → Int → Option (Int × List Int)
 | 0, _, _, _ => none
 | k + 1, x0, x1, x5 => if x5 < (x0.length : Int) then (if 0 ≤ x5 then (laws_markIntS.l0 k (x0.set (x5 : Int).toNat x1) (wrap64 (x1 + 1)) (wrap64 (x5 + 1))) else (none)) else (some (x1, x0))
def laws_markIntS.f (k : Nat) (l0 : List Int) (a1 : Int) : Option (Int × List Int) := laws_markIntS.l0 k l0 a1 0
theorem laws_markIntS.mono_l : ∀ k, (∀ y0 y1 y2, LeO (laws_markIntS.l0 k y0 y1 y2) (laws_markIntS.l0 (k + 1) y0 y1 y2))
 | 0 => fun _ _ _ r h => by simp [laws_markIntS.l0] at h
 | k + 1 => by
  have ih0 := laws_markIntS.mono_l k
  ·intro y0 y1 y2
   unfold laws_markIntS.l0
   repeat' first
   | (with_reducible exact ih0 _ _ _)
   | (with_reducible exact LeO.refl _)
   | (with_reducible exact LeO.none _)
   | (with_reducible refine LeO.ite ?_ ?_)
   | (with_reducible refine LeO.bind ?_ (fun _ => ?_))
   | exact ih0 _ _ _
   | exact LeO.none _
   | refine LeO.ite ?_ ?_
   | refine LeO.bind ?_ (fun _ => ?_)
theorem laws_markIntS.mono : ∀ a0 a1 k, LeO (laws_markIntS.f k a0 a1) (laws_markIntS.f (k + 1) a0 a1) := by
 intro a0 a1 k
 have ih0 := laws_markIntS.mono_l k
 unfold laws_markIntS.f
 repeat' first
   | (with_reducible exact ih0 _ _ _)
   | (with_reducible exact LeO.refl _)
   | (with_reducible exact LeO.none _)
   | (with_reducible refine LeO.ite ?_ ?_)
   | (with_reducible refine LeO.bind ?_ (fun _ => ?_))
   | exact ih0 _ _ _
   | exact LeO.none _
   | refine LeO.ite ?_ ?_
   | refine LeO.bind ?_ (fun _ => ?_)
set_option maxHeartbeats 8000000 in
set_option maxRecDepth 100000 in
theorem laws_markIntS.calls (k : Nat) (P0_ : Nat → Prop) (u9000_ : Value) (l0 : List Int) (a1 : Int) (r1 : Int) (r2 : List Int) (w0 w : World) (hB : Below w0.heap.size w0 w) (ho0 : Kd.R (Kd.int .i64) 3 w w0.heap.size P0_ u9000_ l0) (h : laws_markIntS.f k l0 a1 = some (r1, r2)) :
  Calls Try.prog 16 #[u9000_, .int .i64 a1] w fun e w' => e = .returned (.int .i64 r1) ∧ Kd.R (Kd.int .i64) 3 w' w0.heap.size (fun k_ => (P0_ k_ ∨ w.heap.size ≤ k_)) u9000_ r2 ∧ Below w0.heap.size w0 w' ∧ Kept w w' (fun k_ => P0_ k_) := by
 have HO0 := Aside0.mk (show Kd.R (Kd.int .i64) 3 w w0.heap.size (fun k_ => (P0_ k_ ∨ w.heap.size ≤ k_)) u9000_ l0 from Kd.R_mono ho0 (fun k_ hk => (.inl hk)))
 have HK := Aside0.mk (Kept.refl w (fun k_ => P0_ k_))
 have HW0 := Aside0.mk hB.size
 have HB := Aside0.mk hB
 clear hB
 have H : (laws_markIntS.l0 k l0 a1 0) = some (r1, r2) := h
 clear h
 have H' := Aside0.mk H
 clear H
 go_enter Try.func16, Try.ntmps16
 go_wp2
 go_loopg [1, 5] k (fun kq v1 v5 w' => ∃ (x0_1 : List Int) (x1_1 : Int) (x5_1 : Int), v1 = .int .i64 x1_1 ∧ v5 = .int .i64 x5_1 ∧ Aside0 (laws_markIntS.l0 kq x0_1 x1_1 x5_1 = some (r1, r2)) ∧ Aside0 (kq ≤ k) ∧ Aside0 (Kd.R (Kd.int .i64) 3 w' w0.heap.size (fun k_ => (P0_ k_ ∨ w.heap.size ≤ k_)) u9000_ x0_1) ∧ Aside0 (Kept w w' (fun k_ => P0_ k_)) ∧ Aside0 (Below w0.heap.size w0 w'))
 case atStart => exact ⟨(l0), (a1), (0), rs_, rs_, H', ⟨Nat.le_refl _⟩, ⟨rr_ HO0⟩, ⟨by repeat (first | (with_reducible first | exact HK.out | apply Kept.alloc | apply Kept.drewN | apply Kept.drew) | exact HK.out)⟩, ⟨hb_ HB⟩⟩
 case round =>
  clear H'
  try clear c1
  try clear p2
  obtain ⟨x0_1, x1_1, x5_1, rfl, rfl, HA, HK1, HO_0, HK, HB⟩ := hrel
  cases gk with
  | zero => exact absurd HA.out (by simp [laws_markIntS.l0])
  | succ k1 =>
   have H := HA.out
   clear HA
   simp only [laws_markIntS.l0] at H
   by_cases c3 : x5_1 < (x0_1.length : Int)
   ·rw [if_pos c3] at H
    have c3b0 : decide (x5_1 < (x0_1.length : Int)) = true := decide_eq_true c3
    clear c3
    by_cases c4 : 0 ≤ x5_1
    ·rw [if_pos c4] at H
     have c4b0 : decide (0 ≤ x5_1) = true := decide_eq_true c4
     clear c4
     obtain ⟨y315, hy315⟩ : ∃ y_ : List Int, y_ = (x0_1.set (x5_1 : Int).toNat x1_1) := ⟨_, rfl⟩
     replace H : (laws_markIntS.l0 k1 y315 (wrap64 (x1_1 + 1)) (wrap64 (x5_1 + 1))) = some (r1, r2) := by first | (rw [hy315]; with_reducible exact H) | (have H2_ := (Option.bind_some _ _).symm.trans H; rw [hy315]; with_reducible exact H2_) | (have H2_ := (Option.bind_some _ _).symm.trans H; with_reducible exact H2_) | with_reducible exact H | (rw [hy315]; exact H) | exact H
     have Ny315 := Aside0.mk hy315
     clear hy315
     have H' := Aside0.mk H
     clear H
     obtain ⟨Ao6, co6, eo6⟩ := Kd.R_slice HO_0.out
     subst eo6
     have p5 : 0 ≤ (x5_1 : Int) := of_decide_eq_true as_
     have q5 : (x5_1 : Int) < ((x0_1.length : Int) : Int) := of_decide_eq_true as_
     obtain ⟨go5, co5, eo5, gb5, gl5, cl5, HG5⟩ := Kd.R_form HO_0.out (by omega)
     (first | cases eo5 | (injection eo5 with ea_ en_ ec_; (first | subst ea_ | (injection ea_ with ea_; subst ea_)); subst ec_; clear en_))
     have GB5 := Aside0.mk gb5
     have GG5 := Aside0.mk HG5
     clear gb5 gl5 HG5
     have HMgo5 := Aside0.mk (show (P0_ go5 ∨ w.heap.size ≤ go5) from (HO_0.out.1 _ rfl))
     obtain ⟨hx5_0, hf5_0⟩ := Kd.R_celln 0 HO_0.out (x5_1 : Int) p5 q5
     replace p5 := eq_true p5
     replace q5 := eq_true q5
     have HP7 := Kd.R_putg HO_0.out (x5_1 : Int) x1_1
     go_wp2_with (first | ((with_reducible refine gate_store (t := 3) (p := 15) rfl ?_); refine store_event (t := 3) (p := 15) (v := ?vo_w8) (w1 := (wr.setCell ⟨go5, (x5_1 : Int).toNat, none⟩ (.int .i64 x1_1))) ?hg ?ho ?hn ?hr ?_; (case ho => rfl); (case hg => rfl); (case hn => rfl); (case hr => first | (go_simp; done) | (go_simp; rfl)); intro w8 hw; have hg : wr.grownBy w8 (some go5) := (by rw [hw]; exact HP7.2); have hp_ : Kd.R (Kd.int .i64) 3 w8 w0.heap.size (fun k_ => (P0_ k_ ∨ w.heap.size ≤ k_)) (.slice (some ⟨go5, 0, none⟩) x0_1.length co6) y315 := (by rw [hw, Ny315.out]; exact HP7.1); clear HP7; have n0_ := Aside0.mk (hp_); have n1_ := Aside0.mk ((by rw [hw]; exact below_set (HB.out) GB5.out : Below w0.heap.size w0 w8)); have n2_ := Aside0.mk (Kept.of_grown (S := (fun k_ => P0_ k_)) hg (by repeat (first | (with_reducible first | exact HK.out | apply Kept.alloc | apply Kept.drewN | apply Kept.drew) | exact HK.out)) (fun k_ e_ => (HO_0.out.1 k_ e_))); clear HO_0; clear HB; clear HK; have HO_0 := n0_; have HB := n1_; have HK := n2_; clear n0_ n1_ n2_; clear hg hw hp_))
     go_roundg k1
     case measure => have := HK1.out; first | exact this | exact Nat.le_of_succ_le this | exact Nat.le_refl _ | omega
     case rel => exact ⟨(y315), (wrap64 (x1_1 + 1)), (wrap64 (x5_1 + 1)), rs_, rs_, H', ⟨by have := HK1.out; first | exact this | exact Nat.le_of_succ_le this | exact Nat.le_refl _ | omega⟩, ⟨rr_ HO_0⟩, ⟨by repeat (first | (with_reducible first | exact HK.out | apply Kept.alloc | apply Kept.drewN | apply Kept.drew) | exact HK.out)⟩, ⟨hb_ HB⟩⟩
    ·rw [if_neg c4] at H
     exact absurd H (by simp)
   ·rw [if_neg c3] at H
    have c3b0 : decide (x5_1 < (x0_1.length : Int)) = false := decide_eq_false c3
    clear c3
    simp only [Option.some.injEq, Prod.mk.injEq] at H
    obtain ⟨rfl, rfl⟩ := H
    obtain ⟨Ao9, co9, eo9⟩ := Kd.R_slice HO_0.out
    subst eo9
    go_wp2
    go_ret
    exact ⟨re_, rr_ HO_0, hb_ HB, by repeat (first | (with_reducible first | exact HK.out | apply Kept.alloc | apply Kept.drewN | apply Kept.drew) | exact HK.out)⟩

/-! ### laws_heldIntS: function 17 -/
def laws_heldIntS.l0 : Nat → List Int → Int → Int → Option (Int)
 | 0, _, _, _ => none
 | k + 1, x0, x1, x5 => if x5 < (x0.length : Int) then (if 0 ≤ x5 then (if (rd x0 x5) = x1 then (laws_heldIntS.l0 k x0 (wrap64 (x1 + 1)) (wrap64 (x5 + 1))) else (some (-1))) else (none)) else (some x1)
def laws_heldIntS.f (k : Nat) (l0 : List Int) (a1 : Int) : Option (Int) := laws_heldIntS.l0 k l0 a1 0
theorem laws_heldIntS.mono_l : ∀ k, (∀ y0 y1 y2, LeO (laws_heldIntS.l0 k y0 y1 y2) (laws_heldIntS.l0 (k + 1) y0 y1 y2))
 | 0 => fun _ _ _ r h => by simp [laws_heldIntS.l0] at h
 | k + 1 => by
  have ih0 := laws_heldIntS.mono_l k
  ·intro y0 y1 y2
   unfold laws_heldIntS.l0
   repeat' first
   | (with_reducible exact ih0 _ _ _)
   | (with_reducible exact LeO.refl _)
   | (with_reducible exact LeO.none _)
   | (with_reducible refine LeO.ite ?_ ?_)
   | (with_reducible refine LeO.bind ?_ (fun _ => ?_))
   | exact ih0 _ _ _
   | exact LeO.none _
   | refine LeO.ite ?_ ?_
   | refine LeO.bind ?_ (fun _ => ?_)
theorem laws_heldIntS.mono : ∀ a0 a1 k, LeO (laws_heldIntS.f k a0 a1) (laws_heldIntS.f (k + 1) a0 a1) := by
 intro a0 a1 k
 have ih0 := laws_heldIntS.mono_l k
 unfold laws_heldIntS.f
 repeat' first
   | (with_reducible exact ih0 _ _ _)
   | (with_reducible exact LeO.refl _)
   | (with_reducible exact LeO.none _)
   | (with_reducible refine LeO.ite ?_ ?_)
   | (with_reducible refine LeO.bind ?_ (fun _ => ?_))
   | exact ih0 _ _ _
   | exact LeO.none _
   | refine LeO.ite ?_ ?_
   | refine LeO.bind ?_ (fun _ => ?_)
set_option maxHeartbeats 8000000 in
set_option maxRecDepth 100000 in
theorem laws_heldIntS.calls (k : Nat) (A0 : Option Addr) (c0 : Nat) (l0 : List Int) (a1 : Int) (r : Int) (w : World) (hr0 : Kd.C (Kd.int .i64) w A0 l0.length l0) (hc0 : l0.length ≤ c0) (h : laws_heldIntS.f k l0 a1 = some r) :
  Calls Try.prog 17 #[.slice A0 l0.length c0, .int .i64 a1] w fun e w' => e = .returned (.int .i64 r) ∧ Drawn0 w w' := by
 have HR0 := Aside0.mk hr0
 have HC0 := Aside0.mk hc0
 clear hr0 hc0
 have H : (laws_heldIntS.l0 k l0 a1 0) = some r := h
 clear h
 have H' := Aside0.mk H
 clear H
 go_enter Try.func17, Try.ntmps17
 go_wp2
 go_loopg [1, 5] k (fun kq v1 v5 w' => ∃ (x1_1 : Int) (x5_1 : Int), v1 = .int .i64 x1_1 ∧ v5 = .int .i64 x5_1 ∧ Aside0 (laws_heldIntS.l0 kq l0 x1_1 x5_1 = some r) ∧ Aside0 (kq ≤ k) ∧ Drawn0 w w')
 case atStart => exact ⟨(a1), (0), rs_, rs_, H', ⟨Nat.le_refl _⟩, by repeat (first | exact Drawn0.refl _ | apply Drawn0.step)⟩
 case round =>
  clear H'
  try clear c1
  try clear p2
  obtain ⟨x1_1, x5_1, rfl, rfl, HA, HK1, ⟨m1, rfl⟩⟩ := hrel
  cases gk with
  | zero => exact absurd HA.out (by simp [laws_heldIntS.l0])
  | succ k1 =>
   have H := HA.out
   clear HA
   simp only [laws_heldIntS.l0] at H
   by_cases c3 : x5_1 < (l0.length : Int)
   ·rw [if_pos c3] at H
    have c3b0 : decide (x5_1 < (l0.length : Int)) = true := decide_eq_true c3
    clear c3
    by_cases c4 : 0 ≤ x5_1
    ·rw [if_pos c4] at H
     have c4b0 : decide (0 ≤ x5_1) = true := decide_eq_true c4
     clear c4
     by_cases c5 : (rd l0 x5_1) = x1_1
     ·rw [if_pos c5] at H
      have c5b0 : ((rd l0 x5_1) == x1_1) = true := beq_iff_eq.mpr c5
      have c5b1 : ((rd l0 x5_1) != x1_1) = false := bne_eq_false_iff_eq.mpr c5
      clear c5
      have H' := Aside0.mk H
      clear H
      have p316 : 0 ≤ (x5_1 : Int) := of_decide_eq_true as_
      have q316 : x5_1 < (l0.length : Int) := of_decide_eq_true as_
      obtain ⟨ad316, e316, hx316_0⟩ := Kd.at_int HR0.out x5_1 p316 q316
      cases e316
      replace p316 := eq_true p316
      replace q316 := eq_true q316
      go_wp2
      go_roundg k1
      case measure => have := HK1.out; first | exact this | exact Nat.le_of_succ_le this | exact Nat.le_refl _ | omega
      case rel => exact ⟨(wrap64 (x1_1 + 1)), (wrap64 (x5_1 + 1)), rs_, rs_, H', ⟨by have := HK1.out; first | exact this | exact Nat.le_of_succ_le this | exact Nat.le_refl _ | omega⟩, by repeat (first | exact Drawn0.refl _ | apply Drawn0.step)⟩
     ·rw [if_neg c5] at H
      have c5b0 : ((rd l0 x5_1) == x1_1) = false := beq_eq_false_iff_ne.mpr c5
      have c5b1 : ((rd l0 x5_1) != x1_1) = true := bne_iff_ne.mpr c5
      obtain rfl := Option.some.inj H
      have p316 : 0 ≤ (x5_1 : Int) := of_decide_eq_true as_
      have q316 : x5_1 < (l0.length : Int) := of_decide_eq_true as_
      obtain ⟨ad316, e316, hx316_0⟩ := Kd.at_int HR0.out x5_1 p316 q316
      cases e316
      replace p316 := eq_true p316
      replace q316 := eq_true q316
      go_wp2
      go_ret
      exact ⟨by first | rfl | (simp; done) | (simp [*]; done), by repeat (first | exact Drawn0.refl _ | apply Drawn0.step)⟩
    ·rw [if_neg c4] at H
     exact absurd H (by simp)
   ·rw [if_neg c3] at H
    have c3b0 : decide (x5_1 < (l0.length : Int)) = false := decide_eq_false c3
    clear c3
    obtain rfl := Option.some.inj H
    go_wp2
    go_ret
    exact ⟨by first | rfl | (simp; done) | (simp [*]; done), by repeat (first | exact Drawn0.refl _ | apply Drawn0.step)⟩

/-! ### laws_FnExactSealed: function 3 -/
def laws_FnExactSealed.j0 : Nat → List (S80) → List Int → List Int → Bool → Option (Bool)
 | 0, _, _, _, _ => none
 | k + 1, x0, x4, x6, x42 => if x42 = true then (some false) else ((laws_markIntS.f k x6 1).bind fun bt338 => ((laws_heldIntS.f k bt338.2 1).bind fun t340 => (if t340 < 0 then (some false) else (if t340 = bt338.1 then ((laws_toPlaceS.f k x0).bind fun t341 => ((impl_Sealed.f k t341).bind fun t344 => ((laws_eqIntS.f k t344 x4).bind fun t347 => (if t347 = true then ((laws_heldIntS.f k bt338.2 1).bind fun t348 => (if t348 < 0 then (some false) else (if t348 = bt338.1 then (some true) else (some false)))) else (some false))))) else (some false)))))
def laws_FnExactSealed.f (k : Nat) (l0 : List (S80)) : Option (Bool) := (laws_szPlaceS.f k l0 1048576).bind fun t317 => (if t317 < 0 then (some true) else ((laws_toPlaceS.f k l0).bind fun t318 => ((spec_Sealed.f k t318).bind fun t321 => ((laws_toPlaceS.f k l0).bind fun t324 => ((impl_Sealed.f k t324).bind fun t327 => ((laws_eqIntS.f k t327 t321).bind fun t330 => (if t330 = true then ((laws_toPlaceS.f k l0).bind fun t331 => ((laws_eqPlaceS.f k t324 t331).bind fun t334 => (if t334 = true then ((laws_markPlaceS.f k t324 1).bind fun bt335 => (if bt335.1 < 0 then (laws_FnExactSealed.j0 k l0 t321 t327 true) else ((laws_eqIntS.f k t327 t321).bind fun t337 => (laws_FnExactSealed.j0 k l0 t321 t327 (!t337))))) else (some false)))) else (some false))))))))
theorem laws_FnExactSealed.mono_l : ∀ k, (∀ y0 y1 y2 y3, LeO (laws_FnExactSealed.j0 k y0 y1 y2 y3) (laws_FnExactSealed.j0 (k + 1) y0 y1 y2 y3))
 | 0 => fun _ _ _ _ r h => by simp [laws_FnExactSealed.j0] at h
 | k + 1 => by
  have ih0 := laws_FnExactSealed.mono_l k
  ·intro y0 y1 y2 y3
   unfold laws_FnExactSealed.j0
   repeat' first
   | (with_reducible exact ih0 _ _ _ _)
   | (with_reducible exact impl_Sealed.mono _ _)
   | (with_reducible exact laws_eqIntS.mono _ _ _)
   | (with_reducible exact laws_eqPlaceS.mono _ _ _)
   | (with_reducible exact laws_heldIntS.mono _ _ _)
   | (with_reducible exact laws_markIntS.mono _ _ _)
   | (with_reducible exact laws_markPlaceS.mono _ _ _)
   | (with_reducible exact laws_szPlaceS.mono _ _ _)
   | (with_reducible exact laws_toPlaceS.mono _ _)
   | (with_reducible exact spec_Sealed.mono _ _)
   | (with_reducible exact LeO.refl _)
   | (with_reducible exact LeO.none _)
   | (with_reducible refine LeO.ite ?_ ?_)
   | (with_reducible refine LeO.bind ?_ (fun _ => ?_))
   | exact ih0 _ _ _ _
   | exact impl_Sealed.mono _ _
   | exact laws_eqIntS.mono _ _ _
   | exact laws_eqPlaceS.mono _ _ _
   | exact laws_heldIntS.mono _ _ _
   | exact laws_markIntS.mono _ _ _
   | exact laws_markPlaceS.mono _ _ _
   | exact laws_szPlaceS.mono _ _ _
   | exact laws_toPlaceS.mono _ _
   | exact spec_Sealed.mono _ _
   | exact LeO.none _
   | refine LeO.ite ?_ ?_
   | refine LeO.bind ?_ (fun _ => ?_)
theorem laws_FnExactSealed.mono : ∀ a0 k, LeO (laws_FnExactSealed.f k a0) (laws_FnExactSealed.f (k + 1) a0) := by
 intro a0 k
 have ih0 := laws_FnExactSealed.mono_l k
 unfold laws_FnExactSealed.f
 repeat' first
   | (with_reducible exact ih0 _ _ _ _)
   | (with_reducible exact impl_Sealed.mono _ _)
   | (with_reducible exact laws_eqIntS.mono _ _ _)
   | (with_reducible exact laws_eqPlaceS.mono _ _ _)
   | (with_reducible exact laws_heldIntS.mono _ _ _)
   | (with_reducible exact laws_markIntS.mono _ _ _)
   | (with_reducible exact laws_markPlaceS.mono _ _ _)
   | (with_reducible exact laws_szPlaceS.mono _ _ _)
   | (with_reducible exact laws_toPlaceS.mono _ _)
   | (with_reducible exact spec_Sealed.mono _ _)
   | (with_reducible exact LeO.refl _)
   | (with_reducible exact LeO.none _)
   | (with_reducible refine LeO.ite ?_ ?_)
   | (with_reducible refine LeO.bind ?_ (fun _ => ?_))
   | exact ih0 _ _ _ _
   | exact impl_Sealed.mono _ _
   | exact laws_eqIntS.mono _ _ _
   | exact laws_eqPlaceS.mono _ _ _
   | exact laws_heldIntS.mono _ _ _
   | exact laws_markIntS.mono _ _ _
   | exact laws_markPlaceS.mono _ _ _
   | exact laws_szPlaceS.mono _ _ _
   | exact laws_toPlaceS.mono _ _
   | exact spec_Sealed.mono _ _
   | exact LeO.none _
   | refine LeO.ite ?_ ?_
   | refine LeO.bind ?_ (fun _ => ?_)
set_option maxHeartbeats 8000000 in
set_option maxRecDepth 100000 in
theorem laws_FnExactSealed.calls (k : Nat) (A0 : Option Addr) (c0 : Nat) (l0 : List (S80)) (r : Bool) (w : World) (hr0 : Kd.C k80 w A0 l0.length l0) (hc0 : l0.length ≤ c0) (hrt : r = true) (h : laws_FnExactSealed.f k l0 = some r) :
  Calls Try.prog 3 #[.slice A0 l0.length c0] w fun e w' => e = .returned (.bool r) ∧ Below w.heap.size w w' := by
 have HRT := Aside0.mk hrt
 clear hrt
 have HR0 := Aside0.mk hr0
 have HC0 := Aside0.mk hc0
 clear hr0 hc0
 have HB := Aside0.mk (Below.refl w.heap.size w)
 have H : ((laws_szPlaceS.f k l0 1048576).bind fun t317 => (if t317 < 0 then (some true) else ((laws_toPlaceS.f k l0).bind fun t318 => ((spec_Sealed.f k t318).bind fun t321 => ((laws_toPlaceS.f k l0).bind fun t324 => ((impl_Sealed.f k t324).bind fun t327 => ((laws_eqIntS.f k t327 t321).bind fun t330 => (if t330 = true then ((laws_toPlaceS.f k l0).bind fun t331 => ((laws_eqPlaceS.f k t324 t331).bind fun t334 => (if t334 = true then ((laws_markPlaceS.f k t324 1).bind fun bt335 => (if bt335.1 < 0 then (laws_FnExactSealed.j0 k l0 t321 t327 true) else ((laws_eqIntS.f k t327 t321).bind fun t337 => (laws_FnExactSealed.j0 k l0 t321 t327 (!t337))))) else (some false)))) else (some false))))))))) = some r := h
 clear h
 replace H := Option.bind_eq_some_iff.mp H
 obtain ⟨t317, A20, H⟩ := H
 replace H : (if t317 < 0 then (some true) else ((laws_toPlaceS.f k l0).bind fun t318 => ((spec_Sealed.f k t318).bind fun t321 => ((laws_toPlaceS.f k l0).bind fun t324 => ((impl_Sealed.f k t324).bind fun t327 => ((laws_eqIntS.f k t327 t321).bind fun t330 => (if t330 = true then ((laws_toPlaceS.f k l0).bind fun t331 => ((laws_eqPlaceS.f k t324 t331).bind fun t334 => (if t334 = true then ((laws_markPlaceS.f k t324 1).bind fun bt335 => (if bt335.1 < 0 then (laws_FnExactSealed.j0 k l0 t321 t327 true) else ((laws_eqIntS.f k t327 t321).bind fun t337 => (laws_FnExactSealed.j0 k l0 t321 t327 (!t337))))) else (some false)))) else (some false)))))))) = some r := H
 have A2 := Aside0.mk A20
 clear A20
 by_cases c3 : t317 < 0
 ·rw [if_pos c3] at H
  have c3b0 : decide (t317 < 0) = true := decide_eq_true c3
  clear c3
  obtain rfl := Option.some.inj H
  go_enter Try.func3, Try.ntmps3
  go_wp2_with (first | ((with_reducible refine gate_callee (f := 9) rfl ?_); refine goesL_ (some 13) rfl rfl Try.func9 (by kernel_rfl) rfl #[.slice A0 l0.length c0, .int .i64 1048576] rfl ar_ ?_; (with_reducible refine (laws_szPlaceS.calls k _ _ l0 1048576 t317 _ ?side1 ?side2 A2.out).mono ?_); (case side1 => repeat (first | exact HR0.out | (with_reducible refine Kd.C_alloc ?_ _) | (with_reducible refine Kd.C_drewN ?_ _) | (with_reducible refine Kd.C_drew ?_))); (case side2 => exact HC0.out); rintro e w4 ⟨rfl, hb⟩; refine ⟨_, rfl, ?_⟩; have n0_ := Aside0.mk (below_step (hb_ HB) hb); clear HB; have HB := n0_; clear n0_; (try clear hb); (try clear hb2); (try clear hk); (try clear hi)))
  go_ret
  exact ⟨re_, hb_ HB⟩
 ·rw [if_neg c3] at H
  have c3b0 : decide (t317 < 0) = false := decide_eq_false c3
  clear c3
  replace H := Option.bind_eq_some_iff.mp H
  obtain ⟨t318, A50, H⟩ := H
  replace H : ((spec_Sealed.f k t318).bind fun t321 => ((laws_toPlaceS.f k l0).bind fun t324 => ((impl_Sealed.f k t324).bind fun t327 => ((laws_eqIntS.f k t327 t321).bind fun t330 => (if t330 = true then ((laws_toPlaceS.f k l0).bind fun t331 => ((laws_eqPlaceS.f k t324 t331).bind fun t334 => (if t334 = true then ((laws_markPlaceS.f k t324 1).bind fun bt335 => (if bt335.1 < 0 then (laws_FnExactSealed.j0 k l0 t321 t327 true) else ((laws_eqIntS.f k t327 t321).bind fun t337 => (laws_FnExactSealed.j0 k l0 t321 t327 (!t337))))) else (some false)))) else (some false)))))) = some r := H
  have A5 := Aside0.mk A50
  clear A50
  replace H := Option.bind_eq_some_iff.mp H
  obtain ⟨t321, A60, H⟩ := H
  replace H : ((laws_toPlaceS.f k l0).bind fun t324 => ((impl_Sealed.f k t324).bind fun t327 => ((laws_eqIntS.f k t327 t321).bind fun t330 => (if t330 = true then ((laws_toPlaceS.f k l0).bind fun t331 => ((laws_eqPlaceS.f k t324 t331).bind fun t334 => (if t334 = true then ((laws_markPlaceS.f k t324 1).bind fun bt335 => (if bt335.1 < 0 then (laws_FnExactSealed.j0 k l0 t321 t327 true) else ((laws_eqIntS.f k t327 t321).bind fun t337 => (laws_FnExactSealed.j0 k l0 t321 t327 (!t337))))) else (some false)))) else (some false))))) = some r := H
  have A6 := Aside0.mk A60
  clear A60
  replace H := Option.bind_eq_some_iff.mp H
  obtain ⟨t324, A70, H⟩ := H
  replace H : ((impl_Sealed.f k t324).bind fun t327 => ((laws_eqIntS.f k t327 t321).bind fun t330 => (if t330 = true then ((laws_toPlaceS.f k l0).bind fun t331 => ((laws_eqPlaceS.f k t324 t331).bind fun t334 => (if t334 = true then ((laws_markPlaceS.f k t324 1).bind fun bt335 => (if bt335.1 < 0 then (laws_FnExactSealed.j0 k l0 t321 t327 true) else ((laws_eqIntS.f k t327 t321).bind fun t337 => (laws_FnExactSealed.j0 k l0 t321 t327 (!t337))))) else (some false)))) else (some false)))) = some r := H
  have A7 := Aside0.mk A70
  clear A70
  replace H := Option.bind_eq_some_iff.mp H
  obtain ⟨t327, A80, H⟩ := H
  replace H : ((laws_eqIntS.f k t327 t321).bind fun t330 => (if t330 = true then ((laws_toPlaceS.f k l0).bind fun t331 => ((laws_eqPlaceS.f k t324 t331).bind fun t334 => (if t334 = true then ((laws_markPlaceS.f k t324 1).bind fun bt335 => (if bt335.1 < 0 then (laws_FnExactSealed.j0 k l0 t321 t327 true) else ((laws_eqIntS.f k t327 t321).bind fun t337 => (laws_FnExactSealed.j0 k l0 t321 t327 (!t337))))) else (some false)))) else (some false))) = some r := H
  have A8 := Aside0.mk A80
  clear A80
  replace H := Option.bind_eq_some_iff.mp H
  obtain ⟨t330, A90, H⟩ := H
  replace H : (if t330 = true then ((laws_toPlaceS.f k l0).bind fun t331 => ((laws_eqPlaceS.f k t324 t331).bind fun t334 => (if t334 = true then ((laws_markPlaceS.f k t324 1).bind fun bt335 => (if bt335.1 < 0 then (laws_FnExactSealed.j0 k l0 t321 t327 true) else ((laws_eqIntS.f k t327 t321).bind fun t337 => (laws_FnExactSealed.j0 k l0 t321 t327 (!t337))))) else (some false)))) else (some false)) = some r := H
  have A9 := Aside0.mk A90
  clear A90
  by_cases c10 : t330 = true
  ·subst c10
   have H1 : ((laws_toPlaceS.f k l0).bind fun t331 => ((laws_eqPlaceS.f k t324 t331).bind fun t334 => (if t334 = true then ((laws_markPlaceS.f k t324 1).bind fun bt335 => (if bt335.1 < 0 then (laws_FnExactSealed.j0 k l0 t321 t327 true) else ((laws_eqIntS.f k t327 t321).bind fun t337 => (laws_FnExactSealed.j0 k l0 t321 t327 (!t337))))) else (some false)))) = some r := by rw [if_pos rfl] at H; exact H
   clear H
   have H := H1
   clear H1
   replace H := Option.bind_eq_some_iff.mp H
   obtain ⟨t331, A110, H⟩ := H
   replace H : ((laws_eqPlaceS.f k t324 t331).bind fun t334 => (if t334 = true then ((laws_markPlaceS.f k t324 1).bind fun bt335 => (if bt335.1 < 0 then (laws_FnExactSealed.j0 k l0 t321 t327 true) else ((laws_eqIntS.f k t327 t321).bind fun t337 => (laws_FnExactSealed.j0 k l0 t321 t327 (!t337))))) else (some false))) = some r := H
   have A11 := Aside0.mk A110
   clear A110
   replace H := Option.bind_eq_some_iff.mp H
   obtain ⟨t334, A120, H⟩ := H
   replace H : (if t334 = true then ((laws_markPlaceS.f k t324 1).bind fun bt335 => (if bt335.1 < 0 then (laws_FnExactSealed.j0 k l0 t321 t327 true) else ((laws_eqIntS.f k t327 t321).bind fun t337 => (laws_FnExactSealed.j0 k l0 t321 t327 (!t337))))) else (some false)) = some r := H
   have A12 := Aside0.mk A120
   clear A120
   by_cases c13 : t334 = true
   ·subst c13
    have H1 : ((laws_markPlaceS.f k t324 1).bind fun bt335 => (if bt335.1 < 0 then (laws_FnExactSealed.j0 k l0 t321 t327 true) else ((laws_eqIntS.f k t327 t321).bind fun t337 => (laws_FnExactSealed.j0 k l0 t321 t327 (!t337))))) = some r := by rw [if_pos rfl] at H; exact H
    clear H
    have H := H1
    clear H1
    replace H := Option.bind_eq_some_iff.mp H
    obtain ⟨⟨t335, t336⟩, A140, H⟩ := H
    replace H : (if t335 < 0 then (laws_FnExactSealed.j0 k l0 t321 t327 true) else ((laws_eqIntS.f k t327 t321).bind fun t337 => (laws_FnExactSealed.j0 k l0 t321 t327 (!t337)))) = some r := H
    have A14 := Aside0.mk A140
    clear A140
    have HC15 := Aside0.mk H
    clear H
    go_enter Try.func3, Try.ntmps3
    go_upto_region 14 with (first | ((with_reducible refine gate_callee (f := 9) rfl ?_); refine goesL_ (some 13) rfl rfl Try.func9 (by kernel_rfl) rfl #[.slice A0 l0.length c0, .int .i64 1048576] rfl ar_ ?_; (with_reducible refine (laws_szPlaceS.calls k _ _ l0 1048576 t317 _ ?side1 ?side2 A2.out).mono ?_); (case side1 => repeat (first | exact HR0.out | (with_reducible refine Kd.C_alloc ?_ _) | (with_reducible refine Kd.C_drewN ?_ _) | (with_reducible refine Kd.C_drew ?_))); (case side2 => exact HC0.out); rintro e w16 ⟨rfl, hb⟩; refine ⟨_, rfl, ?_⟩; have n0_ := Aside0.mk (below_step (hb_ HB) hb); clear HB; have HB := n0_; clear n0_; (try clear hb); (try clear hb2); (try clear hk); (try clear hi)) | ((with_reducible refine gate_callee (f := 11) rfl ?_); refine goesL_ (some 17) rfl rfl Try.func11 (by kernel_rfl) rfl #[.slice A0 l0.length c0] rfl ar_ ?_; (with_reducible refine (laws_toPlaceS.calls k _ _ l0 t318 _ ?side1 ?side2 A5.out).mono ?_); (case side1 => repeat (first | exact (Kd.C_below HR0.out HB.out) | (with_reducible refine Kd.C_alloc ?_ _) | (with_reducible refine Kd.C_drewN ?_ _) | (with_reducible refine Kd.C_drew ?_))); (case side2 => exact HC0.out); rintro e w17 ⟨v319, rfl, ho0, hb⟩; refine ⟨_, rfl, ?_⟩; have n0_ := Aside0.mk (Kd.R_lower ho0 (below_size (hb_ HB))); have n1_ := Aside0.mk (below_step (hb_ HB) hb); clear HB; have HO320 := n0_; have HB := n1_; clear n0_ n1_; (try clear hb); (try clear hb2); (try clear hk); (try clear hi); (try clear ho0); obtain ⟨Ao18, co18, eo18⟩ := Kd.R_slice HO320.out; subst eo18) | ((with_reducible refine gate_callee (f := 10) rfl ?_); refine goesL_ (some 18) rfl rfl Try.func10 (by kernel_rfl) rfl #[.slice Ao18 t318.length co18] rfl ar_ ?_; (with_reducible refine (spec_Sealed.calls k _ _ t318 t321 _ ?side1 ?side2 A6.out).mono ?_); (case side1 => repeat (first | exact (Kd.R_reads' HO320.out).2.2 | (with_reducible refine Kd.C_alloc ?_ _) | (with_reducible refine Kd.C_drewN ?_ _) | (with_reducible refine Kd.C_drew ?_))); (case side2 => exact (Kd.R_reads' HO320.out).2.1); rintro e w19 ⟨v322, rfl, ho0, hb⟩; refine ⟨_, rfl, ?_⟩; have n0_ := Aside0.mk (Kd.R_below (rr_ HO320) hb); have n1_ := Aside0.mk (Kd.R_lower ho0 (below_size (hb_ HB))); have n2_ := Aside0.mk (below_step (hb_ HB) hb); clear HO320; clear HB; have HO320 := n0_; have HO323 := n1_; have HB := n2_; clear n0_ n1_ n2_; (try clear hb); (try clear hb2); (try clear hk); (try clear hi); (try clear ho0)) | ((with_reducible refine gate_callee (f := 11) rfl ?_); refine goesL_ (some 20) rfl rfl Try.func11 (by kernel_rfl) rfl #[.slice A0 l0.length c0] rfl ar_ ?_; (with_reducible refine (laws_toPlaceS.calls k _ _ l0 t324 _ ?side1 ?side2 A7.out).mono ?_); (case side1 => repeat (first | exact (Kd.C_below HR0.out HB.out) | (with_reducible refine Kd.C_alloc ?_ _) | (with_reducible refine Kd.C_drewN ?_ _) | (with_reducible refine Kd.C_drew ?_))); (case side2 => exact HC0.out); rintro e w20 ⟨v325, rfl, ho0, hb⟩; refine ⟨_, rfl, ?_⟩; have n0_ := Aside0.mk (Kd.R_elder' (rr_ HO320) (Kd.R_base ho0) hb); have n1_ := Aside0.mk (Kd.R_below (rr_ HO323) hb); have n2_ := Aside0.mk (Kd.R_lower (Kd.R_new' ho0 (Kd.R_lt (rr_ HO320))) (below_size (hb_ HB))); have n3_ := Aside0.mk (below_step (hb_ HB) hb); clear HO320; clear HO323; clear HB; have HO320 := n0_; have HO323 := n1_; have HO326 := n2_; have HB := n3_; clear n0_ n1_ n2_ n3_; (try clear hb); (try clear hb2); (try clear hk); (try clear hi); (try clear ho0); obtain ⟨Ao21, co21, eo21⟩ := Kd.R_slice HO326.out; subst eo21) | ((with_reducible refine gate_callee (f := 12) rfl ?_); refine goesL_ (some 22) rfl rfl Try.func12 (by kernel_rfl) rfl #[.slice Ao21 t324.length co21] rfl ar_ ?_; (with_reducible refine (impl_Sealed.calls k _ _ t324 t327 _ ?side1 ?side2 A8.out).mono ?_); (case side1 => repeat (first | exact (Kd.R_reads' HO326.out).2.2 | (with_reducible refine Kd.C_alloc ?_ _) | (with_reducible refine Kd.C_drewN ?_ _) | (with_reducible refine Kd.C_drew ?_))); (case side2 => exact (Kd.R_reads' HO326.out).2.1); rintro e w22 ⟨v328, rfl, ho0, hb⟩; refine ⟨_, rfl, ?_⟩; have n0_ := Aside0.mk (Kd.R_below (rr_ HO320) hb); have n1_ := Aside0.mk (Kd.R_elder' (rr_ HO323) (Kd.R_base ho0) hb); have n2_ := Aside0.mk (Kd.R_below (rr_ HO326) hb); have n3_ := Aside0.mk (Kd.R_lower (Kd.R_new' ho0 (Kd.R_lt (rr_ HO323))) (below_size (hb_ HB))); have n4_ := Aside0.mk (below_step (hb_ HB) hb); clear HO320; clear HO323; clear HO326; clear HB; have HO320 := n0_; have HO323 := n1_; have HO326 := n2_; have HO329 := n3_; have HB := n4_; clear n0_ n1_ n2_ n3_ n4_; (try clear hb); (try clear hb2); (try clear hk); (try clear hi); (try clear ho0); obtain ⟨Ao23, co23, eo23⟩ := Kd.R_slice HO329.out; subst eo23; obtain ⟨Ao24, co24, eo24⟩ := Kd.R_slice HO323.out; subst eo24) | ((with_reducible refine gate_callee (f := 13) rfl ?_); refine goesL_ (some 25) rfl rfl Try.func13 (by kernel_rfl) rfl #[.slice Ao23 t327.length co23, .slice Ao24 t321.length co24] rfl ar_ ?_; (with_reducible refine (laws_eqIntS.calls k _ _ t327 _ _ t321 true _ ?side1 ?side2 ?side3 ?side4 A9.out).mono ?_); (case side1 => repeat (first | exact (Kd.R_reads' HO329.out).2.2 | (with_reducible refine Kd.C_alloc ?_ _) | (with_reducible refine Kd.C_drewN ?_ _) | (with_reducible refine Kd.C_drew ?_))); (case side2 => exact (Kd.R_reads' HO329.out).2.1); (case side3 => repeat (first | exact (Kd.R_reads' HO323.out).2.2 | (with_reducible refine Kd.C_alloc ?_ _) | (with_reducible refine Kd.C_drewN ?_ _) | (with_reducible refine Kd.C_drew ?_))); (case side4 => exact (Kd.R_reads' HO323.out).2.1); rintro e w' ⟨rfl, ⟨nd, rfl⟩⟩; refine ⟨_, rfl, ?_⟩) | ((with_reducible refine gate_callee (f := 11) rfl ?_); refine goesL_ (some 29) rfl rfl Try.func11 (by kernel_rfl) rfl #[.slice A0 l0.length c0] rfl ar_ ?_; (with_reducible refine (laws_toPlaceS.calls k _ _ l0 t331 _ ?side1 ?side2 A11.out).mono ?_); (case side1 => repeat (first | exact (Kd.C_below HR0.out (hb_ HB)) | (with_reducible refine Kd.C_alloc ?_ _) | (with_reducible refine Kd.C_drewN ?_ _) | (with_reducible refine Kd.C_drew ?_))); (case side2 => exact HC0.out); rintro e w25 ⟨v332, rfl, ho0, hb⟩; refine ⟨_, rfl, ?_⟩; have n0_ := Aside0.mk (Kd.R_elder' (rr_ HO320) (Kd.R_base ho0) hb); have n1_ := Aside0.mk (Kd.R_below (rr_ HO323) hb); have n2_ := Aside0.mk (Kd.R_elder' (rr_ HO326) (Kd.R_base ho0) hb); have n3_ := Aside0.mk (Kd.R_below (rr_ HO329) hb); have n4_ := Aside0.mk (Kd.R_lower (Kd.R_new' (Kd.R_new' ho0 (Kd.R_lt (rr_ HO320))) (Kd.R_lt (rr_ HO326))) (below_size (hb_ HB))); have n5_ := Aside0.mk (below_step (hb_ HB) hb); clear HO320; clear HO323; clear HO326; clear HO329; clear HB; have HO320 := n0_; have HO323 := n1_; have HO326 := n2_; have HO329 := n3_; have HO333 := n4_; have HB := n5_; clear n0_ n1_ n2_ n3_ n4_ n5_; (try clear hb); (try clear hb2); (try clear hk); (try clear hi); (try clear ho0); obtain ⟨Ao26, co26, eo26⟩ := Kd.R_slice HO333.out; subst eo26) | ((with_reducible refine gate_callee (f := 14) rfl ?_); refine goesL_ (some 30) rfl rfl Try.func14 (by kernel_rfl) rfl #[.slice Ao21 t324.length co21, .slice Ao26 t331.length co26] rfl ar_ ?_; (with_reducible refine (laws_eqPlaceS.calls k _ _ t324 _ _ t331 true _ ?side1 ?side2 ?side3 ?side4 A12.out).mono ?_); (case side1 => repeat (first | exact (Kd.R_reads' HO326.out).2.2 | (with_reducible refine Kd.C_alloc ?_ _) | (with_reducible refine Kd.C_drewN ?_ _) | (with_reducible refine Kd.C_drew ?_))); (case side2 => exact (Kd.R_reads' HO326.out).2.1); (case side3 => repeat (first | exact (Kd.R_reads' HO333.out).2.2 | (with_reducible refine Kd.C_alloc ?_ _) | (with_reducible refine Kd.C_drewN ?_ _) | (with_reducible refine Kd.C_drew ?_))); (case side4 => exact (Kd.R_reads' HO333.out).2.1); rintro e w27 ⟨rfl, hb⟩; refine ⟨_, rfl, ?_⟩; have n0_ := Aside0.mk (Kd.R_below (rr_ HO320) hb); have n1_ := Aside0.mk (Kd.R_below (rr_ HO323) hb); have n2_ := Aside0.mk (Kd.R_below (rr_ HO326) hb); have n3_ := Aside0.mk (Kd.R_below (rr_ HO329) hb); have n4_ := Aside0.mk (Kd.R_below (rr_ HO333) hb); have n5_ := Aside0.mk (below_step (hb_ HB) hb); clear HO320; clear HO323; clear HO326; clear HO329; clear HO333; clear HB; have HO320 := n0_; have HO323 := n1_; have HO326 := n2_; have HO329 := n3_; have HO333 := n4_; have HB := n5_; clear n0_ n1_ n2_ n3_ n4_ n5_; (try clear hb); (try clear hb2); (try clear hk); (try clear hi)) | ((with_reducible refine gate_callee (f := 15) rfl ?_); refine goesL_ (some 34) rfl rfl Try.func15 (by kernel_rfl) rfl #[.slice Ao21 t324.length co21, .int .i64 1] rfl ar_ ?_; (with_reducible refine (laws_markPlaceS.calls k (fun k_ => some k_ = (.slice Ao21 t324.length co21 : Value).ownBlock) (.slice Ao21 t324.length co21) t324 1 t335 t336 w _ ?side1 ?side2 A14.out).mono ?_); (case side1 => repeat (first | (with_reducible first | exact HB.out | apply below_alloc | apply pw_below_drewN | apply below_drew1) | exact HB.out)); (case side2 => exact Kd.R_tight rfl HO326.out); rintro e w28 ⟨rfl, hy0, hb, hkp⟩; refine ⟨_, rfl, ?_⟩; have n0_ := Aside0.mk (Kd.R_mono (ok' := fun k_ => some k_ ≠ (.slice Ao21 t324.length co21 : Value).ownBlock ∧ some k_ ≠ (.slice Ao26 t331.length co26 : Value).ownBlock) (Kd.R_keptB (HO320.out) hkp (fun k_ hk_ hs_ => (hk_.1.2) hs_)) (fun k_ hk_ => ⟨hk_.1.1.2, hk_.1.2⟩)); have n1_ := Aside0.mk (Kd.R_mono (ok' := fun k_ => some k_ ≠ (.slice Ao23 t327.length co23 : Value).ownBlock) (Kd.R_keptB ((Kd.R_apart' HO323.out (Kd.R_typed HO326.out) (by decide))) hkp (fun k_ hk_ hs_ => (hk_.2) hs_)) (fun k_ hk_ => hk_.1.1.2)); have n2_ := Aside0.mk (Kd.R_reok rfl hy0 (fun k_ e_ => HO326.out.1 k_ e_)); have n3_ := Aside0.mk (Kd.R_mono (ok' := fun k_ => some k_ ≠ (.slice Ao24 t321.length co24 : Value).ownBlock) (Kd.R_keptB ((Kd.R_apart' HO329.out (Kd.R_typed HO326.out) (by decide))) hkp (fun k_ hk_ hs_ => (hk_.2) hs_)) (fun k_ hk_ => hk_.1.1.2)); have n4_ := Aside0.mk (Kd.R_mono (ok' := fun k_ => some k_ ≠ (.slice Ao18 t318.length co18 : Value).ownBlock ∧ some k_ ≠ (.slice Ao21 t324.length co21 : Value).ownBlock) (Kd.R_keptB (HO333.out) hkp (fun k_ hk_ hs_ => (hk_.2) hs_)) (fun k_ hk_ => ⟨hk_.1.1.2, hk_.1.2⟩)); have n5_ := Aside0.mk (hb); clear HO320; clear HO323; clear HO326; clear HO329; clear HO333; clear HB; have HO320 := n0_; have HO323 := n1_; have HO326 := n2_; have HO329 := n3_; have HO333 := n4_; have HB := n5_; clear n0_ n1_ n2_ n3_ n4_ n5_; (try clear hb); (try clear hkp); (try clear hy0)))
    (try simp only [Act.put, la_, lz_, ls_])
    go_cut [42] (fun v42 wc => ∃ (kq : Nat) (x42_14 : Bool), v42 = .bool x42_14 ∧ Aside0 (laws_FnExactSealed.j0 kq l0 t321 t327 x42_14 = some r) ∧ Aside0 (kq ≤ k) ∧ Aside0 (Kd.R (Kd.int .i64) 3 wc w.heap.size (fun k_ => some k_ ≠ ((.slice Ao23 t327.length co23) : Value).ownBlock) (.slice Ao24 t321.length co24) t321) ∧ Aside0 (Kd.R (Kd.int .i64) 3 wc w.heap.size (fun k_ => some k_ ≠ ((.slice Ao24 t321.length co24) : Value).ownBlock) (.slice Ao23 t327.length co23) t327) ∧ Aside0 (Below w.heap.size w wc))
    case first =>
     have H := HC15.out
     clear HC15
     by_cases c29 : t335 < 0
     ·rw [if_pos c29] at H
      have c29b0 : decide (t335 < 0) = true := decide_eq_true c29
      clear c29
      (first | rw [c29b0] | (simp only [i64_w, i32_w]; rw [c29b0]) | skip)
      have H' := Aside0.mk H
      clear H
      go_wp2
      go_meet
      case rel => exact ⟨_, (true), rs_, H', ⟨by first | exact Nat.le_refl _ | exact Nat.le_of_succ_le this | omega⟩, ⟨rr_ HO323⟩, ⟨rr_ HO329⟩, ⟨hb_ HB⟩⟩
     ·rw [if_neg c29] at H
      have c29b0 : decide (t335 < 0) = false := decide_eq_false c29
      clear c29
      (first | rw [c29b0] | (simp only [i64_w, i32_w]; rw [c29b0]) | skip)
      replace H := Option.bind_eq_some_iff.mp H
      obtain ⟨t337, A300, H⟩ := H
      replace H : (laws_FnExactSealed.j0 k l0 t321 t327 (!t337)) = some r := H
      have A30 := Aside0.mk A300
      clear A300
      have H' := Aside0.mk H
      clear H
      go_wp2_with (first | (go_at_call 13; (with_reducible refine (laws_eqIntS.calls k _ _ t327 _ _ t321 t337 _ ?side1 ?side2 ?side3 ?side4 A30.out).mono ?_); (case side1 => repeat (first | exact (Kd.R_reads' HO329.out).2.2 | (with_reducible refine Kd.C_alloc ?_ _) | (with_reducible refine Kd.C_drewN ?_ _) | (with_reducible refine Kd.C_drew ?_))); (case side2 => exact (Kd.R_reads' HO329.out).2.1); (case side3 => repeat (first | exact (Kd.R_reads' HO323.out).2.2 | (with_reducible refine Kd.C_alloc ?_ _) | (with_reducible refine Kd.C_drewN ?_ _) | (with_reducible refine Kd.C_drew ?_))); (case side4 => exact (Kd.R_reads' HO323.out).2.1); rintro e w' ⟨rfl, ⟨nd, rfl⟩⟩))
      go_meet
      case rel => exact ⟨_, (!t337), rs_, H', ⟨by first | exact Nat.le_refl _ | exact Nat.le_of_succ_le this | omega⟩, ⟨rr_ HO323⟩, ⟨rr_ HO329⟩, ⟨hb_ HB⟩⟩
    case rest =>
     clear HC15
     try clear c1
     try clear c2
     try clear p2
     try clear c3
     try clear c3b0
     try clear c9
     try clear c10
     try clear c11
     try clear c12
     try clear c13
     try clear c14
     try clear c15
     try clear c29
     try clear c29b0
     obtain ⟨kq, x42_14, rfl, HA, HJ14, HO_4, HO_6, HB⟩ := hcut
     cases kq with
     | zero => exact absurd HA.out (by simp [laws_FnExactSealed.j0])
     | succ kj14 =>
      have H := HA.out
      clear HA
      simp only [laws_FnExactSealed.j0] at H
      by_cases c31 : x42_14 = true
      ·subst c31
       have H1 : (some false) = some r := by rw [if_pos rfl] at H; exact H
       clear H
       have H := H1
       clear H1
       exact absurd ((Option.some.inj H).trans HRT.out) (by decide)
      ·replace c31 := Bool.eq_false_iff.mpr c31
       subst c31
       have H1 : ((laws_markIntS.f kj14 t327 1).bind fun bt338 => ((laws_heldIntS.f kj14 bt338.2 1).bind fun t340 => (if t340 < 0 then (some false) else (if t340 = bt338.1 then ((laws_toPlaceS.f kj14 l0).bind fun t341 => ((impl_Sealed.f kj14 t341).bind fun t344 => ((laws_eqIntS.f kj14 t344 t321).bind fun t347 => (if t347 = true then ((laws_heldIntS.f kj14 bt338.2 1).bind fun t348 => (if t348 < 0 then (some false) else (if t348 = bt338.1 then (some true) else (some false)))) else (some false))))) else (some false))))) = some r := by rw [if_neg (show ¬ (false = true) by decide)] at H; exact H
       clear H
       have H := H1
       clear H1
       replace H := Option.bind_eq_some_iff.mp H
       obtain ⟨⟨t338, t339⟩, A320, H⟩ := H
       replace H : ((laws_heldIntS.f kj14 t339 1).bind fun t340 => (if t340 < 0 then (some false) else (if t340 = t338 then ((laws_toPlaceS.f kj14 l0).bind fun t341 => ((impl_Sealed.f kj14 t341).bind fun t344 => ((laws_eqIntS.f kj14 t344 t321).bind fun t347 => (if t347 = true then ((laws_heldIntS.f kj14 t339 1).bind fun t348 => (if t348 < 0 then (some false) else (if t348 = t338 then (some true) else (some false)))) else (some false))))) else (some false)))) = some r := H
       have A32 := Aside0.mk A320
       clear A320
       replace H := Option.bind_eq_some_iff.mp H
       obtain ⟨t340, A330, H⟩ := H
       replace H : (if t340 < 0 then (some false) else (if t340 = t338 then ((laws_toPlaceS.f kj14 l0).bind fun t341 => ((impl_Sealed.f kj14 t341).bind fun t344 => ((laws_eqIntS.f kj14 t344 t321).bind fun t347 => (if t347 = true then ((laws_heldIntS.f kj14 t339 1).bind fun t348 => (if t348 < 0 then (some false) else (if t348 = t338 then (some true) else (some false)))) else (some false))))) else (some false))) = some r := H
       have A33 := Aside0.mk A330
       clear A330
       by_cases c34 : t340 < 0
       ·rw [if_pos c34] at H
        have c34b0 : decide (t340 < 0) = true := decide_eq_true c34
        clear c34
        exact absurd ((Option.some.inj H).trans HRT.out) (by decide)
       ·rw [if_neg c34] at H
        have c34b0 : decide (t340 < 0) = false := decide_eq_false c34
        clear c34
        by_cases c35 : t340 = t338
        ·rw [if_pos c35] at H
         have c35b0 : (t340 == t338) = true := beq_iff_eq.mpr c35
         have c35b1 : (t340 != t338) = false := bne_eq_false_iff_eq.mpr c35
         clear c35
         replace H := Option.bind_eq_some_iff.mp H
         obtain ⟨t341, A360, H⟩ := H
         replace H : ((impl_Sealed.f kj14 t341).bind fun t344 => ((laws_eqIntS.f kj14 t344 t321).bind fun t347 => (if t347 = true then ((laws_heldIntS.f kj14 t339 1).bind fun t348 => (if t348 < 0 then (some false) else (if t348 = t338 then (some true) else (some false)))) else (some false)))) = some r := H
         have A36 := Aside0.mk A360
         clear A360
         replace H := Option.bind_eq_some_iff.mp H
         obtain ⟨t344, A370, H⟩ := H
         replace H : ((laws_eqIntS.f kj14 t344 t321).bind fun t347 => (if t347 = true then ((laws_heldIntS.f kj14 t339 1).bind fun t348 => (if t348 < 0 then (some false) else (if t348 = t338 then (some true) else (some false)))) else (some false))) = some r := H
         have A37 := Aside0.mk A370
         clear A370
         replace H := Option.bind_eq_some_iff.mp H
         obtain ⟨t347, A380, H⟩ := H
         replace H : (if t347 = true then ((laws_heldIntS.f kj14 t339 1).bind fun t348 => (if t348 < 0 then (some false) else (if t348 = t338 then (some true) else (some false)))) else (some false)) = some r := H
         have A38 := Aside0.mk A380
         clear A380
         by_cases c39 : t347 = true
         ·subst c39
          have H1 : ((laws_heldIntS.f kj14 t339 1).bind fun t348 => (if t348 < 0 then (some false) else (if t348 = t338 then (some true) else (some false)))) = some r := by rw [if_pos rfl] at H; exact H
          clear H
          have H := H1
          clear H1
          replace H := Option.bind_eq_some_iff.mp H
          obtain ⟨t348, A400, H⟩ := H
          replace H : (if t348 < 0 then (some false) else (if t348 = t338 then (some true) else (some false))) = some r := H
          have A40 := Aside0.mk A400
          clear A400
          by_cases c41 : t348 < 0
          ·rw [if_pos c41] at H
           have c41b0 : decide (t348 < 0) = true := decide_eq_true c41
           clear c41
           exact absurd ((Option.some.inj H).trans HRT.out) (by decide)
          ·rw [if_neg c41] at H
           have c41b0 : decide (t348 < 0) = false := decide_eq_false c41
           clear c41
           by_cases c42 : t348 = t338
           ·rw [if_pos c42] at H
            have c42b0 : (t348 == t338) = true := beq_iff_eq.mpr c42
            have c42b1 : (t348 != t338) = false := bne_eq_false_iff_eq.mpr c42
            clear c42
            obtain rfl := Option.some.inj H
            go_wp2_with (first | ((with_reducible refine gate_callee (f := 16) rfl ?_); refine goesL_ (some 45) rfl rfl Try.func16 (by kernel_rfl) rfl #[.slice Ao23 t327.length co23, .int .i64 1] rfl ar_ ?_; (with_reducible refine (laws_markIntS.calls kj14 (fun k_ => some k_ = (.slice Ao23 t327.length co23 : Value).ownBlock) (.slice Ao23 t327.length co23) t327 1 t338 t339 w _ ?side1 ?side2 A32.out).mono ?_); (case side1 => repeat (first | (with_reducible first | exact HB.out | apply below_alloc | apply pw_below_drewN | apply below_drew1) | exact HB.out)); (case side2 => exact Kd.R_tight rfl HO_6.out); rintro e w43 ⟨rfl, hy0, hb, hkp⟩; refine ⟨_, rfl, ?_⟩; have n0_ := Aside0.mk (Kd.R_mono (ok' := fun k_ => some k_ ≠ (.slice Ao23 t327.length co23 : Value).ownBlock) (Kd.R_keptB (HO_4.out) hkp (fun k_ hk_ hs_ => (hk_) hs_)) (fun k_ hk_ => hk_.1)); have n1_ := Aside0.mk (Kd.R_reok rfl hy0 (fun k_ e_ => HO_6.out.1 k_ e_)); have n2_ := Aside0.mk (hb); clear HO_4; clear HO_6; clear HB; have HO_4 := n0_; have HO_6 := n1_; have HB := n2_; clear n0_ n1_ n2_; (try clear hb); (try clear hkp); (try clear hy0)) | ((with_reducible refine gate_callee (f := 17) rfl ?_); refine goesL_ (some 48) rfl rfl Try.func17 (by kernel_rfl) rfl #[.slice Ao23 t339.length co23, .int .i64 1] rfl (by (try simp only [List.map_toArray, List.map_cons, List.map_nil]); first | done | (rw [show t339.length = t327.length from (Kd.R_reads' HO_6.out).1.symm] <;> rfl) | rfl | (simp only [List.length_drop, List.length_take]; rfl)) ?_; (with_reducible refine (laws_heldIntS.calls kj14 _ _ t339 1 t340 _ ?side1 ?side2 A33.out).mono ?_); (case side1 => repeat (first | exact (Kd.R_reads' HO_6.out).2.2 | (with_reducible refine Kd.C_alloc ?_ _) | (with_reducible refine Kd.C_drewN ?_ _) | (with_reducible refine Kd.C_drew ?_))); (case side2 => rw [show t339.length = t327.length from (Kd.R_reads' HO_6.out).1.symm]; exact (Kd.R_reads' HO_6.out).2.1); rintro e w' ⟨rfl, ⟨nd, rfl⟩⟩; refine ⟨_, rfl, ?_⟩) | ((with_reducible refine gate_callee (f := 11) rfl ?_); refine goesL_ (some 55) rfl rfl Try.func11 (by kernel_rfl) rfl #[.slice A0 l0.length c0] rfl ar_ ?_; (with_reducible refine (laws_toPlaceS.calls kj14 _ _ l0 t341 _ ?side1 ?side2 A36.out).mono ?_); (case side1 => repeat (first | exact (Kd.C_below HR0.out (hb_ HB)) | (with_reducible refine Kd.C_alloc ?_ _) | (with_reducible refine Kd.C_drewN ?_ _) | (with_reducible refine Kd.C_drew ?_))); (case side2 => exact HC0.out); rintro e w44 ⟨v342, rfl, ho0, hb⟩; refine ⟨_, rfl, ?_⟩; have n0_ := Aside0.mk (Kd.R_below (rr_ HO_4) hb); have n1_ := Aside0.mk (Kd.R_below (rr_ HO_6) hb); have n2_ := Aside0.mk (Kd.R_lower ho0 (below_size (hb_ HB))); have n3_ := Aside0.mk (below_step (hb_ HB) hb); clear HO_4; clear HO_6; clear HB; have HO_4 := n0_; have HO_6 := n1_; have HO343 := n2_; have HB := n3_; clear n0_ n1_ n2_ n3_; (try clear hb); (try clear hb2); (try clear hk); (try clear hi); (try clear ho0); obtain ⟨Ao45, co45, eo45⟩ := Kd.R_slice HO343.out; subst eo45) | ((with_reducible refine gate_callee (f := 12) rfl ?_); refine goesL_ (some 56) rfl rfl Try.func12 (by kernel_rfl) rfl #[.slice Ao45 t341.length co45] rfl ar_ ?_; (with_reducible refine (impl_Sealed.calls kj14 _ _ t341 t344 _ ?side1 ?side2 A37.out).mono ?_); (case side1 => repeat (first | exact (Kd.R_reads' HO343.out).2.2 | (with_reducible refine Kd.C_alloc ?_ _) | (with_reducible refine Kd.C_drewN ?_ _) | (with_reducible refine Kd.C_drew ?_))); (case side2 => exact (Kd.R_reads' HO343.out).2.1); rintro e w46 ⟨v345, rfl, ho0, hb⟩; refine ⟨_, rfl, ?_⟩; have n0_ := Aside0.mk (Kd.R_elder' (rr_ HO_4) (Kd.R_base ho0) hb); have n1_ := Aside0.mk (Kd.R_elder' (rr_ HO_6) (Kd.R_base ho0) hb); have n2_ := Aside0.mk (Kd.R_below (rr_ HO343) hb); have n3_ := Aside0.mk (Kd.R_lower (Kd.R_new' (Kd.R_new' ho0 (Kd.R_lt (rr_ HO_4))) (Kd.R_lt (rr_ HO_6))) (below_size (hb_ HB))); have n4_ := Aside0.mk (below_step (hb_ HB) hb); clear HO_4; clear HO_6; clear HO343; clear HB; have HO_4 := n0_; have HO_6 := n1_; have HO343 := n2_; have HO346 := n3_; have HB := n4_; clear n0_ n1_ n2_ n3_ n4_; (try clear hb); (try clear hb2); (try clear hk); (try clear hi); (try clear ho0); obtain ⟨Ao47, co47, eo47⟩ := Kd.R_slice HO346.out; subst eo47) | ((with_reducible refine gate_callee (f := 13) rfl ?_); refine goesL_ (some 59) rfl rfl Try.func13 (by kernel_rfl) rfl #[.slice Ao47 t344.length co47, .slice Ao24 t321.length co24] rfl ar_ ?_; (with_reducible refine (laws_eqIntS.calls kj14 _ _ t344 _ _ t321 true _ ?side1 ?side2 ?side3 ?side4 A38.out).mono ?_); (case side1 => repeat (first | exact (Kd.R_reads' HO346.out).2.2 | (with_reducible refine Kd.C_alloc ?_ _) | (with_reducible refine Kd.C_drewN ?_ _) | (with_reducible refine Kd.C_drew ?_))); (case side2 => exact (Kd.R_reads' HO346.out).2.1); (case side3 => repeat (first | exact (Kd.R_reads' HO_4.out).2.2 | (with_reducible refine Kd.C_alloc ?_ _) | (with_reducible refine Kd.C_drewN ?_ _) | (with_reducible refine Kd.C_drew ?_))); (case side4 => exact (Kd.R_reads' HO_4.out).2.1); rintro e w' ⟨rfl, ⟨nd, rfl⟩⟩; refine ⟨_, rfl, ?_⟩) | ((with_reducible refine gate_callee (f := 17) rfl ?_); refine goesL_ (some 63) rfl rfl Try.func17 (by kernel_rfl) rfl #[.slice Ao23 t339.length co23, .int .i64 1] rfl (by (try simp only [List.map_toArray, List.map_cons, List.map_nil]); first | done | (rw [show t339.length = t327.length from (Kd.R_reads' HO_6.out).1.symm] <;> rfl) | rfl | (simp only [List.length_drop, List.length_take]; rfl)) ?_; (with_reducible refine (laws_heldIntS.calls kj14 _ _ t339 1 t348 _ ?side1 ?side2 A40.out).mono ?_); (case side1 => repeat (first | exact (Kd.R_reads' HO_6.out).2.2 | (with_reducible refine Kd.C_alloc ?_ _) | (with_reducible refine Kd.C_drewN ?_ _) | (with_reducible refine Kd.C_drew ?_))); (case side2 => rw [show t339.length = t327.length from (Kd.R_reads' HO_6.out).1.symm]; exact (Kd.R_reads' HO_6.out).2.1); rintro e w' ⟨rfl, ⟨nd, rfl⟩⟩; refine ⟨_, rfl, ?_⟩))
            go_ret
            exact ⟨re_, hb_ HB⟩
           ·rw [if_neg c42] at H
            have c42b0 : (t348 == t338) = false := beq_eq_false_iff_ne.mpr c42
            have c42b1 : (t348 != t338) = true := bne_iff_ne.mpr c42
            exact absurd ((Option.some.inj H).trans HRT.out) (by decide)
         ·replace c39 := Bool.eq_false_iff.mpr c39
          subst c39
          have H1 : (some false) = some r := by rw [if_neg (show ¬ (false = true) by decide)] at H; exact H
          clear H
          have H := H1
          clear H1
          exact absurd ((Option.some.inj H).trans HRT.out) (by decide)
        ·rw [if_neg c35] at H
         have c35b0 : (t340 == t338) = false := beq_eq_false_iff_ne.mpr c35
         have c35b1 : (t340 != t338) = true := bne_iff_ne.mpr c35
         exact absurd ((Option.some.inj H).trans HRT.out) (by decide)
   ·replace c13 := Bool.eq_false_iff.mpr c13
    subst c13
    have H1 : (some false) = some r := by rw [if_neg (show ¬ (false = true) by decide)] at H; exact H
    clear H
    have H := H1
    clear H1
    exact absurd ((Option.some.inj H).trans HRT.out) (by decide)
  ·replace c10 := Bool.eq_false_iff.mpr c10
   subst c10
   have H1 : (some false) = some r := by rw [if_neg (show ¬ (false = true) by decide)] at H; exact H
   clear H
   have H := H1
   clear H1
   exact absurd ((Option.some.inj H).trans HRT.out) (by decide)

/-- THE ONE PURE STATEMENT of laws_FnExactSealed. -/
def laws_FnExactSealed.Pure : Prop := ∀ (l0 : List (S80)), (l0.length ≤ maxLen ∧ ∀ z ∈ l0, ((Lit.int .i64 z.f0).wf = true) ∧ ((Lit.int .i64 z.f1).wf = true) ∧ ((Lit.int .i64 z.f2).wf = true) ∧ (((Lit.int .i64 z.f3.f0).wf = true) ∧ ((Lit.int .i64 z.f3.f1).wf = true) ∧ (z.f3.f2.size ≤ maxLen) ∧ (z.f3.f3.size ≤ maxLen) ∧ ((Lit.int .i64 z.f3.f4).wf = true) ∧ ((Lit.int .i64 z.f3.f5).wf = true))) → ∃ k, laws_FnExactSealed.f k l0 = some true

end Go.Proofs.Ytebeafcdabkkfab.PFnExactSealed
