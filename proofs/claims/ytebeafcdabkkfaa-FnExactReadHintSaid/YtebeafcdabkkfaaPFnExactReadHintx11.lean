-- Laid by a program of this session, a copy of the kit's printer with additions (wip/patch_print.py): myhead. Lean checks it.
import Derived.Test.YtebeafcdabkkfaaPFnExactReadHintx0
import Derived.Test.YtebeafcdabkkfaaPFnExactReadHintx9
import Derived.Test.YtebeafcdabkkfaaPFnExactReadHintx10
namespace Go.Proofs.Ytebeafcdabkkfaa.PFnExactReadHint
open Go.RowKit Go.Proofs.YtebeafcdabkkfaaW.PrintWords Go.Proofs.YtebeafcdabkkfaaW.PrintLast Go.Proofs.YtebeafcdabkkfaaW.PrintMore
attribute [local go_sem] max2_int min2_int max_two min_two max_three min_three max_four min_four   -- for this text's walks alone
set_option linter.unusedVariables false
set_option linter.unusedSimpArgs false

/-- A state of type 102 at block g of W; what its slices lead to came in by w0. -/
def IsS102 (w0 W : World) (g : Nat) (f0 : ByteArray) (f1 : Bool) : Prop := W.heap[g]? = some (.cells #[.string f0, .bool f1] 102 (0, 0)) ∧ w0.heap.size ≤ g
theorem IsS102.grown {w0 W : World} {g : Nat} {f0 : ByteArray} {f1 : Bool} {W1 : World} {row : Option Nat} (h : IsS102 w0 W g f0 f1) (hw : W.grownBy W1 row) (hne : some g ≠ row) : IsS102 w0 W1 g f0 f1 := by
 obtain ⟨hb, hg⟩ := h
 exact ⟨blk_grown hb hw hne, hg⟩
theorem IsS102.own_neN {w0 W : World} {g : Nat} {f0 : ByteArray} {f1 : Bool} {α : Type} {d : Kd α} {e : Nat} {base : Nat} {ok : Nat → Prop} {v : Value} {xs : List α} (h : IsS102 w0 W g f0 f1) (ho : Kd.N d e W base ok v xs) (ht : e ≠ 102) : some g ≠ v.ownBlock := by
 obtain ⟨hb, hg⟩ := h
 exact Kd.N_ne ho hb ht
theorem IsS102.fresh {w0 W : World} {g : Nat} {f0 : ByteArray} {f1 : Bool} (h : IsS102 w0 W g f0 f1) : ∀ k, W.heap.size ≤ k → k ≠ g := by
 obtain ⟨hb, hg⟩ := h
 exact Kd.freshB hb
theorem IsS102.kept {w0 W : World} {g : Nat} {f0 : ByteArray} {f1 : Bool} {W1 : World} {S : Nat → Prop} (h : IsS102 w0 W g f0 f1) (hk : Kept W W1 S) (hne : ¬ S g) : IsS102 w0 W1 g f0 f1 := by
 obtain ⟨hb, hg⟩ := h
 exact ⟨blk_kept hb hk hne, hg⟩
theorem IsS102.below {w0 W : World} {g : Nat} {f0 : ByteArray} {f1 : Bool} {W1 : World} (h : IsS102 w0 W g f0 f1) (hw : Below W.heap.size W W1) : IsS102 w0 W1 g f0 f1 := h.grown (grown_of_below hw none) (by simp)
theorem IsS102.alloc {w0 W : World} {g : Nat} {f0 : ByteArray} {f1 : Bool} (h : IsS102 w0 W g f0 f1) (o : Obj) : IsS102 w0 (W.alloc o) g f0 f1 := h.below (below_alloc (Below.refl _ _) o)
theorem IsS102.drewN {w0 W : World} {g : Nat} {f0 : ByteArray} {f1 : Bool} (h : IsS102 w0 W g f0 f1) (m : Nat) : IsS102 w0 (W.drewN m) g f0 f1 := h
theorem IsS102.drew {w0 W : World} {g : Nat} {f0 : ByteArray} {f1 : Bool} (h : IsS102 w0 W g f0 f1) : IsS102 w0 W.drew g f0 f1 := h
theorem IsS102.at_ {w0 W : World} {g : Nat} {f0 : ByteArray} {f1 : Bool} {w' : World} {m : Nat} (hq : W.drewN m = w') (h : IsS102 w0 W g f0 f1) : IsS102 w0 w' g f0 f1 := by subst hq; exact IsS102.drewN h m
theorem IsS102.apart {w0 W : World} {g : Nat} {f0 : ByteArray} {f1 : Bool} {α : Type} {d : Kd α} {e : Nat} {base : Nat} {ok : Nat → Prop} {v : Value} {xs : List α} (h : IsS102 w0 W g f0 f1) (ho : d.R e W base ok v xs) (ht : ∀ q, q ∈ e :: d.E → q ≠ 102) : d.R e W base (fun k => ok k ∧ k ≠ g) v xs := by
 obtain ⟨hb, hg⟩ := h
 exact Kd.R_types ho hb ht
theorem IsS102.own_ne {w0 W : World} {g : Nat} {f0 : ByteArray} {f1 : Bool} {α : Type} {d : Kd α} {e : Nat} {base : Nat} {ok : Nat → Prop} {v : Value} {xs : List α} (h : IsS102 w0 W g f0 f1) (ho : d.R e W base ok v xs) (ht : e ≠ 102) : some g ≠ v.ownBlock := by
 obtain ⟨hb, hg⟩ := h
 exact Kd.R_ne ho hb ht
theorem IsS102.apartQ {w0 W : World} {g : Nat} {f0 : ByteArray} {f1 : Bool} {α : Type} {d : Kd α} {e : Nat} {base : Nat} {ok : Nat → Prop} {v : Value} {xs : List α} (h : IsS102 w0 W g f0 f1) (ho : d.Q e W base ok v xs) (ht : ∀ q, q ∈ e :: d.E → q ≠ 102) : d.Q e W base (fun k => ok k ∧ k ≠ g) v xs := by
 obtain ⟨hb, hg⟩ := h
 exact Kd.Q_types ho hb ht
theorem IsS102.own_neQ {w0 W : World} {g : Nat} {f0 : ByteArray} {f1 : Bool} {α : Type} {d : Kd α} {e : Nat} {base : Nat} {ok : Nat → Prop} {v : Value} {xs : List α} (h : IsS102 w0 W g f0 f1) (ho : d.Q e W base ok v xs) (ht : e ≠ 102) : some g ≠ v.ownBlock := by
 obtain ⟨hb, hg⟩ := h
 exact Kd.Q_ne ho hb ht
theorem IsS102.apartS {w0 W : World} {g : Nat} {f0 : ByteArray} {f1 : Bool} {α : Type} {d : Kd α} {e : Nat} {base : Nat} {ok : Nat → Prop} {v : Value} {xs : List α} (h : IsS102 w0 W g f0 f1) (ho : d.S e W base ok v xs) (ht : ∀ q, q ∈ e :: d.E → q ≠ 102) : d.S e W base (fun k => ok k ∧ k ≠ g) v xs := by
 obtain ⟨hb, hg⟩ := h
 exact Kd.S_types ho hb ht
theorem IsS102.own_neS {w0 W : World} {g : Nat} {f0 : ByteArray} {f1 : Bool} {α : Type} {d : Kd α} {e : Nat} {base : Nat} {ok : Nat → Prop} {v : Value} {xs : List α} (h : IsS102 w0 W g f0 f1) (ho : d.S e W base ok v xs) (ht : e ≠ 102) : some g ≠ v.ownBlock := by
 obtain ⟨hb, hg⟩ := h
 exact Kd.S_ne ho hb ht
theorem IsS102.lt {w0 W : World} {g : Nat} {f0 : ByteArray} {f1 : Bool} (h : IsS102 w0 W g f0 f1) : g < W.heap.size := by
 obtain ⟨hb, hg⟩ := h
 exact blk_lt hb
theorem IsS102.ge {w0 W : World} {g : Nat} {f0 : ByteArray} {f1 : Bool} (h : IsS102 w0 W g f0 f1) : w0.heap.size ≤ g := by
 obtain ⟨hb, hg⟩ := h
 exact hg
theorem IsS102.ne_blk {w0 W : World} {g : Nat} {f0 : ByteArray} {f1 : Bool} {a : Nat} {cs : Array Value} {t : TypeId} {fr : Nat × Nat} (h : IsS102 w0 W g f0 f1) (hb2 : W.heap[a]? = some (.cells cs t fr)) (ht : t ≠ 102) : g ≠ a := by
 obtain ⟨hb, hg⟩ := h
 rintro rfl
 rw [hb] at hb2
 injection hb2 with hb2
 injection hb2 with _ ht2
 exact ht ht2.symm
theorem IsS102.far {w0 W : World} {g : Nat} {f0 : ByteArray} {f1 : Bool} {p : Addr} (h : IsS102 w0 W g f0 f1) (hne : g ≠ p.block) (u : Value) : IsS102 w0 (W.setCell p u) g f0 f1 := by
 obtain ⟨hb, hg⟩ := h
 exact ⟨blk_far hb hne u, hg⟩
theorem cellS102_0 {W : World} {g : Nat} {f0 : ByteArray} {f1 : Bool} (h : W.heap[g]? = some (.cells #[.string f0, .bool f1] 102 (0, 0))) : W.cell? ⟨g, 0, none⟩ = some (.string f0) := (blk_cell h 0).trans rfl
theorem IsS102.set_0 {w0 W : World} {g : Nat} {f0 : ByteArray} {f1 : Bool} (h : IsS102 w0 W g f0 f1) (x : ByteArray) : IsS102 w0 (W.setCell ⟨g, 0, none⟩ (.string x)) g x f1 := by
 obtain ⟨hb, hg⟩ := h
 exact ⟨by simpa using blk_set hb 0 (.string x), hg⟩
theorem cellS102_1 {W : World} {g : Nat} {f0 : ByteArray} {f1 : Bool} (h : W.heap[g]? = some (.cells #[.string f0, .bool f1] 102 (0, 0))) : W.cell? ⟨g, 1, none⟩ = some (.bool f1) := (blk_cell h 1).trans rfl
theorem IsS102.set_1 {w0 W : World} {g : Nat} {f0 : ByteArray} {f1 : Bool} (h : IsS102 w0 W g f0 f1) (x : Bool) : IsS102 w0 (W.setCell ⟨g, 1, none⟩ (.bool x)) g f0 x := by
 obtain ⟨hb, hg⟩ := h
 exact ⟨by simpa using blk_set hb 1 (.bool x), hg⟩
theorem IsS102.new (w0 W : World) (f0 : ByteArray) (f1 : Bool) (hB : Below w0.heap.size w0 W) : IsS102 w0 (W.alloc (.cells #[.string f0, .bool f1] 102)) W.heap.size f0 f1 := ⟨by simpa using heap_alloc_new W _, hB.size⟩

/-! ### impl_scanner_num: function 76 -/
def impl_scanner_num.f (k : Nat) (s0_0 : ByteArray) (s0_1 : Bool) : Option (Int × ByteArray × Bool) := (impl_ReadVar.f k s0_0).bind fun bt236 => (if s0_1 = true then (some (0, s0_0, true)) else (if bt236.2 = 0 then (some (0, s0_0, true)) else (if 0 ≤ bt236.2 then (if bt236.2 ≤ (s0_0.size : Int) then (some (bt236.1, s0_0.extract (bt236.2 : Int).toNat s0_0.size, s0_1)) else (none)) else (none))))
theorem impl_scanner_num.mono : ∀ a0 a1 k, LeO (impl_scanner_num.f k a0 a1) (impl_scanner_num.f (k + 1) a0 a1) := by
 intro a0 a1 k
 unfold impl_scanner_num.f
 repeat' first
   | (with_reducible exact impl_ReadVar.mono _ _)
   | (with_reducible exact LeO.refl _)
   | (with_reducible exact LeO.none _)
   | (with_reducible refine LeO.ite ?_ ?_)
   | (with_reducible refine LeO.bind ?_ (fun _ => ?_))
   | exact impl_ReadVar.mono _ _
   | exact LeO.none _
   | refine LeO.ite ?_ ?_
   | refine LeO.bind ?_ (fun _ => ?_)
set_option maxHeartbeats 8000000 in
set_option maxRecDepth 100000 in
theorem impl_scanner_num.calls (k : Nat) (g : Nat) (s0_0 : ByteArray) (s0_1 : Bool) (r1 : Int) (r2 : ByteArray) (r3 : Bool) (w0 w : World) (hI : IsS102 w0 w g s0_0 s0_1) (hB : Below w0.heap.size w0 w) (h : impl_scanner_num.f k s0_0 s0_1 = some (r1, r2, r3)) :
  Calls Try.prog 76 #[.pointer (some ⟨g, 0, none⟩)] w fun e w' => e = .returned (.int .i64 r1) ∧ IsS102 w0 w' g r2 r3 ∧ Below w0.heap.size w0 w' ∧ KeepBut w w' g none := by
 have HI0 := Aside0.mk hI
 have HK := Aside0.mk (KeepBut.refl w g none)
 have HL := Aside0.mk hB.size
 clear hI
 have HW0 := Aside0.mk hB.size
 have HB := Aside0.mk hB
 clear hB
 have H : ((impl_ReadVar.f k s0_0).bind fun bt236 => (if s0_1 = true then (some (0, s0_0, true)) else (if bt236.2 = 0 then (some (0, s0_0, true)) else (if 0 ≤ bt236.2 then (if bt236.2 ≤ (s0_0.size : Int) then (some (bt236.1, s0_0.extract (bt236.2 : Int).toNat s0_0.size, s0_1)) else (none)) else (none))))) = some (r1, r2, r3) := h
 clear h
 replace H := Option.bind_eq_some_iff.mp H
 obtain ⟨⟨t236, t237⟩, A20, H⟩ := H
 replace H : (if s0_1 = true then (some (0, s0_0, true)) else (if t237 = 0 then (some (0, s0_0, true)) else (if 0 ≤ t237 then (if t237 ≤ (s0_0.size : Int) then (some (t236, s0_0.extract (t237 : Int).toNat s0_0.size, s0_1)) else (none)) else (none)))) = some (r1, r2, r3) := H
 have A2 := Aside0.mk A20
 clear A20
 by_cases c3 : s0_1 = true
 ·subst c3
  have H1 : (some (0, s0_0, true)) = some (r1, r2, r3) := by rw [if_pos rfl] at H; exact H
  clear H
  have H := H1
  clear H1
  simp only [Option.some.injEq, Prod.mk.injEq] at H
  obtain ⟨rfl, rfl, rfl⟩ := H
  obtain ⟨HGz4, hgz4⟩ := HI0.out
  have hcz4_0 := cellS102_0 HGz4
  have hcz4_1 := cellS102_1 HGz4
  have hfz4_0 := blk_frozen HGz4 0
  have hfz4_1 := blk_frozen HGz4 1
  clear HGz4 hgz4
  go_enter Try.func76, Try.ntmps76
  go_wp2_with (first | ((with_reducible refine gate_callee (f := 121) rfl ?_); refine goesL_ (some 10) rfl rfl Try.func121 (by kernel_rfl) rfl #[.string s0_0] rfl ar_ ?_; (with_reducible refine (impl_ReadVar.calls k s0_0 t236 t237 _ A2.out).mono ?_); rintro e w' ⟨rfl, ⟨nd, rfl⟩⟩; refine ⟨_, rfl, ?_⟩))
  go_ret
  exact ⟨re_, by repeat (first | (with_reducible first | exact HI0.out | apply IsS102.alloc | apply IsS102.drewN | apply IsS102.drew | apply IsS102.set_0 | apply IsS102.set_1) | exact HI0.out), by repeat (first | (with_reducible first | exact HB.out | apply below_alloc | apply pw_below_drewN | apply below_drew1 | refine below_set ?_ (IsS102.ge HI0.out)) | exact HB.out), by repeat (first | (with_reducible first | exact HK.out | apply KeepBut.set_ | apply keep_drewN | apply keep_drew | apply keep_alloc) | exact HK.out)⟩
 ·replace c3 := Bool.eq_false_iff.mpr c3
  subst c3
  have H1 : (if t237 = 0 then (some (0, s0_0, true)) else (if 0 ≤ t237 then (if t237 ≤ (s0_0.size : Int) then (some (t236, s0_0.extract (t237 : Int).toNat s0_0.size, false)) else (none)) else (none))) = some (r1, r2, r3) := by rw [if_neg (show ¬ (false = true) by decide)] at H; exact H
  clear H
  have H := H1
  clear H1
  by_cases c5 : t237 = 0
  ·rw [if_pos c5] at H
   have c5b0 : (t237 == 0) = true := beq_iff_eq.mpr c5
   have c5b1 : (t237 != 0) = false := bne_eq_false_iff_eq.mpr c5
   clear c5
   simp only [Option.some.injEq, Prod.mk.injEq] at H
   obtain ⟨rfl, rfl, rfl⟩ := H
   obtain ⟨HGz6, hgz6⟩ := HI0.out
   have hcz6_0 := cellS102_0 HGz6
   have hcz6_1 := cellS102_1 HGz6
   have hfz6_0 := blk_frozen HGz6 0
   have hfz6_1 := blk_frozen HGz6 1
   clear HGz6 hgz6
   go_enter Try.func76, Try.ntmps76
   go_wp2_with (first | ((with_reducible refine gate_callee (f := 121) rfl ?_); refine goesL_ (some 10) rfl rfl Try.func121 (by kernel_rfl) rfl #[.string s0_0] rfl ar_ ?_; (with_reducible refine (impl_ReadVar.calls k s0_0 t236 t237 _ A2.out).mono ?_); rintro e w' ⟨rfl, ⟨nd, rfl⟩⟩; refine ⟨_, rfl, ?_⟩))
   go_ret
   exact ⟨re_, by repeat (first | (with_reducible first | exact HI0.out | apply IsS102.alloc | apply IsS102.drewN | apply IsS102.drew | apply IsS102.set_0 | apply IsS102.set_1) | exact HI0.out), by repeat (first | (with_reducible first | exact HB.out | apply below_alloc | apply pw_below_drewN | apply below_drew1 | refine below_set ?_ (IsS102.ge HI0.out)) | exact HB.out), by repeat (first | (with_reducible first | exact HK.out | apply KeepBut.set_ | apply keep_drewN | apply keep_drew | apply keep_alloc) | exact HK.out)⟩
  ·rw [if_neg c5] at H
   have c5b0 : (t237 == 0) = false := beq_eq_false_iff_ne.mpr c5
   have c5b1 : (t237 != 0) = true := bne_iff_ne.mpr c5
   by_cases c7 : 0 ≤ t237
   ·rw [if_pos c7] at H
    have c7b0 := eq_true c7
    have c7b1 : decide (0 ≤ t237) = true := decide_eq_true c7
    clear c7
    by_cases c8 : t237 ≤ (s0_0.size : Int)
    ·rw [if_pos c8] at H
     have c8b0 := eq_true c8
     have c8b1 : decide (t237 ≤ (s0_0.size : Int)) = true := decide_eq_true c8
     clear c8
     simp only [Option.some.injEq, Prod.mk.injEq] at H
     obtain ⟨rfl, rfl, rfl⟩ := H
     obtain ⟨HGz9, hgz9⟩ := HI0.out
     have hcz9_0 := cellS102_0 HGz9
     have hcz9_1 := cellS102_1 HGz9
     have hfz9_0 := blk_frozen HGz9 0
     have hfz9_1 := blk_frozen HGz9 1
     clear HGz9 hgz9
     go_enter Try.func76, Try.ntmps76
     go_wp2_with (first | ((with_reducible refine gate_callee (f := 121) rfl ?_); refine goesL_ (some 10) rfl rfl Try.func121 (by kernel_rfl) rfl #[.string s0_0] rfl ar_ ?_; (with_reducible refine (impl_ReadVar.calls k s0_0 t236 t237 _ A2.out).mono ?_); rintro e w' ⟨rfl, ⟨nd, rfl⟩⟩; refine ⟨_, rfl, ?_⟩))
     go_ret
     exact ⟨re_, by repeat (first | (with_reducible first | exact HI0.out | apply IsS102.alloc | apply IsS102.drewN | apply IsS102.drew | apply IsS102.set_0 | apply IsS102.set_1) | exact HI0.out), by repeat (first | (with_reducible first | exact HB.out | apply below_alloc | apply pw_below_drewN | apply below_drew1 | refine below_set ?_ (IsS102.ge HI0.out)) | exact HB.out), by repeat (first | (with_reducible first | exact HK.out | apply KeepBut.set_ | apply keep_drewN | apply keep_drew | apply keep_alloc) | exact HK.out)⟩
    ·rw [if_neg c8] at H
     exact absurd H (by simp)
   ·rw [if_neg c7] at H
    exact absurd H (by simp)

/-! ### impl_scanner_bytes: function 79 -/
def impl_scanner_bytes.f (s0_0 : ByteArray) (s0_1 : Bool) (a1 : Int) : Option (ByteArray × ByteArray × Bool) := if s0_1 = true then (some ((⟨#[]⟩ : ByteArray), s0_0, true)) else (if a1 > (s0_0.size : Int) then (some ((⟨#[]⟩ : ByteArray), s0_0, true)) else (if 0 ≤ a1 then (if a1 ≤ (s0_0.size : Int) then (some (s0_0.extract 0 (a1 : Int).toNat, s0_0.extract (a1 : Int).toNat s0_0.size, s0_1)) else (none)) else (none)))
set_option maxHeartbeats 8000000 in
set_option maxRecDepth 100000 in
theorem impl_scanner_bytes.calls (g : Nat) (s0_0 : ByteArray) (s0_1 : Bool) (a1 : Int) (r1 : ByteArray) (r2 : ByteArray) (r3 : Bool) (w0 w : World) (hI : IsS102 w0 w g s0_0 s0_1) (hB : Below w0.heap.size w0 w) (h : impl_scanner_bytes.f s0_0 s0_1 a1 = some (r1, r2, r3)) :
  Calls Try.prog 79 #[.pointer (some ⟨g, 0, none⟩), .int .i64 a1] w fun e w' => e = .returned (.string r1) ∧ IsS102 w0 w' g r2 r3 ∧ Below w0.heap.size w0 w' ∧ KeepBut w w' g none := by
 have HI0 := Aside0.mk hI
 have HK := Aside0.mk (KeepBut.refl w g none)
 have HL := Aside0.mk hB.size
 clear hI
 have HW0 := Aside0.mk hB.size
 have HB := Aside0.mk hB
 clear hB
 have H : (if s0_1 = true then (some ((⟨#[]⟩ : ByteArray), s0_0, true)) else (if a1 > (s0_0.size : Int) then (some ((⟨#[]⟩ : ByteArray), s0_0, true)) else (if 0 ≤ a1 then (if a1 ≤ (s0_0.size : Int) then (some (s0_0.extract 0 (a1 : Int).toNat, s0_0.extract (a1 : Int).toNat s0_0.size, s0_1)) else (none)) else (none)))) = some (r1, r2, r3) := h
 clear h
 by_cases c3 : s0_1 = true
 ·subst c3
  have H1 : (some ((⟨#[]⟩ : ByteArray), s0_0, true)) = some (r1, r2, r3) := by rw [if_pos rfl] at H; exact H
  clear H
  have H := H1
  clear H1
  simp only [Option.some.injEq, Prod.mk.injEq] at H
  obtain ⟨rfl, rfl, rfl⟩ := H
  obtain ⟨HGz4, hgz4⟩ := HI0.out
  have hcz4_0 := cellS102_0 HGz4
  have hcz4_1 := cellS102_1 HGz4
  have hfz4_0 := blk_frozen HGz4 0
  have hfz4_1 := blk_frozen HGz4 1
  clear HGz4 hgz4
  go_enter Try.func79, Try.ntmps79
  go_wp2
  go_ret
  exact ⟨re_, by repeat (first | (with_reducible first | exact HI0.out | apply IsS102.alloc | apply IsS102.drewN | apply IsS102.drew | apply IsS102.set_0 | apply IsS102.set_1) | exact HI0.out), by repeat (first | (with_reducible first | exact HB.out | apply below_alloc | apply pw_below_drewN | apply below_drew1 | refine below_set ?_ (IsS102.ge HI0.out)) | exact HB.out), by repeat (first | (with_reducible first | exact HK.out | apply KeepBut.set_ | apply keep_drewN | apply keep_drew | apply keep_alloc) | exact HK.out)⟩
 ·replace c3 := Bool.eq_false_iff.mpr c3
  subst c3
  have H1 : (if a1 > (s0_0.size : Int) then (some ((⟨#[]⟩ : ByteArray), s0_0, true)) else (if 0 ≤ a1 then (if a1 ≤ (s0_0.size : Int) then (some (s0_0.extract 0 (a1 : Int).toNat, s0_0.extract (a1 : Int).toNat s0_0.size, false)) else (none)) else (none))) = some (r1, r2, r3) := by rw [if_neg (show ¬ (false = true) by decide)] at H; exact H
  clear H
  have H := H1
  clear H1
  by_cases c5 : a1 > (s0_0.size : Int)
  ·rw [if_pos c5] at H
   have c5b0 : decide ((s0_0.size : Int) < a1) = true := decide_eq_true c5
   clear c5
   simp only [Option.some.injEq, Prod.mk.injEq] at H
   obtain ⟨rfl, rfl, rfl⟩ := H
   obtain ⟨HGz6, hgz6⟩ := HI0.out
   have hcz6_0 := cellS102_0 HGz6
   have hcz6_1 := cellS102_1 HGz6
   have hfz6_0 := blk_frozen HGz6 0
   have hfz6_1 := blk_frozen HGz6 1
   clear HGz6 hgz6
   go_enter Try.func79, Try.ntmps79
   go_wp2
   go_ret
   exact ⟨re_, by repeat (first | (with_reducible first | exact HI0.out | apply IsS102.alloc | apply IsS102.drewN | apply IsS102.drew | apply IsS102.set_0 | apply IsS102.set_1) | exact HI0.out), by repeat (first | (with_reducible first | exact HB.out | apply below_alloc | apply pw_below_drewN | apply below_drew1 | refine below_set ?_ (IsS102.ge HI0.out)) | exact HB.out), by repeat (first | (with_reducible first | exact HK.out | apply KeepBut.set_ | apply keep_drewN | apply keep_drew | apply keep_alloc) | exact HK.out)⟩
  ·rw [if_neg c5] at H
   have c5b0 : decide ((s0_0.size : Int) < a1) = false := decide_eq_false c5
   clear c5
   by_cases c7 : 0 ≤ a1
   ·rw [if_pos c7] at H
    have c7b0 := eq_true c7
    have c7b1 : decide (0 ≤ a1) = true := decide_eq_true c7
    clear c7
    by_cases c8 : a1 ≤ (s0_0.size : Int)
    ·rw [if_pos c8] at H
     have c8b0 := eq_true c8
     have c8b1 : decide (a1 ≤ (s0_0.size : Int)) = true := decide_eq_true c8
     clear c8
     have c9b0 := eq_true (of_decide_eq_true as_ : 0 ≤ a1)
     have c10b0 := eq_true (of_decide_eq_true as_ : a1 ≤ (s0_0.size : Int))
     simp only [Option.some.injEq, Prod.mk.injEq] at H
     obtain ⟨rfl, rfl, rfl⟩ := H
     obtain ⟨HGz11, hgz11⟩ := HI0.out
     have hcz11_0 := cellS102_0 HGz11
     have hcz11_1 := cellS102_1 HGz11
     have hfz11_0 := blk_frozen HGz11 0
     have hfz11_1 := blk_frozen HGz11 1
     clear HGz11 hgz11
     go_enter Try.func79, Try.ntmps79
     go_wp2
     go_ret
     exact ⟨re_, by repeat (first | (with_reducible first | exact HI0.out | apply IsS102.alloc | apply IsS102.drewN | apply IsS102.drew | apply IsS102.set_0 | apply IsS102.set_1) | exact HI0.out), by repeat (first | (with_reducible first | exact HB.out | apply below_alloc | apply pw_below_drewN | apply below_drew1 | refine below_set ?_ (IsS102.ge HI0.out)) | exact HB.out), by repeat (first | (with_reducible first | exact HK.out | apply KeepBut.set_ | apply keep_drewN | apply keep_drew | apply keep_alloc) | exact HK.out)⟩
    ·rw [if_neg c8] at H
     exact absurd H (by simp)
   ·rw [if_neg c7] at H
    exact absurd H (by simp)

/-! ### impl_scanner_text: function 77 -/
def impl_scanner_text.f (k : Nat) (s0_0 : ByteArray) (s0_1 : Bool) : Option (ByteArray × ByteArray × Bool) := (impl_scanner_num.f k s0_0 s0_1).bind fun bt238 => ((impl_scanner_bytes.f bt238.2.1 bt238.2.2 bt238.1).bind fun bt241 => (some (bt241.1, bt241.2.1, bt241.2.2)))
theorem impl_scanner_text.mono : ∀ a0 a1 k, LeO (impl_scanner_text.f k a0 a1) (impl_scanner_text.f (k + 1) a0 a1) := by
 intro a0 a1 k
 unfold impl_scanner_text.f
 repeat' first
   | (with_reducible exact impl_scanner_num.mono _ _ _)
   | (with_reducible exact LeO.refl _)
   | (with_reducible exact LeO.none _)
   | (with_reducible refine LeO.ite ?_ ?_)
   | (with_reducible refine LeO.bind ?_ (fun _ => ?_))
   | exact impl_scanner_num.mono _ _ _
   | exact LeO.none _
   | refine LeO.ite ?_ ?_
   | refine LeO.bind ?_ (fun _ => ?_)
set_option maxHeartbeats 8000000 in
set_option maxRecDepth 100000 in
theorem impl_scanner_text.calls (k : Nat) (g : Nat) (s0_0 : ByteArray) (s0_1 : Bool) (r1 : ByteArray) (r2 : ByteArray) (r3 : Bool) (w0 w : World) (hI : IsS102 w0 w g s0_0 s0_1) (hB : Below w0.heap.size w0 w) (h : impl_scanner_text.f k s0_0 s0_1 = some (r1, r2, r3)) :
  Calls Try.prog 77 #[.pointer (some ⟨g, 0, none⟩)] w fun e w' => e = .returned (.string r1) ∧ IsS102 w0 w' g r2 r3 ∧ Below w0.heap.size w0 w' ∧ KeepBut w w' g none := by
 have HI0 := Aside0.mk hI
 have HK := Aside0.mk (KeepBut.refl w g none)
 have HL := Aside0.mk hB.size
 clear hI
 have HW0 := Aside0.mk hB.size
 have HB := Aside0.mk hB
 clear hB
 have H : ((impl_scanner_num.f k s0_0 s0_1).bind fun bt238 => ((impl_scanner_bytes.f bt238.2.1 bt238.2.2 bt238.1).bind fun bt241 => (some (bt241.1, bt241.2.1, bt241.2.2)))) = some (r1, r2, r3) := h
 clear h
 replace H := Option.bind_eq_some_iff.mp H
 obtain ⟨⟨t238, t239, t240⟩, A20, H⟩ := H
 replace H : ((impl_scanner_bytes.f t239 t240 t238).bind fun bt241 => (some (bt241.1, bt241.2.1, bt241.2.2))) = some (r1, r2, r3) := H
 have A2 := Aside0.mk A20
 clear A20
 replace H := Option.bind_eq_some_iff.mp H
 obtain ⟨⟨t241, t242, t243⟩, A30, H⟩ := H
 replace H : (some (t241, t242, t243)) = some (r1, r2, r3) := H
 have A3 := Aside0.mk A30
 clear A30
 simp only [Option.some.injEq, Prod.mk.injEq] at H
 obtain ⟨rfl, rfl, rfl⟩ := H
 go_enter Try.func77, Try.ntmps77
 go_wp2_with (first | ((with_reducible refine gate_callee (f := 76) rfl ?_); refine goesL_ (some 5) rfl rfl Try.func76 (by kernel_rfl) rfl #[.pointer (some ⟨g, 0, none⟩)] rfl ar_ ?_; (with_reducible refine (impl_scanner_num.calls k g s0_0 s0_1 t238 t239 t240 w0 _ ?side1 ?side2 A2.out).mono ?_); (case side1 => repeat (first | (with_reducible first | exact HI0.out | apply IsS102.alloc | apply IsS102.drewN | apply IsS102.drew | apply IsS102.set_0 | apply IsS102.set_1) | exact HI0.out)); (case side2 => repeat (first | (with_reducible first | exact HB.out | apply below_alloc | apply pw_below_drewN | apply below_drew1 | refine below_set ?_ (IsS102.ge HI0.out)) | exact HB.out)); rintro e w4 ⟨rfl, hi, hb, hk⟩; refine ⟨_, rfl, ?_⟩; have n0_ := Aside0.mk (KeepBut.trans (by repeat (first | (with_reducible first | exact HK.out | apply KeepBut.set_ | apply keep_drewN | apply keep_drew | apply keep_alloc) | exact HK.out)) hk (.inl rfl)); have n1_ := Aside0.mk (hb); have n2_ := Aside0.mk (hi); clear HK; clear HB; clear HI0; have HK := n0_; have HB := n1_; have HI0 := n2_; clear n0_ n1_ n2_; (try clear hb); (try clear hb2); (try clear hk); (try clear hi)) | ((with_reducible refine gate_callee (f := 79) rfl ?_); refine goesL_ (some 8) rfl rfl Try.func79 (by kernel_rfl) rfl #[.pointer (some ⟨g, 0, none⟩), .int .i64 t238] rfl ar_ ?_; (with_reducible refine (impl_scanner_bytes.calls g t239 t240 t238 t241 t242 t243 w0 _ ?side1 ?side2 A3.out).mono ?_); (case side1 => repeat (first | (with_reducible first | exact HI0.out | apply IsS102.alloc | apply IsS102.drewN | apply IsS102.drew | apply IsS102.set_0 | apply IsS102.set_1) | exact HI0.out)); (case side2 => repeat (first | (with_reducible first | exact HB.out | apply below_alloc | apply pw_below_drewN | apply below_drew1 | refine below_set ?_ (IsS102.ge HI0.out)) | exact HB.out)); rintro e w5 ⟨rfl, hi, hb, hk⟩; refine ⟨_, rfl, ?_⟩; have n0_ := Aside0.mk (KeepBut.trans (by repeat (first | (with_reducible first | exact HK.out | apply KeepBut.set_ | apply keep_drewN | apply keep_drew | apply keep_alloc) | exact HK.out)) hk (.inl rfl)); have n1_ := Aside0.mk (hb); have n2_ := Aside0.mk (hi); clear HK; clear HB; clear HI0; have HK := n0_; have HB := n1_; have HI0 := n2_; clear n0_ n1_ n2_; (try clear hb); (try clear hb2); (try clear hk); (try clear hi)))
 go_ret
 exact ⟨re_, by repeat (first | (with_reducible first | exact HI0.out | apply IsS102.alloc | apply IsS102.drewN | apply IsS102.drew | apply IsS102.set_0 | apply IsS102.set_1) | exact HI0.out), by repeat (first | (with_reducible first | exact HB.out | apply below_alloc | apply pw_below_drewN | apply below_drew1 | refine below_set ?_ (IsS102.ge HI0.out)) | exact HB.out), by repeat (first | (with_reducible first | exact HK.out | apply KeepBut.set_ | apply keep_drewN | apply keep_drew | apply keep_alloc) | exact HK.out)⟩

/-! ### impl_ReadHint: function 59 -/
mutual
def impl_ReadHint.l0 : Nat → ByteArray → Int → Int → ByteArray → Bool → Int → Int → List (S113) → Option (Int × Int × (List (S113)) × Bool)
 | 0, _, _, _, _, _, _, _, _ => none
 | k + 1, x0, x6, x7, x246000, x246001, x250000, x250001, x250002 => if x7 < x6 then (impl_ReadHint.j1 k x0 x6 x7 (!x246001) x246000 x246001 x250000 x250001 x250002) else (impl_ReadHint.j1 k x0 x6 x7 false x246000 x246001 x250000 x250001 x250002)
def impl_ReadHint.j1 : Nat → ByteArray → Int → Int → Bool → ByteArray → Bool → Int → Int → List (S113) → Option (Int × Int × (List (S113)) × Bool)
 | 0, _, _, _, _, _, _, _, _, _ => none
 | k + 1, x0, x6, x7, x31, x246000, x246001, x250000, x250001, x250002 => if x31 = true then ((impl_scanner_text.f k x246000 x246001).bind fun bt260 => ((impl_scanner_num.f k bt260.2.1 bt260.2.2).bind fun bt263 => ((impl_scanner_num.f k bt263.2.1 bt263.2.2).bind fun bt266 => ((impl_scanner_num.f k bt266.2.1 bt266.2.2).bind fun bt269 => ((impl_scanner_num.f k bt269.2.1 bt269.2.2).bind fun bt272 => (if x250002.length < 2932031007402 then (impl_ReadHint.l0 k x0 x6 (wrap64 (x7 + 1)) bt272.2.1 bt272.2.2 x250000 x250001 (x250002 ++ [(⟨bt260.1, bt263.1, bt266.1, bt269.1, bt272.1⟩ : S113)])) else (none))))))) else (if x246001 = true then (impl_ReadHint.j2 k true x250000 x250001 x250002) else ((impl_hintOk.f k x250000 x250001 x250002).bind fun t278 => (if t278 = true then ((impl_ShowHint.f k x250000 x250001 x250002).bind fun t279 => (impl_ReadHint.j2 k (t279.toList != x0.toList) x250000 x250001 x250002)) else (impl_ReadHint.j2 k true x250000 x250001 x250002))))
def impl_ReadHint.j2 : Nat → Bool → Int → Int → List (S113) → Option (Int × Int × (List (S113)) × Bool)
 | 0, _, _, _, _ => none
 | k + 1, x69, x250000, x250001, x250002 => if x69 = true then (some (0, 0, ([] : List (S113)), false)) else (some (x250000, x250001, x250002, true))
end
def impl_ReadHint.f (k : Nat) (a0 : ByteArray) : Option (Int × Int × (List (S113)) × Bool) := (impl_scanner_bytes.f a0 false 4).bind fun bt246 => ((impl_scanner_num.f k bt246.2.1 bt246.2.2).bind fun bt250 => ((impl_scanner_num.f k bt250.2.1 bt250.2.2).bind fun bt253 => ((impl_scanner_num.f k bt253.2.1 bt253.2.2).bind fun bt256 => (impl_ReadHint.l0 k a0 bt256.1 0 bt256.2.1 bt256.2.2 bt250.1 bt253.1 ([] : List (S113))))))
theorem impl_ReadHint.mono_l : ∀ k, (∀ y0 y1 y2 y3 y4 y5 y6 y7, LeO (impl_ReadHint.l0 k y0 y1 y2 y3 y4 y5 y6 y7) (impl_ReadHint.l0 (k + 1) y0 y1 y2 y3 y4 y5 y6 y7)) ∧ (∀ y0 y1 y2 y3 y4 y5 y6 y7 y8, LeO (impl_ReadHint.j1 k y0 y1 y2 y3 y4 y5 y6 y7 y8) (impl_ReadHint.j1 (k + 1) y0 y1 y2 y3 y4 y5 y6 y7 y8)) ∧ (∀ y0 y1 y2 y3, LeO (impl_ReadHint.j2 k y0 y1 y2 y3) (impl_ReadHint.j2 (k + 1) y0 y1 y2 y3))
 | 0 => ⟨fun _ _ _ _ _ _ _ _ r h => by simp [impl_ReadHint.l0] at h, fun _ _ _ _ _ _ _ _ _ r h => by simp [impl_ReadHint.j1] at h, fun _ _ _ _ r h => by simp [impl_ReadHint.j2] at h⟩
 | k + 1 => by
  obtain ⟨ih0, ih1, ih2⟩ := impl_ReadHint.mono_l k
  refine ⟨?_, ?_, ?_⟩
  ·intro y0 y1 y2 y3 y4 y5 y6 y7
   unfold impl_ReadHint.l0
   repeat' first
   | (with_reducible exact ih0 _ _ _ _ _ _ _ _)
   | (with_reducible exact ih1 _ _ _ _ _ _ _ _ _)
   | (with_reducible exact ih2 _ _ _ _)
   | (with_reducible exact impl_ShowHint.mono _ _ _ _)
   | (with_reducible exact impl_hintOk.mono _ _ _ _)
   | (with_reducible exact impl_scanner_num.mono _ _ _)
   | (with_reducible exact impl_scanner_text.mono _ _ _)
   | (with_reducible exact LeO.refl _)
   | (with_reducible exact LeO.none _)
   | (with_reducible refine LeO.ite ?_ ?_)
   | (with_reducible refine LeO.bind ?_ (fun _ => ?_))
   | exact ih0 _ _ _ _ _ _ _ _
   | exact ih1 _ _ _ _ _ _ _ _ _
   | exact ih2 _ _ _ _
   | exact impl_ShowHint.mono _ _ _ _
   | exact impl_hintOk.mono _ _ _ _
   | exact impl_scanner_num.mono _ _ _
   | exact impl_scanner_text.mono _ _ _
   | exact LeO.none _
   | refine LeO.ite ?_ ?_
   | refine LeO.bind ?_ (fun _ => ?_)
  ·intro y0 y1 y2 y3 y4 y5 y6 y7 y8
   unfold impl_ReadHint.j1
   repeat' first
   | (with_reducible exact ih0 _ _ _ _ _ _ _ _)
   | (with_reducible exact ih1 _ _ _ _ _ _ _ _ _)
   | (with_reducible exact ih2 _ _ _ _)
   | (with_reducible exact impl_ShowHint.mono _ _ _ _)
   | (with_reducible exact impl_hintOk.mono _ _ _ _)
   | (with_reducible exact impl_scanner_num.mono _ _ _)
   | (with_reducible exact impl_scanner_text.mono _ _ _)
   | (with_reducible exact LeO.refl _)
   | (with_reducible exact LeO.none _)
   | (with_reducible refine LeO.ite ?_ ?_)
   | (with_reducible refine LeO.bind ?_ (fun _ => ?_))
   | exact ih0 _ _ _ _ _ _ _ _
   | exact ih1 _ _ _ _ _ _ _ _ _
   | exact ih2 _ _ _ _
   | exact impl_ShowHint.mono _ _ _ _
   | exact impl_hintOk.mono _ _ _ _
   | exact impl_scanner_num.mono _ _ _
   | exact impl_scanner_text.mono _ _ _
   | exact LeO.none _
   | refine LeO.ite ?_ ?_
   | refine LeO.bind ?_ (fun _ => ?_)
  ·intro y0 y1 y2 y3
   unfold impl_ReadHint.j2
   repeat' first
   | (with_reducible exact ih0 _ _ _ _ _ _ _ _)
   | (with_reducible exact ih1 _ _ _ _ _ _ _ _ _)
   | (with_reducible exact ih2 _ _ _ _)
   | (with_reducible exact impl_ShowHint.mono _ _ _ _)
   | (with_reducible exact impl_hintOk.mono _ _ _ _)
   | (with_reducible exact impl_scanner_num.mono _ _ _)
   | (with_reducible exact impl_scanner_text.mono _ _ _)
   | (with_reducible exact LeO.refl _)
   | (with_reducible exact LeO.none _)
   | (with_reducible refine LeO.ite ?_ ?_)
   | (with_reducible refine LeO.bind ?_ (fun _ => ?_))
   | exact ih0 _ _ _ _ _ _ _ _
   | exact ih1 _ _ _ _ _ _ _ _ _
   | exact ih2 _ _ _ _
   | exact impl_ShowHint.mono _ _ _ _
   | exact impl_hintOk.mono _ _ _ _
   | exact impl_scanner_num.mono _ _ _
   | exact impl_scanner_text.mono _ _ _
   | exact LeO.none _
   | refine LeO.ite ?_ ?_
   | refine LeO.bind ?_ (fun _ => ?_)
theorem impl_ReadHint.mono : ∀ a0 k, LeO (impl_ReadHint.f k a0) (impl_ReadHint.f (k + 1) a0) := by
 intro a0 k
 obtain ⟨ih0, ih1, ih2⟩ := impl_ReadHint.mono_l k
 unfold impl_ReadHint.f
 repeat' first
   | (with_reducible exact ih0 _ _ _ _ _ _ _ _)
   | (with_reducible exact ih1 _ _ _ _ _ _ _ _ _)
   | (with_reducible exact ih2 _ _ _ _)
   | (with_reducible exact impl_ShowHint.mono _ _ _ _)
   | (with_reducible exact impl_hintOk.mono _ _ _ _)
   | (with_reducible exact impl_scanner_num.mono _ _ _)
   | (with_reducible exact impl_scanner_text.mono _ _ _)
   | (with_reducible exact LeO.refl _)
   | (with_reducible exact LeO.none _)
   | (with_reducible refine LeO.ite ?_ ?_)
   | (with_reducible refine LeO.bind ?_ (fun _ => ?_))
   | exact ih0 _ _ _ _ _ _ _ _
   | exact ih1 _ _ _ _ _ _ _ _ _
   | exact ih2 _ _ _ _
   | exact impl_ShowHint.mono _ _ _ _
   | exact impl_hintOk.mono _ _ _ _
   | exact impl_scanner_num.mono _ _ _
   | exact impl_scanner_text.mono _ _ _
   | exact LeO.none _
   | refine LeO.ite ?_ ?_
   | refine LeO.bind ?_ (fun _ => ?_)
set_option maxHeartbeats 8000000 in
set_option maxRecDepth 100000 in
theorem impl_ReadHint.calls (k : Nat) (a0 : ByteArray) (r1 : Int) (r2 : Int) (r3 : List (S113)) (r4 : Bool) (w : World) (h : impl_ReadHint.f k a0 = some (r1, r2, r3, r4)) :
  Calls Try.prog 59 #[.string a0] w fun e w' => ∃ v2_ : Value, e = .returned (.tuple #[.agg #[.int .i64 r1, .int .i64 r2, v2_], .bool r4]) ∧ Kd.R k113 113 w' w.heap.size (fun _ => True) v2_ r3 ∧ Below w.heap.size w w' := by
 have hu54 := Try.underlying54
 have hu102 := Try.underlying102
 have hu113 := Try.underlying113
 have HB := Aside0.mk (Below.refl w.heap.size w)
 have H : ((impl_scanner_bytes.f a0 false 4).bind fun bt246 => ((impl_scanner_num.f k bt246.2.1 bt246.2.2).bind fun bt250 => ((impl_scanner_num.f k bt250.2.1 bt250.2.2).bind fun bt253 => ((impl_scanner_num.f k bt253.2.1 bt253.2.2).bind fun bt256 => (impl_ReadHint.l0 k a0 bt256.1 0 bt256.2.1 bt256.2.2 bt250.1 bt253.1 ([] : List (S113))))))) = some (r1, r2, r3, r4) := h
 clear h
 replace H := Option.bind_eq_some_iff.mp H
 obtain ⟨⟨t246, t247, t248⟩, A20, H⟩ := H
 replace H : ((impl_scanner_num.f k t247 t248).bind fun bt250 => ((impl_scanner_num.f k bt250.2.1 bt250.2.2).bind fun bt253 => ((impl_scanner_num.f k bt253.2.1 bt253.2.2).bind fun bt256 => (impl_ReadHint.l0 k a0 bt256.1 0 bt256.2.1 bt256.2.2 bt250.1 bt253.1 ([] : List (S113)))))) = some (r1, r2, r3, r4) := H
 have A2 := Aside0.mk A20
 clear A20
 replace H := Option.bind_eq_some_iff.mp H
 obtain ⟨⟨t250, t251, t252⟩, A30, H⟩ := H
 replace H : ((impl_scanner_num.f k t251 t252).bind fun bt253 => ((impl_scanner_num.f k bt253.2.1 bt253.2.2).bind fun bt256 => (impl_ReadHint.l0 k a0 bt256.1 0 bt256.2.1 bt256.2.2 t250 bt253.1 ([] : List (S113))))) = some (r1, r2, r3, r4) := H
 have A3 := Aside0.mk A30
 clear A30
 replace H := Option.bind_eq_some_iff.mp H
 obtain ⟨⟨t253, t254, t255⟩, A40, H⟩ := H
 replace H : ((impl_scanner_num.f k t254 t255).bind fun bt256 => (impl_ReadHint.l0 k a0 bt256.1 0 bt256.2.1 bt256.2.2 t250 t253 ([] : List (S113)))) = some (r1, r2, r3, r4) := H
 have A4 := Aside0.mk A40
 clear A40
 replace H := Option.bind_eq_some_iff.mp H
 obtain ⟨⟨t256, t257, t258⟩, A50, H⟩ := H
 replace H : (impl_ReadHint.l0 k a0 t256 0 t257 t258 t250 t253 ([] : List (S113))) = some (r1, r2, r3, r4) := H
 have A5 := Aside0.mk A50
 clear A50
 have H' := Aside0.mk H
 clear H
 go_enter Try.func59, Try.ntmps59
 go_wp2_with (first | ((with_reducible refine gate_dst (N := 2) rfl ?_); refine box_event ?hg (N := 2) ?hd (cs := #[.int .i64 0, .int .i64 0, .slice none 0 0]) (t := 54) ?hr ?_; (case hd => rfl); (case hg => rfl); (case hr => first | (go_simp; done) | (go_simp; rfl)); intro gb244 hg w6 hbox hb; have n0_ := Aside0.mk (below_step (hb_ HB) hb); have n1_ := Aside0.mk (hbox); have n2_ := Aside0.mk ((by rw [hg]; exact (below_size (hb_ HB)) : w.heap.size ≤ gb244)); have n3_ := Aside0.mk ((by rw [hg]; exact (below_size (hb_ HB)) : w.heap.size ≤ gb244)); clear HB; have HB := n0_; have BK244 := n1_; have GW244 := n2_; have GE244 := n3_; clear n0_ n1_ n2_ n3_; clear hb hbox hg) | ((with_reducible refine gate_dst (N := 11) rfl ?_); refine box_event ?hg (N := 11) ?hd (cs := #[.string a0, .bool false]) (t := 102) ?hr ?_; (case hd => rfl); (case hg => rfl); (case hr => first | (go_simp; done) | (go_simp; rfl)); intro gb245 hg w7 hbox hb; have n0_ := Aside0.mk (blk_below (g := gb244) (o := .cells #[.int .i64 0, .int .i64 0, .slice none 0 0] 54 (0, 0)) (bk_ BK244) hb); have n1_ := Aside0.mk (below_step (hs_ HB GE244) hb); have n2_ := Aside0.mk (hbox); have n3_ := Aside0.mk ((by rw [hg]; exact (below_size (hs_ HB GE244)) : w.heap.size ≤ gb245)); have n4_ := Aside0.mk ((by rw [hg]; exact (below_size (hs_ HB GE244)) : w.heap.size ≤ gb245)); have n5_ := Aside0.mk ((by rw [hg]; exact Nat.ne_of_lt (blk_lt (g := gb244) (o := .cells #[.int .i64 0, .int .i64 0, .slice none 0 0] 54 (0, 0)) (bk_ BK244)) : gb244 ≠ gb245)); have n6_ := Aside0.mk ((by rw [hg]; exact Nat.ne_of_gt (blk_lt (g := gb244) (o := .cells #[.int .i64 0, .int .i64 0, .slice none 0 0] 54 (0, 0)) (bk_ BK244)) : gb245 ≠ gb244)); clear BK244; clear HB; have BK244 := n0_; have HB := n1_; have BK245 := n2_; have GW245 := n3_; have GE245 := n4_; have NB244_245 := n5_; have NB245_244 := n6_; clear n0_ n1_ n2_ n3_ n4_ n5_ n6_; clear hb hbox hg; have HI245 := Aside0.mk (show IsS102 w w7 gb245 a0 false from ⟨BK245.out, GE245.out⟩); clear BK245) | ((with_reducible refine gate_callee (f := 79) rfl ?_); refine goesL_ (some 13) rfl rfl Try.func79 (by kernel_rfl) rfl #[.pointer (some ⟨gb245, 0, none⟩), .int .i64 4] rfl ar_ ?_; (with_reducible refine (impl_scanner_bytes.calls gb245 a0 false 4 t246 t247 t248 w _ ?side1 ?side2 A2.out).mono ?_); (case side1 => repeat (first | (with_reducible first | exact HI245.out | apply IsS102.alloc | apply IsS102.drewN | apply IsS102.drew | apply IsS102.set_0 | apply IsS102.set_1 | refine IsS102.far ?_ NB245_244.out _) | exact HI245.out)); (case side2 => repeat (first | (with_reducible first | exact HB.out | apply below_alloc | apply pw_below_drewN | apply below_drew1 | refine below_set ?_ (IsS102.ge HI245.out) | refine below_set ?_ GE244.out) | exact HB.out)); rintro e w8 ⟨rfl, hi, hb, hk⟩; refine ⟨_, rfl, ?_⟩; have n0_ := Aside0.mk (KeepBut.blk hk (g' := gb244) (o := .cells #[.int .i64 0, .int .i64 0, .slice none 0 0] 54 (0, 0)) (bk_ BK244) NB244_245.out (by simp)); have n1_ := Aside0.mk (hb); have n2_ := Aside0.mk (hi); clear BK244; clear HB; clear HI245; have BK244 := n0_; have HB := n1_; have HI245 := n2_; clear n0_ n1_ n2_; (try clear hb); (try clear hb2); (try clear hk); (try clear hi)) | ((with_reducible refine gate_dst (N := 5) rfl ?_); refine box_event ?hg (N := 5) ?hd (cs := #[.int .i64 0, .int .i64 0, .slice none 0 0]) (t := 54) ?hr ?_; (case hd => rfl); (case hg => rfl); (case hr => first | (go_simp; done) | (go_simp; rfl)); intro gb249 hg w9 hbox hb; have n0_ := Aside0.mk (blk_below (g := gb244) (o := .cells #[.int .i64 0, .int .i64 0, .slice none 0 0] 54 (0, 0)) (bk_ BK244) hb); have n1_ := Aside0.mk (IsS102.below (by repeat (first | (with_reducible first | exact HI245.out | apply IsS102.alloc | apply IsS102.drewN | apply IsS102.drew | apply IsS102.set_0 | apply IsS102.set_1 | refine IsS102.far ?_ NB245_244.out _) | exact HI245.out)) hb); have n2_ := Aside0.mk (below_step (by repeat (first | (with_reducible first | exact HB.out | apply below_alloc | apply pw_below_drewN | apply below_drew1 | refine below_set ?_ (IsS102.ge HI245.out) | refine below_set ?_ GE244.out) | exact HB.out)) hb); have n3_ := Aside0.mk (hbox); have n4_ := Aside0.mk ((by rw [hg]; exact (below_size (by repeat (first | (with_reducible first | exact HB.out | apply below_alloc | apply pw_below_drewN | apply below_drew1 | refine below_set ?_ (IsS102.ge HI245.out) | refine below_set ?_ GE244.out) | exact HB.out))) : w.heap.size ≤ gb249)); have n5_ := Aside0.mk ((by rw [hg]; exact (below_size (by repeat (first | (with_reducible first | exact HB.out | apply below_alloc | apply pw_below_drewN | apply below_drew1 | refine below_set ?_ (IsS102.ge HI245.out) | refine below_set ?_ GE244.out) | exact HB.out))) : w.heap.size ≤ gb249)); have n6_ := Aside0.mk ((by rw [hg]; exact Nat.ne_of_lt (blk_lt (g := gb244) (o := .cells #[.int .i64 0, .int .i64 0, .slice none 0 0] 54 (0, 0)) (bk_ BK244)) : gb244 ≠ gb249)); have n7_ := Aside0.mk ((by rw [hg]; exact Nat.ne_of_gt (blk_lt (g := gb244) (o := .cells #[.int .i64 0, .int .i64 0, .slice none 0 0] 54 (0, 0)) (bk_ BK244)) : gb249 ≠ gb244)); have n8_ := Aside0.mk ((by rw [hg]; exact Nat.ne_of_lt (IsS102.lt (show IsS102 w _ gb245 t247 t248 from by repeat (first | (with_reducible first | exact HI245.out | apply IsS102.alloc | apply IsS102.drewN | apply IsS102.drew | apply IsS102.set_0 | apply IsS102.set_1 | refine IsS102.far ?_ NB245_244.out _) | exact HI245.out))) : gb245 ≠ gb249)); have n9_ := Aside0.mk ((by rw [hg]; exact Nat.ne_of_gt (IsS102.lt (show IsS102 w _ gb245 t247 t248 from by repeat (first | (with_reducible first | exact HI245.out | apply IsS102.alloc | apply IsS102.drewN | apply IsS102.drew | apply IsS102.set_0 | apply IsS102.set_1 | refine IsS102.far ?_ NB245_244.out _) | exact HI245.out))) : gb249 ≠ gb245)); clear BK244; clear HI245; clear HB; have BK244 := n0_; have HI245 := n1_; have HB := n2_; have BK249 := n3_; have GW249 := n4_; have GE249 := n5_; have NB244_249 := n6_; have NB249_244 := n7_; have NB245_249 := n8_; have NB249_245 := n9_; clear n0_ n1_ n2_ n3_ n4_ n5_ n6_ n7_ n8_ n9_; clear hb hbox hg) | ((with_reducible refine gate_callee (f := 76) rfl ?_); refine goesL_ (some 15) rfl rfl Try.func76 (by kernel_rfl) rfl #[.pointer (some ⟨gb245, 0, none⟩)] rfl ar_ ?_; (with_reducible refine (impl_scanner_num.calls k gb245 t247 t248 t250 t251 t252 w _ ?side1 ?side2 A3.out).mono ?_); (case side1 => repeat (first | (with_reducible first | exact HI245.out | apply IsS102.alloc | apply IsS102.drewN | apply IsS102.drew | apply IsS102.set_0 | apply IsS102.set_1 | refine IsS102.far ?_ NB245_244.out _ | refine IsS102.far ?_ NB245_249.out _) | exact HI245.out)); (case side2 => repeat (first | (with_reducible first | exact HB.out | apply below_alloc | apply pw_below_drewN | apply below_drew1 | refine below_set ?_ (IsS102.ge HI245.out) | refine below_set ?_ GE244.out | refine below_set ?_ GE249.out) | exact HB.out)); rintro e w10 ⟨rfl, hi, hb, hk⟩; refine ⟨_, rfl, ?_⟩; have n0_ := Aside0.mk (KeepBut.blk hk (g' := gb244) (o := .cells #[.int .i64 0, .int .i64 0, .slice none 0 0] 54 (0, 0)) (bk_ BK244) NB244_245.out (by simp)); have n1_ := Aside0.mk (KeepBut.blk hk (g' := gb249) (o := .cells #[.int .i64 0, .int .i64 0, .slice none 0 0] 54 (0, 0)) (bk_ BK249) NB249_245.out (by simp)); have n2_ := Aside0.mk (hb); have n3_ := Aside0.mk (hi); clear BK244; clear BK249; clear HB; clear HI245; have BK244 := n0_; have BK249 := n1_; have HB := n2_; have HI245 := n3_; clear n0_ n1_ n2_ n3_; (try clear hb); (try clear hb2); (try clear hk); (try clear hi); have hnb11 := NB249_244.out; have hnc11 := NB244_249.out; have hnb12 := NB249_245.out; have hnc12 := NB245_249.out; have hcz13_0 : w10.cell? ⟨gb249, 0, none⟩ = some (.int .i64 0) := (blk_cell BK249.out 0).trans rfl; have hcz13_1 : w10.cell? ⟨gb249, 1, none⟩ = some (.int .i64 0) := (blk_cell BK249.out 1).trans rfl; have hcz13_2 : w10.cell? ⟨gb249, 2, none⟩ = some (.slice none 0 0) := (blk_cell BK249.out 2).trans rfl; have hfz13_0 := blk_frozen BK249.out 0; have hfz13_1 := blk_frozen BK249.out 1; have hfz13_2 := blk_frozen BK249.out 2) | ((with_reducible refine gate_callee (f := 76) rfl ?_); refine goesL_ (some 18) rfl rfl Try.func76 (by kernel_rfl) rfl #[.pointer (some ⟨gb245, 0, none⟩)] rfl ar_ ?_; (with_reducible refine (impl_scanner_num.calls k gb245 t251 t252 t253 t254 t255 w _ ?side1 ?side2 A4.out).mono ?_); (case side1 => repeat (first | (with_reducible first | exact HI245.out | apply IsS102.alloc | apply IsS102.drewN | apply IsS102.drew | apply IsS102.set_0 | apply IsS102.set_1 | refine IsS102.far ?_ NB245_244.out _ | refine IsS102.far ?_ NB245_249.out _) | exact HI245.out)); (case side2 => repeat (first | (with_reducible first | exact HB.out | apply below_alloc | apply pw_below_drewN | apply below_drew1 | refine below_set ?_ (IsS102.ge HI245.out) | refine below_set ?_ GE244.out | refine below_set ?_ GE249.out) | exact HB.out)); rintro e w14 ⟨rfl, hi, hb, hk⟩; refine ⟨_, rfl, ?_⟩; have n0_ := Aside0.mk (KeepBut.blk hk (g' := gb244) (o := .cells #[.int .i64 0, .int .i64 0, .slice none 0 0] 54 (0, 0)) (by (with_reducible repeat (first | refine blk_drewN ?_ _ | refine blk_drew ?_ | refine blk_alloc ?_ _)); refine blk_far ?_ NB244_249.out _; (with_reducible repeat (first | refine blk_drewN ?_ _ | refine blk_drew ?_ | refine blk_alloc ?_ _)); exact BK244.out) NB244_245.out (by simp)); have n1_ := Aside0.mk (KeepBut.blk hk (g' := gb249) (o := .cells #[.int .i64 t250, .int .i64 0, .slice none 0 0] 54 (0, 0)) (by (with_reducible repeat (first | refine blk_drewN ?_ _ | refine blk_drew ?_ | refine blk_alloc ?_ _)); refine blk_put (cs := #[.int .i64 0, .int .i64 0, .slice none 0 0]) ?_ 0 _ rfl; (with_reducible repeat (first | refine blk_drewN ?_ _ | refine blk_drew ?_ | refine blk_alloc ?_ _)); exact BK249.out) NB249_245.out (by simp)); have n2_ := Aside0.mk (hb); have n3_ := Aside0.mk (hi); clear BK244; clear BK249; clear HB; clear HI245; have BK244 := n0_; have BK249 := n1_; have HB := n2_; have HI245 := n3_; clear n0_ n1_ n2_ n3_; (try clear hb); (try clear hb2); (try clear hk); (try clear hi); have hcz15_0 : w14.cell? ⟨gb249, 0, none⟩ = some (.int .i64 t250) := (blk_cell BK249.out 0).trans rfl; have hcz15_1 : w14.cell? ⟨gb249, 1, none⟩ = some (.int .i64 0) := (blk_cell BK249.out 1).trans rfl; have hcz15_2 : w14.cell? ⟨gb249, 2, none⟩ = some (.slice none 0 0) := (blk_cell BK249.out 2).trans rfl; have hfz15_0 := blk_frozen BK249.out 0; have hfz15_1 := blk_frozen BK249.out 1; have hfz15_2 := blk_frozen BK249.out 2) | ((with_reducible refine gate_callee (f := 76) rfl ?_); refine goesL_ (some 21) rfl rfl Try.func76 (by kernel_rfl) rfl #[.pointer (some ⟨gb245, 0, none⟩)] rfl ar_ ?_; (with_reducible refine (impl_scanner_num.calls k gb245 t254 t255 t256 t257 t258 w _ ?side1 ?side2 A5.out).mono ?_); (case side1 => repeat (first | (with_reducible first | exact HI245.out | apply IsS102.alloc | apply IsS102.drewN | apply IsS102.drew | apply IsS102.set_0 | apply IsS102.set_1 | refine IsS102.far ?_ NB245_244.out _ | refine IsS102.far ?_ NB245_249.out _) | exact HI245.out)); (case side2 => repeat (first | (with_reducible first | exact HB.out | apply below_alloc | apply pw_below_drewN | apply below_drew1 | refine below_set ?_ (IsS102.ge HI245.out) | refine below_set ?_ GE244.out | refine below_set ?_ GE249.out) | exact HB.out)); rintro e w16 ⟨rfl, hi, hb, hk⟩; refine ⟨_, rfl, ?_⟩; have n0_ := Aside0.mk (KeepBut.blk hk (g' := gb244) (o := .cells #[.int .i64 0, .int .i64 0, .slice none 0 0] 54 (0, 0)) (by (with_reducible repeat (first | refine blk_drewN ?_ _ | refine blk_drew ?_ | refine blk_alloc ?_ _)); refine blk_far ?_ NB244_249.out _; (with_reducible repeat (first | refine blk_drewN ?_ _ | refine blk_drew ?_ | refine blk_alloc ?_ _)); exact BK244.out) NB244_245.out (by simp)); have n1_ := Aside0.mk (KeepBut.blk hk (g' := gb249) (o := .cells #[.int .i64 t250, .int .i64 t253, .slice none 0 0] 54 (0, 0)) (by (with_reducible repeat (first | refine blk_drewN ?_ _ | refine blk_drew ?_ | refine blk_alloc ?_ _)); refine blk_put (cs := #[.int .i64 t250, .int .i64 0, .slice none 0 0]) ?_ 1 _ rfl; (with_reducible repeat (first | refine blk_drewN ?_ _ | refine blk_drew ?_ | refine blk_alloc ?_ _)); exact BK249.out) NB249_245.out (by simp)); have n2_ := Aside0.mk (hb); have n3_ := Aside0.mk (hi); clear BK244; clear BK249; clear HB; clear HI245; have BK244 := n0_; have BK249 := n1_; have HB := n2_; have HI245 := n3_; clear n0_ n1_ n2_ n3_; (try clear hb); (try clear hb2); (try clear hk); (try clear hi)))
 go_loopg [7] k (fun kq v7 w' => ∃ (x7_1 : Int) (x246000_1 : ByteArray) (x246001_1 : Bool) (x250002_1 : List (S113)) (u250002 : Value), v7 = .int .i64 x7_1 ∧ Aside0 (impl_ReadHint.l0 kq a0 t256 x7_1 x246000_1 x246001_1 t250 t253 x250002_1 = some (r1, r2, r3, r4)) ∧ Aside0 (kq ≤ k) ∧ Aside0 (Kd.R k113 113 w' w.heap.size (fun _ => True) u250002 x250002_1) ∧ Aside0 (w'.heap[gb244]? = some (.cells #[.int .i64 0, .int .i64 0, (.slice none 0 0)] 54 (0, 0))) ∧ Aside0 (w'.heap[gb249]? = some (.cells #[.int .i64 t250, .int .i64 t253, u250002] 54 (0, 0))) ∧ Aside0 (IsS102 w w' gb245 x246000_1 x246001_1) ∧ Aside0 (Below w.heap.size w w'))
 case atStart => exact ⟨(0), (t257), (t258), (([] : List (S113))), (.slice none 0 0), rs_, H', ⟨Nat.le_refl _⟩, ⟨by first | exact Kd.R_nil _ _ _ _ _ | exact Kd.N_nil _ _ _ _ _ | exact Kd.V_nil _ _ _ _ _ | exact Kd.Q_nil _ _ _ _ _ | exact Kd.S_nil _ _ _ _ _⟩, ⟨bk_ BK244⟩, ⟨bk_ BK249⟩, ⟨by repeat (first | (with_reducible first | exact HI245.out | apply IsS102.alloc | apply IsS102.drewN | apply IsS102.drew | apply IsS102.set_0 | apply IsS102.set_1 | refine IsS102.far ?_ NB245_244.out _ | refine IsS102.far ?_ NB245_249.out _) | exact HI245.out)⟩, ⟨by repeat (first | (with_reducible first | exact HB.out | apply below_alloc | apply pw_below_drewN | apply below_drew1 | refine below_set ?_ (IsS102.ge HI245.out) | refine below_set ?_ GE244.out | refine below_set ?_ GE249.out) | exact HB.out)⟩⟩
 case round =>
  clear H'
  try clear c1
  try clear p2
  try clear c5
  try clear c7
  try clear c11
  try clear c12
  try clear hcz13_0
  try clear hcz13_1
  try clear hcz13_2
  try clear hcz15_0
  try clear hcz15_1
  try clear hcz15_2
  try clear hfz13_0
  try clear hfz13_1
  try clear hfz13_2
  try clear hfz15_0
  try clear hfz15_1
  try clear hfz15_2
  obtain ⟨x7_1, x246000_1, x246001_1, x250002_1, u250002, rfl, HA, HK1, HO_250002, BK244, BK249, HI245, HB⟩ := hrel
  cases gk with
  | zero => exact absurd HA.out (by simp [impl_ReadHint.l0])
  | succ k1 =>
   have H := HA.out
   clear HA
   simp only [impl_ReadHint.l0] at H
   have HC17 := Aside0.mk H
   clear H
   go_upto_region 8 with (fail)
   go_cut [31] (fun v31 wc => ∃ (kq : Nat) (x31_16 : Bool), v31 = .bool x31_16 ∧ Aside0 (impl_ReadHint.j1 kq a0 t256 x7_1 x31_16 x246000_1 x246001_1 t250 t253 x250002_1 = some (r1, r2, r3, r4)) ∧ Aside0 (kq ≤ k1) ∧ Aside0 (Kd.R k113 113 wc w.heap.size (fun _ => True) u250002 x250002_1) ∧ Aside0 (wc.heap[gb244]? = some (.cells #[.int .i64 0, .int .i64 0, (.slice none 0 0)] 54 (0, 0))) ∧ Aside0 (wc.heap[gb249]? = some (.cells #[.int .i64 t250, .int .i64 t253, u250002] 54 (0, 0))) ∧ Aside0 (IsS102 w wc gb245 x246000_1 x246001_1) ∧ Aside0 (Below w.heap.size w wc))
   case first =>
    have H := HC17.out
    clear HC17
    by_cases c18 : x7_1 < t256
    ·rw [if_pos c18] at H
     have c18b0 : decide (x7_1 < t256) = true := decide_eq_true c18
     clear c18
     (first | rw [c18b0] | (simp only [i64_w, i32_w]; rw [c18b0]) | skip)
     have H' := Aside0.mk H
     clear H
     obtain ⟨HGz19, hgz19⟩ := HI245.out
     have hcz19_0 := cellS102_0 HGz19
     have hcz19_1 := cellS102_1 HGz19
     have hfz19_0 := blk_frozen HGz19 0
     have hfz19_1 := blk_frozen HGz19 1
     clear HGz19 hgz19
     go_wp2
     go_meet
     case rel => exact ⟨_, (!x246001_1), rs_, H', ⟨by have := HK1.out; first | exact Nat.le_refl _ | exact Nat.le_of_succ_le this | omega⟩, ⟨rr_ HO_250002⟩, ⟨bk_ BK244⟩, ⟨bk_ BK249⟩, ⟨by repeat (first | (with_reducible first | exact HI245.out | apply IsS102.alloc | apply IsS102.drewN | apply IsS102.drew | apply IsS102.set_0 | apply IsS102.set_1 | refine IsS102.far ?_ NB245_244.out _ | refine IsS102.far ?_ NB245_249.out _) | exact HI245.out)⟩, ⟨by repeat (first | (with_reducible first | exact HB.out | apply below_alloc | apply pw_below_drewN | apply below_drew1 | refine below_set ?_ (IsS102.ge HI245.out) | refine below_set ?_ GE244.out | refine below_set ?_ GE249.out) | exact HB.out)⟩⟩
    ·rw [if_neg c18] at H
     have c18b0 : decide (x7_1 < t256) = false := decide_eq_false c18
     clear c18
     (first | rw [c18b0] | (simp only [i64_w, i32_w]; rw [c18b0]) | skip)
     have H' := Aside0.mk H
     clear H
     go_wp2
     go_meet
     case rel => exact ⟨_, (false), rs_, H', ⟨by have := HK1.out; first | exact Nat.le_refl _ | exact Nat.le_of_succ_le this | omega⟩, ⟨rr_ HO_250002⟩, ⟨bk_ BK244⟩, ⟨bk_ BK249⟩, ⟨by repeat (first | (with_reducible first | exact HI245.out | apply IsS102.alloc | apply IsS102.drewN | apply IsS102.drew | apply IsS102.set_0 | apply IsS102.set_1 | refine IsS102.far ?_ NB245_244.out _ | refine IsS102.far ?_ NB245_249.out _) | exact HI245.out)⟩, ⟨by repeat (first | (with_reducible first | exact HB.out | apply below_alloc | apply pw_below_drewN | apply below_drew1 | refine below_set ?_ (IsS102.ge HI245.out) | refine below_set ?_ GE244.out | refine below_set ?_ GE249.out) | exact HB.out)⟩⟩
   case rest =>
    clear HC17
    try clear c1
    try clear p2
    try clear c5
    try clear c7
    try clear c11
    try clear c12
    try clear c18
    try clear c18b0
    try clear hcz13_0
    try clear hcz13_1
    try clear hcz13_2
    try clear hcz15_0
    try clear hcz15_1
    try clear hcz15_2
    try clear hcz19_0
    try clear hcz19_1
    try clear hfz13_0
    try clear hfz13_1
    try clear hfz13_2
    try clear hfz15_0
    try clear hfz15_1
    try clear hfz15_2
    try clear hfz19_0
    try clear hfz19_1
    try clear p2
    obtain ⟨kq, x31_16, rfl, HA, HJ16, HO_250002, BK244, BK249, HI245, HB⟩ := hcut
    cases kq with
    | zero => exact absurd HA.out (by simp [impl_ReadHint.j1])
    | succ kj16 =>
     have H := HA.out
     clear HA
     simp only [impl_ReadHint.j1] at H
     by_cases c20 : x31_16 = true
     ·subst c20
      have H1 : ((impl_scanner_text.f kj16 x246000_1 x246001_1).bind fun bt260 => ((impl_scanner_num.f kj16 bt260.2.1 bt260.2.2).bind fun bt263 => ((impl_scanner_num.f kj16 bt263.2.1 bt263.2.2).bind fun bt266 => ((impl_scanner_num.f kj16 bt266.2.1 bt266.2.2).bind fun bt269 => ((impl_scanner_num.f kj16 bt269.2.1 bt269.2.2).bind fun bt272 => (if x250002_1.length < 2932031007402 then (impl_ReadHint.l0 kj16 a0 t256 (wrap64 (x7_1 + 1)) bt272.2.1 bt272.2.2 t250 t253 (x250002_1 ++ [(⟨bt260.1, bt263.1, bt266.1, bt269.1, bt272.1⟩ : S113)])) else (none))))))) = some (r1, r2, r3, r4) := by rw [if_pos rfl] at H; exact H
      clear H
      have H := H1
      clear H1
      replace H := Option.bind_eq_some_iff.mp H
      obtain ⟨⟨t260, t261, t262⟩, A210, H⟩ := H
      replace H : ((impl_scanner_num.f kj16 t261 t262).bind fun bt263 => ((impl_scanner_num.f kj16 bt263.2.1 bt263.2.2).bind fun bt266 => ((impl_scanner_num.f kj16 bt266.2.1 bt266.2.2).bind fun bt269 => ((impl_scanner_num.f kj16 bt269.2.1 bt269.2.2).bind fun bt272 => (if x250002_1.length < 2932031007402 then (impl_ReadHint.l0 kj16 a0 t256 (wrap64 (x7_1 + 1)) bt272.2.1 bt272.2.2 t250 t253 (x250002_1 ++ [(⟨t260, bt263.1, bt266.1, bt269.1, bt272.1⟩ : S113)])) else (none)))))) = some (r1, r2, r3, r4) := H
      have A21 := Aside0.mk A210
      clear A210
      replace H := Option.bind_eq_some_iff.mp H
      obtain ⟨⟨t263, t264, t265⟩, A220, H⟩ := H
      replace H : ((impl_scanner_num.f kj16 t264 t265).bind fun bt266 => ((impl_scanner_num.f kj16 bt266.2.1 bt266.2.2).bind fun bt269 => ((impl_scanner_num.f kj16 bt269.2.1 bt269.2.2).bind fun bt272 => (if x250002_1.length < 2932031007402 then (impl_ReadHint.l0 kj16 a0 t256 (wrap64 (x7_1 + 1)) bt272.2.1 bt272.2.2 t250 t253 (x250002_1 ++ [(⟨t260, t263, bt266.1, bt269.1, bt272.1⟩ : S113)])) else (none))))) = some (r1, r2, r3, r4) := H
      have A22 := Aside0.mk A220
      clear A220
      replace H := Option.bind_eq_some_iff.mp H
      obtain ⟨⟨t266, t267, t268⟩, A230, H⟩ := H
      replace H : ((impl_scanner_num.f kj16 t267 t268).bind fun bt269 => ((impl_scanner_num.f kj16 bt269.2.1 bt269.2.2).bind fun bt272 => (if x250002_1.length < 2932031007402 then (impl_ReadHint.l0 kj16 a0 t256 (wrap64 (x7_1 + 1)) bt272.2.1 bt272.2.2 t250 t253 (x250002_1 ++ [(⟨t260, t263, t266, bt269.1, bt272.1⟩ : S113)])) else (none)))) = some (r1, r2, r3, r4) := H
      have A23 := Aside0.mk A230
      clear A230
      replace H := Option.bind_eq_some_iff.mp H
      obtain ⟨⟨t269, t270, t271⟩, A240, H⟩ := H
      replace H : ((impl_scanner_num.f kj16 t270 t271).bind fun bt272 => (if x250002_1.length < 2932031007402 then (impl_ReadHint.l0 kj16 a0 t256 (wrap64 (x7_1 + 1)) bt272.2.1 bt272.2.2 t250 t253 (x250002_1 ++ [(⟨t260, t263, t266, t269, bt272.1⟩ : S113)])) else (none))) = some (r1, r2, r3, r4) := H
      have A24 := Aside0.mk A240
      clear A240
      replace H := Option.bind_eq_some_iff.mp H
      obtain ⟨⟨t272, t273, t274⟩, A250, H⟩ := H
      replace H : (if x250002_1.length < 2932031007402 then (impl_ReadHint.l0 kj16 a0 t256 (wrap64 (x7_1 + 1)) t273 t274 t250 t253 (x250002_1 ++ [(⟨t260, t263, t266, t269, t272⟩ : S113)])) else (none)) = some (r1, r2, r3, r4) := H
      have A25 := Aside0.mk A250
      clear A250
      by_cases c26 : x250002_1.length < 2932031007402
      ·rw [if_pos c26] at H
       have LMc26 := Aside0.mk c26
       clear c26
       obtain ⟨y275, hy275⟩ : ∃ y_ : List (S113), y_ = (x250002_1 ++ [(⟨t260, t263, t266, t269, t272⟩ : S113)]) := ⟨_, rfl⟩
       replace H : (impl_ReadHint.l0 kj16 a0 t256 (wrap64 (x7_1 + 1)) t273 t274 t250 t253 y275) = some (r1, r2, r3, r4) := by first | (rw [hy275]; with_reducible exact H) | (have H2_ := (Option.bind_some _ _).symm.trans H; rw [hy275]; with_reducible exact H2_) | (have H2_ := (Option.bind_some _ _).symm.trans H; with_reducible exact H2_) | with_reducible exact H | (rw [hy275]; exact H) | exact H
       have Ny275 := Aside0.mk hy275
       clear hy275
       have H' := Aside0.mk H
       clear H
       go_wp2_with (first | ((with_reducible refine gate_dst (N := 8) rfl ?_); refine box_event ?hg (N := 8) ?hd (cs := #[.string (⟨#[]⟩ : ByteArray), .int .i64 0, .int .i64 0, .int .i64 0, .int .i64 0]) (t := 113) ?hr ?_; (case hd => rfl); (case hg => rfl); (case hr => first | (go_simp; done) | (go_simp; rfl)); intro gb259 hg w27 hbox hb; have n0_ := Aside0.mk (Kd.R_below (Kd.R_elderB (rr_ HO_250002) gb259 (Nat.le_of_eq hg.symm)) hb); have n1_ := Aside0.mk (blk_below (g := gb244) (o := .cells #[.int .i64 0, .int .i64 0, .slice none 0 0] 54 (0, 0)) (bk_ BK244) hb); have n2_ := Aside0.mk (blk_below (g := gb249) (o := .cells #[.int .i64 t250, .int .i64 t253, u250002] 54 (0, 0)) (bk_ BK249) hb); have n3_ := Aside0.mk (IsS102.below (by repeat (first | (with_reducible first | exact HI245.out | apply IsS102.alloc | apply IsS102.drewN | apply IsS102.drew | apply IsS102.set_0 | apply IsS102.set_1 | refine IsS102.far ?_ NB245_244.out _ | refine IsS102.far ?_ NB245_249.out _) | exact HI245.out)) hb); have n4_ := Aside0.mk (below_step (by repeat (first | (with_reducible first | exact HB.out | apply below_alloc | apply pw_below_drewN | apply below_drew1 | refine below_set ?_ (IsS102.ge HI245.out) | refine below_set ?_ GE244.out | refine below_set ?_ GE249.out) | exact HB.out)) hb); have n5_ := Aside0.mk (hbox); have n6_ := Aside0.mk ((by rw [hg]; exact (below_size (by repeat (first | (with_reducible first | exact HB.out | apply below_alloc | apply pw_below_drewN | apply below_drew1 | refine below_set ?_ (IsS102.ge HI245.out) | refine below_set ?_ GE244.out | refine below_set ?_ GE249.out) | exact HB.out))) : w.heap.size ≤ gb259)); have n7_ := Aside0.mk ((by rw [hg]; exact (below_size (by repeat (first | (with_reducible first | exact HB.out | apply below_alloc | apply pw_below_drewN | apply below_drew1 | refine below_set ?_ (IsS102.ge HI245.out) | refine below_set ?_ GE244.out | refine below_set ?_ GE249.out) | exact HB.out))) : w.heap.size ≤ gb259)); have n8_ := Aside0.mk ((by rw [hg]; exact Nat.ne_of_lt (blk_lt (g := gb244) (o := .cells #[.int .i64 0, .int .i64 0, .slice none 0 0] 54 (0, 0)) (bk_ BK244)) : gb244 ≠ gb259)); have n9_ := Aside0.mk ((by rw [hg]; exact Nat.ne_of_gt (blk_lt (g := gb244) (o := .cells #[.int .i64 0, .int .i64 0, .slice none 0 0] 54 (0, 0)) (bk_ BK244)) : gb259 ≠ gb244)); have n10_ := Aside0.mk ((by rw [hg]; exact Nat.ne_of_lt (blk_lt (g := gb249) (o := .cells #[.int .i64 t250, .int .i64 t253, u250002] 54 (0, 0)) (bk_ BK249)) : gb249 ≠ gb259)); have n11_ := Aside0.mk ((by rw [hg]; exact Nat.ne_of_gt (blk_lt (g := gb249) (o := .cells #[.int .i64 t250, .int .i64 t253, u250002] 54 (0, 0)) (bk_ BK249)) : gb259 ≠ gb249)); have n12_ := Aside0.mk ((by rw [hg]; exact Nat.ne_of_lt (IsS102.lt (show IsS102 w _ gb245 x246000_1 x246001_1 from by repeat (first | (with_reducible first | exact HI245.out | apply IsS102.alloc | apply IsS102.drewN | apply IsS102.drew | apply IsS102.set_0 | apply IsS102.set_1 | refine IsS102.far ?_ NB245_244.out _ | refine IsS102.far ?_ NB245_249.out _) | exact HI245.out))) : gb245 ≠ gb259)); have n13_ := Aside0.mk ((by rw [hg]; exact Nat.ne_of_gt (IsS102.lt (show IsS102 w _ gb245 x246000_1 x246001_1 from by repeat (first | (with_reducible first | exact HI245.out | apply IsS102.alloc | apply IsS102.drewN | apply IsS102.drew | apply IsS102.set_0 | apply IsS102.set_1 | refine IsS102.far ?_ NB245_244.out _ | refine IsS102.far ?_ NB245_249.out _) | exact HI245.out))) : gb259 ≠ gb245)); clear HO_250002; clear BK244; clear BK249; clear HI245; clear HB; have HO_250002 := n0_; have BK244 := n1_; have BK249 := n2_; have HI245 := n3_; have HB := n4_; have BK259 := n5_; have GW259 := n6_; have GE259 := n7_; have NB244_259 := n8_; have NB259_244 := n9_; have NB249_259 := n10_; have NB259_249 := n11_; have NB245_259 := n12_; have NB259_245 := n13_; clear n0_ n1_ n2_ n3_ n4_ n5_ n6_ n7_ n8_ n9_ n10_ n11_ n12_ n13_; clear hb hbox hg) | ((with_reducible refine gate_callee (f := 77) rfl ?_); refine goesL_ (some 35) rfl rfl Try.func77 (by kernel_rfl) rfl #[.pointer (some ⟨gb245, 0, none⟩)] rfl ar_ ?_; (with_reducible refine (impl_scanner_text.calls kj16 gb245 x246000_1 x246001_1 t260 t261 t262 w _ ?side1 ?side2 A21.out).mono ?_); (case side1 => repeat (first | (with_reducible first | exact HI245.out | apply IsS102.alloc | apply IsS102.drewN | apply IsS102.drew | apply IsS102.set_0 | apply IsS102.set_1 | refine IsS102.far ?_ NB245_244.out _ | refine IsS102.far ?_ NB245_249.out _ | refine IsS102.far ?_ NB245_259.out _) | exact HI245.out)); (case side2 => repeat (first | (with_reducible first | exact HB.out | apply below_alloc | apply pw_below_drewN | apply below_drew1 | refine below_set ?_ (IsS102.ge HI245.out) | refine below_set ?_ GE244.out | refine below_set ?_ GE249.out | refine below_set ?_ GE259.out) | exact HB.out)); rintro e w28 ⟨rfl, hi, hb, hk⟩; refine ⟨_, rfl, ?_⟩; have n0_ := Aside0.mk (Kd.R_mono (Kd.R_keep (IsS102.apart (show IsS102 w _ gb245 x246000_1 x246001_1 from by repeat (first | (with_reducible first | exact HI245.out | apply IsS102.alloc | apply IsS102.drewN | apply IsS102.drew | apply IsS102.set_0 | apply IsS102.set_1 | refine IsS102.far ?_ NB245_244.out _ | refine IsS102.far ?_ NB245_249.out _ | refine IsS102.far ?_ NB245_259.out _) | exact HI245.out)) (rr_ HO_250002) (by decide)) hk (fun _ h => h.2)) (fun _ h => h.1)); have n1_ := Aside0.mk (KeepBut.blk hk (g' := gb244) (o := .cells #[.int .i64 0, .int .i64 0, .slice none 0 0] 54 (0, 0)) (bk_ BK244) NB244_245.out (by simp)); have n2_ := Aside0.mk (KeepBut.blk hk (g' := gb249) (o := .cells #[.int .i64 t250, .int .i64 t253, u250002] 54 (0, 0)) (bk_ BK249) NB249_245.out (by simp)); have n3_ := Aside0.mk (KeepBut.blk hk (g' := gb259) (o := .cells #[.string (⟨#[]⟩ : ByteArray), .int .i64 0, .int .i64 0, .int .i64 0, .int .i64 0] 113 (0, 0)) (bk_ BK259) NB259_245.out (by simp)); have n4_ := Aside0.mk (hb); have n5_ := Aside0.mk (hi); clear HO_250002; clear BK244; clear BK249; clear BK259; clear HB; clear HI245; have HO_250002 := n0_; have BK244 := n1_; have BK249 := n2_; have BK259 := n3_; have HB := n4_; have HI245 := n5_; clear n0_ n1_ n2_ n3_ n4_ n5_; (try clear hb); (try clear hb2); (try clear hk); (try clear hi); have hnb29 := NB259_244.out; have hnc29 := NB244_259.out; have hnb30 := NB259_249.out; have hnc30 := NB249_259.out; have hnb31 := NB259_245.out; have hnc31 := NB245_259.out; have hcz32_0 : w28.cell? ⟨gb259, 0, none⟩ = some (.string (⟨#[]⟩ : ByteArray)) := (blk_cell BK259.out 0).trans rfl; have hcz32_1 : w28.cell? ⟨gb259, 1, none⟩ = some (.int .i64 0) := (blk_cell BK259.out 1).trans rfl; have hcz32_2 : w28.cell? ⟨gb259, 2, none⟩ = some (.int .i64 0) := (blk_cell BK259.out 2).trans rfl; have hcz32_3 : w28.cell? ⟨gb259, 3, none⟩ = some (.int .i64 0) := (blk_cell BK259.out 3).trans rfl; have hcz32_4 : w28.cell? ⟨gb259, 4, none⟩ = some (.int .i64 0) := (blk_cell BK259.out 4).trans rfl; have hfz32_0 := blk_frozen BK259.out 0; have hfz32_1 := blk_frozen BK259.out 1; have hfz32_2 := blk_frozen BK259.out 2; have hfz32_3 := blk_frozen BK259.out 3; have hfz32_4 := blk_frozen BK259.out 4) | ((with_reducible refine gate_callee (f := 76) rfl ?_); refine goesL_ (some 38) rfl rfl Try.func76 (by kernel_rfl) rfl #[.pointer (some ⟨gb245, 0, none⟩)] rfl ar_ ?_; (with_reducible refine (impl_scanner_num.calls kj16 gb245 t261 t262 t263 t264 t265 w _ ?side1 ?side2 A22.out).mono ?_); (case side1 => repeat (first | (with_reducible first | exact HI245.out | apply IsS102.alloc | apply IsS102.drewN | apply IsS102.drew | apply IsS102.set_0 | apply IsS102.set_1 | refine IsS102.far ?_ NB245_244.out _ | refine IsS102.far ?_ NB245_249.out _ | refine IsS102.far ?_ NB245_259.out _) | exact HI245.out)); (case side2 => repeat (first | (with_reducible first | exact HB.out | apply below_alloc | apply pw_below_drewN | apply below_drew1 | refine below_set ?_ (IsS102.ge HI245.out) | refine below_set ?_ GE244.out | refine below_set ?_ GE249.out | refine below_set ?_ GE259.out) | exact HB.out)); rintro e w33 ⟨rfl, hi, hb, hk⟩; refine ⟨_, rfl, ?_⟩; have n0_ := Aside0.mk (Kd.R_mono (Kd.R_keep (IsS102.apart (show IsS102 w _ gb245 t261 t262 from by repeat (first | (with_reducible first | exact HI245.out | apply IsS102.alloc | apply IsS102.drewN | apply IsS102.drew | apply IsS102.set_0 | apply IsS102.set_1 | refine IsS102.far ?_ NB245_244.out _ | refine IsS102.far ?_ NB245_249.out _ | refine IsS102.far ?_ NB245_259.out _) | exact HI245.out)) (by (with_reducible repeat (first | apply Kd.R_alloc | apply Kd.R_drewN | apply Kd.R_drew)); exact (Kd.R_mono (Kd.R_far (p := ⟨gb259, 0, none⟩) (Kd.R_mono HO_250002.out (fun k_ hk => (⟨hk, hk.2⟩ : _ ∧ k_ ≠ gb259))) (fun _ hk => hk.2) (.string t260)) (fun _ h_ => h_.1))) (by decide)) hk (fun _ h => h.2)) (fun _ h => h.1)); have n1_ := Aside0.mk (KeepBut.blk hk (g' := gb244) (o := .cells #[.int .i64 0, .int .i64 0, .slice none 0 0] 54 (0, 0)) (by (with_reducible repeat (first | refine blk_drewN ?_ _ | refine blk_drew ?_ | refine blk_alloc ?_ _)); refine blk_far ?_ NB244_259.out _; (with_reducible repeat (first | refine blk_drewN ?_ _ | refine blk_drew ?_ | refine blk_alloc ?_ _)); exact BK244.out) NB244_245.out (by simp)); have n2_ := Aside0.mk (KeepBut.blk hk (g' := gb249) (o := .cells #[.int .i64 t250, .int .i64 t253, u250002] 54 (0, 0)) (by (with_reducible repeat (first | refine blk_drewN ?_ _ | refine blk_drew ?_ | refine blk_alloc ?_ _)); refine blk_far ?_ NB249_259.out _; (with_reducible repeat (first | refine blk_drewN ?_ _ | refine blk_drew ?_ | refine blk_alloc ?_ _)); exact BK249.out) NB249_245.out (by simp)); have n3_ := Aside0.mk (KeepBut.blk hk (g' := gb259) (o := .cells #[.string t260, .int .i64 0, .int .i64 0, .int .i64 0, .int .i64 0] 113 (0, 0)) (by (with_reducible repeat (first | refine blk_drewN ?_ _ | refine blk_drew ?_ | refine blk_alloc ?_ _)); refine blk_put (cs := #[.string (⟨#[]⟩ : ByteArray), .int .i64 0, .int .i64 0, .int .i64 0, .int .i64 0]) ?_ 0 _ rfl; (with_reducible repeat (first | refine blk_drewN ?_ _ | refine blk_drew ?_ | refine blk_alloc ?_ _)); exact BK259.out) NB259_245.out (by simp)); have n4_ := Aside0.mk (hb); have n5_ := Aside0.mk (hi); clear HO_250002; clear BK244; clear BK249; clear BK259; clear HB; clear HI245; have HO_250002 := n0_; have BK244 := n1_; have BK249 := n2_; have BK259 := n3_; have HB := n4_; have HI245 := n5_; clear n0_ n1_ n2_ n3_ n4_ n5_; (try clear hb); (try clear hb2); (try clear hk); (try clear hi); have hcz34_0 : w33.cell? ⟨gb259, 0, none⟩ = some (.string t260) := (blk_cell BK259.out 0).trans rfl; have hcz34_1 : w33.cell? ⟨gb259, 1, none⟩ = some (.int .i64 0) := (blk_cell BK259.out 1).trans rfl; have hcz34_2 : w33.cell? ⟨gb259, 2, none⟩ = some (.int .i64 0) := (blk_cell BK259.out 2).trans rfl; have hcz34_3 : w33.cell? ⟨gb259, 3, none⟩ = some (.int .i64 0) := (blk_cell BK259.out 3).trans rfl; have hcz34_4 : w33.cell? ⟨gb259, 4, none⟩ = some (.int .i64 0) := (blk_cell BK259.out 4).trans rfl; have hfz34_0 := blk_frozen BK259.out 0; have hfz34_1 := blk_frozen BK259.out 1; have hfz34_2 := blk_frozen BK259.out 2; have hfz34_3 := blk_frozen BK259.out 3; have hfz34_4 := blk_frozen BK259.out 4) | ((with_reducible refine gate_callee (f := 76) rfl ?_); refine goesL_ (some 41) rfl rfl Try.func76 (by kernel_rfl) rfl #[.pointer (some ⟨gb245, 0, none⟩)] rfl ar_ ?_; (with_reducible refine (impl_scanner_num.calls kj16 gb245 t264 t265 t266 t267 t268 w _ ?side1 ?side2 A23.out).mono ?_); (case side1 => repeat (first | (with_reducible first | exact HI245.out | apply IsS102.alloc | apply IsS102.drewN | apply IsS102.drew | apply IsS102.set_0 | apply IsS102.set_1 | refine IsS102.far ?_ NB245_244.out _ | refine IsS102.far ?_ NB245_249.out _ | refine IsS102.far ?_ NB245_259.out _) | exact HI245.out)); (case side2 => repeat (first | (with_reducible first | exact HB.out | apply below_alloc | apply pw_below_drewN | apply below_drew1 | refine below_set ?_ (IsS102.ge HI245.out) | refine below_set ?_ GE244.out | refine below_set ?_ GE249.out | refine below_set ?_ GE259.out) | exact HB.out)); rintro e w35 ⟨rfl, hi, hb, hk⟩; refine ⟨_, rfl, ?_⟩; have n0_ := Aside0.mk (Kd.R_mono (Kd.R_keep (IsS102.apart (show IsS102 w _ gb245 t264 t265 from by repeat (first | (with_reducible first | exact HI245.out | apply IsS102.alloc | apply IsS102.drewN | apply IsS102.drew | apply IsS102.set_0 | apply IsS102.set_1 | refine IsS102.far ?_ NB245_244.out _ | refine IsS102.far ?_ NB245_249.out _ | refine IsS102.far ?_ NB245_259.out _) | exact HI245.out)) (by (with_reducible repeat (first | apply Kd.R_alloc | apply Kd.R_drewN | apply Kd.R_drew)); exact (Kd.R_mono (Kd.R_far (p := ⟨gb259, 1, none⟩) (Kd.R_mono HO_250002.out (fun k_ hk => (⟨hk, hk.2⟩ : _ ∧ k_ ≠ gb259))) (fun _ hk => hk.2) (.int .i64 t263)) (fun _ h_ => h_.1))) (by decide)) hk (fun _ h => h.2)) (fun _ h => h.1)); have n1_ := Aside0.mk (KeepBut.blk hk (g' := gb244) (o := .cells #[.int .i64 0, .int .i64 0, .slice none 0 0] 54 (0, 0)) (by (with_reducible repeat (first | refine blk_drewN ?_ _ | refine blk_drew ?_ | refine blk_alloc ?_ _)); refine blk_far ?_ NB244_259.out _; (with_reducible repeat (first | refine blk_drewN ?_ _ | refine blk_drew ?_ | refine blk_alloc ?_ _)); exact BK244.out) NB244_245.out (by simp)); have n2_ := Aside0.mk (KeepBut.blk hk (g' := gb249) (o := .cells #[.int .i64 t250, .int .i64 t253, u250002] 54 (0, 0)) (by (with_reducible repeat (first | refine blk_drewN ?_ _ | refine blk_drew ?_ | refine blk_alloc ?_ _)); refine blk_far ?_ NB249_259.out _; (with_reducible repeat (first | refine blk_drewN ?_ _ | refine blk_drew ?_ | refine blk_alloc ?_ _)); exact BK249.out) NB249_245.out (by simp)); have n3_ := Aside0.mk (KeepBut.blk hk (g' := gb259) (o := .cells #[.string t260, .int .i64 t263, .int .i64 0, .int .i64 0, .int .i64 0] 113 (0, 0)) (by (with_reducible repeat (first | refine blk_drewN ?_ _ | refine blk_drew ?_ | refine blk_alloc ?_ _)); refine blk_put (cs := #[.string t260, .int .i64 0, .int .i64 0, .int .i64 0, .int .i64 0]) ?_ 1 _ rfl; (with_reducible repeat (first | refine blk_drewN ?_ _ | refine blk_drew ?_ | refine blk_alloc ?_ _)); exact BK259.out) NB259_245.out (by simp)); have n4_ := Aside0.mk (hb); have n5_ := Aside0.mk (hi); clear HO_250002; clear BK244; clear BK249; clear BK259; clear HB; clear HI245; have HO_250002 := n0_; have BK244 := n1_; have BK249 := n2_; have BK259 := n3_; have HB := n4_; have HI245 := n5_; clear n0_ n1_ n2_ n3_ n4_ n5_; (try clear hb); (try clear hb2); (try clear hk); (try clear hi); have hcz36_0 : w35.cell? ⟨gb259, 0, none⟩ = some (.string t260) := (blk_cell BK259.out 0).trans rfl; have hcz36_1 : w35.cell? ⟨gb259, 1, none⟩ = some (.int .i64 t263) := (blk_cell BK259.out 1).trans rfl; have hcz36_2 : w35.cell? ⟨gb259, 2, none⟩ = some (.int .i64 0) := (blk_cell BK259.out 2).trans rfl; have hcz36_3 : w35.cell? ⟨gb259, 3, none⟩ = some (.int .i64 0) := (blk_cell BK259.out 3).trans rfl; have hcz36_4 : w35.cell? ⟨gb259, 4, none⟩ = some (.int .i64 0) := (blk_cell BK259.out 4).trans rfl; have hfz36_0 := blk_frozen BK259.out 0; have hfz36_1 := blk_frozen BK259.out 1; have hfz36_2 := blk_frozen BK259.out 2; have hfz36_3 := blk_frozen BK259.out 3; have hfz36_4 := blk_frozen BK259.out 4) | ((with_reducible refine gate_callee (f := 76) rfl ?_); refine goesL_ (some 44) rfl rfl Try.func76 (by kernel_rfl) rfl #[.pointer (some ⟨gb245, 0, none⟩)] rfl ar_ ?_; (with_reducible refine (impl_scanner_num.calls kj16 gb245 t267 t268 t269 t270 t271 w _ ?side1 ?side2 A24.out).mono ?_); (case side1 => repeat (first | (with_reducible first | exact HI245.out | apply IsS102.alloc | apply IsS102.drewN | apply IsS102.drew | apply IsS102.set_0 | apply IsS102.set_1 | refine IsS102.far ?_ NB245_244.out _ | refine IsS102.far ?_ NB245_249.out _ | refine IsS102.far ?_ NB245_259.out _) | exact HI245.out)); (case side2 => repeat (first | (with_reducible first | exact HB.out | apply below_alloc | apply pw_below_drewN | apply below_drew1 | refine below_set ?_ (IsS102.ge HI245.out) | refine below_set ?_ GE244.out | refine below_set ?_ GE249.out | refine below_set ?_ GE259.out) | exact HB.out)); rintro e w37 ⟨rfl, hi, hb, hk⟩; refine ⟨_, rfl, ?_⟩; have n0_ := Aside0.mk (Kd.R_mono (Kd.R_keep (IsS102.apart (show IsS102 w _ gb245 t267 t268 from by repeat (first | (with_reducible first | exact HI245.out | apply IsS102.alloc | apply IsS102.drewN | apply IsS102.drew | apply IsS102.set_0 | apply IsS102.set_1 | refine IsS102.far ?_ NB245_244.out _ | refine IsS102.far ?_ NB245_249.out _ | refine IsS102.far ?_ NB245_259.out _) | exact HI245.out)) (by (with_reducible repeat (first | apply Kd.R_alloc | apply Kd.R_drewN | apply Kd.R_drew)); exact (Kd.R_mono (Kd.R_far (p := ⟨gb259, 2, none⟩) (Kd.R_mono HO_250002.out (fun k_ hk => (⟨hk, hk.2⟩ : _ ∧ k_ ≠ gb259))) (fun _ hk => hk.2) (.int .i64 t266)) (fun _ h_ => h_.1))) (by decide)) hk (fun _ h => h.2)) (fun _ h => h.1)); have n1_ := Aside0.mk (KeepBut.blk hk (g' := gb244) (o := .cells #[.int .i64 0, .int .i64 0, .slice none 0 0] 54 (0, 0)) (by (with_reducible repeat (first | refine blk_drewN ?_ _ | refine blk_drew ?_ | refine blk_alloc ?_ _)); refine blk_far ?_ NB244_259.out _; (with_reducible repeat (first | refine blk_drewN ?_ _ | refine blk_drew ?_ | refine blk_alloc ?_ _)); exact BK244.out) NB244_245.out (by simp)); have n2_ := Aside0.mk (KeepBut.blk hk (g' := gb249) (o := .cells #[.int .i64 t250, .int .i64 t253, u250002] 54 (0, 0)) (by (with_reducible repeat (first | refine blk_drewN ?_ _ | refine blk_drew ?_ | refine blk_alloc ?_ _)); refine blk_far ?_ NB249_259.out _; (with_reducible repeat (first | refine blk_drewN ?_ _ | refine blk_drew ?_ | refine blk_alloc ?_ _)); exact BK249.out) NB249_245.out (by simp)); have n3_ := Aside0.mk (KeepBut.blk hk (g' := gb259) (o := .cells #[.string t260, .int .i64 t263, .int .i64 t266, .int .i64 0, .int .i64 0] 113 (0, 0)) (by (with_reducible repeat (first | refine blk_drewN ?_ _ | refine blk_drew ?_ | refine blk_alloc ?_ _)); refine blk_put (cs := #[.string t260, .int .i64 t263, .int .i64 0, .int .i64 0, .int .i64 0]) ?_ 2 _ rfl; (with_reducible repeat (first | refine blk_drewN ?_ _ | refine blk_drew ?_ | refine blk_alloc ?_ _)); exact BK259.out) NB259_245.out (by simp)); have n4_ := Aside0.mk (hb); have n5_ := Aside0.mk (hi); clear HO_250002; clear BK244; clear BK249; clear BK259; clear HB; clear HI245; have HO_250002 := n0_; have BK244 := n1_; have BK249 := n2_; have BK259 := n3_; have HB := n4_; have HI245 := n5_; clear n0_ n1_ n2_ n3_ n4_ n5_; (try clear hb); (try clear hb2); (try clear hk); (try clear hi); have hcz38_0 : w37.cell? ⟨gb259, 0, none⟩ = some (.string t260) := (blk_cell BK259.out 0).trans rfl; have hcz38_1 : w37.cell? ⟨gb259, 1, none⟩ = some (.int .i64 t263) := (blk_cell BK259.out 1).trans rfl; have hcz38_2 : w37.cell? ⟨gb259, 2, none⟩ = some (.int .i64 t266) := (blk_cell BK259.out 2).trans rfl; have hcz38_3 : w37.cell? ⟨gb259, 3, none⟩ = some (.int .i64 0) := (blk_cell BK259.out 3).trans rfl; have hcz38_4 : w37.cell? ⟨gb259, 4, none⟩ = some (.int .i64 0) := (blk_cell BK259.out 4).trans rfl; have hfz38_0 := blk_frozen BK259.out 0; have hfz38_1 := blk_frozen BK259.out 1; have hfz38_2 := blk_frozen BK259.out 2; have hfz38_3 := blk_frozen BK259.out 3; have hfz38_4 := blk_frozen BK259.out 4) | ((with_reducible refine gate_callee (f := 76) rfl ?_); refine goesL_ (some 47) rfl rfl Try.func76 (by kernel_rfl) rfl #[.pointer (some ⟨gb245, 0, none⟩)] rfl ar_ ?_; (with_reducible refine (impl_scanner_num.calls kj16 gb245 t270 t271 t272 t273 t274 w _ ?side1 ?side2 A25.out).mono ?_); (case side1 => repeat (first | (with_reducible first | exact HI245.out | apply IsS102.alloc | apply IsS102.drewN | apply IsS102.drew | apply IsS102.set_0 | apply IsS102.set_1 | refine IsS102.far ?_ NB245_244.out _ | refine IsS102.far ?_ NB245_249.out _ | refine IsS102.far ?_ NB245_259.out _) | exact HI245.out)); (case side2 => repeat (first | (with_reducible first | exact HB.out | apply below_alloc | apply pw_below_drewN | apply below_drew1 | refine below_set ?_ (IsS102.ge HI245.out) | refine below_set ?_ GE244.out | refine below_set ?_ GE249.out | refine below_set ?_ GE259.out) | exact HB.out)); rintro e w39 ⟨rfl, hi, hb, hk⟩; refine ⟨_, rfl, ?_⟩; have n0_ := Aside0.mk (Kd.R_mono (Kd.R_keep (IsS102.apart (show IsS102 w _ gb245 t270 t271 from by repeat (first | (with_reducible first | exact HI245.out | apply IsS102.alloc | apply IsS102.drewN | apply IsS102.drew | apply IsS102.set_0 | apply IsS102.set_1 | refine IsS102.far ?_ NB245_244.out _ | refine IsS102.far ?_ NB245_249.out _ | refine IsS102.far ?_ NB245_259.out _) | exact HI245.out)) (by (with_reducible repeat (first | apply Kd.R_alloc | apply Kd.R_drewN | apply Kd.R_drew)); exact (Kd.R_mono (Kd.R_far (p := ⟨gb259, 3, none⟩) (Kd.R_mono HO_250002.out (fun k_ hk => (⟨hk, hk.2⟩ : _ ∧ k_ ≠ gb259))) (fun _ hk => hk.2) (.int .i64 t269)) (fun _ h_ => h_.1))) (by decide)) hk (fun _ h => h.2)) (fun _ h => h.1)); have n1_ := Aside0.mk (KeepBut.blk hk (g' := gb244) (o := .cells #[.int .i64 0, .int .i64 0, .slice none 0 0] 54 (0, 0)) (by (with_reducible repeat (first | refine blk_drewN ?_ _ | refine blk_drew ?_ | refine blk_alloc ?_ _)); refine blk_far ?_ NB244_259.out _; (with_reducible repeat (first | refine blk_drewN ?_ _ | refine blk_drew ?_ | refine blk_alloc ?_ _)); exact BK244.out) NB244_245.out (by simp)); have n2_ := Aside0.mk (KeepBut.blk hk (g' := gb249) (o := .cells #[.int .i64 t250, .int .i64 t253, u250002] 54 (0, 0)) (by (with_reducible repeat (first | refine blk_drewN ?_ _ | refine blk_drew ?_ | refine blk_alloc ?_ _)); refine blk_far ?_ NB249_259.out _; (with_reducible repeat (first | refine blk_drewN ?_ _ | refine blk_drew ?_ | refine blk_alloc ?_ _)); exact BK249.out) NB249_245.out (by simp)); have n3_ := Aside0.mk (KeepBut.blk hk (g' := gb259) (o := .cells #[.string t260, .int .i64 t263, .int .i64 t266, .int .i64 t269, .int .i64 0] 113 (0, 0)) (by (with_reducible repeat (first | refine blk_drewN ?_ _ | refine blk_drew ?_ | refine blk_alloc ?_ _)); refine blk_put (cs := #[.string t260, .int .i64 t263, .int .i64 t266, .int .i64 0, .int .i64 0]) ?_ 3 _ rfl; (with_reducible repeat (first | refine blk_drewN ?_ _ | refine blk_drew ?_ | refine blk_alloc ?_ _)); exact BK259.out) NB259_245.out (by simp)); have n4_ := Aside0.mk (hb); have n5_ := Aside0.mk (hi); clear HO_250002; clear BK244; clear BK249; clear BK259; clear HB; clear HI245; have HO_250002 := n0_; have BK244 := n1_; have BK249 := n2_; have BK259 := n3_; have HB := n4_; have HI245 := n5_; clear n0_ n1_ n2_ n3_ n4_ n5_; (try clear hb); (try clear hb2); (try clear hk); (try clear hi); have hcz40_0 : w39.cell? ⟨gb259, 0, none⟩ = some (.string t260) := (blk_cell BK259.out 0).trans rfl; have hcz40_1 : w39.cell? ⟨gb259, 1, none⟩ = some (.int .i64 t263) := (blk_cell BK259.out 1).trans rfl; have hcz40_2 : w39.cell? ⟨gb259, 2, none⟩ = some (.int .i64 t266) := (blk_cell BK259.out 2).trans rfl; have hcz40_3 : w39.cell? ⟨gb259, 3, none⟩ = some (.int .i64 t269) := (blk_cell BK259.out 3).trans rfl; have hcz40_4 : w39.cell? ⟨gb259, 4, none⟩ = some (.int .i64 0) := (blk_cell BK259.out 4).trans rfl; have hfz40_0 := blk_frozen BK259.out 0; have hfz40_1 := blk_frozen BK259.out 1; have hfz40_2 := blk_frozen BK259.out 2; have hfz40_3 := blk_frozen BK259.out 3; have hfz40_4 := blk_frozen BK259.out 4; have hnb41 := NB249_244.out; have hnc41 := NB244_249.out; have hnb42 := NB249_245.out; have hnc42 := NB245_249.out; have hcz43_0 : w39.cell? ⟨gb249, 0, none⟩ = some (.int .i64 t250) := (blk_cell BK249.out 0).trans rfl; have hcz43_1 : w39.cell? ⟨gb249, 1, none⟩ = some (.int .i64 t253) := (blk_cell BK249.out 1).trans rfl; have hcz43_2 : w39.cell? ⟨gb249, 2, none⟩ = some (u250002) := (blk_cell BK249.out 2).trans rfl; have hfz43_0 := blk_frozen BK249.out 0; have hfz43_1 := blk_frozen BK249.out 1; have hfz43_2 := blk_frozen BK249.out 2) | (at_builtin; (with_reducible refine gate_builtin (b := .append) (xs := #[.tmp 50, .tmp 52]) rfl ?_); refine Kd.R_append k113 (w0 := w) w.heap.size rfl (.tmp 50) (.tmp 52) 52 113 (.agg #[(.string ⟨#[]⟩), (.int .i64 0), (.int .i64 0), (.int .i64 0), (.int .i64 0)]) 48 rfl Try.underlying52 info113 rfl (by decide) (by omega) u250002 x250002_1 (⟨t260, t263, t266, t269, t272⟩ : S113) [.string t260, .int .i64 t263, .int .i64 t266, .int .i64 t269, .int .i64 t272] (fun k_ => k_ ≠ gb259) (fun _ => False) rfl (by first | (go_simp; done) | (go_simp; rfl)) ?aP (fun _ hk => hk.elim) ?aF ?aO ?aB ?aS ?aL ?_; (case aP => exact k113_mkM _ _ _ (⟨t260, t263, t266, t269, t272⟩ : S113)); (case aB => exact (by repeat (first | (with_reducible first | exact HB.out | apply below_alloc | apply pw_below_drewN | apply below_drew1 | refine below_set ?_ (IsS102.ge HI245.out) | refine below_set ?_ GE244.out | refine below_set ?_ GE249.out | refine below_set ?_ GE259.out) | exact HB.out))); (case aF => exact (fun k_ hk => Kd.freshB (g := gb259) (o := .cells #[.string t260, .int .i64 t263, .int .i64 t266, .int .i64 t269, .int .i64 t272] 113 (0, 0)) (by (with_reducible repeat (first | refine blk_drewN ?_ _ | refine blk_drew ?_ | refine blk_alloc ?_ _)); refine blk_put (cs := #[.string t260, .int .i64 t263, .int .i64 t266, .int .i64 t269, .int .i64 0]) ?_ 4 _ rfl; (with_reducible repeat (first | refine blk_drewN ?_ _ | refine blk_drew ?_ | refine blk_alloc ?_ _)); exact BK259.out) k_ hk)); (case aO => exact (by (with_reducible repeat (first | apply Kd.R_alloc | apply Kd.R_drewN | apply Kd.R_drew)); exact Kd.R_mono (Kd.R_far (p := ⟨gb259, 4, none⟩) (Kd.R_mono HO_250002.out (fun k_ hk => (⟨hk, hk.2⟩ : _ ∧ k_ ≠ gb259))) (fun _ hk => hk.2) (.int .i64 t272)) (fun _ hk => hk.1.2))); (case aS => exact (below_size (by repeat (first | (with_reducible first | exact HB.out | apply below_alloc | apply pw_below_drewN | apply below_drew1 | refine below_set ?_ (IsS102.ge HI245.out) | refine below_set ?_ GE244.out | refine below_set ?_ GE249.out | refine below_set ?_ GE259.out) | exact HB.out)))); (case aL => have := LMc26.out; omega); intro v276 w44 ho hb hg hat; rw [← Ny275.out] at ho; have n0_ := Aside0.mk (blk_grown (g := gb244) (o := .cells #[.int .i64 0, .int .i64 0, .slice none 0 0] 54 (0, 0)) (by (with_reducible repeat (first | refine blk_drewN ?_ _ | refine blk_drew ?_ | refine blk_alloc ?_ _)); refine blk_far ?_ NB244_259.out _; (with_reducible repeat (first | refine blk_drewN ?_ _ | refine blk_drew ?_ | refine blk_alloc ?_ _)); exact BK244.out) hg (Kd.R_ne HO_250002.out BK244.out (by decide))); have n1_ := Aside0.mk (blk_grown (g := gb249) (o := .cells #[.int .i64 t250, .int .i64 t253, u250002] 54 (0, 0)) (by (with_reducible repeat (first | refine blk_drewN ?_ _ | refine blk_drew ?_ | refine blk_alloc ?_ _)); refine blk_far ?_ NB249_259.out _; (with_reducible repeat (first | refine blk_drewN ?_ _ | refine blk_drew ?_ | refine blk_alloc ?_ _)); exact BK249.out) hg (Kd.R_ne HO_250002.out BK249.out (by decide))); have n2_ := Aside0.mk (IsS102.grown (IsS102.far HI245.out NB245_259.out _) hg (IsS102.own_ne HI245.out HO_250002.out (by decide))); have n3_ := Aside0.mk (blk_grown (g := gb259) (o := .cells #[.string t260, .int .i64 t263, .int .i64 t266, .int .i64 t269, .int .i64 t272] 113 (0, 0)) (by (with_reducible repeat (first | refine blk_drewN ?_ _ | refine blk_drew ?_ | refine blk_alloc ?_ _)); refine blk_put (cs := #[.string t260, .int .i64 t263, .int .i64 t266, .int .i64 t269, .int .i64 0]) ?_ 4 _ rfl; (with_reducible repeat (first | refine blk_drewN ?_ _ | refine blk_drew ?_ | refine blk_alloc ?_ _)); exact BK259.out) hg (Kd.R_away HO_250002.out (fun _ hk => hk.2))); have n4_ := Aside0.mk (hb); have n5_ := Aside0.mk (ho); clear BK244; clear BK249; clear HI245; clear BK259; clear HB; clear HO_250002; have BK244 := n0_; have BK249 := n1_; have HI245 := n2_; have BK259 := n3_; have HB := n4_; have HO277 := n5_; clear n0_ n1_ n2_ n3_ n4_ n5_; clear ho hb hg hat; obtain ⟨Ao45, co45, eo45⟩ := Kd.R_slice HO277.out; subst eo45; have hcz46_0 : w44.cell? ⟨gb249, 0, none⟩ = some (.int .i64 t250) := (blk_cell BK249.out 0).trans rfl; have hcz46_1 : w44.cell? ⟨gb249, 1, none⟩ = some (.int .i64 t253) := (blk_cell BK249.out 1).trans rfl; have hcz46_2 : w44.cell? ⟨gb249, 2, none⟩ = some (u250002) := (blk_cell BK249.out 2).trans rfl; have hfz46_0 := blk_frozen BK249.out 0; have hfz46_1 := blk_frozen BK249.out 1; have hfz46_2 := blk_frozen BK249.out 2))
       go_roundg kj16
       case measure => have := HK1.out; have := HJ16.out; omega
       case rel => exact ⟨(wrap64 (x7_1 + 1)), (t273), (t274), (y275), (.slice Ao45 y275.length co45), rs_, H', ⟨by have := HK1.out; have := HJ16.out; omega⟩, ⟨by (with_reducible repeat (first | apply Kd.R_alloc | apply Kd.R_drewN | apply Kd.R_drew)); exact Kd.R_mono (Kd.R_far (p := ⟨gb249, 2, none⟩) (Kd.R_types HO277.out BK249.out (by decide)) (fun _ hk => hk.2) (.slice Ao45 y275.length co45)) (fun _ hk => trivial)⟩, ⟨by (with_reducible repeat (first | refine blk_drewN ?_ _ | refine blk_drew ?_ | refine blk_alloc ?_ _)); refine blk_far ?_ NB244_249.out _; (with_reducible repeat (first | refine blk_drewN ?_ _ | refine blk_drew ?_ | refine blk_alloc ?_ _)); exact BK244.out⟩, ⟨by (with_reducible repeat (first | refine blk_drewN ?_ _ | refine blk_drew ?_ | refine blk_alloc ?_ _)); refine blk_put (cs := #[.int .i64 t250, .int .i64 t253, u250002]) ?_ 2 _ rfl; (with_reducible repeat (first | refine blk_drewN ?_ _ | refine blk_drew ?_ | refine blk_alloc ?_ _)); exact BK249.out⟩, ⟨by repeat (first | (with_reducible first | exact HI245.out | apply IsS102.alloc | apply IsS102.drewN | apply IsS102.drew | apply IsS102.set_0 | apply IsS102.set_1 | refine IsS102.far ?_ NB245_244.out _ | refine IsS102.far ?_ NB245_249.out _ | refine IsS102.far ?_ NB245_259.out _) | exact HI245.out)⟩, ⟨by repeat (first | (with_reducible first | exact HB.out | apply below_alloc | apply pw_below_drewN | apply below_drew1 | refine below_set ?_ (IsS102.ge HI245.out) | refine below_set ?_ GE244.out | refine below_set ?_ GE249.out | refine below_set ?_ GE259.out) | exact HB.out)⟩⟩
      ·rw [if_neg c26] at H
       exact absurd H (by simp)
     ·replace c20 := Bool.eq_false_iff.mpr c20
      subst c20
      have H1 : (if x246001_1 = true then (impl_ReadHint.j2 kj16 true t250 t253 x250002_1) else ((impl_hintOk.f kj16 t250 t253 x250002_1).bind fun t278 => (if t278 = true then ((impl_ShowHint.f kj16 t250 t253 x250002_1).bind fun t279 => (impl_ReadHint.j2 kj16 (t279.toList != a0.toList) t250 t253 x250002_1)) else (impl_ReadHint.j2 kj16 true t250 t253 x250002_1)))) = some (r1, r2, r3, r4) := by rw [if_neg (show ¬ (false = true) by decide)] at H; exact H
      clear H
      have H := H1
      clear H1
      have HC47 := Aside0.mk H
      clear H
      go_upto_region 17 with (fail)
      go_cut [69] (fun v69 wc => ∃ (kq : Nat) (x69_46 : Bool), v69 = .bool x69_46 ∧ Aside0 (impl_ReadHint.j2 kq x69_46 t250 t253 x250002_1 = some (r1, r2, r3, r4)) ∧ Aside0 (kq ≤ kj16) ∧ Aside0 (Kd.R k113 113 wc w.heap.size (fun _ => True) u250002 x250002_1) ∧ Aside0 (wc.heap[gb244]? = some (.cells #[.int .i64 0, .int .i64 0, (.slice none 0 0)] 54 (0, 0))) ∧ Aside0 (wc.heap[gb249]? = some (.cells #[.int .i64 t250, .int .i64 t253, u250002] 54 (0, 0))) ∧ Aside0 (Below w.heap.size w wc))
      case first =>
       have H := HC47.out
       clear HC47
       by_cases c48 : x246001_1 = true
       ·subst c48
        have H1 : (impl_ReadHint.j2 kj16 true t250 t253 x250002_1) = some (r1, r2, r3, r4) := by rw [if_pos rfl] at H; exact H
        clear H
        have H := H1
        clear H1
        have H' := Aside0.mk H
        clear H
        obtain ⟨HGz49, hgz49⟩ := HI245.out
        have hcz49_0 := cellS102_0 HGz49
        have hcz49_1 := cellS102_1 HGz49
        have hfz49_0 := blk_frozen HGz49 0
        have hfz49_1 := blk_frozen HGz49 1
        clear HGz49 hgz49
        go_wp2
        go_meet
        case rel => exact ⟨_, (true), rs_, H', ⟨by have := HK1.out; have := HJ16.out; first | exact Nat.le_refl _ | exact Nat.le_of_succ_le this | omega⟩, ⟨rr_ HO_250002⟩, ⟨bk_ BK244⟩, ⟨bk_ BK249⟩, ⟨by repeat (first | (with_reducible first | exact HB.out | apply below_alloc | apply pw_below_drewN | apply below_drew1 | refine below_set ?_ (IsS102.ge HI245.out) | refine below_set ?_ GE244.out | refine below_set ?_ GE249.out) | exact HB.out)⟩⟩
       ·replace c48 := Bool.eq_false_iff.mpr c48
        subst c48
        have H1 : ((impl_hintOk.f kj16 t250 t253 x250002_1).bind fun t278 => (if t278 = true then ((impl_ShowHint.f kj16 t250 t253 x250002_1).bind fun t279 => (impl_ReadHint.j2 kj16 (t279.toList != a0.toList) t250 t253 x250002_1)) else (impl_ReadHint.j2 kj16 true t250 t253 x250002_1))) = some (r1, r2, r3, r4) := by rw [if_neg (show ¬ (false = true) by decide)] at H; exact H
        clear H
        have H := H1
        clear H1
        replace H := Option.bind_eq_some_iff.mp H
        obtain ⟨t278, A500, H⟩ := H
        replace H : (if t278 = true then ((impl_ShowHint.f kj16 t250 t253 x250002_1).bind fun t279 => (impl_ReadHint.j2 kj16 (t279.toList != a0.toList) t250 t253 x250002_1)) else (impl_ReadHint.j2 kj16 true t250 t253 x250002_1)) = some (r1, r2, r3, r4) := H
        have A50 := Aside0.mk A500
        clear A500
        by_cases c51 : t278 = true
        ·subst c51
         have H1 : ((impl_ShowHint.f kj16 t250 t253 x250002_1).bind fun t279 => (impl_ReadHint.j2 kj16 (t279.toList != a0.toList) t250 t253 x250002_1)) = some (r1, r2, r3, r4) := by rw [if_pos rfl] at H; exact H
         clear H
         have H := H1
         clear H1
         replace H := Option.bind_eq_some_iff.mp H
         obtain ⟨t279, A520, H⟩ := H
         replace H : (impl_ReadHint.j2 kj16 (t279.toList != a0.toList) t250 t253 x250002_1) = some (r1, r2, r3, r4) := H
         have A52 := Aside0.mk A520
         clear A520
         have H' := Aside0.mk H
         clear H
         obtain ⟨HGz53, hgz53⟩ := HI245.out
         have hcz53_0 := cellS102_0 HGz53
         have hcz53_1 := cellS102_1 HGz53
         have hfz53_0 := blk_frozen HGz53 0
         have hfz53_1 := blk_frozen HGz53 1
         clear HGz53 hgz53
         have hnb54 := NB249_244.out
         have hnc54 := NB244_249.out
         have hnb55 := NB249_245.out
         have hnc55 := NB245_249.out
         have hcz56_0 : wc.cell? ⟨gb249, 0, none⟩ = some (.int .i64 t250) := (blk_cell BK249.out 0).trans rfl
         have hcz56_1 : wc.cell? ⟨gb249, 1, none⟩ = some (.int .i64 t253) := (blk_cell BK249.out 1).trans rfl
         have hcz56_2 : wc.cell? ⟨gb249, 2, none⟩ = some (u250002) := (blk_cell BK249.out 2).trans rfl
         have hfz56_0 := blk_frozen BK249.out 0
         have hfz56_1 := blk_frozen BK249.out 1
         have hfz56_2 := blk_frozen BK249.out 2
         obtain ⟨Ao57, co57, eo57⟩ := Kd.R_slice HO_250002.out
         subst eo57
         go_wp2_with (first | (go_at_call 89; (with_reducible refine (impl_hintOk.calls kj16 t250 t253 _ _ x250002_1 true _ ?side1 ?side2 A50.out).mono ?_); (case side1 => repeat (first | exact (Kd.R_reads' HO_250002.out).2.2 | (with_reducible refine Kd.C_alloc ?_ _) | (with_reducible refine Kd.C_drewN ?_ _) | (with_reducible refine Kd.C_drew ?_))); (case side2 => exact (Kd.R_reads' HO_250002.out).2.1); rintro e w58 ⟨rfl, hb⟩; have n0_ := Aside0.mk (Kd.R_below (rr_ HO_250002) hb); have n1_ := Aside0.mk (blk_below (g := gb244) (o := .cells #[.int .i64 0, .int .i64 0, .slice none 0 0] 54 (0, 0)) (bk_ BK244) hb); have n2_ := Aside0.mk (blk_below (g := gb249) (o := .cells #[.int .i64 t250, .int .i64 t253, .slice Ao57 x250002_1.length co57] 54 (0, 0)) (bk_ BK249) hb); have n3_ := Aside0.mk (IsS102.below (by repeat (first | (with_reducible first | exact HI245.out | apply IsS102.alloc | apply IsS102.drewN | apply IsS102.drew | apply IsS102.set_0 | apply IsS102.set_1 | refine IsS102.far ?_ NB245_244.out _ | refine IsS102.far ?_ NB245_249.out _) | exact HI245.out)) hb); have n4_ := Aside0.mk (below_step (by repeat (first | (with_reducible first | exact HB.out | apply below_alloc | apply pw_below_drewN | apply below_drew1 | refine below_set ?_ (IsS102.ge HI245.out) | refine below_set ?_ GE244.out | refine below_set ?_ GE249.out) | exact HB.out)) hb); clear HO_250002; clear BK244; clear BK249; clear HI245; clear HB; have HO_250002 := n0_; have BK244 := n1_; have BK249 := n2_; have HI245 := n3_; have HB := n4_; clear n0_ n1_ n2_ n3_ n4_; (try clear hb); (try clear hb2); (try clear hk); (try clear hi); have hcz59_0 : w58.cell? ⟨gb249, 0, none⟩ = some (.int .i64 t250) := (blk_cell BK249.out 0).trans rfl; have hcz59_1 : w58.cell? ⟨gb249, 1, none⟩ = some (.int .i64 t253) := (blk_cell BK249.out 1).trans rfl; have hcz59_2 : w58.cell? ⟨gb249, 2, none⟩ = some (.slice Ao57 x250002_1.length co57) := (blk_cell BK249.out 2).trans rfl; have hfz59_0 := blk_frozen BK249.out 0; have hfz59_1 := blk_frozen BK249.out 1; have hfz59_2 := blk_frozen BK249.out 2) | (go_at_call 31; (with_reducible refine (impl_ShowHint.calls kj16 t250 t253 _ _ x250002_1 t279 _ ?side1 ?side2 A52.out).mono ?_); (case side1 => repeat (first | exact (Kd.R_reads' HO_250002.out).2.2 | (with_reducible refine Kd.C_alloc ?_ _) | (with_reducible refine Kd.C_drewN ?_ _) | (with_reducible refine Kd.C_drew ?_))); (case side2 => exact (Kd.R_reads' HO_250002.out).2.1); rintro e w60 ⟨rfl, hb⟩; have n0_ := Aside0.mk (Kd.R_below (rr_ HO_250002) hb); have n1_ := Aside0.mk (blk_below (g := gb244) (o := .cells #[.int .i64 0, .int .i64 0, .slice none 0 0] 54 (0, 0)) (bk_ BK244) hb); have n2_ := Aside0.mk (blk_below (g := gb249) (o := .cells #[.int .i64 t250, .int .i64 t253, .slice Ao57 x250002_1.length co57] 54 (0, 0)) (bk_ BK249) hb); have n3_ := Aside0.mk (IsS102.below (by repeat (first | (with_reducible first | exact HI245.out | apply IsS102.alloc | apply IsS102.drewN | apply IsS102.drew | apply IsS102.set_0 | apply IsS102.set_1 | refine IsS102.far ?_ NB245_244.out _ | refine IsS102.far ?_ NB245_249.out _) | exact HI245.out)) hb); have n4_ := Aside0.mk (below_step (by repeat (first | (with_reducible first | exact HB.out | apply below_alloc | apply pw_below_drewN | apply below_drew1 | refine below_set ?_ (IsS102.ge HI245.out) | refine below_set ?_ GE244.out | refine below_set ?_ GE249.out) | exact HB.out)) hb); clear HO_250002; clear BK244; clear BK249; clear HI245; clear HB; have HO_250002 := n0_; have BK244 := n1_; have BK249 := n2_; have HI245 := n3_; have HB := n4_; clear n0_ n1_ n2_ n3_ n4_; (try clear hb); (try clear hb2); (try clear hk); (try clear hi)))
         go_meet
         case rel => exact ⟨_, ((t279.toList != a0.toList)), rs_, H', ⟨by have := HK1.out; have := HJ16.out; first | exact Nat.le_refl _ | exact Nat.le_of_succ_le this | omega⟩, ⟨rr_ HO_250002⟩, ⟨bk_ BK244⟩, ⟨bk_ BK249⟩, ⟨by repeat (first | (with_reducible first | exact HB.out | apply below_alloc | apply pw_below_drewN | apply below_drew1 | refine below_set ?_ (IsS102.ge HI245.out) | refine below_set ?_ GE244.out | refine below_set ?_ GE249.out) | exact HB.out)⟩⟩
        ·replace c51 := Bool.eq_false_iff.mpr c51
         subst c51
         have H1 : (impl_ReadHint.j2 kj16 true t250 t253 x250002_1) = some (r1, r2, r3, r4) := by rw [if_neg (show ¬ (false = true) by decide)] at H; exact H
         clear H
         have H := H1
         clear H1
         have H' := Aside0.mk H
         clear H
         obtain ⟨HGz61, hgz61⟩ := HI245.out
         have hcz61_0 := cellS102_0 HGz61
         have hcz61_1 := cellS102_1 HGz61
         have hfz61_0 := blk_frozen HGz61 0
         have hfz61_1 := blk_frozen HGz61 1
         clear HGz61 hgz61
         have hnb62 := NB249_244.out
         have hnc62 := NB244_249.out
         have hnb63 := NB249_245.out
         have hnc63 := NB245_249.out
         have hcz64_0 : wc.cell? ⟨gb249, 0, none⟩ = some (.int .i64 t250) := (blk_cell BK249.out 0).trans rfl
         have hcz64_1 : wc.cell? ⟨gb249, 1, none⟩ = some (.int .i64 t253) := (blk_cell BK249.out 1).trans rfl
         have hcz64_2 : wc.cell? ⟨gb249, 2, none⟩ = some (u250002) := (blk_cell BK249.out 2).trans rfl
         have hfz64_0 := blk_frozen BK249.out 0
         have hfz64_1 := blk_frozen BK249.out 1
         have hfz64_2 := blk_frozen BK249.out 2
         obtain ⟨Ao65, co65, eo65⟩ := Kd.R_slice HO_250002.out
         subst eo65
         go_wp2_with (first | (go_at_call 89; (with_reducible refine (impl_hintOk.calls kj16 t250 t253 _ _ x250002_1 false _ ?side1 ?side2 A50.out).mono ?_); (case side1 => repeat (first | exact (Kd.R_reads' HO_250002.out).2.2 | (with_reducible refine Kd.C_alloc ?_ _) | (with_reducible refine Kd.C_drewN ?_ _) | (with_reducible refine Kd.C_drew ?_))); (case side2 => exact (Kd.R_reads' HO_250002.out).2.1); rintro e w66 ⟨rfl, hb⟩; have n0_ := Aside0.mk (Kd.R_below (rr_ HO_250002) hb); have n1_ := Aside0.mk (blk_below (g := gb244) (o := .cells #[.int .i64 0, .int .i64 0, .slice none 0 0] 54 (0, 0)) (bk_ BK244) hb); have n2_ := Aside0.mk (blk_below (g := gb249) (o := .cells #[.int .i64 t250, .int .i64 t253, .slice Ao65 x250002_1.length co65] 54 (0, 0)) (bk_ BK249) hb); have n3_ := Aside0.mk (IsS102.below (by repeat (first | (with_reducible first | exact HI245.out | apply IsS102.alloc | apply IsS102.drewN | apply IsS102.drew | apply IsS102.set_0 | apply IsS102.set_1 | refine IsS102.far ?_ NB245_244.out _ | refine IsS102.far ?_ NB245_249.out _) | exact HI245.out)) hb); have n4_ := Aside0.mk (below_step (by repeat (first | (with_reducible first | exact HB.out | apply below_alloc | apply pw_below_drewN | apply below_drew1 | refine below_set ?_ (IsS102.ge HI245.out) | refine below_set ?_ GE244.out | refine below_set ?_ GE249.out) | exact HB.out)) hb); clear HO_250002; clear BK244; clear BK249; clear HI245; clear HB; have HO_250002 := n0_; have BK244 := n1_; have BK249 := n2_; have HI245 := n3_; have HB := n4_; clear n0_ n1_ n2_ n3_ n4_; (try clear hb); (try clear hb2); (try clear hk); (try clear hi)))
         go_meet
         case rel => exact ⟨_, (true), rs_, H', ⟨by have := HK1.out; have := HJ16.out; first | exact Nat.le_refl _ | exact Nat.le_of_succ_le this | omega⟩, ⟨rr_ HO_250002⟩, ⟨bk_ BK244⟩, ⟨bk_ BK249⟩, ⟨by repeat (first | (with_reducible first | exact HB.out | apply below_alloc | apply pw_below_drewN | apply below_drew1 | refine below_set ?_ (IsS102.ge HI245.out) | refine below_set ?_ GE244.out | refine below_set ?_ GE249.out) | exact HB.out)⟩⟩
      case rest =>
       clear HC47
       try clear c1
       try clear c2
       try clear p2
       try clear c3
       try clear c4
       try clear c5
       try clear c6
       try clear p6
       try clear c7
       try clear c11
       try clear c12
       try clear c18
       try clear c18b0
       try clear c20
       try clear c26
       try clear c29
       try clear c30
       try clear c31
       try clear c41
       try clear c42
       try clear c48
       try clear c51
       try clear c54
       try clear c55
       try clear c59
       try clear c62
       try clear c63
       try clear p64
       try clear hcz13_0
       try clear hcz13_1
       try clear hcz13_2
       try clear hcz15_0
       try clear hcz15_1
       try clear hcz15_2
       try clear hcz19_0
       try clear hcz19_1
       try clear hcz32_0
       try clear hcz32_1
       try clear hcz32_2
       try clear hcz32_3
       try clear hcz32_4
       try clear hcz34_0
       try clear hcz34_1
       try clear hcz34_2
       try clear hcz34_3
       try clear hcz34_4
       try clear hcz36_0
       try clear hcz36_1
       try clear hcz36_2
       try clear hcz36_3
       try clear hcz36_4
       try clear hcz38_0
       try clear hcz38_1
       try clear hcz38_2
       try clear hcz38_3
       try clear hcz38_4
       try clear hcz40_0
       try clear hcz40_1
       try clear hcz40_2
       try clear hcz40_3
       try clear hcz40_4
       try clear hcz43_0
       try clear hcz43_1
       try clear hcz43_2
       try clear hcz46_0
       try clear hcz46_1
       try clear hcz46_2
       try clear hcz49_0
       try clear hcz49_1
       try clear hcz53_0
       try clear hcz53_1
       try clear hcz56_0
       try clear hcz56_1
       try clear hcz56_2
       try clear hcz59_0
       try clear hcz59_1
       try clear hcz59_2
       try clear hcz61_0
       try clear hcz61_1
       try clear hcz64_0
       try clear hcz64_1
       try clear hcz64_2
       try clear hfz13_0
       try clear hfz13_1
       try clear hfz13_2
       try clear hfz15_0
       try clear hfz15_1
       try clear hfz15_2
       try clear hfz19_0
       try clear hfz19_1
       try clear hfz32_0
       try clear hfz32_1
       try clear hfz32_2
       try clear hfz32_3
       try clear hfz32_4
       try clear hfz34_0
       try clear hfz34_1
       try clear hfz34_2
       try clear hfz34_3
       try clear hfz34_4
       try clear hfz36_0
       try clear hfz36_1
       try clear hfz36_2
       try clear hfz36_3
       try clear hfz36_4
       try clear hfz38_0
       try clear hfz38_1
       try clear hfz38_2
       try clear hfz38_3
       try clear hfz38_4
       try clear hfz40_0
       try clear hfz40_1
       try clear hfz40_2
       try clear hfz40_3
       try clear hfz40_4
       try clear hfz43_0
       try clear hfz43_1
       try clear hfz43_2
       try clear hfz46_0
       try clear hfz46_1
       try clear hfz46_2
       try clear hfz49_0
       try clear hfz49_1
       try clear hfz53_0
       try clear hfz53_1
       try clear hfz56_0
       try clear hfz56_1
       try clear hfz56_2
       try clear hfz59_0
       try clear hfz59_1
       try clear hfz59_2
       try clear hfz61_0
       try clear hfz61_1
       try clear hfz64_0
       try clear hfz64_1
       try clear hfz64_2
       try clear p2
       obtain ⟨kq, x69_46, rfl, HA, HJ46, HO_250002, BK244, BK249, HB⟩ := hcut
       cases kq with
       | zero => exact absurd HA.out (by simp [impl_ReadHint.j2])
       | succ kj46 =>
        have H := HA.out
        clear HA
        simp only [impl_ReadHint.j2] at H
        by_cases c67 : x69_46 = true
        ·subst c67
         have H1 : (some (0, 0, ([] : List (S113)), false)) = some (r1, r2, r3, r4) := by rw [if_pos rfl] at H; exact H
         clear H
         have H := H1
         clear H1
         simp only [Option.some.injEq, Prod.mk.injEq] at H
         obtain ⟨rfl, rfl, rfl, rfl⟩ := H
         have hnb68 := NB244_249.out
         have hnc68 := NB249_244.out
         have hcz69_0 : wc.cell? ⟨gb244, 0, none⟩ = some (.int .i64 0) := (blk_cell BK244.out 0).trans rfl
         have hcz69_1 : wc.cell? ⟨gb244, 1, none⟩ = some (.int .i64 0) := (blk_cell BK244.out 1).trans rfl
         have hcz69_2 : wc.cell? ⟨gb244, 2, none⟩ = some (.slice none 0 0) := (blk_cell BK244.out 2).trans rfl
         have hfz69_0 := blk_frozen BK244.out 0
         have hfz69_1 := blk_frozen BK244.out 1
         have hfz69_2 := blk_frozen BK244.out 2
         go_wp2
         refine bodyPost_ret (results_ct rfl _ _ gb244 54 #[.int .i64 0, .int .i64 0, .slice none 0 0] (0, 0) _ rfl (by (with_reducible repeat (first | refine blk_drewN ?_ _ | refine blk_drew ?_ | refine blk_alloc ?_ _)); refine blk_put (cs := #[.int .i64 0, .int .i64 0, .slice none 0 0]) ?_ 2 _ rfl; (with_reducible repeat (first | refine blk_drewN ?_ _ | refine blk_drew ?_ | refine blk_alloc ?_ _)); refine blk_put (cs := #[.int .i64 0, .int .i64 0, .slice none 0 0]) ?_ 1 _ rfl; (with_reducible repeat (first | refine blk_drewN ?_ _ | refine blk_drew ?_ | refine blk_alloc ?_ _)); refine blk_put (cs := #[.int .i64 0, .int .i64 0, .slice none 0 0]) ?_ 0 _ rfl; (with_reducible repeat (first | refine blk_drewN ?_ _ | refine blk_drew ?_ | refine blk_alloc ?_ _)); exact BK244.out) Try.underlying54 rfl (by kernel_rfl)) rfl ?_
         exact ⟨_, by first | rfl | (simp [errW_none, errW_some] <;> rfl) | (simp [*, errW_none, errW_some] <;> rfl), by first | exact Kd.R_nil _ _ _ _ _ | exact Kd.N_nil _ _ _ _ _ | exact Kd.V_nil _ _ _ _ _ | exact Kd.Q_nil _ _ _ _ _ | exact Kd.S_nil _ _ _ _ _, by repeat (first | (with_reducible first | exact HB.out | apply below_alloc | apply pw_below_drewN | apply below_drew1 | refine below_set ?_ GE244.out | refine below_set ?_ GE249.out) | exact HB.out)⟩
        ·replace c67 := Bool.eq_false_iff.mpr c67
         subst c67
         have H1 : (some (t250, t253, x250002_1, true)) = some (r1, r2, r3, r4) := by rw [if_neg (show ¬ (false = true) by decide)] at H; exact H
         clear H
         have H := H1
         clear H1
         simp only [Option.some.injEq, Prod.mk.injEq] at H
         obtain ⟨rfl, rfl, rfl, rfl⟩ := H
         have hnb70 := NB249_244.out
         have hnc70 := NB244_249.out
         have hcz71_0 : wc.cell? ⟨gb249, 0, none⟩ = some (.int .i64 t250) := (blk_cell BK249.out 0).trans rfl
         have hcz71_1 : wc.cell? ⟨gb249, 1, none⟩ = some (.int .i64 t253) := (blk_cell BK249.out 1).trans rfl
         have hcz71_2 : wc.cell? ⟨gb249, 2, none⟩ = some (u250002) := (blk_cell BK249.out 2).trans rfl
         have hfz71_0 := blk_frozen BK249.out 0
         have hfz71_1 := blk_frozen BK249.out 1
         have hfz71_2 := blk_frozen BK249.out 2
         have hcz72_0 : wc.cell? ⟨gb244, 0, none⟩ = some (.int .i64 0) := (blk_cell BK244.out 0).trans rfl
         have hcz72_1 : wc.cell? ⟨gb244, 1, none⟩ = some (.int .i64 0) := (blk_cell BK244.out 1).trans rfl
         have hcz72_2 : wc.cell? ⟨gb244, 2, none⟩ = some (.slice none 0 0) := (blk_cell BK244.out 2).trans rfl
         have hfz72_0 := blk_frozen BK244.out 0
         have hfz72_1 := blk_frozen BK244.out 1
         have hfz72_2 := blk_frozen BK244.out 2
         obtain ⟨Ao73, co73, eo73⟩ := Kd.R_slice HO_250002.out
         subst eo73
         go_wp2
         refine bodyPost_ret (results_ct rfl _ _ gb244 54 #[.int .i64 t250, .int .i64 t253, .slice Ao73 x250002_1.length co73] (0, 0) _ rfl (by (with_reducible repeat (first | refine blk_drewN ?_ _ | refine blk_drew ?_ | refine blk_alloc ?_ _)); refine blk_put (cs := #[.int .i64 t250, .int .i64 t253, .slice none 0 0]) ?_ 2 _ rfl; (with_reducible repeat (first | refine blk_drewN ?_ _ | refine blk_drew ?_ | refine blk_alloc ?_ _)); refine blk_put (cs := #[.int .i64 t250, .int .i64 0, .slice none 0 0]) ?_ 1 _ rfl; (with_reducible repeat (first | refine blk_drewN ?_ _ | refine blk_drew ?_ | refine blk_alloc ?_ _)); refine blk_put (cs := #[.int .i64 0, .int .i64 0, .slice none 0 0]) ?_ 0 _ rfl; (with_reducible repeat (first | refine blk_drewN ?_ _ | refine blk_drew ?_ | refine blk_alloc ?_ _)); exact BK244.out) Try.underlying54 rfl (by kernel_rfl)) rfl ?_
         exact ⟨_, by first | rfl | (simp [errW_none, errW_some] <;> rfl) | (simp [*, errW_none, errW_some] <;> rfl), by (with_reducible repeat (first | apply Kd.R_alloc | apply Kd.R_drewN | apply Kd.R_drew)); exact Kd.R_mono (Kd.R_far (p := ⟨gb244, 2, none⟩) (Kd.R_far (p := ⟨gb244, 1, none⟩) (Kd.R_far (p := ⟨gb244, 0, none⟩) (Kd.R_types HO_250002.out BK244.out (by decide)) (fun _ hk => hk.2) (.int .i64 t250)) (fun _ hk => hk.2) (.int .i64 t253)) (fun _ hk => hk.2) (.slice Ao73 x250002_1.length co73)) (fun _ hk => trivial), by repeat (first | (with_reducible first | exact HB.out | apply below_alloc | apply pw_below_drewN | apply below_drew1 | refine below_set ?_ GE244.out | refine below_set ?_ GE249.out) | exact HB.out)⟩

end Go.Proofs.Ytebeafcdabkkfaa.PFnExactReadHint
