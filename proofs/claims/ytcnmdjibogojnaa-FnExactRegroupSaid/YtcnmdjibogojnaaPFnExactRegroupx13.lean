-- Laid by a program of this session, a copy of the kit's printer with additions (wip/patch_print.py): myhead. Lean checks it.
import Derived.Test.YtcnmdjibogojnaaPFnExactRegroupx0
import Derived.Test.YtcnmdjibogojnaaPFnExactRegroupx1
import Derived.Test.YtcnmdjibogojnaaPFnExactRegroupx12
namespace Go.Proofs.Ytcnmdjibogojnaa.PFnExactRegroup
open Go.RowKit Go.Proofs.YtcnmdjibogojnaaW.PrintWords Go.Proofs.YtcnmdjibogojnaaW.PrintLast Go.Proofs.YtcnmdjibogojnaaW.PrintMore
attribute [local go_sem] max2_int min2_int max_two min_two max_three min_three max_four min_four   -- for this text's walks alone
set_option linter.unusedVariables false
set_option linter.unusedSimpArgs false

attribute [local go_sem high] eqA46
/-! ### impl_RecOk: function 52 -/
def impl_RecOk.j0 : Nat → Bool → Int → Int → Bool → Int → Int → ByteArray → ByteArray → Int → Int → Int → Int → ByteArray → ByteArray → Int → Int → Option (Bool)
 | 0, _, _, _, _, _, _, _, _, _, _, _, _, _, _, _, _ => none
 | k + 1, x4, x5, x12, x13, x307000, x307001, x307002, x307003, x307004, x307005, x308000, x308001, x308002, x308003, x308004, x308005 => if x13 = true then ((impl_KeyOk.f x307002).bind fun t308 => (if t308 = true then (if (x307003.size : Int) ≤ 24 then ((impl_in.f x307001 x5 1000000).bind fun t309 => (if t309 = true then (some (x307000 == x308000 && (x307001 == x308001 && (x307004 == x308004 && (x307005 == x308005))))) else (some false))) else (some false)) else (some false))) else (if x12 = 2 then ((impl_KeyOk.f x307002).bind fun t310 => (if t310 = true then ((impl_in.f x307001 x5 1000000).bind fun t311 => (if t311 = true then (some (x307000 == x308000 && (x307001 == x308001 && (x307003.toList == x308003.toList && (x307004 == x308004 && (x307005 == x308005)))))) else (some false))) else (some false))) else (if x12 = 3 then ((impl_in.f x307004 0 8).bind fun t312 => (if t312 = true then ((impl_in.f x307005 0 4294967295).bind fun t313 => (if t313 = true then ((impl_in.f x307001 x5 1000000).bind fun t314 => (if t314 = true then (some (x307000 == x308000 && (x307001 == x308001 && (x307002.toList == x308002.toList && (x307003.toList == x308003.toList))))) else (some false))) else (some false))) else (some false))) else (if x12 = 5 then ((impl_in.f x307004 0 20).bind fun t315 => (if t315 = true then ((impl_in.f x307005 0 4294967295).bind fun t316 => (if t316 = true then ((impl_in.f x307001 0 1000000).bind fun t317 => (if t317 = true then (some (x307000 == x308000 && (x307001 == x308001 && (x307002.toList == x308002.toList && (x307003.toList == x308003.toList))))) else (some false))) else (some false))) else (some false))) else (if x4 = true then ((impl_in.f x307001 x5 1000000).bind fun t318 => (if t318 = true then (some (x307000 == x308000 && (x307001 == x308001 && (x307002.toList == x308002.toList && (x307003.toList == x308003.toList && (x307004 == x308004 && (x307005 == x308005))))))) else (some false))) else (some false)))))
def impl_RecOk.f (k : Nat) (a0_0 : Int) (a0_1 : Int) (a0_2 : ByteArray) (a0_3 : ByteArray) (a0_4 : Int) (a0_5 : Int) : Option (Bool) := if a0_0 = 1 then (impl_RecOk.j0 k false 1 a0_0 (a0_0 == 1) a0_0 a0_1 a0_2 a0_3 a0_4 a0_5 a0_0 a0_1 (⟨#[]⟩ : ByteArray) (⟨#[]⟩ : ByteArray) 0 0) else (impl_RecOk.j0 k false 1 a0_0 (a0_0 == 4) a0_0 a0_1 a0_2 a0_3 a0_4 a0_5 a0_0 a0_1 (⟨#[]⟩ : ByteArray) (⟨#[]⟩ : ByteArray) 0 0)
def impl_RecOk.T6 : Bool × List (List Nat × List Nat) := (true, [([], []), ([0], [0]), ([], []), ([2], [2]), ([0, 1], []), ([4, 1, 0, 1], [1, 4]), ([0, 1, 2, 3, 4, 5], []), ([6, 3, 5, 0, 1, 2, 3, 4, 5], [3, 6])])
def impl_RecOk.B6 : List Nat := [0, 1, 0, 4, 3, 19, 63, 127]
theorem impl_RecOk.tab6 : rtab .any (opsOf Try.f52 6) = impl_RecOk.T6 := by kernel_rfl
theorem impl_RecOk.bits6 : waitsOk impl_RecOk.T6.2 impl_RecOk.B6 = true := by kernel_rfl
def impl_RecOk.T12 : Bool × List (List Nat × List Nat) := (true, [([], []), ([0], [0]), ([], []), ([2], [2]), ([0, 1], []), ([4, 1, 0, 1], [1, 4]), ([0, 1, 2, 3, 4, 5], []), ([6, 3, 5, 0, 1, 2, 3, 4, 5], [3, 6])])
def impl_RecOk.B12 : List Nat := [0, 1, 0, 4, 3, 19, 63, 127]
theorem impl_RecOk.tab12 : rtab .any (opsOf Try.f52 12) = impl_RecOk.T12 := by kernel_rfl
theorem impl_RecOk.bits12 : waitsOk impl_RecOk.T12.2 impl_RecOk.B12 = true := by kernel_rfl
def impl_RecOk.T15 : Bool × List (List Nat × List Nat) := (true, [([], []), ([0], [0]), ([], []), ([2], [2]), ([0, 1], []), ([4, 1, 0, 1], [1, 4]), ([0, 1, 2, 3, 4, 5], []), ([6, 3, 5, 0, 1, 2, 3, 4, 5], [3, 6])])
def impl_RecOk.B15 : List Nat := [0, 1, 0, 4, 3, 19, 63, 127]
theorem impl_RecOk.tab15 : rtab .any (opsOf Try.f52 15) = impl_RecOk.T15 := by kernel_rfl
theorem impl_RecOk.bits15 : waitsOk impl_RecOk.T15.2 impl_RecOk.B15 = true := by kernel_rfl
set_option maxHeartbeats 80000000 in
set_option maxRecDepth 100000 in
theorem impl_RecOk.calls (k : Nat) (a0_0 : Int) (a0_1 : Int) (a0_2 : ByteArray) (a0_3 : ByteArray) (a0_4 : Int) (a0_5 : Int) (r : Bool) (w : World) (h : impl_RecOk.f k a0_0 a0_1 a0_2 a0_3 a0_4 a0_5 = some r) :
  Calls Try.prog 52 #[.agg #[.int .i64 a0_0, .int .i64 a0_1, .string a0_2, .string a0_3, .int .i64 a0_4, .int .i64 a0_5]] w fun e w' => e = .returned (.bool r) ∧ Below w.heap.size w w' := by
 have hu46 := Try.underlying46
 have HB := Aside0.mk (Below.refl w.heap.size w)
 unfold impl_RecOk.f at h; have H := h
 clear h
 have HC2 := Aside0.mk H
 clear H
 go_enter Try.func52, Try.ntmps52
 go_upto_if 13 with (first | ((with_reducible refine gate_dst (N := 1) rfl ?_); (try (refine gate_guard (by rfl) ?_; dsimp only)); refine box_event ?hg (N := 1) ?hd (cs := #[.int .i64 a0_0, .int .i64 a0_1, .string a0_2, .string a0_3, .int .i64 a0_4, .int .i64 a0_5]) (t := 46) ?hr ?_; (case hd => rfl); (case hg => rfl); (case hr => first | (go_simp; done) | (go_simp; rfl)); intro gb306 hg w3 hbox hb; have BK306 := Aside0.mk (hbox); have GE306 := ge_ hg (hb_ HB); replace HB := bs_ HB hb; clear hb hbox hg; obtain ⟨hcz4_0, hcz4_1, hcz4_2, hcz4_3, hcz4_4, hcz4_5, hfz4_0, hfz4_1, hfz4_2, hfz4_3, hfz4_4, hfz4_5⟩ := bc6_ BK306) | ((with_reducible refine gate_dst (N := 3) rfl ?_); (try (refine gate_guard (by rfl) ?_; dsimp only)); refine box_event ?hg (N := 3) ?hd (cs := #[.int .i64 0, .int .i64 0, .string (⟨#[]⟩ : ByteArray), .string (⟨#[]⟩ : ByteArray), .int .i64 0, .int .i64 0]) (t := 46) ?hr ?_; (case hd => rfl); (case hg => rfl); (case hr => first | (go_simp; done) | (go_simp; rfl)); intro gb307 hg w5 hbox hb; have BK307 := Aside0.mk (hbox); have GE307 := ge_ hg (hs_ HB GE306); replace HB := bt_ HB GE306 hb; have NB306_307 := nl_ BK306 hg; have NB307_306 := ng_ BK306 hg; replace BK306 := bb_ BK306 hb; clear hb hbox hg; have hnb6 := NB307_306.out; have hnc6 := NB306_307.out; obtain ⟨hcz7_0, hcz7_1, hcz7_2, hcz7_3, hcz7_4, hcz7_5, hfz7_0, hfz7_1, hfz7_2, hfz7_3, hfz7_4, hfz7_5⟩ := bc6_ BK307; obtain ⟨hcz8_0, hcz8_1, hcz8_2, hcz8_3, hcz8_4, hcz8_5, hfz8_0, hfz8_1, hfz8_2, hfz8_3, hfz8_4, hfz8_5⟩ := bc6_ BK306))
 (try simp only [Act.put, la_, lz_, ls_])
 go_cut [13] (fun v13 wc => ∃ (kq : Nat) (x13_1 : Bool), v13 = .bool x13_1 ∧ Aside0 (impl_RecOk.j0 kq false 1 a0_0 x13_1 a0_0 a0_1 a0_2 a0_3 a0_4 a0_5 a0_0 a0_1 (⟨#[]⟩ : ByteArray) (⟨#[]⟩ : ByteArray) 0 0 = some r) ∧ Aside0 (kq ≤ k) ∧ Aside0 (wc.heap[gb306]? = some (.cells #[.int .i64 a0_0, .int .i64 a0_1, .string a0_2, .string a0_3, .int .i64 a0_4, .int .i64 a0_5] 46 (0, 0))) ∧ Aside0 (wc.heap[gb307]? = some (.cells #[.int .i64 a0_0, .int .i64 a0_1, .string (⟨#[]⟩ : ByteArray), .string (⟨#[]⟩ : ByteArray), .int .i64 0, .int .i64 0] 46 (0, 0))) ∧ Aside0 (Below w.heap.size w wc))
 case first =>
  have H := HC2.out
  clear HC2
  by_cases c9 : a0_0 = 1
  ·rw [if_pos c9] at H
   have c9b0 : (a0_0 == 1) = true := beq_iff_eq.mpr c9
   have c9b1 : (a0_0 != 1) = false := bne_eq_false_iff_eq.mpr c9
   clear c9
   (first | rw [c9b0] | (simp only [i64_w, i32_w]; rw [c9b0]) | skip)
   have H' := Aside0.mk H
   clear H
   go_wp2
   go_meet
   case rel => exact ⟨_, ((a0_0 == 1)), rs_, H', ⟨by first | exact Nat.le_refl _ | exact Nat.le_of_succ_le this | omega⟩, ⟨uq_ BK306 fun h_ => ⟨_, ua_, ub_⟩⟩, ⟨uq_ BK307 fun h_ => ⟨_, ua_, ub_⟩⟩, ⟨hz_ HB⟩⟩
  ·rw [if_neg c9] at H
   have c9b0 : (a0_0 == 1) = false := beq_eq_false_iff_ne.mpr c9
   have c9b1 : (a0_0 != 1) = true := bne_iff_ne.mpr c9
   (first | rw [c9b0] | (simp only [i64_w, i32_w]; rw [c9b0]) | skip)
   have H' := Aside0.mk H
   clear H
   go_wp2
   go_meet
   case rel => exact ⟨_, ((a0_0 == 4)), rs_, H', ⟨by first | exact Nat.le_refl _ | exact Nat.le_of_succ_le this | omega⟩, ⟨uq_ BK306 fun h_ => ⟨_, ua_, ub_⟩⟩, ⟨uq_ BK307 fun h_ => ⟨_, ua_, ub_⟩⟩, ⟨hz_ HB⟩⟩
 case rest =>
  clear HC2
  (try clear c9);(try clear c9b0);(try clear c9b1);(try clear hcz4_0 hcz4_1 hcz4_2 hcz4_3 hcz4_4 hcz4_5 hfz4_0 hfz4_1 hfz4_2 hfz4_3 hfz4_4 hfz4_5);(try clear hcz7_0 hcz7_1 hcz7_2 hcz7_3 hcz7_4 hcz7_5 hfz7_0 hfz7_1 hfz7_2 hfz7_3 hfz7_4 hfz7_5);(try clear hcz8_0 hcz8_1 hcz8_2 hcz8_3 hcz8_4 hcz8_5 hfz8_0 hfz8_1 hfz8_2 hfz8_3 hfz8_4 hfz8_5)
  obtain ⟨kq, x13_1, rfl, HA, HJ1, BK306, BK307, HB⟩ := hcut
  cases kq with
  | zero => exact absurd HA.out (by simp [impl_RecOk.j0])
  | succ kj1 =>
   have H := HA.out
   clear HA
   simp only [impl_RecOk.j0] at H
   by_cases c10 : x13_1 = true
   ·subst c10
    rw [if_pos rfl] at H
    replace H := Option.bind_eq_some_iff.mp H
    obtain ⟨t308, A110, H⟩ := H
    have A11 := Aside0.mk A110
    clear A110
    by_cases c12 : t308 = true
    ·subst c12
     rw [if_pos rfl] at H
     by_cases c13 : (a0_3.size : Int) ≤ 24
     ·rw [if_pos c13] at H
      have c13b0 : decide ((a0_3.size : Int) ≤ 24) = true := decide_eq_true c13
      have c13b1 : decide (a0_3.size ≤ 24) = true := decide_eq_true (by omega)
      clear c13
      replace H := Option.bind_eq_some_iff.mp H
      obtain ⟨t309, A140, H⟩ := H
      have A14 := Aside0.mk A140
      clear A140
      by_cases c15 : t309 = true
      ·subst c15
       rw [if_pos rfl] at H
       obtain rfl := Option.some.inj H
       try go_wp2
       replace BK306 := bd_ BK306
       replace BK307 := bd_ BK307
       replace HB := hd_ HB
       refine start_ (n := 8) (S := k6e_ gb306 (.int .i64 a0_0) (.int .i64 a0_1) (.string a0_2) (.string a0_3) (.int .i64 a0_4) (.int .i64 a0_5)) (ds := []) (on_ 0 8) (by kernel_rfl) rfl rfl (p6e_ BK306) (fun hHeld => ?_); refine with_tabW impl_RecOk.tab6 impl_RecOk.bits6 (fun HT_ HW_ => ?_)
       generalize wc.drew = w16 at BK306 BK307 HB hHeld ⊢
       refine pv_' 0 16 (on_ 1 7) rfl rfl HT_ ?_
       refine pv_' 2 18 #[i',o',i',o',o',o',o',o'] rfl rfl HT_ ?_
       refine take_ (i := 1) (N := some 17) (v := ?_) (a' := ?_) (on_ 3 5) rfl rfl (take_ofW HT_.out HW_.out (by kernel_rfl)) (fun _ _ _ h => h) (Or.inl ⟨by rfl, ?_⟩) hHeld ?_ ?_
       rotate_left
       ·rintro w' ⟨s0, s1, s2, s3, s4, s5⟩
        go_simp
        with_reducible rfl
       rotate_left
       ·simp only [Act.put, la_, lz_, ls_, i64_w, i32_w]
        rfl
       refine pv_' 4 20 #[i',i',i',o',i',o',o',o'] rfl rfl HT_ ?_
       refine take_ (i := 3) (N := some 19) (v := ?_) (a' := ?_) (on_ 5 3) rfl rfl (take_ofW HT_.out HW_.out (by kernel_rfl)) (fun _ _ _ h => h) (Or.inl ⟨by rfl, ?_⟩) hHeld ?_ ?_
       rotate_left
       ·rintro w' ⟨s0, s1, s2, s3, s4, s5⟩
        go_simp
        with_reducible rfl
       rotate_left
       ·simp only [Act.put, la_, lz_, ls_, i64_w, i32_w]
        rfl
       refine one_ (i := 5) (N := none) (on_ 6 2) rfl rfl (one_of HT_.out (by kernel_rfl)) (by decide) (fun K hK => ?_)
       have hs17 : w16.cell? ⟨gb307, 2, none⟩ = some (.string (⟨#[]⟩ : ByteArray)) := (blk_cell BK307.out 2).trans rfl
       have hfs17 := blk_frozen BK307.out 2
       have hns17_0 := NB306_307.out
       have hms17_0 := NB307_306.out
       refine skip_ (w1 := ?_) (by rfl) rfl ?_ ?_
       rotate_left
       ·go_simp
        rfl
       refine hK.out _ _ (f6e_ NB306_307 hHeld) (fun hHeld => ?_)
       clear hK K
       refine pv_' 6 21 (on_ 7 1) rfl rfl HT_ ?_
       refine one_ (i := 7) (N := none) (on_ 8 0) rfl rfl (one_of HT_.out (by kernel_rfl)) (by decide) (fun K hK => ?_)
       have hs18 : w16.cell? ⟨gb307, 3, none⟩ = some (.string (⟨#[]⟩ : ByteArray)) := (blk_cell BK307.out 3).trans rfl
       have hfs18 := blk_frozen BK307.out 3
       have hns18_0 := NB306_307.out
       have hms18_0 := NB307_306.out
       refine skip_ (w1 := ?_) (by rfl) rfl ?_ ?_
       rotate_left
       ·go_simp
        rfl
       refine hK.out _ _ (f6e_ NB306_307 hHeld) (fun hHeld => ?_)
       clear hK K
       refine done_ (done_of HT_.out (by kernel_rfl)) ?_
       have hnb19 := NB306_307.out
       have hnc19 := NB307_306.out
       obtain ⟨hcz20_0, hcz20_1, hcz20_2, hcz20_3, hcz20_4, hcz20_5, hfz20_0, hfz20_1, hfz20_2, hfz20_3, hfz20_4, hfz20_5⟩ := bc6_ BK306
       try go_wp2_with (first | ((with_reducible refine gate_callee (f := 59) rfl ?_); refine goesL_ (some 24) rfl rfl Try.func59 (by kernel_rfl) rfl #[.string a0_2] rfl ar_ ?_; (with_reducible refine (impl_KeyOk.calls a0_2 true _ A11.out).mono ?_); rintro e w' ⟨rfl, ⟨nd, rfl⟩⟩; refine ⟨_, rfl, ?_⟩) | (go_at_call 60; (with_reducible refine (impl_in.calls a0_1 1 1000000 true _ A14.out).mono ?_); rintro e w' ⟨rfl, ⟨nd, rfl⟩⟩; obtain ⟨hcz21_0, hcz21_1, hcz21_2, hcz21_3, hcz21_4, hcz21_5, hfz21_0, hfz21_1, hfz21_2, hfz21_3, hfz21_4, hfz21_5⟩ := bc6_ BK307))
       go_ret
       exact ⟨re_, hz_ HB⟩
      ·replace c15 := Bool.eq_false_iff.mpr c15
       subst c15
       rw [if_neg ff_] at H
       obtain rfl := Option.some.inj H
       try go_wp2
       replace BK306 := bd_ BK306
       replace BK307 := bd_ BK307
       replace HB := hd_ HB
       refine start_ (n := 8) (S := k6e_ gb306 (.int .i64 a0_0) (.int .i64 a0_1) (.string a0_2) (.string a0_3) (.int .i64 a0_4) (.int .i64 a0_5)) (ds := []) (on_ 0 8) (by kernel_rfl) rfl rfl (p6e_ BK306) (fun hHeld => ?_); refine with_tabW impl_RecOk.tab6 impl_RecOk.bits6 (fun HT_ HW_ => ?_)
       generalize wc.drew = w22 at BK306 BK307 HB hHeld ⊢
       refine pv_' 0 16 (on_ 1 7) rfl rfl HT_ ?_
       refine pv_' 2 18 #[i',o',i',o',o',o',o',o'] rfl rfl HT_ ?_
       refine take_ (i := 1) (N := some 17) (v := ?_) (a' := ?_) (on_ 3 5) rfl rfl (take_ofW HT_.out HW_.out (by kernel_rfl)) (fun _ _ _ h => h) (Or.inl ⟨by rfl, ?_⟩) hHeld ?_ ?_
       rotate_left
       ·rintro w' ⟨s0, s1, s2, s3, s4, s5⟩
        go_simp
        with_reducible rfl
       rotate_left
       ·simp only [Act.put, la_, lz_, ls_, i64_w, i32_w]
        rfl
       refine pv_' 4 20 #[i',i',i',o',i',o',o',o'] rfl rfl HT_ ?_
       refine take_ (i := 3) (N := some 19) (v := ?_) (a' := ?_) (on_ 5 3) rfl rfl (take_ofW HT_.out HW_.out (by kernel_rfl)) (fun _ _ _ h => h) (Or.inl ⟨by rfl, ?_⟩) hHeld ?_ ?_
       rotate_left
       ·rintro w' ⟨s0, s1, s2, s3, s4, s5⟩
        go_simp
        with_reducible rfl
       rotate_left
       ·simp only [Act.put, la_, lz_, ls_, i64_w, i32_w]
        rfl
       refine one_ (i := 5) (N := none) (on_ 6 2) rfl rfl (one_of HT_.out (by kernel_rfl)) (by decide) (fun K hK => ?_)
       have hs23 : w22.cell? ⟨gb307, 2, none⟩ = some (.string (⟨#[]⟩ : ByteArray)) := (blk_cell BK307.out 2).trans rfl
       have hfs23 := blk_frozen BK307.out 2
       have hns23_0 := NB306_307.out
       have hms23_0 := NB307_306.out
       refine skip_ (w1 := ?_) (by rfl) rfl ?_ ?_
       rotate_left
       ·go_simp
        rfl
       refine hK.out _ _ (f6e_ NB306_307 hHeld) (fun hHeld => ?_)
       clear hK K
       refine pv_' 6 21 (on_ 7 1) rfl rfl HT_ ?_
       refine one_ (i := 7) (N := none) (on_ 8 0) rfl rfl (one_of HT_.out (by kernel_rfl)) (by decide) (fun K hK => ?_)
       have hs24 : w22.cell? ⟨gb307, 3, none⟩ = some (.string (⟨#[]⟩ : ByteArray)) := (blk_cell BK307.out 3).trans rfl
       have hfs24 := blk_frozen BK307.out 3
       have hns24_0 := NB306_307.out
       have hms24_0 := NB307_306.out
       refine skip_ (w1 := ?_) (by rfl) rfl ?_ ?_
       rotate_left
       ·go_simp
        rfl
       refine hK.out _ _ (f6e_ NB306_307 hHeld) (fun hHeld => ?_)
       clear hK K
       refine done_ (done_of HT_.out (by kernel_rfl)) ?_
       have hnb25 := NB306_307.out
       have hnc25 := NB307_306.out
       obtain ⟨hcz26_0, hcz26_1, hcz26_2, hcz26_3, hcz26_4, hcz26_5, hfz26_0, hfz26_1, hfz26_2, hfz26_3, hfz26_4, hfz26_5⟩ := bc6_ BK306
       try go_wp2_with (first | ((with_reducible refine gate_callee (f := 59) rfl ?_); refine goesL_ (some 24) rfl rfl Try.func59 (by kernel_rfl) rfl #[.string a0_2] rfl ar_ ?_; (with_reducible refine (impl_KeyOk.calls a0_2 true _ A11.out).mono ?_); rintro e w' ⟨rfl, ⟨nd, rfl⟩⟩; refine ⟨_, rfl, ?_⟩) | (go_at_call 60; (with_reducible refine (impl_in.calls a0_1 1 1000000 false _ A14.out).mono ?_); rintro e w' ⟨rfl, ⟨nd, rfl⟩⟩))
       go_ret
       exact ⟨re_, hz_ HB⟩
     ·rw [if_neg c13] at H
      have c13b0 : decide ((a0_3.size : Int) ≤ 24) = false := decide_eq_false c13
      have c13b1 : decide (a0_3.size ≤ 24) = false := decide_eq_false (by omega)
      clear c13
      obtain rfl := Option.some.inj H
      try go_wp2
      replace BK306 := bd_ BK306
      replace BK307 := bd_ BK307
      replace HB := hd_ HB
      refine start_ (n := 8) (S := k6e_ gb306 (.int .i64 a0_0) (.int .i64 a0_1) (.string a0_2) (.string a0_3) (.int .i64 a0_4) (.int .i64 a0_5)) (ds := []) (on_ 0 8) (by kernel_rfl) rfl rfl (p6e_ BK306) (fun hHeld => ?_); refine with_tabW impl_RecOk.tab6 impl_RecOk.bits6 (fun HT_ HW_ => ?_)
      generalize wc.drew = w27 at BK306 BK307 HB hHeld ⊢
      refine pv_' 0 16 (on_ 1 7) rfl rfl HT_ ?_
      refine pv_' 2 18 #[i',o',i',o',o',o',o',o'] rfl rfl HT_ ?_
      refine take_ (i := 1) (N := some 17) (v := ?_) (a' := ?_) (on_ 3 5) rfl rfl (take_ofW HT_.out HW_.out (by kernel_rfl)) (fun _ _ _ h => h) (Or.inl ⟨by rfl, ?_⟩) hHeld ?_ ?_
      rotate_left
      ·rintro w' ⟨s0, s1, s2, s3, s4, s5⟩
       go_simp
       with_reducible rfl
      rotate_left
      ·simp only [Act.put, la_, lz_, ls_, i64_w, i32_w]
       rfl
      refine pv_' 4 20 #[i',i',i',o',i',o',o',o'] rfl rfl HT_ ?_
      refine take_ (i := 3) (N := some 19) (v := ?_) (a' := ?_) (on_ 5 3) rfl rfl (take_ofW HT_.out HW_.out (by kernel_rfl)) (fun _ _ _ h => h) (Or.inl ⟨by rfl, ?_⟩) hHeld ?_ ?_
      rotate_left
      ·rintro w' ⟨s0, s1, s2, s3, s4, s5⟩
       go_simp
       with_reducible rfl
      rotate_left
      ·simp only [Act.put, la_, lz_, ls_, i64_w, i32_w]
       rfl
      refine one_ (i := 5) (N := none) (on_ 6 2) rfl rfl (one_of HT_.out (by kernel_rfl)) (by decide) (fun K hK => ?_)
      have hs28 : w27.cell? ⟨gb307, 2, none⟩ = some (.string (⟨#[]⟩ : ByteArray)) := (blk_cell BK307.out 2).trans rfl
      have hfs28 := blk_frozen BK307.out 2
      have hns28_0 := NB306_307.out
      have hms28_0 := NB307_306.out
      refine skip_ (w1 := ?_) (by rfl) rfl ?_ ?_
      rotate_left
      ·go_simp
       rfl
      refine hK.out _ _ (f6e_ NB306_307 hHeld) (fun hHeld => ?_)
      clear hK K
      refine pv_' 6 21 (on_ 7 1) rfl rfl HT_ ?_
      refine one_ (i := 7) (N := none) (on_ 8 0) rfl rfl (one_of HT_.out (by kernel_rfl)) (by decide) (fun K hK => ?_)
      have hs29 : w27.cell? ⟨gb307, 3, none⟩ = some (.string (⟨#[]⟩ : ByteArray)) := (blk_cell BK307.out 3).trans rfl
      have hfs29 := blk_frozen BK307.out 3
      have hns29_0 := NB306_307.out
      have hms29_0 := NB307_306.out
      refine skip_ (w1 := ?_) (by rfl) rfl ?_ ?_
      rotate_left
      ·go_simp
       rfl
      refine hK.out _ _ (f6e_ NB306_307 hHeld) (fun hHeld => ?_)
      clear hK K
      refine done_ (done_of HT_.out (by kernel_rfl)) ?_
      have hnb30 := NB306_307.out
      have hnc30 := NB307_306.out
      obtain ⟨hcz31_0, hcz31_1, hcz31_2, hcz31_3, hcz31_4, hcz31_5, hfz31_0, hfz31_1, hfz31_2, hfz31_3, hfz31_4, hfz31_5⟩ := bc6_ BK306
      try go_wp2_with (first | ((with_reducible refine gate_callee (f := 59) rfl ?_); refine goesL_ (some 24) rfl rfl Try.func59 (by kernel_rfl) rfl #[.string a0_2] rfl ar_ ?_; (with_reducible refine (impl_KeyOk.calls a0_2 true _ A11.out).mono ?_); rintro e w' ⟨rfl, ⟨nd, rfl⟩⟩; refine ⟨_, rfl, ?_⟩))
      go_ret
      exact ⟨re_, hz_ HB⟩
    ·replace c12 := Bool.eq_false_iff.mpr c12
     subst c12
     rw [if_neg ff_] at H
     obtain rfl := Option.some.inj H
     try go_wp2
     replace BK306 := bd_ BK306
     replace BK307 := bd_ BK307
     replace HB := hd_ HB
     refine start_ (n := 8) (S := k6e_ gb306 (.int .i64 a0_0) (.int .i64 a0_1) (.string a0_2) (.string a0_3) (.int .i64 a0_4) (.int .i64 a0_5)) (ds := []) (on_ 0 8) (by kernel_rfl) rfl rfl (p6e_ BK306) (fun hHeld => ?_); refine with_tabW impl_RecOk.tab6 impl_RecOk.bits6 (fun HT_ HW_ => ?_)
     generalize wc.drew = w32 at BK306 BK307 HB hHeld ⊢
     refine pv_' 0 16 (on_ 1 7) rfl rfl HT_ ?_
     refine pv_' 2 18 #[i',o',i',o',o',o',o',o'] rfl rfl HT_ ?_
     refine take_ (i := 1) (N := some 17) (v := ?_) (a' := ?_) (on_ 3 5) rfl rfl (take_ofW HT_.out HW_.out (by kernel_rfl)) (fun _ _ _ h => h) (Or.inl ⟨by rfl, ?_⟩) hHeld ?_ ?_
     rotate_left
     ·rintro w' ⟨s0, s1, s2, s3, s4, s5⟩
      go_simp
      with_reducible rfl
     rotate_left
     ·simp only [Act.put, la_, lz_, ls_, i64_w, i32_w]
      rfl
     refine pv_' 4 20 #[i',i',i',o',i',o',o',o'] rfl rfl HT_ ?_
     refine take_ (i := 3) (N := some 19) (v := ?_) (a' := ?_) (on_ 5 3) rfl rfl (take_ofW HT_.out HW_.out (by kernel_rfl)) (fun _ _ _ h => h) (Or.inl ⟨by rfl, ?_⟩) hHeld ?_ ?_
     rotate_left
     ·rintro w' ⟨s0, s1, s2, s3, s4, s5⟩
      go_simp
      with_reducible rfl
     rotate_left
     ·simp only [Act.put, la_, lz_, ls_, i64_w, i32_w]
      rfl
     refine one_ (i := 5) (N := none) (on_ 6 2) rfl rfl (one_of HT_.out (by kernel_rfl)) (by decide) (fun K hK => ?_)
     have hs33 : w32.cell? ⟨gb307, 2, none⟩ = some (.string (⟨#[]⟩ : ByteArray)) := (blk_cell BK307.out 2).trans rfl
     have hfs33 := blk_frozen BK307.out 2
     have hns33_0 := NB306_307.out
     have hms33_0 := NB307_306.out
     refine skip_ (w1 := ?_) (by rfl) rfl ?_ ?_
     rotate_left
     ·go_simp
      rfl
     refine hK.out _ _ (f6e_ NB306_307 hHeld) (fun hHeld => ?_)
     clear hK K
     refine pv_' 6 21 (on_ 7 1) rfl rfl HT_ ?_
     refine one_ (i := 7) (N := none) (on_ 8 0) rfl rfl (one_of HT_.out (by kernel_rfl)) (by decide) (fun K hK => ?_)
     have hs34 : w32.cell? ⟨gb307, 3, none⟩ = some (.string (⟨#[]⟩ : ByteArray)) := (blk_cell BK307.out 3).trans rfl
     have hfs34 := blk_frozen BK307.out 3
     have hns34_0 := NB306_307.out
     have hms34_0 := NB307_306.out
     refine skip_ (w1 := ?_) (by rfl) rfl ?_ ?_
     rotate_left
     ·go_simp
      rfl
     refine hK.out _ _ (f6e_ NB306_307 hHeld) (fun hHeld => ?_)
     clear hK K
     refine done_ (done_of HT_.out (by kernel_rfl)) ?_
     have hnb35 := NB306_307.out
     have hnc35 := NB307_306.out
     obtain ⟨hcz36_0, hcz36_1, hcz36_2, hcz36_3, hcz36_4, hcz36_5, hfz36_0, hfz36_1, hfz36_2, hfz36_3, hfz36_4, hfz36_5⟩ := bc6_ BK306
     try go_wp2_with (first | ((with_reducible refine gate_callee (f := 59) rfl ?_); refine goesL_ (some 24) rfl rfl Try.func59 (by kernel_rfl) rfl #[.string a0_2] rfl ar_ ?_; (with_reducible refine (impl_KeyOk.calls a0_2 false _ A11.out).mono ?_); rintro e w' ⟨rfl, ⟨nd, rfl⟩⟩; refine ⟨_, rfl, ?_⟩))
     go_ret
     exact ⟨re_, hz_ HB⟩
   ·replace c10 := Bool.eq_false_iff.mpr c10
    subst c10
    rw [if_neg ff_] at H
    by_cases c37 : a0_0 = 2
    ·rw [if_pos c37] at H
     have c37b0 : (a0_0 == 2) = true := beq_iff_eq.mpr c37
     have c37b1 : (a0_0 != 2) = false := bne_eq_false_iff_eq.mpr c37
     clear c37
     replace H := Option.bind_eq_some_iff.mp H
     obtain ⟨t310, A380, H⟩ := H
     have A38 := Aside0.mk A380
     clear A380
     by_cases c39 : t310 = true
     ·subst c39
      rw [if_pos rfl] at H
      replace H := Option.bind_eq_some_iff.mp H
      obtain ⟨t311, A400, H⟩ := H
      have A40 := Aside0.mk A400
      clear A400
      by_cases c41 : t311 = true
      ·subst c41
       rw [if_pos rfl] at H
       obtain rfl := Option.some.inj H
       have hnb42 := NB306_307.out
       have hnc42 := NB307_306.out
       obtain ⟨hcz43_0, hcz43_1, hcz43_2, hcz43_3, hcz43_4, hcz43_5, hfz43_0, hfz43_1, hfz43_2, hfz43_3, hfz43_4, hfz43_5⟩ := bc6_ BK306
       obtain ⟨hcz44_0, hcz44_1, hcz44_2, hcz44_3, hcz44_4, hcz44_5, hfz44_0, hfz44_1, hfz44_2, hfz44_3, hfz44_4, hfz44_5⟩ := bc6_ BK307
       go_wp2_with (first | ((with_reducible refine gate_callee (f := 59) rfl ?_); refine goesL_ (some 38) rfl rfl Try.func59 (by kernel_rfl) rfl #[.string a0_2] rfl ar_ ?_; (with_reducible refine (impl_KeyOk.calls a0_2 true _ A38.out).mono ?_); rintro e w' ⟨rfl, ⟨nd, rfl⟩⟩; refine ⟨_, rfl, ?_⟩) | (go_at_call 60; (with_reducible refine (impl_in.calls a0_1 1 1000000 true _ A40.out).mono ?_); rintro e w' ⟨rfl, ⟨nd, rfl⟩⟩))
       go_ret
       exact ⟨re_, hz_ HB⟩
      ·replace c41 := Bool.eq_false_iff.mpr c41
       subst c41
       rw [if_neg ff_] at H
       obtain rfl := Option.some.inj H
       have hnb45 := NB306_307.out
       have hnc45 := NB307_306.out
       obtain ⟨hcz46_0, hcz46_1, hcz46_2, hcz46_3, hcz46_4, hcz46_5, hfz46_0, hfz46_1, hfz46_2, hfz46_3, hfz46_4, hfz46_5⟩ := bc6_ BK306
       obtain ⟨hcz47_0, hcz47_1, hcz47_2, hcz47_3, hcz47_4, hcz47_5, hfz47_0, hfz47_1, hfz47_2, hfz47_3, hfz47_4, hfz47_5⟩ := bc6_ BK307
       go_wp2_with (first | ((with_reducible refine gate_callee (f := 59) rfl ?_); refine goesL_ (some 38) rfl rfl Try.func59 (by kernel_rfl) rfl #[.string a0_2] rfl ar_ ?_; (with_reducible refine (impl_KeyOk.calls a0_2 true _ A38.out).mono ?_); rintro e w' ⟨rfl, ⟨nd, rfl⟩⟩; refine ⟨_, rfl, ?_⟩) | (go_at_call 60; (with_reducible refine (impl_in.calls a0_1 1 1000000 false _ A40.out).mono ?_); rintro e w' ⟨rfl, ⟨nd, rfl⟩⟩))
       go_ret
       exact ⟨re_, hz_ HB⟩
     ·replace c39 := Bool.eq_false_iff.mpr c39
      subst c39
      rw [if_neg ff_] at H
      obtain rfl := Option.some.inj H
      have hnb48 := NB306_307.out
      have hnc48 := NB307_306.out
      obtain ⟨hcz49_0, hcz49_1, hcz49_2, hcz49_3, hcz49_4, hcz49_5, hfz49_0, hfz49_1, hfz49_2, hfz49_3, hfz49_4, hfz49_5⟩ := bc6_ BK306
      obtain ⟨hcz50_0, hcz50_1, hcz50_2, hcz50_3, hcz50_4, hcz50_5, hfz50_0, hfz50_1, hfz50_2, hfz50_3, hfz50_4, hfz50_5⟩ := bc6_ BK307
      go_wp2_with (first | ((with_reducible refine gate_callee (f := 59) rfl ?_); refine goesL_ (some 38) rfl rfl Try.func59 (by kernel_rfl) rfl #[.string a0_2] rfl ar_ ?_; (with_reducible refine (impl_KeyOk.calls a0_2 false _ A38.out).mono ?_); rintro e w' ⟨rfl, ⟨nd, rfl⟩⟩; refine ⟨_, rfl, ?_⟩))
      go_ret
      exact ⟨re_, hz_ HB⟩
    ·rw [if_neg c37] at H
     have c37b0 : (a0_0 == 2) = false := beq_eq_false_iff_ne.mpr c37
     have c37b1 : (a0_0 != 2) = true := bne_iff_ne.mpr c37
     by_cases c51 : a0_0 = 3
     ·rw [if_pos c51] at H
      have c51b0 : (a0_0 == 3) = true := beq_iff_eq.mpr c51
      have c51b1 : (a0_0 != 3) = false := bne_eq_false_iff_eq.mpr c51
      clear c51
      replace H := Option.bind_eq_some_iff.mp H
      obtain ⟨t312, A520, H⟩ := H
      have A52 := Aside0.mk A520
      clear A520
      by_cases c53 : t312 = true
      ·subst c53
       rw [if_pos rfl] at H
       replace H := Option.bind_eq_some_iff.mp H
       obtain ⟨t313, A540, H⟩ := H
       have A54 := Aside0.mk A540
       clear A540
       by_cases c55 : t313 = true
       ·subst c55
        rw [if_pos rfl] at H
        replace H := Option.bind_eq_some_iff.mp H
        obtain ⟨t314, A560, H⟩ := H
        have A56 := Aside0.mk A560
        clear A560
        by_cases c57 : t314 = true
        ·subst c57
         rw [if_pos rfl] at H
         obtain rfl := Option.some.inj H
         try go_wp2
         replace BK306 := bd_ BK306
         replace BK307 := bd_ BK307
         replace HB := hd_ HB
         refine start_ (n := 8) (S := k6e_ gb306 (.int .i64 a0_0) (.int .i64 a0_1) (.string a0_2) (.string a0_3) (.int .i64 a0_4) (.int .i64 a0_5)) (ds := []) (on_ 0 8) (by kernel_rfl) rfl rfl (p6e_ BK306) (fun hHeld => ?_); refine with_tabW impl_RecOk.tab12 impl_RecOk.bits12 (fun HT_ HW_ => ?_)
         generalize wc.drew = w58 at BK306 BK307 HB hHeld ⊢
         refine pv_' 0 41 (on_ 1 7) rfl rfl HT_ ?_
         refine pv_' 2 43 #[i',o',i',o',o',o',o',o'] rfl rfl HT_ ?_
         refine take_ (i := 1) (N := some 42) (v := ?_) (a' := ?_) (on_ 3 5) rfl rfl (take_ofW HT_.out HW_.out (by kernel_rfl)) (fun _ _ _ h => h) (Or.inl ⟨by rfl, ?_⟩) hHeld ?_ ?_
         rotate_left
         ·rintro w' ⟨s0, s1, s2, s3, s4, s5⟩
          go_simp
          with_reducible rfl
         rotate_left
         ·simp only [Act.put, la_, lz_, ls_, i64_w, i32_w]
          rfl
         refine pv_' 4 45 #[i',i',i',o',i',o',o',o'] rfl rfl HT_ ?_
         refine take_ (i := 3) (N := some 44) (v := ?_) (a' := ?_) (on_ 5 3) rfl rfl (take_ofW HT_.out HW_.out (by kernel_rfl)) (fun _ _ _ h => h) (Or.inl ⟨by rfl, ?_⟩) hHeld ?_ ?_
         rotate_left
         ·rintro w' ⟨s0, s1, s2, s3, s4, s5⟩
          go_simp
          with_reducible rfl
         rotate_left
         ·simp only [Act.put, la_, lz_, ls_, i64_w, i32_w]
          rfl
         refine one_ (i := 5) (N := none) (on_ 6 2) rfl rfl (one_of HT_.out (by kernel_rfl)) (by decide) (fun K hK => ?_)
         have hs59 : w58.cell? ⟨gb307, 4, none⟩ = some (.int .i64 0) := (blk_cell BK307.out 4).trans rfl
         have hfs59 := blk_frozen BK307.out 4
         have hns59_0 := NB306_307.out
         have hms59_0 := NB307_306.out
         refine skip_ (w1 := ?_) (by rfl) rfl ?_ ?_
         rotate_left
         ·go_simp
          rfl
         refine hK.out _ _ (f6e_ NB306_307 hHeld) (fun hHeld => ?_)
         clear hK K
         refine pv_' 6 46 (on_ 7 1) rfl rfl HT_ ?_
         refine one_ (i := 7) (N := none) (on_ 8 0) rfl rfl (one_of HT_.out (by kernel_rfl)) (by decide) (fun K hK => ?_)
         have hs60 : w58.cell? ⟨gb307, 5, none⟩ = some (.int .i64 0) := (blk_cell BK307.out 5).trans rfl
         have hfs60 := blk_frozen BK307.out 5
         have hns60_0 := NB306_307.out
         have hms60_0 := NB307_306.out
         refine skip_ (w1 := ?_) (by rfl) rfl ?_ ?_
         rotate_left
         ·go_simp
          rfl
         refine hK.out _ _ (f6e_ NB306_307 hHeld) (fun hHeld => ?_)
         clear hK K
         refine done_ (done_of HT_.out (by kernel_rfl)) ?_
         have hnb61 := NB306_307.out
         have hnc61 := NB307_306.out
         obtain ⟨hcz62_0, hcz62_1, hcz62_2, hcz62_3, hcz62_4, hcz62_5, hfz62_0, hfz62_1, hfz62_2, hfz62_3, hfz62_4, hfz62_5⟩ := bc6_ BK306
         try go_wp2_with (first | ((with_reducible refine gate_callee (f := 60) rfl ?_); refine goesL_ (some 49) rfl rfl Try.func60 (by kernel_rfl) rfl #[.int .i64 a0_4, .int .i64 0, .int .i64 8] rfl ar_ ?_; (with_reducible refine (impl_in.calls a0_4 0 8 true _ A52.out).mono ?_); rintro e w' ⟨rfl, ⟨nd, rfl⟩⟩; refine ⟨_, rfl, ?_⟩) | (go_at_call 60; (with_reducible refine (impl_in.calls a0_5 0 4294967295 true _ A54.out).mono ?_); rintro e w' ⟨rfl, ⟨nd, rfl⟩⟩) | (go_at_call 60; (with_reducible refine (impl_in.calls a0_1 1 1000000 true _ A56.out).mono ?_); rintro e w' ⟨rfl, ⟨nd, rfl⟩⟩; obtain ⟨hcz63_0, hcz63_1, hcz63_2, hcz63_3, hcz63_4, hcz63_5, hfz63_0, hfz63_1, hfz63_2, hfz63_3, hfz63_4, hfz63_5⟩ := bc6_ BK307))
         go_ret
         exact ⟨re_, hz_ HB⟩
        ·replace c57 := Bool.eq_false_iff.mpr c57
         subst c57
         rw [if_neg ff_] at H
         obtain rfl := Option.some.inj H
         try go_wp2
         replace BK306 := bd_ BK306
         replace BK307 := bd_ BK307
         replace HB := hd_ HB
         refine start_ (n := 8) (S := k6e_ gb306 (.int .i64 a0_0) (.int .i64 a0_1) (.string a0_2) (.string a0_3) (.int .i64 a0_4) (.int .i64 a0_5)) (ds := []) (on_ 0 8) (by kernel_rfl) rfl rfl (p6e_ BK306) (fun hHeld => ?_); refine with_tabW impl_RecOk.tab12 impl_RecOk.bits12 (fun HT_ HW_ => ?_)
         generalize wc.drew = w64 at BK306 BK307 HB hHeld ⊢
         refine pv_' 0 41 (on_ 1 7) rfl rfl HT_ ?_
         refine pv_' 2 43 #[i',o',i',o',o',o',o',o'] rfl rfl HT_ ?_
         refine take_ (i := 1) (N := some 42) (v := ?_) (a' := ?_) (on_ 3 5) rfl rfl (take_ofW HT_.out HW_.out (by kernel_rfl)) (fun _ _ _ h => h) (Or.inl ⟨by rfl, ?_⟩) hHeld ?_ ?_
         rotate_left
         ·rintro w' ⟨s0, s1, s2, s3, s4, s5⟩
          go_simp
          with_reducible rfl
         rotate_left
         ·simp only [Act.put, la_, lz_, ls_, i64_w, i32_w]
          rfl
         refine pv_' 4 45 #[i',i',i',o',i',o',o',o'] rfl rfl HT_ ?_
         refine take_ (i := 3) (N := some 44) (v := ?_) (a' := ?_) (on_ 5 3) rfl rfl (take_ofW HT_.out HW_.out (by kernel_rfl)) (fun _ _ _ h => h) (Or.inl ⟨by rfl, ?_⟩) hHeld ?_ ?_
         rotate_left
         ·rintro w' ⟨s0, s1, s2, s3, s4, s5⟩
          go_simp
          with_reducible rfl
         rotate_left
         ·simp only [Act.put, la_, lz_, ls_, i64_w, i32_w]
          rfl
         refine one_ (i := 5) (N := none) (on_ 6 2) rfl rfl (one_of HT_.out (by kernel_rfl)) (by decide) (fun K hK => ?_)
         have hs65 : w64.cell? ⟨gb307, 4, none⟩ = some (.int .i64 0) := (blk_cell BK307.out 4).trans rfl
         have hfs65 := blk_frozen BK307.out 4
         have hns65_0 := NB306_307.out
         have hms65_0 := NB307_306.out
         refine skip_ (w1 := ?_) (by rfl) rfl ?_ ?_
         rotate_left
         ·go_simp
          rfl
         refine hK.out _ _ (f6e_ NB306_307 hHeld) (fun hHeld => ?_)
         clear hK K
         refine pv_' 6 46 (on_ 7 1) rfl rfl HT_ ?_
         refine one_ (i := 7) (N := none) (on_ 8 0) rfl rfl (one_of HT_.out (by kernel_rfl)) (by decide) (fun K hK => ?_)
         have hs66 : w64.cell? ⟨gb307, 5, none⟩ = some (.int .i64 0) := (blk_cell BK307.out 5).trans rfl
         have hfs66 := blk_frozen BK307.out 5
         have hns66_0 := NB306_307.out
         have hms66_0 := NB307_306.out
         refine skip_ (w1 := ?_) (by rfl) rfl ?_ ?_
         rotate_left
         ·go_simp
          rfl
         refine hK.out _ _ (f6e_ NB306_307 hHeld) (fun hHeld => ?_)
         clear hK K
         refine done_ (done_of HT_.out (by kernel_rfl)) ?_
         have hnb67 := NB306_307.out
         have hnc67 := NB307_306.out
         obtain ⟨hcz68_0, hcz68_1, hcz68_2, hcz68_3, hcz68_4, hcz68_5, hfz68_0, hfz68_1, hfz68_2, hfz68_3, hfz68_4, hfz68_5⟩ := bc6_ BK306
         try go_wp2_with (first | ((with_reducible refine gate_callee (f := 60) rfl ?_); refine goesL_ (some 49) rfl rfl Try.func60 (by kernel_rfl) rfl #[.int .i64 a0_4, .int .i64 0, .int .i64 8] rfl ar_ ?_; (with_reducible refine (impl_in.calls a0_4 0 8 true _ A52.out).mono ?_); rintro e w' ⟨rfl, ⟨nd, rfl⟩⟩; refine ⟨_, rfl, ?_⟩) | (go_at_call 60; (with_reducible refine (impl_in.calls a0_5 0 4294967295 true _ A54.out).mono ?_); rintro e w' ⟨rfl, ⟨nd, rfl⟩⟩) | (go_at_call 60; (with_reducible refine (impl_in.calls a0_1 1 1000000 false _ A56.out).mono ?_); rintro e w' ⟨rfl, ⟨nd, rfl⟩⟩))
         go_ret
         exact ⟨re_, hz_ HB⟩
       ·replace c55 := Bool.eq_false_iff.mpr c55
        subst c55
        rw [if_neg ff_] at H
        obtain rfl := Option.some.inj H
        try go_wp2
        replace BK306 := bd_ BK306
        replace BK307 := bd_ BK307
        replace HB := hd_ HB
        refine start_ (n := 8) (S := k6e_ gb306 (.int .i64 a0_0) (.int .i64 a0_1) (.string a0_2) (.string a0_3) (.int .i64 a0_4) (.int .i64 a0_5)) (ds := []) (on_ 0 8) (by kernel_rfl) rfl rfl (p6e_ BK306) (fun hHeld => ?_); refine with_tabW impl_RecOk.tab12 impl_RecOk.bits12 (fun HT_ HW_ => ?_)
        generalize wc.drew = w69 at BK306 BK307 HB hHeld ⊢
        refine pv_' 0 41 (on_ 1 7) rfl rfl HT_ ?_
        refine pv_' 2 43 #[i',o',i',o',o',o',o',o'] rfl rfl HT_ ?_
        refine take_ (i := 1) (N := some 42) (v := ?_) (a' := ?_) (on_ 3 5) rfl rfl (take_ofW HT_.out HW_.out (by kernel_rfl)) (fun _ _ _ h => h) (Or.inl ⟨by rfl, ?_⟩) hHeld ?_ ?_
        rotate_left
        ·rintro w' ⟨s0, s1, s2, s3, s4, s5⟩
         go_simp
         with_reducible rfl
        rotate_left
        ·simp only [Act.put, la_, lz_, ls_, i64_w, i32_w]
         rfl
        refine pv_' 4 45 #[i',i',i',o',i',o',o',o'] rfl rfl HT_ ?_
        refine take_ (i := 3) (N := some 44) (v := ?_) (a' := ?_) (on_ 5 3) rfl rfl (take_ofW HT_.out HW_.out (by kernel_rfl)) (fun _ _ _ h => h) (Or.inl ⟨by rfl, ?_⟩) hHeld ?_ ?_
        rotate_left
        ·rintro w' ⟨s0, s1, s2, s3, s4, s5⟩
         go_simp
         with_reducible rfl
        rotate_left
        ·simp only [Act.put, la_, lz_, ls_, i64_w, i32_w]
         rfl
        refine one_ (i := 5) (N := none) (on_ 6 2) rfl rfl (one_of HT_.out (by kernel_rfl)) (by decide) (fun K hK => ?_)
        have hs70 : w69.cell? ⟨gb307, 4, none⟩ = some (.int .i64 0) := (blk_cell BK307.out 4).trans rfl
        have hfs70 := blk_frozen BK307.out 4
        have hns70_0 := NB306_307.out
        have hms70_0 := NB307_306.out
        refine skip_ (w1 := ?_) (by rfl) rfl ?_ ?_
        rotate_left
        ·go_simp
         rfl
        refine hK.out _ _ (f6e_ NB306_307 hHeld) (fun hHeld => ?_)
        clear hK K
        refine pv_' 6 46 (on_ 7 1) rfl rfl HT_ ?_
        refine one_ (i := 7) (N := none) (on_ 8 0) rfl rfl (one_of HT_.out (by kernel_rfl)) (by decide) (fun K hK => ?_)
        have hs71 : w69.cell? ⟨gb307, 5, none⟩ = some (.int .i64 0) := (blk_cell BK307.out 5).trans rfl
        have hfs71 := blk_frozen BK307.out 5
        have hns71_0 := NB306_307.out
        have hms71_0 := NB307_306.out
        refine skip_ (w1 := ?_) (by rfl) rfl ?_ ?_
        rotate_left
        ·go_simp
         rfl
        refine hK.out _ _ (f6e_ NB306_307 hHeld) (fun hHeld => ?_)
        clear hK K
        refine done_ (done_of HT_.out (by kernel_rfl)) ?_
        have hnb72 := NB306_307.out
        have hnc72 := NB307_306.out
        obtain ⟨hcz73_0, hcz73_1, hcz73_2, hcz73_3, hcz73_4, hcz73_5, hfz73_0, hfz73_1, hfz73_2, hfz73_3, hfz73_4, hfz73_5⟩ := bc6_ BK306
        try go_wp2_with (first | ((with_reducible refine gate_callee (f := 60) rfl ?_); refine goesL_ (some 49) rfl rfl Try.func60 (by kernel_rfl) rfl #[.int .i64 a0_4, .int .i64 0, .int .i64 8] rfl ar_ ?_; (with_reducible refine (impl_in.calls a0_4 0 8 true _ A52.out).mono ?_); rintro e w' ⟨rfl, ⟨nd, rfl⟩⟩; refine ⟨_, rfl, ?_⟩) | (go_at_call 60; (with_reducible refine (impl_in.calls a0_5 0 4294967295 false _ A54.out).mono ?_); rintro e w' ⟨rfl, ⟨nd, rfl⟩⟩))
        go_ret
        exact ⟨re_, hz_ HB⟩
      ·replace c53 := Bool.eq_false_iff.mpr c53
       subst c53
       rw [if_neg ff_] at H
       obtain rfl := Option.some.inj H
       try go_wp2
       replace BK306 := bd_ BK306
       replace BK307 := bd_ BK307
       replace HB := hd_ HB
       refine start_ (n := 8) (S := k6e_ gb306 (.int .i64 a0_0) (.int .i64 a0_1) (.string a0_2) (.string a0_3) (.int .i64 a0_4) (.int .i64 a0_5)) (ds := []) (on_ 0 8) (by kernel_rfl) rfl rfl (p6e_ BK306) (fun hHeld => ?_); refine with_tabW impl_RecOk.tab12 impl_RecOk.bits12 (fun HT_ HW_ => ?_)
       generalize wc.drew = w74 at BK306 BK307 HB hHeld ⊢
       refine pv_' 0 41 (on_ 1 7) rfl rfl HT_ ?_
       refine pv_' 2 43 #[i',o',i',o',o',o',o',o'] rfl rfl HT_ ?_
       refine take_ (i := 1) (N := some 42) (v := ?_) (a' := ?_) (on_ 3 5) rfl rfl (take_ofW HT_.out HW_.out (by kernel_rfl)) (fun _ _ _ h => h) (Or.inl ⟨by rfl, ?_⟩) hHeld ?_ ?_
       rotate_left
       ·rintro w' ⟨s0, s1, s2, s3, s4, s5⟩
        go_simp
        with_reducible rfl
       rotate_left
       ·simp only [Act.put, la_, lz_, ls_, i64_w, i32_w]
        rfl
       refine pv_' 4 45 #[i',i',i',o',i',o',o',o'] rfl rfl HT_ ?_
       refine take_ (i := 3) (N := some 44) (v := ?_) (a' := ?_) (on_ 5 3) rfl rfl (take_ofW HT_.out HW_.out (by kernel_rfl)) (fun _ _ _ h => h) (Or.inl ⟨by rfl, ?_⟩) hHeld ?_ ?_
       rotate_left
       ·rintro w' ⟨s0, s1, s2, s3, s4, s5⟩
        go_simp
        with_reducible rfl
       rotate_left
       ·simp only [Act.put, la_, lz_, ls_, i64_w, i32_w]
        rfl
       refine one_ (i := 5) (N := none) (on_ 6 2) rfl rfl (one_of HT_.out (by kernel_rfl)) (by decide) (fun K hK => ?_)
       have hs75 : w74.cell? ⟨gb307, 4, none⟩ = some (.int .i64 0) := (blk_cell BK307.out 4).trans rfl
       have hfs75 := blk_frozen BK307.out 4
       have hns75_0 := NB306_307.out
       have hms75_0 := NB307_306.out
       refine skip_ (w1 := ?_) (by rfl) rfl ?_ ?_
       rotate_left
       ·go_simp
        rfl
       refine hK.out _ _ (f6e_ NB306_307 hHeld) (fun hHeld => ?_)
       clear hK K
       refine pv_' 6 46 (on_ 7 1) rfl rfl HT_ ?_
       refine one_ (i := 7) (N := none) (on_ 8 0) rfl rfl (one_of HT_.out (by kernel_rfl)) (by decide) (fun K hK => ?_)
       have hs76 : w74.cell? ⟨gb307, 5, none⟩ = some (.int .i64 0) := (blk_cell BK307.out 5).trans rfl
       have hfs76 := blk_frozen BK307.out 5
       have hns76_0 := NB306_307.out
       have hms76_0 := NB307_306.out
       refine skip_ (w1 := ?_) (by rfl) rfl ?_ ?_
       rotate_left
       ·go_simp
        rfl
       refine hK.out _ _ (f6e_ NB306_307 hHeld) (fun hHeld => ?_)
       clear hK K
       refine done_ (done_of HT_.out (by kernel_rfl)) ?_
       have hnb77 := NB306_307.out
       have hnc77 := NB307_306.out
       obtain ⟨hcz78_0, hcz78_1, hcz78_2, hcz78_3, hcz78_4, hcz78_5, hfz78_0, hfz78_1, hfz78_2, hfz78_3, hfz78_4, hfz78_5⟩ := bc6_ BK306
       try go_wp2_with (first | ((with_reducible refine gate_callee (f := 60) rfl ?_); refine goesL_ (some 49) rfl rfl Try.func60 (by kernel_rfl) rfl #[.int .i64 a0_4, .int .i64 0, .int .i64 8] rfl ar_ ?_; (with_reducible refine (impl_in.calls a0_4 0 8 false _ A52.out).mono ?_); rintro e w' ⟨rfl, ⟨nd, rfl⟩⟩; refine ⟨_, rfl, ?_⟩))
       go_ret
       exact ⟨re_, hz_ HB⟩
     ·rw [if_neg c51] at H
      have c51b0 : (a0_0 == 3) = false := beq_eq_false_iff_ne.mpr c51
      have c51b1 : (a0_0 != 3) = true := bne_iff_ne.mpr c51
      by_cases c79 : a0_0 = 5
      ·rw [if_pos c79] at H
       have c79b0 : (a0_0 == 5) = true := beq_iff_eq.mpr c79
       have c79b1 : (a0_0 != 5) = false := bne_eq_false_iff_eq.mpr c79
       clear c79
       replace H := Option.bind_eq_some_iff.mp H
       obtain ⟨t315, A800, H⟩ := H
       have A80 := Aside0.mk A800
       clear A800
       by_cases c81 : t315 = true
       ·subst c81
        rw [if_pos rfl] at H
        replace H := Option.bind_eq_some_iff.mp H
        obtain ⟨t316, A820, H⟩ := H
        have A82 := Aside0.mk A820
        clear A820
        by_cases c83 : t316 = true
        ·subst c83
         rw [if_pos rfl] at H
         replace H := Option.bind_eq_some_iff.mp H
         obtain ⟨t317, A840, H⟩ := H
         have A84 := Aside0.mk A840
         clear A840
         by_cases c85 : t317 = true
         ·subst c85
          rw [if_pos rfl] at H
          obtain rfl := Option.some.inj H
          try go_wp2
          replace BK306 := bd_ BK306
          replace BK307 := bd_ BK307
          replace HB := hd_ HB
          refine start_ (n := 8) (S := k6e_ gb306 (.int .i64 a0_0) (.int .i64 a0_1) (.string a0_2) (.string a0_3) (.int .i64 a0_4) (.int .i64 a0_5)) (ds := []) (on_ 0 8) (by kernel_rfl) rfl rfl (p6e_ BK306) (fun hHeld => ?_); refine with_tabW impl_RecOk.tab15 impl_RecOk.bits15 (fun HT_ HW_ => ?_)
          generalize wc.drew = w86 at BK306 BK307 HB hHeld ⊢
          refine pv_' 0 57 (on_ 1 7) rfl rfl HT_ ?_
          refine pv_' 2 59 #[i',o',i',o',o',o',o',o'] rfl rfl HT_ ?_
          refine take_ (i := 1) (N := some 58) (v := ?_) (a' := ?_) (on_ 3 5) rfl rfl (take_ofW HT_.out HW_.out (by kernel_rfl)) (fun _ _ _ h => h) (Or.inl ⟨by rfl, ?_⟩) hHeld ?_ ?_
          rotate_left
          ·rintro w' ⟨s0, s1, s2, s3, s4, s5⟩
           go_simp
           with_reducible rfl
          rotate_left
          ·simp only [Act.put, la_, lz_, ls_, i64_w, i32_w]
           rfl
          refine pv_' 4 61 #[i',i',i',o',i',o',o',o'] rfl rfl HT_ ?_
          refine take_ (i := 3) (N := some 60) (v := ?_) (a' := ?_) (on_ 5 3) rfl rfl (take_ofW HT_.out HW_.out (by kernel_rfl)) (fun _ _ _ h => h) (Or.inl ⟨by rfl, ?_⟩) hHeld ?_ ?_
          rotate_left
          ·rintro w' ⟨s0, s1, s2, s3, s4, s5⟩
           go_simp
           with_reducible rfl
          rotate_left
          ·simp only [Act.put, la_, lz_, ls_, i64_w, i32_w]
           rfl
          refine one_ (i := 5) (N := none) (on_ 6 2) rfl rfl (one_of HT_.out (by kernel_rfl)) (by decide) (fun K hK => ?_)
          have hs87 : w86.cell? ⟨gb307, 4, none⟩ = some (.int .i64 0) := (blk_cell BK307.out 4).trans rfl
          have hfs87 := blk_frozen BK307.out 4
          have hns87_0 := NB306_307.out
          have hms87_0 := NB307_306.out
          refine skip_ (w1 := ?_) (by rfl) rfl ?_ ?_
          rotate_left
          ·go_simp
           rfl
          refine hK.out _ _ (f6e_ NB306_307 hHeld) (fun hHeld => ?_)
          clear hK K
          refine pv_' 6 62 (on_ 7 1) rfl rfl HT_ ?_
          refine one_ (i := 7) (N := none) (on_ 8 0) rfl rfl (one_of HT_.out (by kernel_rfl)) (by decide) (fun K hK => ?_)
          have hs88 : w86.cell? ⟨gb307, 5, none⟩ = some (.int .i64 0) := (blk_cell BK307.out 5).trans rfl
          have hfs88 := blk_frozen BK307.out 5
          have hns88_0 := NB306_307.out
          have hms88_0 := NB307_306.out
          refine skip_ (w1 := ?_) (by rfl) rfl ?_ ?_
          rotate_left
          ·go_simp
           rfl
          refine hK.out _ _ (f6e_ NB306_307 hHeld) (fun hHeld => ?_)
          clear hK K
          refine done_ (done_of HT_.out (by kernel_rfl)) ?_
          have hnb89 := NB306_307.out
          have hnc89 := NB307_306.out
          obtain ⟨hcz90_0, hcz90_1, hcz90_2, hcz90_3, hcz90_4, hcz90_5, hfz90_0, hfz90_1, hfz90_2, hfz90_3, hfz90_4, hfz90_5⟩ := bc6_ BK306
          try go_wp2_with (first | ((with_reducible refine gate_callee (f := 60) rfl ?_); refine goesL_ (some 65) rfl rfl Try.func60 (by kernel_rfl) rfl #[.int .i64 a0_4, .int .i64 0, .int .i64 20] rfl ar_ ?_; (with_reducible refine (impl_in.calls a0_4 0 20 true _ A80.out).mono ?_); rintro e w' ⟨rfl, ⟨nd, rfl⟩⟩; refine ⟨_, rfl, ?_⟩) | (go_at_call 60; (with_reducible refine (impl_in.calls a0_5 0 4294967295 true _ A82.out).mono ?_); rintro e w' ⟨rfl, ⟨nd, rfl⟩⟩) | (go_at_call 60; (with_reducible refine (impl_in.calls a0_1 0 1000000 true _ A84.out).mono ?_); rintro e w' ⟨rfl, ⟨nd, rfl⟩⟩; obtain ⟨hcz91_0, hcz91_1, hcz91_2, hcz91_3, hcz91_4, hcz91_5, hfz91_0, hfz91_1, hfz91_2, hfz91_3, hfz91_4, hfz91_5⟩ := bc6_ BK307))
          go_ret
          exact ⟨re_, hz_ HB⟩
         ·replace c85 := Bool.eq_false_iff.mpr c85
          subst c85
          rw [if_neg ff_] at H
          obtain rfl := Option.some.inj H
          try go_wp2
          replace BK306 := bd_ BK306
          replace BK307 := bd_ BK307
          replace HB := hd_ HB
          refine start_ (n := 8) (S := k6e_ gb306 (.int .i64 a0_0) (.int .i64 a0_1) (.string a0_2) (.string a0_3) (.int .i64 a0_4) (.int .i64 a0_5)) (ds := []) (on_ 0 8) (by kernel_rfl) rfl rfl (p6e_ BK306) (fun hHeld => ?_); refine with_tabW impl_RecOk.tab15 impl_RecOk.bits15 (fun HT_ HW_ => ?_)
          generalize wc.drew = w92 at BK306 BK307 HB hHeld ⊢
          refine pv_' 0 57 (on_ 1 7) rfl rfl HT_ ?_
          refine pv_' 2 59 #[i',o',i',o',o',o',o',o'] rfl rfl HT_ ?_
          refine take_ (i := 1) (N := some 58) (v := ?_) (a' := ?_) (on_ 3 5) rfl rfl (take_ofW HT_.out HW_.out (by kernel_rfl)) (fun _ _ _ h => h) (Or.inl ⟨by rfl, ?_⟩) hHeld ?_ ?_
          rotate_left
          ·rintro w' ⟨s0, s1, s2, s3, s4, s5⟩
           go_simp
           with_reducible rfl
          rotate_left
          ·simp only [Act.put, la_, lz_, ls_, i64_w, i32_w]
           rfl
          refine pv_' 4 61 #[i',i',i',o',i',o',o',o'] rfl rfl HT_ ?_
          refine take_ (i := 3) (N := some 60) (v := ?_) (a' := ?_) (on_ 5 3) rfl rfl (take_ofW HT_.out HW_.out (by kernel_rfl)) (fun _ _ _ h => h) (Or.inl ⟨by rfl, ?_⟩) hHeld ?_ ?_
          rotate_left
          ·rintro w' ⟨s0, s1, s2, s3, s4, s5⟩
           go_simp
           with_reducible rfl
          rotate_left
          ·simp only [Act.put, la_, lz_, ls_, i64_w, i32_w]
           rfl
          refine one_ (i := 5) (N := none) (on_ 6 2) rfl rfl (one_of HT_.out (by kernel_rfl)) (by decide) (fun K hK => ?_)
          have hs93 : w92.cell? ⟨gb307, 4, none⟩ = some (.int .i64 0) := (blk_cell BK307.out 4).trans rfl
          have hfs93 := blk_frozen BK307.out 4
          have hns93_0 := NB306_307.out
          have hms93_0 := NB307_306.out
          refine skip_ (w1 := ?_) (by rfl) rfl ?_ ?_
          rotate_left
          ·go_simp
           rfl
          refine hK.out _ _ (f6e_ NB306_307 hHeld) (fun hHeld => ?_)
          clear hK K
          refine pv_' 6 62 (on_ 7 1) rfl rfl HT_ ?_
          refine one_ (i := 7) (N := none) (on_ 8 0) rfl rfl (one_of HT_.out (by kernel_rfl)) (by decide) (fun K hK => ?_)
          have hs94 : w92.cell? ⟨gb307, 5, none⟩ = some (.int .i64 0) := (blk_cell BK307.out 5).trans rfl
          have hfs94 := blk_frozen BK307.out 5
          have hns94_0 := NB306_307.out
          have hms94_0 := NB307_306.out
          refine skip_ (w1 := ?_) (by rfl) rfl ?_ ?_
          rotate_left
          ·go_simp
           rfl
          refine hK.out _ _ (f6e_ NB306_307 hHeld) (fun hHeld => ?_)
          clear hK K
          refine done_ (done_of HT_.out (by kernel_rfl)) ?_
          have hnb95 := NB306_307.out
          have hnc95 := NB307_306.out
          obtain ⟨hcz96_0, hcz96_1, hcz96_2, hcz96_3, hcz96_4, hcz96_5, hfz96_0, hfz96_1, hfz96_2, hfz96_3, hfz96_4, hfz96_5⟩ := bc6_ BK306
          try go_wp2_with (first | ((with_reducible refine gate_callee (f := 60) rfl ?_); refine goesL_ (some 65) rfl rfl Try.func60 (by kernel_rfl) rfl #[.int .i64 a0_4, .int .i64 0, .int .i64 20] rfl ar_ ?_; (with_reducible refine (impl_in.calls a0_4 0 20 true _ A80.out).mono ?_); rintro e w' ⟨rfl, ⟨nd, rfl⟩⟩; refine ⟨_, rfl, ?_⟩) | (go_at_call 60; (with_reducible refine (impl_in.calls a0_5 0 4294967295 true _ A82.out).mono ?_); rintro e w' ⟨rfl, ⟨nd, rfl⟩⟩) | (go_at_call 60; (with_reducible refine (impl_in.calls a0_1 0 1000000 false _ A84.out).mono ?_); rintro e w' ⟨rfl, ⟨nd, rfl⟩⟩))
          go_ret
          exact ⟨re_, hz_ HB⟩
        ·replace c83 := Bool.eq_false_iff.mpr c83
         subst c83
         rw [if_neg ff_] at H
         obtain rfl := Option.some.inj H
         try go_wp2
         replace BK306 := bd_ BK306
         replace BK307 := bd_ BK307
         replace HB := hd_ HB
         refine start_ (n := 8) (S := k6e_ gb306 (.int .i64 a0_0) (.int .i64 a0_1) (.string a0_2) (.string a0_3) (.int .i64 a0_4) (.int .i64 a0_5)) (ds := []) (on_ 0 8) (by kernel_rfl) rfl rfl (p6e_ BK306) (fun hHeld => ?_); refine with_tabW impl_RecOk.tab15 impl_RecOk.bits15 (fun HT_ HW_ => ?_)
         generalize wc.drew = w97 at BK306 BK307 HB hHeld ⊢
         refine pv_' 0 57 (on_ 1 7) rfl rfl HT_ ?_
         refine pv_' 2 59 #[i',o',i',o',o',o',o',o'] rfl rfl HT_ ?_
         refine take_ (i := 1) (N := some 58) (v := ?_) (a' := ?_) (on_ 3 5) rfl rfl (take_ofW HT_.out HW_.out (by kernel_rfl)) (fun _ _ _ h => h) (Or.inl ⟨by rfl, ?_⟩) hHeld ?_ ?_
         rotate_left
         ·rintro w' ⟨s0, s1, s2, s3, s4, s5⟩
          go_simp
          with_reducible rfl
         rotate_left
         ·simp only [Act.put, la_, lz_, ls_, i64_w, i32_w]
          rfl
         refine pv_' 4 61 #[i',i',i',o',i',o',o',o'] rfl rfl HT_ ?_
         refine take_ (i := 3) (N := some 60) (v := ?_) (a' := ?_) (on_ 5 3) rfl rfl (take_ofW HT_.out HW_.out (by kernel_rfl)) (fun _ _ _ h => h) (Or.inl ⟨by rfl, ?_⟩) hHeld ?_ ?_
         rotate_left
         ·rintro w' ⟨s0, s1, s2, s3, s4, s5⟩
          go_simp
          with_reducible rfl
         rotate_left
         ·simp only [Act.put, la_, lz_, ls_, i64_w, i32_w]
          rfl
         refine one_ (i := 5) (N := none) (on_ 6 2) rfl rfl (one_of HT_.out (by kernel_rfl)) (by decide) (fun K hK => ?_)
         have hs98 : w97.cell? ⟨gb307, 4, none⟩ = some (.int .i64 0) := (blk_cell BK307.out 4).trans rfl
         have hfs98 := blk_frozen BK307.out 4
         have hns98_0 := NB306_307.out
         have hms98_0 := NB307_306.out
         refine skip_ (w1 := ?_) (by rfl) rfl ?_ ?_
         rotate_left
         ·go_simp
          rfl
         refine hK.out _ _ (f6e_ NB306_307 hHeld) (fun hHeld => ?_)
         clear hK K
         refine pv_' 6 62 (on_ 7 1) rfl rfl HT_ ?_
         refine one_ (i := 7) (N := none) (on_ 8 0) rfl rfl (one_of HT_.out (by kernel_rfl)) (by decide) (fun K hK => ?_)
         have hs99 : w97.cell? ⟨gb307, 5, none⟩ = some (.int .i64 0) := (blk_cell BK307.out 5).trans rfl
         have hfs99 := blk_frozen BK307.out 5
         have hns99_0 := NB306_307.out
         have hms99_0 := NB307_306.out
         refine skip_ (w1 := ?_) (by rfl) rfl ?_ ?_
         rotate_left
         ·go_simp
          rfl
         refine hK.out _ _ (f6e_ NB306_307 hHeld) (fun hHeld => ?_)
         clear hK K
         refine done_ (done_of HT_.out (by kernel_rfl)) ?_
         have hnb100 := NB306_307.out
         have hnc100 := NB307_306.out
         obtain ⟨hcz101_0, hcz101_1, hcz101_2, hcz101_3, hcz101_4, hcz101_5, hfz101_0, hfz101_1, hfz101_2, hfz101_3, hfz101_4, hfz101_5⟩ := bc6_ BK306
         try go_wp2_with (first | ((with_reducible refine gate_callee (f := 60) rfl ?_); refine goesL_ (some 65) rfl rfl Try.func60 (by kernel_rfl) rfl #[.int .i64 a0_4, .int .i64 0, .int .i64 20] rfl ar_ ?_; (with_reducible refine (impl_in.calls a0_4 0 20 true _ A80.out).mono ?_); rintro e w' ⟨rfl, ⟨nd, rfl⟩⟩; refine ⟨_, rfl, ?_⟩) | (go_at_call 60; (with_reducible refine (impl_in.calls a0_5 0 4294967295 false _ A82.out).mono ?_); rintro e w' ⟨rfl, ⟨nd, rfl⟩⟩))
         go_ret
         exact ⟨re_, hz_ HB⟩
       ·replace c81 := Bool.eq_false_iff.mpr c81
        subst c81
        rw [if_neg ff_] at H
        obtain rfl := Option.some.inj H
        try go_wp2
        replace BK306 := bd_ BK306
        replace BK307 := bd_ BK307
        replace HB := hd_ HB
        refine start_ (n := 8) (S := k6e_ gb306 (.int .i64 a0_0) (.int .i64 a0_1) (.string a0_2) (.string a0_3) (.int .i64 a0_4) (.int .i64 a0_5)) (ds := []) (on_ 0 8) (by kernel_rfl) rfl rfl (p6e_ BK306) (fun hHeld => ?_); refine with_tabW impl_RecOk.tab15 impl_RecOk.bits15 (fun HT_ HW_ => ?_)
        generalize wc.drew = w102 at BK306 BK307 HB hHeld ⊢
        refine pv_' 0 57 (on_ 1 7) rfl rfl HT_ ?_
        refine pv_' 2 59 #[i',o',i',o',o',o',o',o'] rfl rfl HT_ ?_
        refine take_ (i := 1) (N := some 58) (v := ?_) (a' := ?_) (on_ 3 5) rfl rfl (take_ofW HT_.out HW_.out (by kernel_rfl)) (fun _ _ _ h => h) (Or.inl ⟨by rfl, ?_⟩) hHeld ?_ ?_
        rotate_left
        ·rintro w' ⟨s0, s1, s2, s3, s4, s5⟩
         go_simp
         with_reducible rfl
        rotate_left
        ·simp only [Act.put, la_, lz_, ls_, i64_w, i32_w]
         rfl
        refine pv_' 4 61 #[i',i',i',o',i',o',o',o'] rfl rfl HT_ ?_
        refine take_ (i := 3) (N := some 60) (v := ?_) (a' := ?_) (on_ 5 3) rfl rfl (take_ofW HT_.out HW_.out (by kernel_rfl)) (fun _ _ _ h => h) (Or.inl ⟨by rfl, ?_⟩) hHeld ?_ ?_
        rotate_left
        ·rintro w' ⟨s0, s1, s2, s3, s4, s5⟩
         go_simp
         with_reducible rfl
        rotate_left
        ·simp only [Act.put, la_, lz_, ls_, i64_w, i32_w]
         rfl
        refine one_ (i := 5) (N := none) (on_ 6 2) rfl rfl (one_of HT_.out (by kernel_rfl)) (by decide) (fun K hK => ?_)
        have hs103 : w102.cell? ⟨gb307, 4, none⟩ = some (.int .i64 0) := (blk_cell BK307.out 4).trans rfl
        have hfs103 := blk_frozen BK307.out 4
        have hns103_0 := NB306_307.out
        have hms103_0 := NB307_306.out
        refine skip_ (w1 := ?_) (by rfl) rfl ?_ ?_
        rotate_left
        ·go_simp
         rfl
        refine hK.out _ _ (f6e_ NB306_307 hHeld) (fun hHeld => ?_)
        clear hK K
        refine pv_' 6 62 (on_ 7 1) rfl rfl HT_ ?_
        refine one_ (i := 7) (N := none) (on_ 8 0) rfl rfl (one_of HT_.out (by kernel_rfl)) (by decide) (fun K hK => ?_)
        have hs104 : w102.cell? ⟨gb307, 5, none⟩ = some (.int .i64 0) := (blk_cell BK307.out 5).trans rfl
        have hfs104 := blk_frozen BK307.out 5
        have hns104_0 := NB306_307.out
        have hms104_0 := NB307_306.out
        refine skip_ (w1 := ?_) (by rfl) rfl ?_ ?_
        rotate_left
        ·go_simp
         rfl
        refine hK.out _ _ (f6e_ NB306_307 hHeld) (fun hHeld => ?_)
        clear hK K
        refine done_ (done_of HT_.out (by kernel_rfl)) ?_
        have hnb105 := NB306_307.out
        have hnc105 := NB307_306.out
        obtain ⟨hcz106_0, hcz106_1, hcz106_2, hcz106_3, hcz106_4, hcz106_5, hfz106_0, hfz106_1, hfz106_2, hfz106_3, hfz106_4, hfz106_5⟩ := bc6_ BK306
        try go_wp2_with (first | ((with_reducible refine gate_callee (f := 60) rfl ?_); refine goesL_ (some 65) rfl rfl Try.func60 (by kernel_rfl) rfl #[.int .i64 a0_4, .int .i64 0, .int .i64 20] rfl ar_ ?_; (with_reducible refine (impl_in.calls a0_4 0 20 false _ A80.out).mono ?_); rintro e w' ⟨rfl, ⟨nd, rfl⟩⟩; refine ⟨_, rfl, ?_⟩))
        go_ret
        exact ⟨re_, hz_ HB⟩
      ·rw [if_neg c79] at H
       have c79b0 : (a0_0 == 5) = false := beq_eq_false_iff_ne.mpr c79
       have c79b1 : (a0_0 != 5) = true := bne_iff_ne.mpr c79
       rw [if_neg ff_] at H
       obtain rfl := Option.some.inj H
       go_wp2
       go_ret
       exact ⟨re_, hz_ HB⟩

end Go.Proofs.Ytcnmdjibogojnaa.PFnExactRegroup
