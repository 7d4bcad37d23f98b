-- Laid by a program of this session, a copy of the kit's printer with additions (wip/patch_print.py): myhead. Lean checks it.
import Derived.Test.YtcnmdjibogojnaaPFnExactRegroupx0
import Derived.Test.YtcnmdjibogojnaaPFnExactRegroupx3
import Derived.Test.YtcnmdjibogojnaaPFnExactRegroupx7
import Derived.Test.YtcnmdjibogojnaaPFnExactRegroupx8
namespace Go.Proofs.Ytcnmdjibogojnaa.PFnExactRegroup
open Go.RowKit Go.Proofs.YtcnmdjibogojnaaW.PrintWords Go.Proofs.YtcnmdjibogojnaaW.PrintLast Go.Proofs.YtcnmdjibogojnaaW.PrintMore
attribute [local go_sem] max2_int min2_int max_two min_two max_three min_three max_four min_four   -- for this text's walks alone
set_option linter.unusedVariables false
set_option linter.unusedSimpArgs false

/-! ### spec_Regroup: function 6 -/
mutual
def spec_Regroup.l0 : Nat → List (S48) → Int → List (S71) → Int → Int → Option ((List (S71)) × Int × Int)
 | 0, _, _, _, _, _ => none
 | k + 1, x1, x6, x230000, x230001, x230002 => if x6 < (x1.length : Int) then (spec_Regroup.j1 k x1 x6 (x230002 == 0) x230000 x230001 x230002) else (spec_Regroup.j1 k x1 x6 false x230000 x230001 x230002)
def spec_Regroup.j1 : Nat → List (S48) → Int → Bool → List (S71) → Int → Int → Option ((List (S71)) × Int × Int)
 | 0, _, _, _, _, _, _ => none
 | k + 1, x1, x6, x27, x230000, x230001, x230002 => if x27 = true then (if 0 ≤ x6 then (if x6 < (x1.length : Int) then (if ((rd_T48 x1 x6).f3.f0) = 3 then ((spec_l9Of.f k x1 x6 ((rd_T48 x1 x6).f3.f1)).bind fun t235 => ((spec_l9Fits.f k ((rd_T48 x1 x6).f3.f0) ((rd_T48 x1 x6).f3.f1) ((rd_T48 x1 x6).f3.f2) ((rd_T48 x1 x6).f3.f3) ((rd_T48 x1 x6).f3.f4) ((rd_T48 x1 x6).f3.f5) t235).bind fun t238 => (if t238 = true then (spec_Regroup.j2 k x1 x6 t235 x230000 (mx x230001 ((rd_T48 x1 x6).f3.f1)) x230002) else (spec_Regroup.l0 k x1 (wrap64 (x6 + 1)) x230000 (mx x230001 ((rd_T48 x1 x6).f3.f1)) x230002)))) else (if ((rd_T48 x1 x6).f3.f0) = 5 then ((spec_l9Kept.f k x1 x6).bind fun t239 => ((spec_l9Fits.f k ((rd_T48 x1 x6).f3.f0) ((rd_T48 x1 x6).f3.f1) ((rd_T48 x1 x6).f3.f2) ((rd_T48 x1 x6).f3.f3) ((rd_T48 x1 x6).f3.f4) ((rd_T48 x1 x6).f3.f5) t239).bind fun t242 => (if t242 = true then (spec_Regroup.j2 k x1 x6 t239 x230000 (mx x230001 ((rd_T48 x1 x6).f3.f1)) x230002) else (spec_Regroup.l0 k x1 (wrap64 (x6 + 1)) x230000 (mx x230001 ((rd_T48 x1 x6).f3.f1)) 1)))) else (spec_Regroup.l0 k x1 (wrap64 (x6 + 1)) x230000 (mx x230001 ((rd_T48 x1 x6).f3.f1)) x230002))) else (none)) else (none)) else (if x230002 = 0 then ((spec_l9Kept.f k x1 (x1.length : Int)).bind fun t247 => (if (t247.length : Int) > 0 then (some (x230000, x230001, 1)) else (some (x230000, x230001, x230002)))) else (some (x230000, x230001, x230002)))
def spec_Regroup.j2 : Nat → List (S48) → Int → List (S48) → List (S71) → Int → Int → Option ((List (S71)) × Int × Int)
 | 0, _, _, _, _, _, _ => none
 | k + 1, x1, x6, x8, x230000, x230001, x230002 => spec_Regroup.l1 k x1 x6 x8 0 x230000 x230001 x230002
def spec_Regroup.l1 : Nat → List (S48) → Int → List (S48) → Int → List (S71) → Int → Int → Option ((List (S71)) × Int × Int)
 | 0, _, _, _, _, _, _, _ => none
 | k + 1, x1, x6, x8, x9, x230000, x230001, x230002 => if x9 < (x8.length : Int) then (if 0 ≤ x9 then ((spec_l9Put.f k x230000 ((rd_T48 x8 x9).f0) ((rd_T48 x8 x9).f1) ((rd_T48 x8 x9).f2) ((rd_T48 x8 x9).f3.f0) ((rd_T48 x8 x9).f3.f1) ((rd_T48 x8 x9).f3.f2) ((rd_T48 x8 x9).f3.f3) ((rd_T48 x8 x9).f3.f4) ((rd_T48 x8 x9).f3.f5)).bind fun t244 => (spec_Regroup.l1 k x1 x6 x8 (wrap64 (x9 + 1)) t244 x230001 x230002)) else (none)) else (if (x230000.length : Int) > 20 then (spec_Regroup.l0 k x1 (wrap64 (x6 + 1)) x230000 x230001 2) else (spec_Regroup.l0 k x1 (wrap64 (x6 + 1)) x230000 x230001 x230002))
end
def spec_Regroup.f (k : Nat) (l0_0 : List (S71)) (a0_1 : Int) (a0_2 : Int) (l1 : List (S48)) : Option ((List (S71)) × Int × Int) := (some (([] : List (S71)) : List (S71))).bind fun y223 => (if y223.length + l0_0.length < 2932031007402 then (spec_Regroup.l0 k l1 0 (y223 ++ l0_0) a0_1 a0_2) else (none))
def spec_Regroup.T1 : Bool × List (List Nat × List Nat) := (true, [([], []), ([], []), ([1], [1]), ([0, 2], [0, 2]), ([], []), ([4], [4]), ([], []), ([6], [6]), ([3, 5, 7], [3, 5, 7]), ([], []), ([9, 8, 3, 0, 1, 2, 3, 4, 5, 6, 7, 8, 9], [8, 9])])
def spec_Regroup.B1 : List Nat := [0, 0, 2, 7, 0, 16, 0, 64, 255, 0, 1023]
theorem spec_Regroup.tab1 : rtab .any (opsOf Try.f6 1) = spec_Regroup.T1 := by kernel_rfl
theorem spec_Regroup.bits1 : waitsOk spec_Regroup.T1.2 spec_Regroup.B1 = true := by kernel_rfl
def spec_Regroup.T19 : Bool × List (List Nat × List Nat) := (true, [([], []), ([0], [0]), ([], []), ([], []), ([2, 3], [2, 3]), ([4], [4]), ([1, 5], [1, 5]), ([0, 1, 2, 3, 4, 5, 6], []), ([7, 6, 6, 0, 1, 2, 3, 4, 5, 6], [6, 7])])
def spec_Regroup.B19 : List Nat := [0, 1, 0, 0, 12, 28, 63, 127, 255]
theorem spec_Regroup.tab19 : rtab .any (opsOf Try.f6 19) = spec_Regroup.T19 := by kernel_rfl
theorem spec_Regroup.bits19 : waitsOk spec_Regroup.T19.2 spec_Regroup.B19 = true := by kernel_rfl
set_option maxHeartbeats 80000000 in
set_option maxRecDepth 100000 in
theorem spec_Regroup.calls (k : Nat) (A0_0 : Option Addr) (c0_0 : Nat) (l0_0 : List (S71)) (a0_1 : Int) (a0_2 : Int) (A1 : Option Addr) (c1 : Nat) (l1 : List (S48)) (r1 : List (S71)) (r2 : Int) (r3 : Int) (w : World) (hr0_0 : Kd.C k71 w A0_0 l0_0.length l0_0) (hc0_0 : l0_0.length ≤ c0_0) (hr1 : Kd.C k48 w A1 l1.length l1) (hc1 : l1.length ≤ c1) (h : spec_Regroup.f k l0_0 a0_1 a0_2 l1 = some (r1, r2, r3)) :
  Calls Try.prog 6 #[.agg #[.slice A0_0 l0_0.length c0_0, .int .i64 a0_1, .int .i64 a0_2], .slice A1 l1.length c1] w fun e w' => ∃ v0_ : Value, e = .returned (.agg #[v0_, .int .i64 r2, .int .i64 r3]) ∧ Kd.R k71 71 w' w.heap.size (fun _ => True) v0_ r1 ∧ Below w.heap.size w w' := by
 have hu30 := Try.underlying30
 have hu46 := Try.underlying46
 have hu48 := Try.underlying48
 have HR0_0 := Aside0.mk hr0_0
 have HC0_0 := Aside0.mk hc0_0
 clear hr0_0 hc0_0
 have HR1 := Aside0.mk hr1
 have HC1 := Aside0.mk hc1
 clear hr1 hc1
 have HB := Aside0.mk (Below.refl w.heap.size w)
 unfold spec_Regroup.f at h; have H := h
 clear h
 obtain ⟨y223, hy223, H⟩ := ov_ H
 have Ny223 := Aside0.mk hy223
 clear hy223
 by_cases c3 : y223.length + l0_0.length < 2932031007402
 ·rw [if_pos c3] at H
  have LMc3 := Aside0.mk c3
  clear c3
  obtain ⟨y226, hy226⟩ : ∃ y_ : List (S71), y_ = (y223 ++ l0_0) := ⟨_, rfl⟩
  rw [← hy226] at H
  have Ny226 := Aside0.mk hy226
  clear hy226
  have H' := Aside0.mk H
  clear H
  go_enter Try.func6, Try.ntmps6
  try go_wp2_with (first | ((with_reducible refine gate_dst (N := 2) rfl ?_); (try (refine gate_guard (by rfl) ?_; dsimp only)); refine box_event ?hg (N := 2) ?hd (cs := #[.slice A0_0 l0_0.length c0_0, .int .i64 a0_1, .int .i64 a0_2]) (t := 30) ?hr ?_; (case hd => rfl); (case hg => rfl); (case hr => first | (go_simp; done) | (go_simp; rfl)); intro gb221 hg w4 hbox hb; have BK221 := Aside0.mk (hbox); have GE221 := ge_ hg (hb_ HB); replace HB := bs_ HB hb; clear hb hbox hg) | ((with_reducible refine gate_dst (N := 4) rfl ?_); (try (refine gate_guard (by rfl) ?_; dsimp only)); refine box_event ?hg (N := 4) ?hd (cs := #[.slice none 0 0, .int .i64 0, .int .i64 0]) (t := 30) ?hr ?_; (case hd => rfl); (case hg => rfl); (case hr => first | (go_simp; done) | (go_simp; rfl)); intro gb222 hg w5 hbox hb; have BK222 := Aside0.mk (hbox); have GE222 := ge_ hg (hs_ HB GE221); replace HB := bt_ HB GE221 hb; have NB221_222 := nl_ BK221 hg; have NB222_221 := ng_ BK221 hg; replace BK221 := bb_ BK221 hb; clear hb hbox hg))
  replace BK221 := bd_ BK221
  replace BK222 := bd_ BK222
  replace HB := hd_ HB
  refine start_ (n := 11) (S := k3e_ gb221 (.slice A0_0 l0_0.length c0_0) (.int .i64 a0_1) (.int .i64 a0_2)) (ds := []) (on_ 0 11) (by kernel_rfl) rfl rfl (p3e_ BK221) (fun hHeld => ?_); refine with_tabW spec_Regroup.tab1 spec_Regroup.bits1 (fun HT_ HW_ => ?_)
  generalize w5.drew = w6 at BK221 BK222 HB hHeld ⊢
  refine pv_' 1 11 #[o',i',o',o',o',o',o',o',o',o',o'] rfl rfl HT_ ?_
  refine pv_' 4 14 #[o',i',o',o',i',o',o',o',o',o',o'] rfl rfl HT_ ?_
  refine pv_' 6 16 #[o',i',o',o',i',o',i',o',o',o',o'] rfl rfl HT_ ?_
  refine take_ (i := 2) (N := some 12) (v := ?_) (a' := ?_) #[o',i',i',o',i',o',i',o',o',o',o'] rfl rfl (take_ofW HT_.out HW_.out (by kernel_rfl)) (fun _ _ _ h => h) (Or.inl ⟨by rfl, ?_⟩) hHeld ?_ ?_
  rotate_left
  ·rintro w' ⟨s0, s1, s2⟩
   go_simp
   with_reducible rfl
  rotate_left
  ·simp only [Act.put, la_, lz_, ls_, i64_w, i32_w]
   rfl
  refine take_ (i := 5) (N := some 15) (v := ?_) (a' := ?_) #[o',i',i',o',i',i',i',o',o',o',o'] rfl rfl (take_ofW HT_.out HW_.out (by kernel_rfl)) (fun _ _ _ h => h) (Or.inl ⟨by rfl, ?_⟩) hHeld ?_ ?_
  rotate_left
  ·rintro w' ⟨s0, s1, s2⟩
   go_simp
   with_reducible rfl
  rotate_left
  ·simp only [Act.put, la_, lz_, ls_, i64_w, i32_w]
   rfl
  refine take_ (i := 7) (N := some 17) (v := ?_) (a' := ?_) #[o',i',i',o',i',i',i',i',o',o',o'] rfl rfl (take_ofW HT_.out HW_.out (by kernel_rfl)) (fun _ _ _ h => h) (Or.inl ⟨by rfl, ?_⟩) hHeld ?_ ?_
  rotate_left
  ·rintro w' ⟨s0, s1, s2⟩
   go_simp
   with_reducible rfl
  rotate_left
  ·simp only [Act.put, la_, lz_, ls_, i64_w, i32_w]
   rfl
  refine join_ (σ := Value × Value × Nat) 1 (on_ 10 1) (fun s_ => [(10, s_.1), (13, s_.2.1), (5, .pointer (some ⟨s_.2.2, 0, none⟩)), (18, .agg #[s_.2.1, .int .i64 a0_1, .int .i64 a0_2])]) (fun s_ w' => (w'.cell? ⟨gb221, 0, none⟩ = some (.slice A0_0 l0_0.length c0_0) ∧ w'.cell? ⟨gb221, 1, none⟩ = some (.int .i64 a0_1) ∧ w'.cell? ⟨gb221, 2, none⟩ = some (.int .i64 a0_2)) ∧ (Kd.R k71 71 w' w.heap.size (fun _ => True) s_.2.1 y226) ∧ (w'.heap[gb221]? = some (.cells #[.slice A0_0 l0_0.length c0_0, .int .i64 a0_1, .int .i64 a0_2] 30 (0, 0))) ∧ (w'.heap[gb222]? = some (.cells #[.slice none 0 0, .int .i64 0, .int .i64 0] 30 (0, 0))) ∧ (w'.heap[s_.2.2]? = some (.cells #[.slice none 0 0, .int .i64 0, .int .i64 0] 30 (0, 0))) ∧ (w.heap.size ≤ s_.2.2) ∧ (w.heap.size ≤ s_.2.2) ∧ (gb221 ≠ s_.2.2) ∧ (s_.2.2 ≠ gb221) ∧ (gb222 ≠ s_.2.2) ∧ (s_.2.2 ≠ gb222) ∧ (Below w.heap.size w w')) ?_ ?_
  rotate_left
  ·intro hCont
   refine two_ (i := 0) (j := 9) (Ni := some 10) (Nj := some 5) #[i',i',i',o',i',i',i',i',o',o',o'] #[o',i',i',o',i',i',i',i',o',i',o'] rfl rfl rfl rfl (two_of HT_.out (by kernel_rfl)) (by decide) (by decide) (fun K hK => ?_) (fun K hK => ?_)
   ·skip
    refine Kd.R_lit_step k71 _ 71 ?hg (N := 10) ?hd (xs := ([] : List (S71))) (inner := []) (ok := fun _ => True) (okp := fun _ => True) ?hr ?hp (fun _ hk => hk) trivial (Below.refl _ _) (Nat.le_refl _) (by simp) ?_; (case hd => rfl); (case hg => rfl); (case hr => first | (go_simp; done) | (go_simp; rfl)); (case hp => exact (Reps.none _ _))
    intro v224 w7 ho8 hb hg_ hnew_
    clear hg_ hnew_
    (first | rw [← Ny223.out] at ho8 | (simp only [Int.reduceToNat] at ho8; rw [← Ny223.out] at ho8))
    have HO225 := Aside0.mk (Kd.R_lower ho8 (below_size (hu_ HB GE221 GE222)))
    replace BK221 := bb_ BK221 hb
    replace BK222 := bb_ BK222 hb
    replace HB := bu_ HB GE221 GE222 hb
    clear hb ho8
    refine hK.out _ _ (p3e_ BK221) (fun hHeld => ?_)
    clear hK K
    refine norm_ (a' := ?_) ?_ ?_
    rotate_left
    ·show Act.put _ (some 10) _ = _
     simp only [Act.put, la_, lz_, ls_, i64_w, i32_w]
     rfl
    refine two_ (i := 3) (j := 9) (Ni := some 13) (Nj := some 5) (on_ 8 3) #[i',i',i',o',i',i',i',i',o',i',o'] rfl rfl rfl rfl (two_of HT_.out (by kernel_rfl)) (by decide) (by decide) (fun K hK => ?_) (fun K hK => ?_)
    ·skip
     refine Kd.R_append_rows_step k71 (w0 := w) w.heap.size (by rfl) (.tmp 10) (.tmp 12) 28 71 (.agg #[(.string ⟨#[]⟩), (.int .i64 0), (.int .i64 0), (.int .i64 0), (.int .i64 0)]) 48 rfl Try.underlying28 info71 rfl (by decide) (by omega) v224 y223 l0_0 _ _ _ (fun _ => True) (fun _ => False) rfl rfl ?aO ?aR (fun _ _ h => h) (fun _ h => h.elim) ?aF ?aB ?aS ?aL ?_
     (case aR => repeat (first | exact (Kd.C_below HR0_0.out HB.out) | (with_reducible refine Kd.C_alloc ?_ _) | (with_reducible refine Kd.C_drewN ?_ _) | (with_reducible refine Kd.C_drew ?_)))
     (case aB => exact (hu_ HB GE221 GE222))
     (case aF => exact (fun _ _ => trivial))
     (case aO => exact (rr_ HO225))
     (case aS => exact (below_size (hu_ HB GE221 GE222)))
     (case aL => have := LMc3.out; omega)
     intro v227 w9 ho hb hg hat
     rw [← Ny226.out] at ho
     replace BK221 := bg_ BK221 hg (Kd.R_ne HO225.out BK221.out (by decide))
     replace BK222 := bg_ BK222 hg (Kd.R_ne HO225.out BK222.out (by decide))
     replace HB := Aside0.mk (hb)
     have HO228 := Aside0.mk (ho)
     clear HO225
     clear ho hb hg hat
     obtain ⟨Ao10, co10, eo10⟩ := Kd.R_slice HO228.out
     (first | subst eo10 | (injection eo10 with f1_ f2_ f3_; have f4_ := f1_.symm; have f5_ := f3_.symm; clear f1_ f2_ f3_; subst f4_; subst f5_))
     refine hK.out _ _ (p3e_ BK221) (fun hHeld => ?_)
     clear hK K
     refine norm_ (a' := ?_) ?_ ?_
     rotate_left
     ·show Act.put _ (some 13) _ = _
      simp only [Act.put, la_, lz_, ls_, i64_w, i32_w]
      rfl
     refine pv_' 8 18 (on_ 9 2) rfl rfl HT_ ?_
     refine one_ (i := 9) (N := some 5) (on_ 10 1) rfl rfl (one_of HT_.out (by kernel_rfl)) (by decide) (fun K hK => ?_)
     refine box_step ?hg (N := 5) ?hd (cs := #[.slice none 0 0, .int .i64 0, .int .i64 0]) (t := 30) ?hr ?_; (case hd => rfl); (case hg => rfl); (case hr => first | (go_simp; done) | (go_simp; rfl))
     intro gb229 hg w11 hbox hb
     replace HO228 := rb_ HO228 hb
     have BK229 := Aside0.mk (hbox)
     have GW229 := ge_ hg (hu_ HB GE221 GE222)
     have GE229 := ge_ hg (hu_ HB GE221 GE222)
     replace HB := bu_ HB GE221 GE222 hb
     have NB221_229 := nl_ BK221 hg
     have NB229_221 := ng_ BK221 hg
     replace BK221 := bb_ BK221 hb
     have NB222_229 := nl_ BK222 hg
     have NB229_222 := ng_ BK222 hg
     replace BK222 := bb_ BK222 hb
     clear hb hbox hg
     refine hK.out _ _ (p3e_ BK221) (fun hHeld => ?_)
     clear hK K
     refine norm_ (a' := ?_) ?_ ?_
     rotate_left
     ·show Act.put _ (some 5) _ = _
      simp only [Act.put, la_, lz_, ls_, i64_w, i32_w]
      rfl
     exact norm_ (by simp only [putAll, Act.put, la_, lz_, ls_]) (hCont (v224, .slice Ao10 y226.length co10, gb229) _ ⟨hHeld, (rr_ HO228), (bk_ BK221), (bk_ BK222), (bk_ BK229), GW229.out, GE229.out, NB221_229.out, NB229_221.out, NB222_229.out, NB229_222.out, (hv_ HB GE221 GE222 GE229)⟩)
    ·skip
     refine box_step ?hg (N := 5) ?hd (cs := #[.slice none 0 0, .int .i64 0, .int .i64 0]) (t := 30) ?hr ?_; (case hd => rfl); (case hg => rfl); (case hr => first | (go_simp; done) | (go_simp; rfl))
     intro gb229 hg w9 hbox hb
     replace HO225 := rb_ HO225 hb
     have BK229 := Aside0.mk (hbox)
     have GW229 := ge_ hg (hu_ HB GE221 GE222)
     have GE229 := ge_ hg (hu_ HB GE221 GE222)
     replace HB := bu_ HB GE221 GE222 hb
     have NB221_229 := nl_ BK221 hg
     have NB229_221 := ng_ BK221 hg
     replace BK221 := bb_ BK221 hb
     have NB222_229 := nl_ BK222 hg
     have NB229_222 := ng_ BK222 hg
     replace BK222 := bb_ BK222 hb
     clear hb hbox hg
     refine hK.out _ _ (p3e_ BK221) (fun hHeld => ?_)
     clear hK K
     refine norm_ (a' := ?_) ?_ ?_
     rotate_left
     ·show Act.put _ (some 5) _ = _
      simp only [Act.put, la_, lz_, ls_, i64_w, i32_w]
      rfl
     refine one_ (i := 3) (N := some 13) #[i',i',i',i',i',i',i',i',o',i',o'] rfl rfl (one_of HT_.out (by kernel_rfl)) (by decide) (fun K hK => ?_)
     refine Kd.R_append_rows_step k71 (w0 := w) w.heap.size (by rfl) (.tmp 10) (.tmp 12) 28 71 (.agg #[(.string ⟨#[]⟩), (.int .i64 0), (.int .i64 0), (.int .i64 0), (.int .i64 0)]) 48 rfl Try.underlying28 info71 rfl (by decide) (by omega) v224 y223 l0_0 _ _ _ (fun _ => True) (fun _ => False) rfl rfl ?aO ?aR (fun _ _ h => h) (fun _ h => h.elim) ?aF ?aB ?aS ?aL ?_
     (case aR => repeat (first | exact (Kd.C_below HR0_0.out HB.out) | (with_reducible refine Kd.C_alloc ?_ _) | (with_reducible refine Kd.C_drewN ?_ _) | (with_reducible refine Kd.C_drew ?_)))
     (case aB => exact (hv_ HB GE221 GE222 GE229))
     (case aF => exact (fun _ _ => trivial))
     (case aO => exact (rr_ HO225))
     (case aS => exact (below_size (hv_ HB GE221 GE222 GE229)))
     (case aL => have := LMc3.out; omega)
     intro v227 w10 ho hb hg hat
     rw [← Ny226.out] at ho
     replace BK221 := bg_ BK221 hg (Kd.R_ne HO225.out BK221.out (by decide))
     replace BK222 := bg_ BK222 hg (Kd.R_ne HO225.out BK222.out (by decide))
     replace BK229 := bg_ BK229 hg (Kd.R_ne HO225.out BK229.out (by decide))
     replace HB := Aside0.mk (hb)
     have HO228 := Aside0.mk (ho)
     clear HO225
     clear ho hb hg hat
     obtain ⟨Ao11, co11, eo11⟩ := Kd.R_slice HO228.out
     (first | subst eo11 | (injection eo11 with f1_ f2_ f3_; have f4_ := f1_.symm; have f5_ := f3_.symm; clear f1_ f2_ f3_; subst f4_; subst f5_))
     refine hK.out _ _ (p3e_ BK221) (fun hHeld => ?_)
     clear hK K
     refine norm_ (a' := ?_) ?_ ?_
     rotate_left
     ·show Act.put _ (some 13) _ = _
      simp only [Act.put, la_, lz_, ls_, i64_w, i32_w]
      rfl
     refine pv_' 8 18 (on_ 10 1) rfl rfl HT_ ?_
     exact norm_ (by simp only [putAll, Act.put, la_, lz_, ls_]) (hCont (v224, .slice Ao11 y226.length co11, gb229) _ ⟨hHeld, (rr_ HO228), (bk_ BK221), (bk_ BK222), (bk_ BK229), GW229.out, GE229.out, NB221_229.out, NB229_221.out, NB222_229.out, NB229_222.out, (hv_ HB GE221 GE222 GE229)⟩)
   ·skip
    refine box_step ?hg (N := 5) ?hd (cs := #[.slice none 0 0, .int .i64 0, .int .i64 0]) (t := 30) ?hr ?_; (case hd => rfl); (case hg => rfl); (case hr => first | (go_simp; done) | (go_simp; rfl))
    intro gb229 hg w7 hbox hb
    have BK229 := Aside0.mk (hbox)
    have GW229 := ge_ hg (hu_ HB GE221 GE222)
    have GE229 := ge_ hg (hu_ HB GE221 GE222)
    replace HB := bu_ HB GE221 GE222 hb
    have NB221_229 := nl_ BK221 hg
    have NB229_221 := ng_ BK221 hg
    replace BK221 := bb_ BK221 hb
    have NB222_229 := nl_ BK222 hg
    have NB229_222 := ng_ BK222 hg
    replace BK222 := bb_ BK222 hb
    clear hb hbox hg
    refine hK.out _ _ (p3e_ BK221) (fun hHeld => ?_)
    clear hK K
    refine norm_ (a' := ?_) ?_ ?_
    rotate_left
    ·show Act.put _ (some 5) _ = _
     simp only [Act.put, la_, lz_, ls_, i64_w, i32_w]
     rfl
    refine one_ (i := 0) (N := some 10) #[i',i',i',o',i',i',i',i',o',i',o'] rfl rfl (one_of HT_.out (by kernel_rfl)) (by decide) (fun K hK => ?_)
    refine Kd.R_lit_step k71 _ 71 ?hg (N := 10) ?hd (xs := ([] : List (S71))) (inner := []) (ok := fun _ => True) (okp := fun _ => True) ?hr ?hp (fun _ hk => hk) trivial (Below.refl _ _) (Nat.le_refl _) (by simp) ?_; (case hd => rfl); (case hg => rfl); (case hr => first | (go_simp; done) | (go_simp; rfl)); (case hp => exact (Reps.none _ _))
    intro v224 w8 ho9 hb hg_ hnew_
    clear hg_ hnew_
    (first | rw [← Ny223.out] at ho9 | (simp only [Int.reduceToNat] at ho9; rw [← Ny223.out] at ho9))
    have HO225 := Aside0.mk (Kd.R_lower ho9 (below_size (hv_ HB GE221 GE222 GE229)))
    replace BK221 := bb_ BK221 hb
    replace BK222 := bb_ BK222 hb
    replace BK229 := bb_ BK229 hb
    replace HB := Aside0.mk (below_step (hv_ HB GE221 GE222 GE229) hb)
    clear hb ho9
    refine hK.out _ _ (p3e_ BK221) (fun hHeld => ?_)
    clear hK K
    refine norm_ (a' := ?_) ?_ ?_
    rotate_left
    ·show Act.put _ (some 10) _ = _
     simp only [Act.put, la_, lz_, ls_, i64_w, i32_w]
     rfl
    refine one_ (i := 3) (N := some 13) #[i',i',i',i',i',i',i',i',o',i',o'] rfl rfl (one_of HT_.out (by kernel_rfl)) (by decide) (fun K hK => ?_)
    refine Kd.R_append_rows_step k71 (w0 := w) w.heap.size (by rfl) (.tmp 10) (.tmp 12) 28 71 (.agg #[(.string ⟨#[]⟩), (.int .i64 0), (.int .i64 0), (.int .i64 0), (.int .i64 0)]) 48 rfl Try.underlying28 info71 rfl (by decide) (by omega) v224 y223 l0_0 _ _ _ (fun _ => True) (fun _ => False) rfl rfl ?aO ?aR (fun _ _ h => h) (fun _ h => h.elim) ?aF ?aB ?aS ?aL ?_
    (case aR => repeat (first | exact (Kd.C_below HR0_0.out HB.out) | (with_reducible refine Kd.C_alloc ?_ _) | (with_reducible refine Kd.C_drewN ?_ _) | (with_reducible refine Kd.C_drew ?_)))
    (case aB => exact (hv_ HB GE221 GE222 GE229))
    (case aF => exact (fun _ _ => trivial))
    (case aO => exact (rr_ HO225))
    (case aS => exact (below_size (hv_ HB GE221 GE222 GE229)))
    (case aL => have := LMc3.out; omega)
    intro v227 w10 ho hb hg hat
    rw [← Ny226.out] at ho
    replace BK221 := bg_ BK221 hg (Kd.R_ne HO225.out BK221.out (by decide))
    replace BK222 := bg_ BK222 hg (Kd.R_ne HO225.out BK222.out (by decide))
    replace BK229 := bg_ BK229 hg (Kd.R_ne HO225.out BK229.out (by decide))
    replace HB := Aside0.mk (hb)
    have HO228 := Aside0.mk (ho)
    clear HO225
    clear ho hb hg hat
    obtain ⟨Ao11, co11, eo11⟩ := Kd.R_slice HO228.out
    (first | subst eo11 | (injection eo11 with f1_ f2_ f3_; have f4_ := f1_.symm; have f5_ := f3_.symm; clear f1_ f2_ f3_; subst f4_; subst f5_))
    refine hK.out _ _ (p3e_ BK221) (fun hHeld => ?_)
    clear hK K
    refine norm_ (a' := ?_) ?_ ?_
    rotate_left
    ·show Act.put _ (some 13) _ = _
     simp only [Act.put, la_, lz_, ls_, i64_w, i32_w]
     rfl
    refine pv_' 8 18 (on_ 10 1) rfl rfl HT_ ?_
    exact norm_ (by simp only [putAll, Act.put, la_, lz_, ls_]) (hCont (v224, .slice Ao11 y226.length co11, gb229) _ ⟨hHeld, (rr_ HO228), (bk_ BK221), (bk_ BK222), (bk_ BK229), GW229.out, GE229.out, NB221_229.out, NB229_221.out, NB222_229.out, NB229_222.out, (hv_ HB GE221 GE222 GE229)⟩)
  rintro ⟨v224, v227, gb229⟩ w12 ⟨hS_, h0_, h1_, h2_, h3_, h4_, h5_, h6_, h7_, h8_, h9_, h10_⟩
  have n0_ : Aside0 (Kd.R k71 71 w12 w.heap.size (fun _ => True) v227 y226) := ⟨h0_⟩
  have n1_ : Aside0 (w12.heap[gb221]? = some (.cells #[.slice A0_0 l0_0.length c0_0, .int .i64 a0_1, .int .i64 a0_2] 30 (0, 0))) := ⟨h1_⟩
  have n2_ : Aside0 (w12.heap[gb222]? = some (.cells #[.slice none 0 0, .int .i64 0, .int .i64 0] 30 (0, 0))) := ⟨h2_⟩
  have n3_ : Aside0 (w12.heap[gb229]? = some (.cells #[.slice none 0 0, .int .i64 0, .int .i64 0] 30 (0, 0))) := ⟨h3_⟩
  have n4_ : Aside0 (w.heap.size ≤ gb229) := ⟨h4_⟩
  have n5_ : Aside0 (w.heap.size ≤ gb229) := ⟨h5_⟩
  have n6_ : Aside0 (gb221 ≠ gb229) := ⟨h6_⟩
  have n7_ : Aside0 (gb229 ≠ gb221) := ⟨h7_⟩
  have n8_ : Aside0 (gb222 ≠ gb229) := ⟨h8_⟩
  have n9_ : Aside0 (gb229 ≠ gb222) := ⟨h9_⟩
  have n10_ : Aside0 (Below w.heap.size w w12) := ⟨h10_⟩
  clear BK221
  clear BK222
  clear HB
  clear h0_ h1_ h2_ h3_ h4_ h5_ h6_ h7_ h8_ h9_ h10_
  have HO228 := n0_
  have BK221 := n1_
  have BK222 := n2_
  have BK229 := n3_
  have GW229 := n4_
  have GE229 := n5_
  have NB221_229 := n6_
  have NB229_221 := n7_
  have NB222_229 := n8_
  have NB229_222 := n9_
  have HB := n10_
  clear n0_ n1_ n2_ n3_ n4_ n5_ n6_ n7_ n8_ n9_ n10_
  have hHeld : w12.cell? ⟨gb221, 0, none⟩ = some (.slice A0_0 l0_0.length c0_0) ∧ w12.cell? ⟨gb221, 1, none⟩ = some (.int .i64 a0_1) ∧ w12.cell? ⟨gb221, 2, none⟩ = some (.int .i64 a0_2) := hS_
  obtain ⟨Ao13, co13, eo13⟩ := Kd.R_slice HO228.out
  (first | subst eo13 | (injection eo13 with f1_ f2_ f3_; have f4_ := f1_.symm; have f5_ := f3_.symm; clear f1_ f2_ f3_; subst f4_; subst f5_))
  refine norm_ (a' := ?_) ?_ ?_
  rotate_left
  ·simp only [putAll, Act.put, la_, lz_, ls_]
   rfl
  refine one_ (i := 10) (N := none) (on_ 11 0) rfl rfl (one_of HT_.out (by kernel_rfl)) (by decide) (fun K hK => ?_)
  have hs14 : w12.cell? ⟨gb229, 0, none⟩ = some (.slice none 0 0) := (blk_cell BK229.out 0).trans rfl
  have hfs14 := blk_frozen BK229.out 0
  have hns14_0 := NB221_229.out
  have hns14_1 := NB222_229.out
  have hms14_0 := NB229_221.out
  have hms14_1 := NB229_222.out
  have hs15 : w12.cell? ⟨gb229, 1, none⟩ = some (.int .i64 0) := (blk_cell BK229.out 1).trans rfl
  have hfs15 := blk_frozen BK229.out 1
  have hns15_0 := NB221_229.out
  have hns15_1 := NB222_229.out
  have hms15_0 := NB229_221.out
  have hms15_1 := NB229_222.out
  have hs16 : w12.cell? ⟨gb229, 2, none⟩ = some (.int .i64 0) := (blk_cell BK229.out 2).trans rfl
  have hfs16 := blk_frozen BK229.out 2
  have hns16_0 := NB221_229.out
  have hns16_1 := NB222_229.out
  have hms16_0 := NB229_221.out
  have hms16_1 := NB229_222.out
  refine skip_ (w1 := ?_) (by rfl) rfl ?_ ?_
  rotate_left
  ·go_simp
   rfl
  refine hK.out _ _ (r3e_ ((cell_far (p := ⟨gb229, _, none⟩) NB221_229.out _).trans (((cell_far (p := ⟨gb229, _, none⟩) NB221_229.out _).trans (((cell_far (p := ⟨gb229, _, none⟩) NB221_229.out _).trans (hHeld.1)))))) ((cell_far (p := ⟨gb229, _, none⟩) NB221_229.out _).trans (((cell_far (p := ⟨gb229, _, none⟩) NB221_229.out _).trans (((cell_far (p := ⟨gb229, _, none⟩) NB221_229.out _).trans (hHeld.2.1)))))) ((cell_far (p := ⟨gb229, _, none⟩) NB221_229.out _).trans (((cell_far (p := ⟨gb229, _, none⟩) NB221_229.out _).trans (((cell_far (p := ⟨gb229, _, none⟩) NB221_229.out _).trans (hHeld.2.2))))))) (fun hHeld => ?_)
  clear hK K
  refine done_ (done_of HT_.out (by kernel_rfl)) ?_
  try go_wp2
  go_loopg [6] k (fun kq v6 w' => ∃ (x6_1 : Int) (x230000_1 : List (S71)) (x230001_1 : Int) (x230002_1 : Int) (u230000 : Value), v6 = .int .i64 x6_1 ∧ Aside0 (spec_Regroup.l0 kq l1 x6_1 x230000_1 x230001_1 x230002_1 = some (r1, r2, r3)) ∧ Aside0 (kq ≤ k) ∧ Aside0 (Kd.R k71 71 w' w.heap.size (fun _ => True) u230000 x230000_1) ∧ Aside0 (w'.heap[gb221]? = some (.cells #[(.slice A0_0 l0_0.length c0_0), .int .i64 a0_1, .int .i64 a0_2] 30 (0, 0))) ∧ Aside0 (w'.heap[gb222]? = some (.cells #[(.slice none 0 0), .int .i64 0, .int .i64 0] 30 (0, 0))) ∧ Aside0 (w'.heap[gb229]? = some (.cells #[u230000, .int .i64 x230001_1, .int .i64 x230002_1] 30 (0, 0))) ∧ Aside0 (Below w.heap.size w w'))
  case atStart => exact ⟨(0), (y226), (a0_1), (a0_2), (.slice Ao13 y226.length co13), rs_, H', ⟨Nat.le_refl _⟩, ⟨by (with_reducible repeat (first | apply Kd.R_alloc | apply Kd.R_drewN | apply Kd.R_drew)); exact Kd.R_mono (Kd.R_far (p := ⟨gb229, 2, none⟩) (Kd.R_far (p := ⟨gb229, 1, none⟩) (Kd.R_far (p := ⟨gb229, 0, none⟩) (Kd.R_types HO228.out BK229.out (by decide)) (fun _ hk => hk.2) (.slice Ao13 y226.length co13)) (fun _ hk => hk.2) (.int .i64 a0_1)) (fun _ hk => hk.2) (.int .i64 a0_2)) (fun _ hk => trivial)⟩, ⟨uq_ BK221 fun h_ => ⟨_, ua_, ub_⟩⟩, ⟨uq_ BK222 fun h_ => ⟨_, ua_, ub_⟩⟩, ⟨uq_ BK229 fun h_ => ⟨_, ua_, ub_⟩⟩, ⟨hz_ HB⟩⟩
  case round =>
   clear H'
   (try clear c1);(try clear c3)
   obtain ⟨x6_1, x230000_1, x230001_1, x230002_1, u230000, rfl, HA, HK1, HO_230000, BK221, BK222, BK229, HB⟩ := hrel
   cases gk with
   | zero => exact absurd HA.out (by simp [spec_Regroup.l0])
   | succ k1 =>
    have H := HA.out
    clear HA
    simp only [spec_Regroup.l0] at H
    have HC17 := Aside0.mk H
    clear H
    go_upto_region 3 with (fail)
    go_cut [27] (fun v27 wc => ∃ (kq : Nat) (x27_16 : Bool), v27 = .bool x27_16 ∧ Aside0 (spec_Regroup.j1 kq l1 x6_1 x27_16 x230000_1 x230001_1 x230002_1 = some (r1, r2, r3)) ∧ Aside0 (kq ≤ k1) ∧ Aside0 (Kd.R k71 71 wc w.heap.size (fun _ => True) u230000 x230000_1) ∧ Aside0 (wc.heap[gb221]? = some (.cells #[(.slice A0_0 l0_0.length c0_0), .int .i64 a0_1, .int .i64 a0_2] 30 (0, 0))) ∧ Aside0 (wc.heap[gb222]? = some (.cells #[(.slice none 0 0), .int .i64 0, .int .i64 0] 30 (0, 0))) ∧ Aside0 (wc.heap[gb229]? = some (.cells #[u230000, .int .i64 x230001_1, .int .i64 x230002_1] 30 (0, 0))) ∧ Aside0 (Below w.heap.size w wc))
    case first =>
     have H := HC17.out
     clear HC17
     by_cases c18 : x6_1 < (l1.length : Int)
     ·rw [if_pos c18] at H
      have c18b0 : decide (x6_1 < (l1.length : Int)) = true := decide_eq_true c18
      clear c18
      (first | rw [c18b0] | (simp only [i64_w, i32_w]; rw [c18b0]) | skip)
      have H' := Aside0.mk H
      clear H
      have hnb19 := NB229_221.out
      have hnc19 := NB221_229.out
      have hnb20 := NB229_222.out
      have hnc20 := NB222_229.out
      obtain ⟨hcz21_0, hcz21_1, hcz21_2, hfz21_0, hfz21_1, hfz21_2⟩ := bc3_ BK229
      go_wp2
      go_meet
      case rel => exact ⟨_, ((x230002_1 == 0)), rs_, H', ⟨by have := HK1.out; first | exact Nat.le_refl _ | exact Nat.le_of_succ_le this | omega⟩, ⟨rr_ HO_230000⟩, ⟨bk_ BK221⟩, ⟨bk_ BK222⟩, ⟨bk_ BK229⟩, ⟨hz_ HB⟩⟩
     ·rw [if_neg c18] at H
      have c18b0 : decide (x6_1 < (l1.length : Int)) = false := decide_eq_false c18
      clear c18
      (first | rw [c18b0] | (simp only [i64_w, i32_w]; rw [c18b0]) | skip)
      have H' := Aside0.mk H
      clear H
      go_wp2
      go_meet
      case rel => exact ⟨_, (false), rs_, H', ⟨by have := HK1.out; first | exact Nat.le_refl _ | exact Nat.le_of_succ_le this | omega⟩, ⟨rr_ HO_230000⟩, ⟨bk_ BK221⟩, ⟨bk_ BK222⟩, ⟨bk_ BK229⟩, ⟨hz_ HB⟩⟩
    case rest =>
     clear HC17
     (try clear c1);(try clear c3);(try clear c18);(try clear c18b0);(try clear hcz21_0 hcz21_1 hcz21_2 hfz21_0 hfz21_1 hfz21_2)
     obtain ⟨kq, x27_16, rfl, HA, HJ16, HO_230000, BK221, BK222, BK229, HB⟩ := hcut
     cases kq with
     | zero => exact absurd HA.out (by simp [spec_Regroup.j1])
     | succ kj16 =>
      have H := HA.out
      clear HA
      simp only [spec_Regroup.j1] at H
      by_cases c22 : x27_16 = true
      ·subst c22
       rw [if_pos rfl] at H
       by_cases c23 : 0 ≤ x6_1
       ·rw [if_pos c23] at H
        have c23b0 : decide (0 ≤ x6_1) = true := decide_eq_true c23
        clear c23
        by_cases c24 : x6_1 < (l1.length : Int)
        ·rw [if_pos c24] at H
         have c24b0 : decide (x6_1 < (l1.length : Int)) = true := decide_eq_true c24
         clear c24
         obtain ⟨ji25, hji25⟩ : ∃ j_ : Int, (mx x230001_1 ((rd_T48 l1 x6_1).f3.f1)) = j_ := ⟨_, rfl⟩
         (first | rw [hji25] at H | simp only [hji25] at H)
         have hji25_ : (if x230001_1 < ((rd_T48 l1 x6_1).f3.f1) then ((rd_T48 l1 x6_1).f3.f1) else x230001_1) = ji25 := hji25
         obtain ⟨y232, hy232⟩ : ∃ y_ : List (S48), y_ = (([] : List (S48))) := ⟨_, rfl⟩
         replace H : (if ((rd_T48 l1 x6_1).f3.f0) = 3 then ((spec_l9Of.f kj16 l1 x6_1 ((rd_T48 l1 x6_1).f3.f1)).bind fun t235 => ((spec_l9Fits.f kj16 ((rd_T48 l1 x6_1).f3.f0) ((rd_T48 l1 x6_1).f3.f1) ((rd_T48 l1 x6_1).f3.f2) ((rd_T48 l1 x6_1).f3.f3) ((rd_T48 l1 x6_1).f3.f4) ((rd_T48 l1 x6_1).f3.f5) t235).bind fun t238 => (if t238 = true then (spec_Regroup.j2 kj16 l1 x6_1 t235 x230000_1 ji25 x230002_1) else (spec_Regroup.l0 kj16 l1 (wrap64 (x6_1 + 1)) x230000_1 ji25 x230002_1)))) else (if ((rd_T48 l1 x6_1).f3.f0) = 5 then ((spec_l9Kept.f kj16 l1 x6_1).bind fun t239 => ((spec_l9Fits.f kj16 ((rd_T48 l1 x6_1).f3.f0) ((rd_T48 l1 x6_1).f3.f1) ((rd_T48 l1 x6_1).f3.f2) ((rd_T48 l1 x6_1).f3.f3) ((rd_T48 l1 x6_1).f3.f4) ((rd_T48 l1 x6_1).f3.f5) t239).bind fun t242 => (if t242 = true then (spec_Regroup.j2 kj16 l1 x6_1 t239 x230000_1 ji25 x230002_1) else (spec_Regroup.l0 kj16 l1 (wrap64 (x6_1 + 1)) x230000_1 ji25 1)))) else (spec_Regroup.l0 kj16 l1 (wrap64 (x6_1 + 1)) x230000_1 ji25 x230002_1))) = some (r1, r2, r3) := by first | (rw [hy232]; with_reducible exact H) | (have H2_ := (Option.bind_some _ _).symm.trans H; rw [hy232]; with_reducible exact H2_) | (have H2_ := (Option.bind_some _ _).symm.trans H; with_reducible exact H2_) | with_reducible exact H | (rw [hy232]; exact H) | exact H
         have Ny232 := Aside0.mk hy232
         clear hy232
         have HC26 := Aside0.mk H
         clear H
         have p230 : 0 ≤ (x6_1 : Int) := of_decide_eq_true as_
         have q230 : x6_1 < (l1.length : Int) := of_decide_eq_true as_
         obtain ⟨ad230, e230, hx230_0, hx230_1, hx230_2, hx230_3, hx230_4, hx230_5, hx230_6, hx230_7, hx230_8⟩ := at_T48 HR1.out x6_1 p230 q230
         cases e230
         (try replace hx230_0 := cb_ HB hx230_0)
         (try replace hx230_1 := cb_ HB hx230_1)
         (try replace hx230_2 := cb_ HB hx230_2)
         (try replace hx230_3 := cb_ HB hx230_3)
         (try replace hx230_4 := cb_ HB hx230_4)
         (try replace hx230_5 := cb_ HB hx230_5)
         (try replace hx230_6 := cb_ HB hx230_6)
         (try replace hx230_7 := cb_ HB hx230_7)
         (try replace hx230_8 := cb_ HB hx230_8)
         replace p230 := eq_true p230
         replace q230 := eq_true q230
         go_upto_block 2 with (first | ((with_reducible refine gate_dst (N := 7) rfl ?_); (try (refine gate_guard (by rfl) ?_; dsimp only)); refine box_event ?hg (N := 7) ?hd (cs := #[.int .i64 0, .int .i64 0, .string (⟨#[]⟩ : ByteArray), .string (⟨#[]⟩ : ByteArray), .int .i64 0, .int .i64 0]) (t := 46) ?hr ?_; (case hd => rfl); (case hg => rfl); (case hr => first | (go_simp; done) | (go_simp; rfl)); intro gb231 hg w27 hbox hb; replace HO_230000 := rb_ HO_230000 hb; have BK231 := Aside0.mk (hbox); have GE231 := ge_ hg (hv_ HB GE221 GE222 GE229); replace HB := Aside0.mk (below_step (hv_ HB GE221 GE222 GE229) hb); have NB221_231 := nl_ BK221 hg; have NB231_221 := ng_ BK221 hg; replace BK221 := bb_ BK221 hb; have NB222_231 := nl_ BK222 hg; have NB231_222 := ng_ BK222 hg; replace BK222 := bb_ BK222 hb; have NB229_231 := nl_ BK229 hg; have NB231_229 := ng_ BK229 hg; replace BK229 := bb_ BK229 hb; (try replace hx230_0 := cx_ hb hx230_0); (try replace hx230_1 := cx_ hb hx230_1); (try replace hx230_2 := cx_ hb hx230_2); (try replace hx230_3 := cx_ hb hx230_3); (try replace hx230_4 := cx_ hb hx230_4); (try replace hx230_5 := cx_ hb hx230_5); (try replace hx230_6 := cx_ hb hx230_6); (try replace hx230_7 := cx_ hb hx230_7); (try replace hx230_8 := cx_ hb hx230_8); clear hb hbox hg; have hnb28 := NB231_221.out; have hnc28 := NB221_231.out; have hnb29 := NB231_222.out; have hnc29 := NB222_231.out; have hnb30 := NB231_229.out; have hnc30 := NB229_231.out; obtain ⟨hcz31_0, hcz31_1, hcz31_2, hcz31_3, hcz31_4, hcz31_5, hfz31_0, hfz31_1, hfz31_2, hfz31_3, hfz31_4, hfz31_5⟩ := bc6_ BK231; have hnb32 := NB229_221.out; have hnc32 := NB221_229.out; have hnb33 := NB229_222.out; have hnc33 := NB222_229.out; obtain ⟨hcz34_0, hcz34_1, hcz34_2, hfz34_0, hfz34_1, hfz34_2⟩ := bc3_ BK229) | ((with_reducible refine gate_dst (N := 41) rfl ?_); (try (refine gate_guard (by rfl) ?_; dsimp only)); refine Kd.R_lit k48 _ 48 ?hg (N := 41) ?hd (xs := ([] : List (S48))) (inner := []) (ok := fun _ => True) (okp := fun _ => True) ?hr ?hp (fun _ hk => hk) trivial (Below.refl _ _) (Nat.le_refl _) (by simp) ?_; (case hd => rfl); (case hg => rfl); (case hr => first | (go_simp; done) | (go_simp; rfl)); (case hp => exact (Reps.none _ _)); intro v233 w35 ho36 hb hg_ hnew_; clear hg_ hnew_; (first | rw [← Ny232.out] at ho36 | (simp only [Int.reduceToNat] at ho36; rw [← Ny232.out] at ho36)); replace HO_230000 := Aside0.mk (Kd.R_below (by (with_reducible repeat (first | apply Kd.R_alloc | apply Kd.R_drewN | apply Kd.R_drew)); exact (Kd.R_mono (Kd.R_mono (Kd.R_far (p := ⟨gb229, 1, none⟩) (Kd.R_far (p := ⟨gb231, 5, none⟩) (Kd.R_far (p := ⟨gb231, 4, none⟩) (Kd.R_far (p := ⟨gb231, 3, none⟩) (Kd.R_far (p := ⟨gb231, 2, none⟩) (Kd.R_far (p := ⟨gb231, 1, none⟩) (Kd.R_far (p := ⟨gb231, 0, none⟩) (Kd.R_types (Kd.R_types HO_230000.out BK231.out (by decide)) BK229.out (by decide)) (fun _ hk => hk.1.2) (.int .i64 ((rd_T48 l1 x6_1).f3.f0))) (fun _ hk => hk.1.2) (.int .i64 ((rd_T48 l1 x6_1).f3.f1))) (fun _ hk => hk.1.2) (.string ((rd_T48 l1 x6_1).f3.f2))) (fun _ hk => hk.1.2) (.string ((rd_T48 l1 x6_1).f3.f3))) (fun _ hk => hk.1.2) (.int .i64 ((rd_T48 l1 x6_1).f3.f4))) (fun _ hk => hk.1.2) (.int .i64 ((rd_T48 l1 x6_1).f3.f5))) (fun _ hk => hk.2) (.int .i64 ji25)) (fun _ h_ => h_.1)) (fun _ h_ => h_.1))) hb); have HO234 := Aside0.mk (Kd.R_lower ho36 (below_size (hw_ HB GE221 GE222 GE229 GE231))); replace BK221 := bff_ BK221 NB221_229 NB221_231 hb; replace BK222 := bff_ BK222 NB222_229 NB222_231 hb; replace BK229 := bpf_ #[u230000, .int .i64 ji25, .int .i64 x230002_1] BK229 NB229_231 hb; replace BK231 := bpf_ #[.int .i64 ((rd_T48 l1 x6_1).f3.f0), .int .i64 ((rd_T48 l1 x6_1).f3.f1), .string ((rd_T48 l1 x6_1).f3.f2), .string ((rd_T48 l1 x6_1).f3.f3), .int .i64 ((rd_T48 l1 x6_1).f3.f4), .int .i64 ((rd_T48 l1 x6_1).f3.f5)] BK231 NB231_229 hb; replace HB := Aside0.mk (below_step (hw_ HB GE221 GE222 GE229 GE231) hb); clear hb ho36; obtain ⟨hcz37_0, hcz37_1, hcz37_2, hcz37_3, hcz37_4, hcz37_5, hfz37_0, hfz37_1, hfz37_2, hfz37_3, hfz37_4, hfz37_5⟩ := bc6_ BK231))
         (try simp only [Act.put, la_, lz_, ls_])
         go_cut [8] (fun v8 wc => ∃ (kq : Nat) (x8_25 : List (S48)) (x230002_25 : Int), Aside0 (spec_Regroup.j2 kq l1 x6_1 x8_25 x230000_1 ji25 x230002_25 = some (r1, r2, r3)) ∧ Aside0 (kq ≤ kj16) ∧ Aside0 (Kd.R k48 48 wc w.heap.size (fun _ => True) v8 x8_25) ∧ Aside0 (Kd.R k71 71 wc w.heap.size (fun _ => True) u230000 x230000_1) ∧ Aside0 (wc.heap[gb221]? = some (.cells #[(.slice A0_0 l0_0.length c0_0), .int .i64 a0_1, .int .i64 a0_2] 30 (0, 0))) ∧ Aside0 (wc.heap[gb222]? = some (.cells #[(.slice none 0 0), .int .i64 0, .int .i64 0] 30 (0, 0))) ∧ Aside0 (wc.heap[gb229]? = some (.cells #[u230000, .int .i64 ji25, .int .i64 x230002_25] 30 (0, 0))) ∧ Aside0 (wc.heap[gb231]? = some (.cells #[.int .i64 ((rd_T48 l1 x6_1).f3.f0), .int .i64 ((rd_T48 l1 x6_1).f3.f1), .string ((rd_T48 l1 x6_1).f3.f2), .string ((rd_T48 l1 x6_1).f3.f3), .int .i64 ((rd_T48 l1 x6_1).f3.f4), .int .i64 ((rd_T48 l1 x6_1).f3.f5)] 46 (0, 0))) ∧ Aside0 (Below w.heap.size w wc))
         case first =>
          have H := HC26.out
          clear HC26
          by_cases c38 : ((rd_T48 l1 x6_1).f3.f0) = 3
          ·rw [if_pos c38] at H
           have c38b0 : (((rd_T48 l1 x6_1).f3.f0) == 3) = true := beq_iff_eq.mpr c38
           have c38b1 : (((rd_T48 l1 x6_1).f3.f0) != 3) = false := bne_eq_false_iff_eq.mpr c38
           clear c38
           (first | rw [c38b0] | (simp only [i64_w, i32_w]; rw [c38b0]) | skip)
           replace H := Option.bind_eq_some_iff.mp H
           obtain ⟨t235, A390, H⟩ := H
           have A39 := Aside0.mk A390
           clear A390
           replace H := Option.bind_eq_some_iff.mp H
           obtain ⟨t238, A400, H⟩ := H
           have A40 := Aside0.mk A400
           clear A400
           by_cases c41 : t238 = true
           ·subst c41
            rw [if_pos rfl] at H
            have H' := Aside0.mk H
            clear H
            have hnb42 := NB231_221.out
            have hnc42 := NB221_231.out
            have hnb43 := NB231_222.out
            have hnc43 := NB222_231.out
            have hnb44 := NB231_229.out
            have hnc44 := NB229_231.out
            obtain ⟨hcz45_0, hcz45_1, hcz45_2, hcz45_3, hcz45_4, hcz45_5, hfz45_0, hfz45_1, hfz45_2, hfz45_3, hfz45_4, hfz45_5⟩ := bc6_ BK231
            go_wp2_with (first | ((with_reducible refine gate_callee (f := 17) rfl ?_); refine goesL_ (some 50) rfl rfl Try.func17 (by kernel_rfl) rfl #[.slice (some ad230) l1.length c1, .int .i64 x6_1, .int .i64 ((rd_T48 l1 x6_1).f3.f1)] rfl ar_ ?_; (with_reducible refine (spec_l9Of.calls kj16 _ _ l1 x6_1 ((rd_T48 l1 x6_1).f3.f1) t235 _ ?side1 ?side2 A39.out).mono ?_); (case side1 => repeat (first | exact (Kd.C_below HR1.out HB.out) | (with_reducible refine Kd.C_alloc ?_ _) | (with_reducible refine Kd.C_drewN ?_ _) | (with_reducible refine Kd.C_drew ?_))); (case side2 => exact HC1.out); rintro e w46 ⟨v236, rfl, ho0, hb⟩; refine ⟨_, rfl, ?_⟩; replace HO_230000 := rb_ HO_230000 hb; have HO237 := Aside0.mk (Kd.R_lower (Kd.R_new' ho0 (Kd.R_lt (rr_ HO234))) (below_size (hw_ HB GE221 GE222 GE229 GE231))); replace HO234 := Aside0.mk (Kd.R_elder' (rr_ HO234) (Kd.R_base ho0) hb); replace BK221 := bb_ BK221 hb; replace BK222 := bb_ BK222 hb; replace BK229 := bb_ BK229 hb; replace BK231 := bb_ BK231 hb; replace HB := Aside0.mk (below_step (hw_ HB GE221 GE222 GE229 GE231) hb); (try clear hb); (try clear hb2); (try clear hk); (try clear hi); (try clear ho0); obtain ⟨hcz47_0, hcz47_1, hcz47_2, hcz47_3, hcz47_4, hcz47_5, hfz47_0, hfz47_1, hfz47_2, hfz47_3, hfz47_4, hfz47_5⟩ := bc6_ BK231; obtain ⟨Ao48, co48, eo48⟩ := Kd.R_slice HO237.out; subst eo48) | ((with_reducible refine gate_callee (f := 18) rfl ?_); refine goesL_ (some 53) rfl rfl Try.func18 (by kernel_rfl) rfl #[.agg #[.int .i64 ((rd_T48 l1 x6_1).f3.f0), .int .i64 ((rd_T48 l1 x6_1).f3.f1), .string ((rd_T48 l1 x6_1).f3.f2), .string ((rd_T48 l1 x6_1).f3.f3), .int .i64 ((rd_T48 l1 x6_1).f3.f4), .int .i64 ((rd_T48 l1 x6_1).f3.f5)], .slice Ao48 t235.length co48] rfl ar_ ?_; (with_reducible refine (spec_l9Fits.calls kj16 ((rd_T48 l1 x6_1).f3.f0) ((rd_T48 l1 x6_1).f3.f1) ((rd_T48 l1 x6_1).f3.f2) ((rd_T48 l1 x6_1).f3.f3) ((rd_T48 l1 x6_1).f3.f4) ((rd_T48 l1 x6_1).f3.f5) _ _ t235 true _ ?side1 ?side2 A40.out).mono ?_); (case side1 => repeat (first | exact (Kd.R_reads' HO237.out).2.2 | (with_reducible refine Kd.C_alloc ?_ _) | (with_reducible refine Kd.C_drewN ?_ _) | (with_reducible refine Kd.C_drew ?_))); (case side2 => exact (Kd.R_reads' HO237.out).2.1); rintro e w49 ⟨rfl, hb⟩; refine ⟨_, rfl, ?_⟩; replace HO_230000 := rb_ HO_230000 hb; replace HO234 := rb_ HO234 hb; replace HO237 := rb_ HO237 hb; replace BK221 := bb_ BK221 hb; replace BK222 := bb_ BK222 hb; replace BK229 := bb_ BK229 hb; replace BK231 := bb_ BK231 hb; replace HB := Aside0.mk (below_step (hw_ HB GE221 GE222 GE229 GE231) hb); (try clear hb); (try clear hb2); (try clear hk); (try clear hi)))
            go_meet
            case rel => exact ⟨_, (t235), (x230002_1), (by first | exact H' | (simp only [hji25]; exact H')), ⟨by have := HK1.out; have := HJ16.out; first | exact Nat.le_refl _ | exact Nat.le_of_succ_le this | omega⟩, ⟨by (with_reducible repeat (first | apply Kd.R_alloc | apply Kd.R_drewN | apply Kd.R_drew)); exact Kd.R_mono HO237.out (fun _ hk => trivial)⟩, ⟨rr_ HO_230000⟩, ⟨bk_ BK221⟩, ⟨bk_ BK222⟩, ⟨bk_ BK229⟩, ⟨bk_ BK231⟩, ⟨hz_ HB⟩⟩
           ·replace c41 := Bool.eq_false_iff.mpr c41
            subst c41
            rw [if_neg ff_] at H
            have H' := Aside0.mk H
            clear H
            have hnb50 := NB231_221.out
            have hnc50 := NB221_231.out
            have hnb51 := NB231_222.out
            have hnc51 := NB222_231.out
            have hnb52 := NB231_229.out
            have hnc52 := NB229_231.out
            obtain ⟨hcz53_0, hcz53_1, hcz53_2, hcz53_3, hcz53_4, hcz53_5, hfz53_0, hfz53_1, hfz53_2, hfz53_3, hfz53_4, hfz53_5⟩ := bc6_ BK231
            go_wp2_with (first | ((with_reducible refine gate_callee (f := 17) rfl ?_); refine goesL_ (some 50) rfl rfl Try.func17 (by kernel_rfl) rfl #[.slice (some ad230) l1.length c1, .int .i64 x6_1, .int .i64 ((rd_T48 l1 x6_1).f3.f1)] rfl ar_ ?_; (with_reducible refine (spec_l9Of.calls kj16 _ _ l1 x6_1 ((rd_T48 l1 x6_1).f3.f1) t235 _ ?side1 ?side2 A39.out).mono ?_); (case side1 => repeat (first | exact (Kd.C_below HR1.out HB.out) | (with_reducible refine Kd.C_alloc ?_ _) | (with_reducible refine Kd.C_drewN ?_ _) | (with_reducible refine Kd.C_drew ?_))); (case side2 => exact HC1.out); rintro e w54 ⟨v236, rfl, ho0, hb⟩; refine ⟨_, rfl, ?_⟩; replace HO_230000 := rb_ HO_230000 hb; have HO237 := Aside0.mk (Kd.R_lower (Kd.R_new' ho0 (Kd.R_lt (rr_ HO234))) (below_size (hw_ HB GE221 GE222 GE229 GE231))); replace HO234 := Aside0.mk (Kd.R_elder' (rr_ HO234) (Kd.R_base ho0) hb); replace BK221 := bb_ BK221 hb; replace BK222 := bb_ BK222 hb; replace BK229 := bb_ BK229 hb; replace BK231 := bb_ BK231 hb; replace HB := Aside0.mk (below_step (hw_ HB GE221 GE222 GE229 GE231) hb); (try clear hb); (try clear hb2); (try clear hk); (try clear hi); (try clear ho0); obtain ⟨hcz55_0, hcz55_1, hcz55_2, hcz55_3, hcz55_4, hcz55_5, hfz55_0, hfz55_1, hfz55_2, hfz55_3, hfz55_4, hfz55_5⟩ := bc6_ BK231; obtain ⟨Ao56, co56, eo56⟩ := Kd.R_slice HO237.out; subst eo56) | ((with_reducible refine gate_callee (f := 18) rfl ?_); refine goesL_ (some 53) rfl rfl Try.func18 (by kernel_rfl) rfl #[.agg #[.int .i64 ((rd_T48 l1 x6_1).f3.f0), .int .i64 ((rd_T48 l1 x6_1).f3.f1), .string ((rd_T48 l1 x6_1).f3.f2), .string ((rd_T48 l1 x6_1).f3.f3), .int .i64 ((rd_T48 l1 x6_1).f3.f4), .int .i64 ((rd_T48 l1 x6_1).f3.f5)], .slice Ao56 t235.length co56] rfl ar_ ?_; (with_reducible refine (spec_l9Fits.calls kj16 ((rd_T48 l1 x6_1).f3.f0) ((rd_T48 l1 x6_1).f3.f1) ((rd_T48 l1 x6_1).f3.f2) ((rd_T48 l1 x6_1).f3.f3) ((rd_T48 l1 x6_1).f3.f4) ((rd_T48 l1 x6_1).f3.f5) _ _ t235 false _ ?side1 ?side2 A40.out).mono ?_); (case side1 => repeat (first | exact (Kd.R_reads' HO237.out).2.2 | (with_reducible refine Kd.C_alloc ?_ _) | (with_reducible refine Kd.C_drewN ?_ _) | (with_reducible refine Kd.C_drew ?_))); (case side2 => exact (Kd.R_reads' HO237.out).2.1); rintro e w57 ⟨rfl, hb⟩; refine ⟨_, rfl, ?_⟩; replace HO_230000 := rb_ HO_230000 hb; replace HO234 := rb_ HO234 hb; replace HO237 := rb_ HO237 hb; replace BK221 := bb_ BK221 hb; replace BK222 := bb_ BK222 hb; replace BK229 := bb_ BK229 hb; replace BK231 := bb_ BK231 hb; replace HB := Aside0.mk (below_step (hw_ HB GE221 GE222 GE229 GE231) hb); (try clear hb); (try clear hb2); (try clear hk); (try clear hi)))
            go_roundg kj16
            case measure => have := HK1.out; have := HJ16.out; omega
            case rel => exact ⟨(wrap64 (x6_1 + 1)), (x230000_1), (ji25), (x230002_1), (u230000), rs_, (by first | exact H' | (simp only [hji25]; exact H')), ⟨by have := HK1.out; have := HJ16.out; omega⟩, ⟨rr_ HO_230000⟩, ⟨bk_ BK221⟩, ⟨bk_ BK222⟩, ⟨bk_ BK229⟩, ⟨hz_ HB⟩⟩
          ·rw [if_neg c38] at H
           have c38b0 : (((rd_T48 l1 x6_1).f3.f0) == 3) = false := beq_eq_false_iff_ne.mpr c38
           have c38b1 : (((rd_T48 l1 x6_1).f3.f0) != 3) = true := bne_iff_ne.mpr c38
           (first | rw [c38b0] | (simp only [i64_w, i32_w]; rw [c38b0]) | skip)
           by_cases c58 : ((rd_T48 l1 x6_1).f3.f0) = 5
           ·rw [if_pos c58] at H
            have c58b0 : (((rd_T48 l1 x6_1).f3.f0) == 5) = true := beq_iff_eq.mpr c58
            have c58b1 : (((rd_T48 l1 x6_1).f3.f0) != 5) = false := bne_eq_false_iff_eq.mpr c58
            clear c58
            replace H := Option.bind_eq_some_iff.mp H
            obtain ⟨t239, A590, H⟩ := H
            have A59 := Aside0.mk A590
            clear A590
            replace H := Option.bind_eq_some_iff.mp H
            obtain ⟨t242, A600, H⟩ := H
            have A60 := Aside0.mk A600
            clear A600
            by_cases c61 : t242 = true
            ·subst c61
             rw [if_pos rfl] at H
             have H' := Aside0.mk H
             clear H
             go_wp2_with (first | ((with_reducible refine gate_callee (f := 19) rfl ?_); refine goesL_ (some 59) rfl rfl Try.func19 (by kernel_rfl) rfl #[.slice (some ad230) l1.length c1, .int .i64 x6_1] rfl ar_ ?_; (with_reducible refine (spec_l9Kept.calls kj16 _ _ l1 x6_1 t239 _ ?side1 ?side2 A59.out).mono ?_); (case side1 => repeat (first | exact (Kd.C_below HR1.out HB.out) | (with_reducible refine Kd.C_alloc ?_ _) | (with_reducible refine Kd.C_drewN ?_ _) | (with_reducible refine Kd.C_drew ?_))); (case side2 => exact HC1.out); rintro e w62 ⟨v240, rfl, ho0, hb⟩; refine ⟨_, rfl, ?_⟩; replace HO_230000 := rb_ HO_230000 hb; have HO241 := Aside0.mk (Kd.R_lower (Kd.R_new' ho0 (Kd.R_lt (rr_ HO234))) (below_size (hw_ HB GE221 GE222 GE229 GE231))); replace HO234 := Aside0.mk (Kd.R_elder' (rr_ HO234) (Kd.R_base ho0) hb); replace BK221 := bb_ BK221 hb; replace BK222 := bb_ BK222 hb; replace BK229 := bb_ BK229 hb; replace BK231 := bb_ BK231 hb; replace HB := Aside0.mk (below_step (hw_ HB GE221 GE222 GE229 GE231) hb); (try clear hb); (try clear hb2); (try clear hk); (try clear hi); (try clear ho0); have hnb63 := NB231_221.out; have hnc63 := NB221_231.out; have hnb64 := NB231_222.out; have hnc64 := NB222_231.out; have hnb65 := NB231_229.out; have hnc65 := NB229_231.out; obtain ⟨hcz66_0, hcz66_1, hcz66_2, hcz66_3, hcz66_4, hcz66_5, hfz66_0, hfz66_1, hfz66_2, hfz66_3, hfz66_4, hfz66_5⟩ := bc6_ BK231; obtain ⟨Ao67, co67, eo67⟩ := Kd.R_slice HO241.out; subst eo67) | ((with_reducible refine gate_callee (f := 18) rfl ?_); refine goesL_ (some 62) rfl rfl Try.func18 (by kernel_rfl) rfl #[.agg #[.int .i64 ((rd_T48 l1 x6_1).f3.f0), .int .i64 ((rd_T48 l1 x6_1).f3.f1), .string ((rd_T48 l1 x6_1).f3.f2), .string ((rd_T48 l1 x6_1).f3.f3), .int .i64 ((rd_T48 l1 x6_1).f3.f4), .int .i64 ((rd_T48 l1 x6_1).f3.f5)], .slice Ao67 t239.length co67] rfl ar_ ?_; (with_reducible refine (spec_l9Fits.calls kj16 ((rd_T48 l1 x6_1).f3.f0) ((rd_T48 l1 x6_1).f3.f1) ((rd_T48 l1 x6_1).f3.f2) ((rd_T48 l1 x6_1).f3.f3) ((rd_T48 l1 x6_1).f3.f4) ((rd_T48 l1 x6_1).f3.f5) _ _ t239 true _ ?side1 ?side2 A60.out).mono ?_); (case side1 => repeat (first | exact (Kd.R_reads' HO241.out).2.2 | (with_reducible refine Kd.C_alloc ?_ _) | (with_reducible refine Kd.C_drewN ?_ _) | (with_reducible refine Kd.C_drew ?_))); (case side2 => exact (Kd.R_reads' HO241.out).2.1); rintro e w68 ⟨rfl, hb⟩; refine ⟨_, rfl, ?_⟩; replace HO_230000 := rb_ HO_230000 hb; replace HO234 := rb_ HO234 hb; replace HO241 := rb_ HO241 hb; replace BK221 := bb_ BK221 hb; replace BK222 := bb_ BK222 hb; replace BK229 := bb_ BK229 hb; replace BK231 := bb_ BK231 hb; replace HB := Aside0.mk (below_step (hw_ HB GE221 GE222 GE229 GE231) hb); (try clear hb); (try clear hb2); (try clear hk); (try clear hi)))
             go_meet
             case rel => exact ⟨_, (t239), (x230002_1), (by first | exact H' | (simp only [hji25]; exact H')), ⟨by have := HK1.out; have := HJ16.out; first | exact Nat.le_refl _ | exact Nat.le_of_succ_le this | omega⟩, ⟨by (with_reducible repeat (first | apply Kd.R_alloc | apply Kd.R_drewN | apply Kd.R_drew)); exact Kd.R_mono HO241.out (fun _ hk => trivial)⟩, ⟨rr_ HO_230000⟩, ⟨bk_ BK221⟩, ⟨bk_ BK222⟩, ⟨bk_ BK229⟩, ⟨bk_ BK231⟩, ⟨hz_ HB⟩⟩
            ·replace c61 := Bool.eq_false_iff.mpr c61
             subst c61
             rw [if_neg ff_] at H
             have H' := Aside0.mk H
             clear H
             go_wp2_with (first | ((with_reducible refine gate_callee (f := 19) rfl ?_); refine goesL_ (some 59) rfl rfl Try.func19 (by kernel_rfl) rfl #[.slice (some ad230) l1.length c1, .int .i64 x6_1] rfl ar_ ?_; (with_reducible refine (spec_l9Kept.calls kj16 _ _ l1 x6_1 t239 _ ?side1 ?side2 A59.out).mono ?_); (case side1 => repeat (first | exact (Kd.C_below HR1.out HB.out) | (with_reducible refine Kd.C_alloc ?_ _) | (with_reducible refine Kd.C_drewN ?_ _) | (with_reducible refine Kd.C_drew ?_))); (case side2 => exact HC1.out); rintro e w69 ⟨v240, rfl, ho0, hb⟩; refine ⟨_, rfl, ?_⟩; replace HO_230000 := rb_ HO_230000 hb; have HO241 := Aside0.mk (Kd.R_lower (Kd.R_new' ho0 (Kd.R_lt (rr_ HO234))) (below_size (hw_ HB GE221 GE222 GE229 GE231))); replace HO234 := Aside0.mk (Kd.R_elder' (rr_ HO234) (Kd.R_base ho0) hb); replace BK221 := bb_ BK221 hb; replace BK222 := bb_ BK222 hb; replace BK229 := bb_ BK229 hb; replace BK231 := bb_ BK231 hb; replace HB := Aside0.mk (below_step (hw_ HB GE221 GE222 GE229 GE231) hb); (try clear hb); (try clear hb2); (try clear hk); (try clear hi); (try clear ho0); have hnb70 := NB231_221.out; have hnc70 := NB221_231.out; have hnb71 := NB231_222.out; have hnc71 := NB222_231.out; have hnb72 := NB231_229.out; have hnc72 := NB229_231.out; obtain ⟨hcz73_0, hcz73_1, hcz73_2, hcz73_3, hcz73_4, hcz73_5, hfz73_0, hfz73_1, hfz73_2, hfz73_3, hfz73_4, hfz73_5⟩ := bc6_ BK231; obtain ⟨Ao74, co74, eo74⟩ := Kd.R_slice HO241.out; subst eo74) | ((with_reducible refine gate_callee (f := 18) rfl ?_); refine goesL_ (some 62) rfl rfl Try.func18 (by kernel_rfl) rfl #[.agg #[.int .i64 ((rd_T48 l1 x6_1).f3.f0), .int .i64 ((rd_T48 l1 x6_1).f3.f1), .string ((rd_T48 l1 x6_1).f3.f2), .string ((rd_T48 l1 x6_1).f3.f3), .int .i64 ((rd_T48 l1 x6_1).f3.f4), .int .i64 ((rd_T48 l1 x6_1).f3.f5)], .slice Ao74 t239.length co74] rfl ar_ ?_; (with_reducible refine (spec_l9Fits.calls kj16 ((rd_T48 l1 x6_1).f3.f0) ((rd_T48 l1 x6_1).f3.f1) ((rd_T48 l1 x6_1).f3.f2) ((rd_T48 l1 x6_1).f3.f3) ((rd_T48 l1 x6_1).f3.f4) ((rd_T48 l1 x6_1).f3.f5) _ _ t239 false _ ?side1 ?side2 A60.out).mono ?_); (case side1 => repeat (first | exact (Kd.R_reads' HO241.out).2.2 | (with_reducible refine Kd.C_alloc ?_ _) | (with_reducible refine Kd.C_drewN ?_ _) | (with_reducible refine Kd.C_drew ?_))); (case side2 => exact (Kd.R_reads' HO241.out).2.1); rintro e w75 ⟨rfl, hb⟩; refine ⟨_, rfl, ?_⟩; replace HO_230000 := rb_ HO_230000 hb; replace HO234 := rb_ HO234 hb; replace HO241 := rb_ HO241 hb; replace BK221 := bb_ BK221 hb; replace BK222 := bb_ BK222 hb; replace BK229 := bb_ BK229 hb; replace BK231 := bb_ BK231 hb; replace HB := Aside0.mk (below_step (hw_ HB GE221 GE222 GE229 GE231) hb); (try clear hb); (try clear hb2); (try clear hk); (try clear hi); have hnb76 := NB229_221.out; have hnc76 := NB221_229.out; have hnb77 := NB229_222.out; have hnc77 := NB222_229.out; obtain ⟨hcz78_0, hcz78_1, hcz78_2, hfz78_0, hfz78_1, hfz78_2⟩ := bc3_ BK229))
             go_roundg kj16
             case measure => have := HK1.out; have := HJ16.out; omega
             case rel => exact ⟨(wrap64 (x6_1 + 1)), (x230000_1), (ji25), (1), (u230000), rs_, (by first | exact H' | (simp only [hji25]; exact H')), ⟨by have := HK1.out; have := HJ16.out; omega⟩, ⟨by (with_reducible repeat (first | apply Kd.R_alloc | apply Kd.R_drewN | apply Kd.R_drew)); exact Kd.R_mono (Kd.R_far (p := ⟨gb229, 2, none⟩) (Kd.R_types HO_230000.out BK229.out (by decide)) (fun _ hk => hk.2) (.int .i64 1)) (fun _ hk => trivial)⟩, ⟨uq_ BK221 fun h_ => ⟨_, ua_, ub_⟩⟩, ⟨uq_ BK222 fun h_ => ⟨_, ua_, ub_⟩⟩, ⟨uq_ BK229 fun h_ => ⟨_, ua_, ub_⟩⟩, ⟨hz_ HB⟩⟩
           ·rw [if_neg c58] at H
            have c58b0 : (((rd_T48 l1 x6_1).f3.f0) == 5) = false := beq_eq_false_iff_ne.mpr c58
            have c58b1 : (((rd_T48 l1 x6_1).f3.f0) != 5) = true := bne_iff_ne.mpr c58
            have H' := Aside0.mk H
            clear H
            go_wp2
            go_roundg kj16
            case measure => have := HK1.out; have := HJ16.out; omega
            case rel => exact ⟨(wrap64 (x6_1 + 1)), (x230000_1), (ji25), (x230002_1), (u230000), rs_, (by first | exact H' | (simp only [hji25]; exact H')), ⟨by have := HK1.out; have := HJ16.out; omega⟩, ⟨rr_ HO_230000⟩, ⟨bk_ BK221⟩, ⟨bk_ BK222⟩, ⟨bk_ BK229⟩, ⟨hz_ HB⟩⟩
         case rest =>
          clear HC26
          (try clear c1);(try clear c3);(try clear c18);(try clear c18b0);(try clear c22);(try clear c23);(try clear c23b0);(try clear c24);(try clear c24b0);(try clear c38);(try clear c38b0);(try clear c38b1);(try clear c41);(try clear c58);(try clear c58b0);(try clear c58b1);(try clear c61);(try clear hcz21_0 hcz21_1 hcz21_2 hfz21_0 hfz21_1 hfz21_2);(try clear hcz31_0 hcz31_1 hcz31_2 hcz31_3 hcz31_4 hcz31_5 hfz31_0 hfz31_1 hfz31_2 hfz31_3 hfz31_4 hfz31_5);(try clear hcz34_0 hcz34_1 hcz34_2 hfz34_0 hfz34_1 hfz34_2);(try clear hcz37_0 hcz37_1 hcz37_2 hcz37_3 hcz37_4 hcz37_5 hfz37_0 hfz37_1 hfz37_2 hfz37_3 hfz37_4 hfz37_5);(try clear hcz45_0 hcz45_1 hcz45_2 hcz45_3 hcz45_4 hcz45_5 hfz45_0 hfz45_1 hfz45_2 hfz45_3 hfz45_4 hfz45_5);(try clear hcz47_0 hcz47_1 hcz47_2 hcz47_3 hcz47_4 hcz47_5 hfz47_0 hfz47_1 hfz47_2 hfz47_3 hfz47_4 hfz47_5);(try clear hcz53_0 hcz53_1 hcz53_2 hcz53_3 hcz53_4 hcz53_5 hfz53_0 hfz53_1 hfz53_2 hfz53_3 hfz53_4 hfz53_5);(try clear hcz55_0 hcz55_1 hcz55_2 hcz55_3 hcz55_4 hcz55_5 hfz55_0 hfz55_1 hfz55_2 hfz55_3 hfz55_4 hfz55_5);(try clear hcz66_0 hcz66_1 hcz66_2 hcz66_3 hcz66_4 hcz66_5 hfz66_0 hfz66_1 hfz66_2 hfz66_3 hfz66_4 hfz66_5);(try clear hcz73_0 hcz73_1 hcz73_2 hcz73_3 hcz73_4 hcz73_5 hfz73_0 hfz73_1 hfz73_2 hfz73_3 hfz73_4 hfz73_5);(try clear hcz78_0 hcz78_1 hcz78_2 hfz78_0 hfz78_1 hfz78_2);(try clear hx230_0);(try clear hx230_1);(try clear hx230_2);(try clear hx230_3);(try clear hx230_4);(try clear hx230_5);(try clear hx230_6);(try clear hx230_7);(try clear hx230_8);(try clear p230);(try clear q230)
          obtain ⟨kq, x8_25, x230002_25, HA, HJ25, HO_8, HO_230000, BK221, BK222, BK229, BK231, HB⟩ := hcut
          cases kq with
          | zero => exact absurd HA.out (by simp [spec_Regroup.j2])
          | succ kj25 =>
           have H := HA.out
           clear HA
           simp only [spec_Regroup.j2] at H
           have H' := Aside0.mk H
           clear H
           go_wp2
           go_loopg [9] kj25 (fun kq v9 w' => ∃ (x9_4 : Int) (x230000_4 : List (S71)) (u230000 : Value), v9 = .int .i64 x9_4 ∧ Aside0 (spec_Regroup.l1 kq l1 x6_1 x8_25 x9_4 x230000_4 ji25 x230002_25 = some (r1, r2, r3)) ∧ Aside0 (kq ≤ kj25) ∧ Aside0 (Kd.R k48 48 w' w.heap.size (fun _ => True) u8 x8_25) ∧ Aside0 (Kd.R k71 71 w' w.heap.size (fun _ => True) u230000 x230000_4) ∧ Aside0 (w'.heap[gb221]? = some (.cells #[(.slice A0_0 l0_0.length c0_0), .int .i64 a0_1, .int .i64 a0_2] 30 (0, 0))) ∧ Aside0 (w'.heap[gb222]? = some (.cells #[(.slice none 0 0), .int .i64 0, .int .i64 0] 30 (0, 0))) ∧ Aside0 (w'.heap[gb229]? = some (.cells #[u230000, .int .i64 ji25, .int .i64 x230002_25] 30 (0, 0))) ∧ Aside0 (w'.heap[gb231]? = some (.cells #[.int .i64 ((rd_T48 l1 x6_1).f3.f0), .int .i64 ((rd_T48 l1 x6_1).f3.f1), .string ((rd_T48 l1 x6_1).f3.f2), .string ((rd_T48 l1 x6_1).f3.f3), .int .i64 ((rd_T48 l1 x6_1).f3.f4), .int .i64 ((rd_T48 l1 x6_1).f3.f5)] 46 (0, 0))) ∧ Aside0 (Below w.heap.size w w'))
           case atStart => exact ⟨(0), (x230000_1), (u230000), rs_, H', ⟨Nat.le_refl _⟩, ⟨rr_ HO_8⟩, ⟨rr_ HO_230000⟩, ⟨bk_ BK221⟩, ⟨bk_ BK222⟩, ⟨bk_ BK229⟩, ⟨bk_ BK231⟩, ⟨hz_ HB⟩⟩
           case round =>
            clear H'
            (try clear c1);(try clear c3);(try clear c18);(try clear c18b0);(try clear c22);(try clear c23);(try clear c23b0);(try clear c24);(try clear c24b0);(try clear c38);(try clear c38b0);(try clear c38b1);(try clear c41);(try clear c58);(try clear c58b0);(try clear c58b1);(try clear c61);(try clear hcz21_0 hcz21_1 hcz21_2 hfz21_0 hfz21_1 hfz21_2);(try clear hcz31_0 hcz31_1 hcz31_2 hcz31_3 hcz31_4 hcz31_5 hfz31_0 hfz31_1 hfz31_2 hfz31_3 hfz31_4 hfz31_5);(try clear hcz34_0 hcz34_1 hcz34_2 hfz34_0 hfz34_1 hfz34_2);(try clear hcz37_0 hcz37_1 hcz37_2 hcz37_3 hcz37_4 hcz37_5 hfz37_0 hfz37_1 hfz37_2 hfz37_3 hfz37_4 hfz37_5);(try clear hcz45_0 hcz45_1 hcz45_2 hcz45_3 hcz45_4 hcz45_5 hfz45_0 hfz45_1 hfz45_2 hfz45_3 hfz45_4 hfz45_5);(try clear hcz47_0 hcz47_1 hcz47_2 hcz47_3 hcz47_4 hcz47_5 hfz47_0 hfz47_1 hfz47_2 hfz47_3 hfz47_4 hfz47_5);(try clear hcz53_0 hcz53_1 hcz53_2 hcz53_3 hcz53_4 hcz53_5 hfz53_0 hfz53_1 hfz53_2 hfz53_3 hfz53_4 hfz53_5);(try clear hcz55_0 hcz55_1 hcz55_2 hcz55_3 hcz55_4 hcz55_5 hfz55_0 hfz55_1 hfz55_2 hfz55_3 hfz55_4 hfz55_5);(try clear hcz66_0 hcz66_1 hcz66_2 hcz66_3 hcz66_4 hcz66_5 hfz66_0 hfz66_1 hfz66_2 hfz66_3 hfz66_4 hfz66_5);(try clear hcz73_0 hcz73_1 hcz73_2 hcz73_3 hcz73_4 hcz73_5 hfz73_0 hfz73_1 hfz73_2 hfz73_3 hfz73_4 hfz73_5);(try clear hcz78_0 hcz78_1 hcz78_2 hfz78_0 hfz78_1 hfz78_2);(try clear hx230_0);(try clear hx230_1);(try clear hx230_2);(try clear hx230_3);(try clear hx230_4);(try clear hx230_5);(try clear hx230_6);(try clear hx230_7);(try clear hx230_8);(try clear p230);(try clear q230)
            obtain ⟨x9_4, x230000_4, u230000, rfl, HA, HK4, HO_8, HO_230000, BK221, BK222, BK229, BK231, HB⟩ := hrel
            cases gk with
            | zero => exact absurd HA.out (by simp [spec_Regroup.l1])
            | succ k4 =>
             have H := HA.out
             clear HA
             simp only [spec_Regroup.l1] at H
             by_cases c79 : x9_4 < (x8_25.length : Int)
             ·rw [if_pos c79] at H
              have c79b0 : decide (x9_4 < (x8_25.length : Int)) = true := decide_eq_true c79
              clear c79
              by_cases c80 : 0 ≤ x9_4
              ·rw [if_pos c80] at H
               have c80b0 : decide (0 ≤ x9_4) = true := decide_eq_true c80
               clear c80
               replace H := Option.bind_eq_some_iff.mp H
               obtain ⟨t244, A810, H⟩ := H
               have A81 := Aside0.mk A810
               clear A810
               have H' := Aside0.mk H
               clear H
               obtain ⟨Ao82, co82, eo82⟩ := Kd.R_slice HO_8.out
               subst eo82
               try go_wp2
               replace HO_8 := rd_ HO_8
               replace HO_230000 := rd_ HO_230000
               replace BK221 := bd_ BK221
               replace BK222 := bd_ BK222
               replace BK229 := bd_ BK229
               replace BK231 := bd_ BK231
               replace HB := hd_ HB
               have p243 : 0 ≤ (x9_4 : Int) := of_decide_eq_true as_
               have q243 : x9_4 < (x8_25.length : Int) := of_decide_eq_true as_
               obtain ⟨ad243, e243, hx243_0, hx243_1, hx243_2, hx243_3, hx243_4, hx243_5, hx243_6, hx243_7, hx243_8⟩ := at_T48 (Kd.R_reads' HO_8.out).2.2 x9_4 p243 q243
               cases e243
               replace p243 := eq_true p243
               replace q243 := eq_true q243
               obtain ⟨Ao84, co84, eo84⟩ := Kd.R_slice HO_230000.out
               (first | subst eo84 | (injection eo84 with f1_ f2_ f3_; have f4_ := f1_.symm; have f5_ := f3_.symm; clear f1_ f2_ f3_; subst f4_; subst f5_))
               refine start_ (n := 9) (S := k3_ gb229 (.slice Ao84 x230000_4.length co84) (.int .i64 ji25) (.int .i64 x230002_25) (e9e_ (ad243.add ((x9_4).toNat * 9)) (.int .i64 ((rd_T48 x8_25 x9_4).f0)) (.int .i64 ((rd_T48 x8_25 x9_4).f1)) (.int .i64 ((rd_T48 x8_25 x9_4).f2)) (.int .i64 ((rd_T48 x8_25 x9_4).f3.f0)) (.int .i64 ((rd_T48 x8_25 x9_4).f3.f1)) (.string ((rd_T48 x8_25 x9_4).f3.f2)) (.string ((rd_T48 x8_25 x9_4).f3.f3)) (.int .i64 ((rd_T48 x8_25 x9_4).f3.f4)) (.int .i64 ((rd_T48 x8_25 x9_4).f3.f5)))) (ds := [8]) (on_ 0 9) (by kernel_rfl) rfl rfl (p3_ BK229 (q9e_ hx243_0 hx243_1 hx243_2 hx243_3 hx243_4 hx243_5 hx243_6 hx243_7 hx243_8)) (fun hHeld => ?_); refine with_tabW spec_Regroup.tab19 spec_Regroup.bits19 (fun HT_ HW_ => ?_)
               generalize wr.drew = w83 at HO_8 HO_230000 BK221 BK222 BK229 BK231 HB hx243_0 hx243_1 hx243_2 hx243_3 hx243_4 hx243_5 hx243_6 hx243_7 hx243_8 hHeld ⊢
               refine pv_' 0 71 (on_ 1 8) rfl rfl HT_ ?_
               refine pv_' 2 73 #[i',o',i',o',o',o',o',o',o'] rfl rfl HT_ ?_
               refine pv_' 3 74 #[i',o',i',i',o',o',o',o',o'] rfl rfl HT_ ?_
               refine pv_' 4 75 #[i',o',i',i',i',o',o',o',o'] rfl rfl HT_ ?_
               refine take_ (i := 1) (N := some 72) (v := ?_) (a' := ?_) (on_ 5 4) rfl rfl (take_ofW HT_.out HW_.out (by kernel_rfl)) (fun _ _ _ h => h) (Or.inl ⟨by rfl, ?_⟩) hHeld ?_ ?_
               rotate_left
               ·rintro w' ⟨s0, s1, s2, s3, s4, s5, s6, s7, s8, s9, s10, s11⟩
                go_simp
                with_reducible rfl
               rotate_left
               ·simp only [Act.put, la_, lz_, ls_, i64_w, i32_w]
                rfl
               refine take_ (i := 5) (N := some 76) (v := ?_) (a' := ?_) (on_ 6 3) rfl rfl (take_ofW HT_.out HW_.out (by kernel_rfl)) (fun _ _ _ h => h) (Or.inl ⟨by rfl, ?_⟩) hHeld ?_ ?_
               rotate_left
               ·rintro w' ⟨s0, s1, s2, s3, s4, s5, s6, s7, s8, s9, s10, s11⟩
                go_simp
                with_reducible rfl
               rotate_left
               ·simp only [Act.put, la_, lz_, ls_, i64_w, i32_w]
                rfl
               refine one_ (i := 6) (N := some 77) (on_ 7 2) rfl rfl (one_of HT_.out (by kernel_rfl)) (by decide) (fun K hK => ?_)
               refine goes_ Try.func20 (by kernel_rfl) rfl #[.slice Ao84 x230000_4.length co84, .agg #[.int .i64 ((rd_T48 x8_25 x9_4).f0), .int .i64 ((rd_T48 x8_25 x9_4).f1), .int .i64 ((rd_T48 x8_25 x9_4).f2), .int .i64 ((rd_T48 x8_25 x9_4).f3.f0), .int .i64 ((rd_T48 x8_25 x9_4).f3.f1), .string ((rd_T48 x8_25 x9_4).f3.f2), .string ((rd_T48 x8_25 x9_4).f3.f3), .int .i64 ((rd_T48 x8_25 x9_4).f3.f4), .int .i64 ((rd_T48 x8_25 x9_4).f3.f5)]] (by rfl) rfl rfl ar_ ?_
               with_reducible refine (spec_l9Put.calls k4 _ _ x230000_4 ((rd_T48 x8_25 x9_4).f0) ((rd_T48 x8_25 x9_4).f1) ((rd_T48 x8_25 x9_4).f2) ((rd_T48 x8_25 x9_4).f3.f0) ((rd_T48 x8_25 x9_4).f3.f1) ((rd_T48 x8_25 x9_4).f3.f2) ((rd_T48 x8_25 x9_4).f3.f3) ((rd_T48 x8_25 x9_4).f3.f4) ((rd_T48 x8_25 x9_4).f3.f5) t244 _ ?side1 ?side2 A81.out).mono ?_
               (case side1 => repeat (first | exact (Kd.R_reads' HO_230000.out).2.2 | (with_reducible refine Kd.C_alloc ?_ _) | (with_reducible refine Kd.C_drewN ?_ _) | (with_reducible refine Kd.C_drew ?_)))
               (case side2 => exact (Kd.R_reads' HO_230000.out).2.1)
               rintro e w85 ⟨v245, rfl, ho0, hb⟩
               have HS3_ := (hb.cell (World.block_lt_of_cell? _ _ (hHeld.2.2.2.1))).trans (hHeld.2.2.2.1)
               have HS4_ := (hb.cell (World.block_lt_of_cell? _ _ (hHeld.2.2.2.2.1))).trans (hHeld.2.2.2.2.1)
               have HS5_ := (hb.cell (World.block_lt_of_cell? _ _ (hHeld.2.2.2.2.2.1))).trans (hHeld.2.2.2.2.2.1)
               have HS6_ := (hb.cell (World.block_lt_of_cell? _ _ (hHeld.2.2.2.2.2.2.1))).trans (hHeld.2.2.2.2.2.2.1)
               have HS7_ := (hb.cell (World.block_lt_of_cell? _ _ (hHeld.2.2.2.2.2.2.2.1))).trans (hHeld.2.2.2.2.2.2.2.1)
               have HS8_ := (hb.cell (World.block_lt_of_cell? _ _ (hHeld.2.2.2.2.2.2.2.2.1))).trans (hHeld.2.2.2.2.2.2.2.2.1)
               have HS9_ := (hb.cell (World.block_lt_of_cell? _ _ (hHeld.2.2.2.2.2.2.2.2.2.1))).trans (hHeld.2.2.2.2.2.2.2.2.2.1)
               have HS10_ := (hb.cell (World.block_lt_of_cell? _ _ (hHeld.2.2.2.2.2.2.2.2.2.2.1))).trans (hHeld.2.2.2.2.2.2.2.2.2.2.1)
               have HS11_ := (hb.cell (World.block_lt_of_cell? _ _ (hHeld.2.2.2.2.2.2.2.2.2.2.2))).trans (hHeld.2.2.2.2.2.2.2.2.2.2.2)
               refine ⟨_, rfl, ?_⟩
               replace HO_8 := rb_ HO_8 hb
               have HO246 := Aside0.mk (Kd.R_lower (Kd.R_new' ho0 (Kd.R_lt (rr_ HO_230000))) (below_size (hw_ HB GE221 GE222 GE229 GE231)))
               replace HO_230000 := Aside0.mk (Kd.R_elder' (rr_ HO_230000) (Kd.R_base ho0) hb)
               replace BK221 := bb_ BK221 hb
               replace BK222 := bb_ BK222 hb
               replace BK229 := bb_ BK229 hb
               replace BK231 := bb_ BK231 hb
               replace HB := Aside0.mk (below_step (hw_ HB GE221 GE222 GE229 GE231) hb)
               (try clear hb)
               (try clear hb2)
               (try clear hk)
               (try clear hi)
               (try clear ho0)
               obtain ⟨Ao86, co86, eo86⟩ := Kd.R_slice HO246.out
               (first | subst eo86 | (injection eo86 with f1_ f2_ f3_; have f4_ := f1_.symm; have f5_ := f3_.symm; clear f1_ f2_ f3_; subst f4_; subst f5_))
               refine hK.out _ _ (p3_ BK229 (q9e_ HS3_ HS4_ HS5_ HS6_ HS7_ HS8_ HS9_ HS10_ HS11_)) (fun hHeld => ?_)
               clear hK K
               refine norm_ (a' := ?_) ?_ ?_
               rotate_left
               ·show Act.put _ (some 77) _ = _
                simp only [Act.put, la_, lz_, ls_, i64_w, i32_w]
                rfl
               refine pv_' 7 78 (on_ 8 1) rfl rfl HT_ ?_
               refine last_ (i := 8) (N := none) (on_ 9 0) rfl rfl (one_of HT_.out (by kernel_rfl)) (by decide) (fun K hK => ?_)
               have hs87 : w85.cell? ⟨gb229, 0, none⟩ = some (.slice Ao84 x230000_4.length co84) := (blk_cell BK229.out 0).trans rfl
               have hfs87 := blk_frozen BK229.out 0
               have hns87_0 := NB221_229.out
               have hns87_1 := NB222_229.out
               have hns87_3 := NB231_229.out
               have hms87_0 := NB229_221.out
               have hms87_1 := NB229_222.out
               have hms87_3 := NB229_231.out
               refine skip_ (w1 := ?_) (by rfl) rfl ?_ ?_
               rotate_left
               ·go_simp
                rfl
               refine hK.out _ _ ?_
               clear hK K
               refine done_ (done_of HT_.out (by kernel_rfl)) ?_
               have Nji25_ := Aside0.mk hji25
               clear hji25
               (try clear hji25w)
               try go_wp2
               have hji25 := Nji25_.out
               clear Nji25_
               (try have hji25w := (i64_w _).trans hji25)
               go_roundg k4
               case measure => have := HK1.out; have := HJ16.out; have := HJ25.out; have := HK4.out; first | exact this | exact Nat.le_of_succ_le this | exact Nat.le_refl _ | omega
               case rel => exact ⟨(wrap64 (x9_4 + 1)), (t244), (.slice Ao86 t244.length co86), rs_, (by first | exact H' | (simp only [hji25]; exact H')), ⟨by have := HK1.out; have := HJ16.out; have := HJ25.out; have := HK4.out; first | exact this | exact Nat.le_of_succ_le this | exact Nat.le_refl _ | omega⟩, ⟨by (with_reducible repeat (first | apply Kd.R_alloc | apply Kd.R_drewN | apply Kd.R_drew)); exact Kd.R_mono (Kd.R_far (p := ⟨gb229, 0, none⟩) (Kd.R_types HO_8.out BK229.out (by decide)) (fun _ hk => hk.2) (.slice Ao86 t244.length co86)) (fun _ hk => trivial)⟩, ⟨by (with_reducible repeat (first | apply Kd.R_alloc | apply Kd.R_drewN | apply Kd.R_drew)); exact Kd.R_mono (Kd.R_far (p := ⟨gb229, 0, none⟩) (Kd.R_types HO246.out BK229.out (by decide)) (fun _ hk => hk.2) (.slice Ao86 t244.length co86)) (fun _ hk => trivial)⟩, ⟨uq_ BK221 fun h_ => ⟨_, ua_, ub_⟩⟩, ⟨uq_ BK222 fun h_ => ⟨_, ua_, ub_⟩⟩, ⟨uq_ BK229 fun h_ => ⟨_, ua_, ub_⟩⟩, ⟨uq_ BK231 fun h_ => ⟨_, ua_, ub_⟩⟩, ⟨hz_ HB⟩⟩
              ·rw [if_neg c80] at H
               exact absurd H (by simp)
             ·rw [if_neg c79] at H
              have c79b0 : decide (x9_4 < (x8_25.length : Int)) = false := decide_eq_false c79
              clear c79
              by_cases c88 : (x230000_4.length : Int) > 20
              ·rw [if_pos c88] at H
               have c88b0 : decide (20 < (x230000_4.length : Int)) = true := decide_eq_true c88
               have c88b1 : decide (20 < x230000_4.length) = true := decide_eq_true (by omega)
               clear c88
               have H' := Aside0.mk H
               clear H
               obtain ⟨Ao89, co89, eo89⟩ := Kd.R_slice HO_8.out
               subst eo89
               have hnb90 := NB229_221.out
               have hnc90 := NB221_229.out
               have hnb91 := NB229_222.out
               have hnc91 := NB222_229.out
               have hnb92 := NB229_231.out
               have hnc92 := NB231_229.out
               obtain ⟨hcz93_0, hcz93_1, hcz93_2, hfz93_0, hfz93_1, hfz93_2⟩ := bc3_ BK229
               obtain ⟨Ao94, co94, eo94⟩ := Kd.R_slice HO_230000.out
               subst eo94
               go_wp2
               go_roundg k4
               case measure => have := HK1.out; have := HJ16.out; have := HJ25.out; have := HK4.out; first | exact this | exact Nat.le_of_succ_le this | exact Nat.le_refl _ | omega
               case rel => exact ⟨(wrap64 (x6_1 + 1)), (x230000_4), (ji25), (2), (.slice Ao94 x230000_4.length co94), rs_, (by first | exact H' | (simp only [hji25]; exact H')), ⟨by have := HK1.out; have := HJ16.out; have := HJ25.out; have := HK4.out; first | exact this | exact Nat.le_of_succ_le this | exact Nat.le_refl _ | omega⟩, ⟨by (with_reducible repeat (first | apply Kd.R_alloc | apply Kd.R_drewN | apply Kd.R_drew)); exact Kd.R_mono (Kd.R_far (p := ⟨gb229, 2, none⟩) (Kd.R_types HO_230000.out BK229.out (by decide)) (fun _ hk => hk.2) (.int .i64 2)) (fun _ hk => trivial)⟩, ⟨uq_ BK221 fun h_ => ⟨_, ua_, ub_⟩⟩, ⟨uq_ BK222 fun h_ => ⟨_, ua_, ub_⟩⟩, ⟨uq_ BK229 fun h_ => ⟨_, ua_, ub_⟩⟩, ⟨hz_ HB⟩⟩
              ·rw [if_neg c88] at H
               have c88b0 : decide (20 < (x230000_4.length : Int)) = false := decide_eq_false c88
               have c88b1 : decide (20 < x230000_4.length) = false := decide_eq_false (by omega)
               clear c88
               have H' := Aside0.mk H
               clear H
               obtain ⟨Ao95, co95, eo95⟩ := Kd.R_slice HO_8.out
               subst eo95
               have hnb96 := NB229_221.out
               have hnc96 := NB221_229.out
               have hnb97 := NB229_222.out
               have hnc97 := NB222_229.out
               have hnb98 := NB229_231.out
               have hnc98 := NB231_229.out
               obtain ⟨hcz99_0, hcz99_1, hcz99_2, hfz99_0, hfz99_1, hfz99_2⟩ := bc3_ BK229
               obtain ⟨Ao100, co100, eo100⟩ := Kd.R_slice HO_230000.out
               subst eo100
               go_wp2
               go_roundg k4
               case measure => have := HK1.out; have := HJ16.out; have := HJ25.out; have := HK4.out; first | exact this | exact Nat.le_of_succ_le this | exact Nat.le_refl _ | omega
               case rel => exact ⟨(wrap64 (x6_1 + 1)), (x230000_4), (ji25), (x230002_25), (.slice Ao100 x230000_4.length co100), rs_, (by first | exact H' | (simp only [hji25]; exact H')), ⟨by have := HK1.out; have := HJ16.out; have := HJ25.out; have := HK4.out; first | exact this | exact Nat.le_of_succ_le this | exact Nat.le_refl _ | omega⟩, ⟨rr_ HO_230000⟩, ⟨bk_ BK221⟩, ⟨bk_ BK222⟩, ⟨bk_ BK229⟩, ⟨hz_ HB⟩⟩
        ·rw [if_neg c24] at H
         exact absurd H (by simp)
       ·rw [if_neg c23] at H
        exact absurd H (by simp)
      ·replace c22 := Bool.eq_false_iff.mpr c22
       subst c22
       rw [if_neg ff_] at H
       by_cases c101 : x230002_1 = 0
       ·rw [if_pos c101] at H
        have c101b0 : (x230002_1 == 0) = true := beq_iff_eq.mpr c101
        have c101b1 : (x230002_1 != 0) = false := bne_eq_false_iff_eq.mpr c101
        clear c101
        replace H := Option.bind_eq_some_iff.mp H
        obtain ⟨t247, A1020, H⟩ := H
        have A102 := Aside0.mk A1020
        clear A1020
        by_cases c103 : (t247.length : Int) > 0
        ·rw [if_pos c103] at H
         have c103b0 : decide (0 < (t247.length : Int)) = true := decide_eq_true c103
         have c103b1 : decide (0 < t247.length) = true := decide_eq_true (by omega)
         clear c103
         simp only [Option.some.injEq, Prod.mk.injEq] at H
         obtain ⟨rfl, rfl, rfl⟩ := H
         have hnb104 := NB229_221.out
         have hnc104 := NB221_229.out
         have hnb105 := NB229_222.out
         have hnc105 := NB222_229.out
         obtain ⟨hcz106_0, hcz106_1, hcz106_2, hfz106_0, hfz106_1, hfz106_2⟩ := bc3_ BK229
         go_wp2_with (first | (go_at_call 19; (with_reducible refine (spec_l9Kept.calls kj16 _ _ l1 (l1.length : Int) t247 _ ?side1 ?side2 A102.out).mono ?_); (case side1 => repeat (first | exact (Kd.C_below HR1.out HB.out) | (with_reducible refine Kd.C_alloc ?_ _) | (with_reducible refine Kd.C_drewN ?_ _) | (with_reducible refine Kd.C_drew ?_))); (case side2 => exact HC1.out); rintro e w107 ⟨v248, rfl, ho0, hb⟩; replace HO_230000 := rb_ HO_230000 hb; have HO249 := Aside0.mk (Kd.R_lower ho0 (below_size (hv_ HB GE221 GE222 GE229))); replace BK221 := bb_ BK221 hb; replace BK222 := bb_ BK222 hb; replace BK229 := bb_ BK229 hb; replace HB := Aside0.mk (below_step (hv_ HB GE221 GE222 GE229) hb); (try clear hb); (try clear hb2); (try clear hk); (try clear hi); (try clear ho0); obtain ⟨Ao108, co108, eo108⟩ := Kd.R_slice HO249.out; subst eo108; obtain ⟨hcz109_0, hcz109_1, hcz109_2, hfz109_0, hfz109_1, hfz109_2⟩ := bc3_ BK229; obtain ⟨Ao110, co110, eo110⟩ := Kd.R_slice HO_230000.out; subst eo110; have hnb111 := NB222_221.out; have hnc111 := NB221_222.out; obtain ⟨hcz112_0, hcz112_1, hcz112_2, hfz112_0, hfz112_1, hfz112_2⟩ := bc3_ BK222))
         refine bodyPost_ret (results_cell_row rfl _ _ gb222 30 #[.slice Ao110 x230000_1.length co110, .int .i64 x230001_1, .int .i64 1] (0, 0) _ rfl (uq_ BK222 fun h_ => ⟨_, ua_, ub_⟩) Try.underlying30 rfl (by kernel_rfl)) rfl ?_
         exact ⟨_, by first | rfl | (simp [errW_none, errW_some] <;> rfl) | (simp [*, errW_none, errW_some] <;> rfl), by (with_reducible repeat (first | apply Kd.R_alloc | apply Kd.R_drewN | apply Kd.R_drew)); exact Kd.R_mono (Kd.R_far (p := ⟨gb222, 2, none⟩) (Kd.R_far (p := ⟨gb222, 1, none⟩) (Kd.R_far (p := ⟨gb222, 0, none⟩) (Kd.R_far (p := ⟨gb229, 2, none⟩) (Kd.R_types (Kd.R_types HO_230000.out BK229.out (by decide)) BK222.out (by decide)) (fun _ hk => hk.1.2) (.int .i64 1)) (fun _ hk => hk.2) (.slice Ao110 x230000_1.length co110)) (fun _ hk => hk.2) (.int .i64 x230001_1)) (fun _ hk => hk.2) (.int .i64 1)) (fun _ hk => trivial), hz_ HB⟩
        ·rw [if_neg c103] at H
         have c103b0 : decide (0 < (t247.length : Int)) = false := decide_eq_false c103
         have c103b1 : decide (0 < t247.length) = false := decide_eq_false (by omega)
         clear c103
         simp only [Option.some.injEq, Prod.mk.injEq] at H
         obtain ⟨rfl, rfl, rfl⟩ := H
         have hnb113 := NB229_221.out
         have hnc113 := NB221_229.out
         have hnb114 := NB229_222.out
         have hnc114 := NB222_229.out
         obtain ⟨hcz115_0, hcz115_1, hcz115_2, hfz115_0, hfz115_1, hfz115_2⟩ := bc3_ BK229
         go_wp2_with (first | (go_at_call 19; (with_reducible refine (spec_l9Kept.calls kj16 _ _ l1 (l1.length : Int) t247 _ ?side1 ?side2 A102.out).mono ?_); (case side1 => repeat (first | exact (Kd.C_below HR1.out HB.out) | (with_reducible refine Kd.C_alloc ?_ _) | (with_reducible refine Kd.C_drewN ?_ _) | (with_reducible refine Kd.C_drew ?_))); (case side2 => exact HC1.out); rintro e w116 ⟨v248, rfl, ho0, hb⟩; replace HO_230000 := rb_ HO_230000 hb; have HO249 := Aside0.mk (Kd.R_lower ho0 (below_size (hv_ HB GE221 GE222 GE229))); replace BK221 := bb_ BK221 hb; replace BK222 := bb_ BK222 hb; replace BK229 := bb_ BK229 hb; replace HB := Aside0.mk (below_step (hv_ HB GE221 GE222 GE229) hb); (try clear hb); (try clear hb2); (try clear hk); (try clear hi); (try clear ho0); obtain ⟨Ao117, co117, eo117⟩ := Kd.R_slice HO249.out; subst eo117; obtain ⟨hcz118_0, hcz118_1, hcz118_2, hfz118_0, hfz118_1, hfz118_2⟩ := bc3_ BK229; obtain ⟨Ao119, co119, eo119⟩ := Kd.R_slice HO_230000.out; subst eo119; have hnb120 := NB222_221.out; have hnc120 := NB221_222.out; obtain ⟨hcz121_0, hcz121_1, hcz121_2, hfz121_0, hfz121_1, hfz121_2⟩ := bc3_ BK222))
         refine bodyPost_ret (results_cell_row rfl _ _ gb222 30 #[.slice Ao119 x230000_1.length co119, .int .i64 x230001_1, .int .i64 x230002_1] (0, 0) _ rfl (uq_ BK222 fun h_ => ⟨_, ua_, ub_⟩) Try.underlying30 rfl (by kernel_rfl)) rfl ?_
         exact ⟨_, by first | rfl | (simp [errW_none, errW_some] <;> rfl) | (simp [*, errW_none, errW_some] <;> rfl), by (with_reducible repeat (first | apply Kd.R_alloc | apply Kd.R_drewN | apply Kd.R_drew)); exact Kd.R_mono (Kd.R_far (p := ⟨gb222, 2, none⟩) (Kd.R_far (p := ⟨gb222, 1, none⟩) (Kd.R_far (p := ⟨gb222, 0, none⟩) (Kd.R_types HO_230000.out BK222.out (by decide)) (fun _ hk => hk.2) (.slice Ao119 x230000_1.length co119)) (fun _ hk => hk.2) (.int .i64 x230001_1)) (fun _ hk => hk.2) (.int .i64 x230002_1)) (fun _ hk => trivial), hz_ HB⟩
       ·rw [if_neg c101] at H
        have c101b0 : (x230002_1 == 0) = false := beq_eq_false_iff_ne.mpr c101
        have c101b1 : (x230002_1 != 0) = true := bne_iff_ne.mpr c101
        simp only [Option.some.injEq, Prod.mk.injEq] at H
        obtain ⟨rfl, rfl, rfl⟩ := H
        have hnb122 := NB229_221.out
        have hnc122 := NB221_229.out
        have hnb123 := NB229_222.out
        have hnc123 := NB222_229.out
        obtain ⟨hcz124_0, hcz124_1, hcz124_2, hfz124_0, hfz124_1, hfz124_2⟩ := bc3_ BK229
        obtain ⟨Ao125, co125, eo125⟩ := Kd.R_slice HO_230000.out
        subst eo125
        have hnb126 := NB222_221.out
        have hnc126 := NB221_222.out
        obtain ⟨hcz127_0, hcz127_1, hcz127_2, hfz127_0, hfz127_1, hfz127_2⟩ := bc3_ BK222
        go_wp2
        refine bodyPost_ret (results_cell_row rfl _ _ gb222 30 #[.slice Ao125 x230000_1.length co125, .int .i64 x230001_1, .int .i64 x230002_1] (0, 0) _ rfl (uq_ BK222 fun h_ => ⟨_, ua_, ub_⟩) Try.underlying30 rfl (by kernel_rfl)) rfl ?_
        exact ⟨_, by first | rfl | (simp [errW_none, errW_some] <;> rfl) | (simp [*, errW_none, errW_some] <;> rfl), by (with_reducible repeat (first | apply Kd.R_alloc | apply Kd.R_drewN | apply Kd.R_drew)); exact Kd.R_mono (Kd.R_far (p := ⟨gb222, 2, none⟩) (Kd.R_far (p := ⟨gb222, 1, none⟩) (Kd.R_far (p := ⟨gb222, 0, none⟩) (Kd.R_types HO_230000.out BK222.out (by decide)) (fun _ hk => hk.2) (.slice Ao125 x230000_1.length co125)) (fun _ hk => hk.2) (.int .i64 x230001_1)) (fun _ hk => hk.2) (.int .i64 x230002_1)) (fun _ hk => trivial), hz_ HB⟩
 ·rw [if_neg c3] at H
  exact absurd H (by simp)

end Go.Proofs.Ytcnmdjibogojnaa.PFnExactRegroup
